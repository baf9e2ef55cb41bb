/- What the last of these texts proves is told there. Joined by a program of this session out of its texts. -/
import Derived.Test.YtecgkcgfeghhgaaGreatDoorQBagMemory2
import Derived.Below
import Derived.Deep.Draws
import Derived.Deep.AppendLies
import Derived.Maps.AppendAt
import Derived.OwnWalk
import Derived.Laws.BytesArg
import Derived.Laws.MakeOwn
import Derived.Laws.OwnMore
import Derived.Deep.OwnRows
import Derived.Tactics
import Derived.Lib.ConvBytes
import Derived.Laws.Slices
import Derived.WalkKit
import Derived.KernelRfl
import Derived.RowKit3
import Derived.Deep.LoopGhost
import Derived.Deep.QuietTactic
import Derived.BigQuiet
import Derived.WideLaws
import Derived.Deep.DeepCutAuto
import Derived.Deep.CutBlock
import Derived.Deep.RegionHeld3
import Derived.Laws.Rows
import Derived.Lib.AppendStr
import Derived.ArgAppend
import Derived.Laws.IdiomCopy
import Derived.RowKit
import Derived.OrdersHeld
import Derived.Laws.BitsLemmas
import Derived.Laws.StructEq
import Derived.Shelf.Strings.BuilderK
import Derived.Shelf.Spec.SlicesGrow
import Derived.Shelf.SlGeneric
import Derived.Ground.Names8Prog
import Derived.Shelf.SlSortCmp.NoneTotal
import Derived.Ground.SlsfProg
import Derived.Ground.NamesProg
import Derived.Shelf.Spec.BitsCarry
import Derived.Ground.Names7Prog
import Derived.Shelf.Strings.Builder1
import Derived.Shelf.Small.Bits
import Derived.Shelf.Small.Strs
import Derived.Shelf.Strings.BuilderF
import Derived.Shelf.Strconv.Itoa0
import Derived.Shelf.Strconv.Itoa1
import Derived.Shelf.LaysM
import Derived.Shelf.Strconv.Itoa2
import Derived.Shelf.Strconv.Itoa3
import Derived.Shelf.Strconv.Itoa4
import Derived.Shelf.Strings.BuilderCap
import Derived.Maps.OwnOps
import Derived.ChangeArms
import Derived.Deep.Slices
import Derived.Deep.Strs
import Derived.Lib.ItoaLen
import Derived.BigRegion
import Derived.RegionTactic
import Derived.Sort.Statements
import Derived.WalkSpells
import Derived.WalkMore
import Derived.Lib.ItoaNum
import Derived.Lib.BitFns
import Derived.Handy
set_option maxHeartbeats 8000000
set_option maxRecDepth 100000
namespace Go.Proofs.YtecgkcgfeghhgaaGreatDoor.PAll
open Go.RowKit Go.Proofs.YtecgkcgfeghhgaaGreatDoorW.PrintWords Go.Proofs.YtecgkcgfeghhgaaGreatDoorW.PrintLast Go.Proofs.YtecgkcgfeghhgaaGreatDoorW.PrintMore
attribute [local go_sem] max2_int min2_int max_two min_two max_three min_three max_four min_four
set_option linter.unusedVariables false
set_option linter.unusedSimpArgs false
mutual
def bag_allowed.j0 : Nat → Int → List (S36) → Bool → Option (Bool)
 | 0, _, _, _ => none
 | k + 1, x0, x2, x19 => if x19 = true then (some false) else (bag_allowed.l0 k x0 0 x2 (x2.length : Int) 0)
def bag_allowed.l0 : Nat → Int → Int → List (S36) → Int → Int → Option (Bool)
 | 0, _, _, _, _, _ => none
 | k + 1, x0, x7, x20, x21, x22 => if x22 < x21 then (if 0 ≤ x22 then (if x22 < (x20.length : Int) then ((value_Valid.f ((rd_T36 x20 x22).f0) ((rd_T36 x20 x22).f1) ((rd_T36 x20 x22).f2)).bind fun t114 => (if t114 = true then (if x7 = 0 then (bag_allowed.j2 k x0 x7 x20 x21 x22 false ((rd_T36 x20 x22).f0) ((rd_T36 x20 x22).f1) ((rd_T36 x20 x22).f2)) else (if ((rd_T36 x20 x22).f0) = 0 then (bag_allowed.j2 k x0 x7 x20 x21 x22 false ((rd_T36 x20 x22).f0) ((rd_T36 x20 x22).f1) ((rd_T36 x20 x22).f2)) else (bag_allowed.j2 k x0 x7 x20 x21 x22 (((rd_T36 x20 x22).f0) != x7) ((rd_T36 x20 x22).f0) ((rd_T36 x20 x22).f1) ((rd_T36 x20 x22).f2)))) else (bag_allowed.j2 k x0 x7 x20 x21 x22 true ((rd_T36 x20 x22).f0) ((rd_T36 x20 x22).f1) ((rd_T36 x20 x22).f2)))) else (none)) else (none)) else (if x7 = 0 then (some true) else (if x7 = 1 then (some true) else (if x0 = 2 then (some false) else (some (x0 != 5)))))
def bag_allowed.j2 : Nat → Int → Int → List (S36) → Int → Int → Bool → Int → Int → ByteArray → Option (Bool)
 | 0, _, _, _, _, _, _, _, _, _ => none
 | k + 1, x0, x7, x20, x21, x22, x43, x114000, x114001, x114002 => if x43 = true then (some false) else (if x114000 = 0 then (bag_allowed.l0 k x0 x7 x20 x21 (wrap64 (x22 + 1))) else (bag_allowed.l0 k x0 x114000 x20 x21 (wrap64 (x22 + 1))))
end
def bag_allowed.f (k : Nat) (a0 : Int) (a1 : Bool) (l2 : List (S36)) : Option (Bool) := if a0 > 5 then (bag_allowed.j0 k a0 l2 true) else (if a0 = 0 then (bag_allowed.j0 k a0 l2 a1) else (bag_allowed.j0 k a0 l2 false))
theorem bag_allowed.calls (k : Nat) (a0 : Int) (a1 : Bool) (A2 : Option Addr) (c2 : Nat) (l2 : List (S36)) (r : Bool) (w : World) (hr2 : Kd.C k36 w A2 l2.length l2) (hc2 : l2.length ≤ c2) (h : bag_allowed.f k a0 a1 l2 = some r) :
 Calls Tryz.prog 56 #[.int .u8 a0, .bool a1, .slice A2 l2.length c2] w fun e w' => e = .returned (.bool r) ∧ Below w.heap.size w w' := by
 have hu36 := Tryz.underlying36
 have HR2 := Aside0.mk hr2
 have HC2 := Aside0.mk hc2
 clear hr2 hc2
 have HB := Aside0.mk (Below.refl w.heap.size w)
 have H : (if a0 > 5 then (bag_allowed.j0 k a0 l2 true) else (if a0 = 0 then (bag_allowed.j0 k a0 l2 a1) else (bag_allowed.j0 k a0 l2 false))) = some r := h
 clear h
 have HC4 := Aside0.mk H
 clear H
 go_enter Tryz.func56, Tryz.ntmps56
 go_upto_region 1 with (fail)
 go_cut [19] (fun v19 wc => ∃ (kq : Nat) (x19_3 : Bool), v19 = .bool x19_3 ∧ Aside0 (bag_allowed.j0 kq a0 l2 x19_3 = some r) ∧ Aside0 (kq ≤ k) ∧ Aside0 (Below w.heap.size w wc))
 case first =>
  have H := HC4.out
  clear HC4
  by_cases c5 : a0 > 5
  · rw [if_pos c5] at H
    have c5b0 : decide (5 < a0) = true := dT_ c5
    clear c5
    (first | rw [c5b0] | (simp only [i64_w, i32_w]; rw [c5b0]) | skip)
    have H' := Aside0.mk H
    clear H
    go_wp2
    go_meet
    case rel => exact ⟨_, (true), (by first | rfl | (simp; done) | (simp [*]; done)), H', ⟨by first | omega | exact Nat.le_refl _⟩, ⟨by repeat (first | (with_reducible first | exact HB.out | apply bA_ | apply bN_ | apply b1_) | exact HB.out)⟩⟩
  · rw [if_neg c5] at H
    have c5b0 : decide (5 < a0) = false := dF_ c5
    clear c5
    (first | rw [c5b0] | (simp only [i64_w, i32_w]; rw [c5b0]) | skip)
    by_cases c6 : a0 = 0
    · rw [if_pos c6] at H
      have c6b0 : (a0 == 0) = true := beq_iff_eq.mpr c6
      have c6b1 : (a0 != 0) = false := bne_eq_false_iff_eq.mpr c6
      clear c6
      have H' := Aside0.mk H
      clear H
      go_wp2
      go_meet
      case rel => exact ⟨_, (a1), (by first | rfl | (simp; done) | (simp [*]; done)), H', ⟨by first | omega | exact Nat.le_refl _⟩, ⟨by repeat (first | (with_reducible first | exact HB.out | apply bA_ | apply bN_ | apply b1_) | exact HB.out)⟩⟩
    · rw [if_neg c6] at H
      have c6b0 : (a0 == 0) = false := beq_eq_false_iff_ne.mpr c6
      have c6b1 : (a0 != 0) = true := bne_iff_ne.mpr c6
      have H' := Aside0.mk H
      clear H
      go_wp2
      go_meet
      case rel => exact ⟨_, (false), (by first | rfl | (simp; done) | (simp [*]; done)), H', ⟨by first | omega | exact Nat.le_refl _⟩, ⟨by repeat (first | (with_reducible first | exact HB.out | apply bA_ | apply bN_ | apply b1_) | exact HB.out)⟩⟩
 case rest =>
  clear HC4
  try clear c2
  try clear p2
  try clear c5
  try clear c5b0
  try clear c6
  try clear c6b0
  try clear c6b1
  obtain ⟨kq, x19_3, rfl, HA, HJ3, HB⟩ := hcut
  cases kq with
  | zero => exact absurd HA.out (by simp [bag_allowed.j0])
  | succ kj3 =>
   have H := HA.out
   clear HA
   simp only [bag_allowed.j0] at H
   by_cases c7 : x19_3 = true
   · subst c7
     have H1 : (some false) = some r := by rw [if_pos rfl] at H; exact H
     clear H
     have H := H1
     clear H1
     obtain rfl := Option.some.inj H
     go_wp2
     go_ret
     exact ⟨by first | rfl | (simp [*, errW_none, errW_some] <;> rfl), by repeat (first | (with_reducible first | exact HB.out | apply bA_ | apply bN_ | apply b1_) | exact HB.out)⟩
   · replace c7 := Bool.eq_false_iff.mpr c7
     subst c7
     have H1 : (bag_allowed.l0 kj3 a0 0 l2 (l2.length : Int) 0) = some r := by rw [if_neg (show ¬ (false = true) by decide)] at H; exact H
     clear H
     have H := H1
     clear H1
     have H' := Aside0.mk H
     clear H
     go_wp2
     go_loopg [7, 22] kj3 (fun kq v7 v22 w' => ∃ (x7_2 : Int) (x22_2 : Int), v7 = .int .u8 x7_2 ∧ v22 = .int .i64 x22_2 ∧ Aside0 (bag_allowed.l0 kq a0 x7_2 l2 (l2.length : Int) x22_2 = some r) ∧ Aside0 (kq ≤ kj3) ∧ Aside0 (Below w.heap.size w w'))
     case atStart => exact ⟨(0), (0), (by first | rfl | (simp; done) | (simp [*]; done)), (by first | rfl | (simp; done) | (simp [*]; done)), H', ⟨Nat.le_refl _⟩, ⟨by repeat (first | (with_reducible first | exact HB.out | apply bA_ | apply bN_ | apply b1_) | exact HB.out)⟩⟩
     case round =>
      clear H'
      try clear c2
      try clear p2
      try clear c5
      try clear c5b0
      try clear c6
      try clear c6b0
      try clear c6b1
      try clear c7
      try clear p2
      obtain ⟨x7_2, x22_2, rfl, rfl, HA, HK2, HB⟩ := hrel
      cases gk with
      | zero => exact absurd HA.out (by simp [bag_allowed.l0])
      | succ k2 =>
       have H := HA.out
       clear HA
       simp only [bag_allowed.l0] at H
       by_cases c8 : x22_2 < (l2.length : Int)
       · rw [if_pos c8] at H
         have c8b0 : decide (x22_2 < (l2.length : Int)) = true := dT_ c8
         clear c8
         by_cases c9 : 0 ≤ x22_2
         · rw [if_pos c9] at H
           have c9b0 : decide (0 ≤ x22_2) = true := dT_ c9
           clear c9
           by_cases c10 : x22_2 < (l2.length : Int)
           · rw [if_pos c10] at H
             have c10b0 : decide (x22_2 < (l2.length : Int)) = true := dT_ c10
             clear c10
             have HC11 := Aside0.mk H
             clear H
             have p112 : 0 ≤ (x22_2 : Int) := oT_ (by assumption)
             have q112 : x22_2 < (l2.length : Int) := oT_ (by assumption)
             obtain ⟨ad112, e112, hx112_0, hx112_1, hx112_2⟩ := at_T36 HR2.out x22_2 p112 q112
             cases e112
             replace hx112_0 := (HB.out.cell (bLC_ w _ hx112_0)).trans hx112_0
             replace hx112_1 := (HB.out.cell (bLC_ w _ hx112_1)).trans hx112_1
             replace hx112_2 := (HB.out.cell (bLC_ w _ hx112_2)).trans hx112_2
             replace p112 := eq_true p112
             replace q112 := eq_true q112
             go_upto_region 7 with (first | ((with_reducible refine gate_dst (N := 9) rfl ?_); refine box_event ?hg (N := 9) ?hd (cs := #[.int .u8 0, .int .i64 0, .string (⟨#[]⟩ : ByteArray)]) (t := 36) ?hr ?_; (case hd => rfl); (case hg => rfl); (case hr => first | (go_simp; done) | (go_simp; rfl)); intro gb113 hg w12 hbox hb; have n0_ := Aside0.mk (below_step (by repeat (first | (with_reducible first | exact HB.out | apply bA_ | apply bN_ | apply b1_) | exact HB.out)) hb); have n1_ := Aside0.mk (hbox); have n2_ := Aside0.mk ((by rw [hg]; exact (below_size (by repeat (first | (with_reducible first | exact HB.out | apply bA_ | apply bN_ | apply b1_) | exact HB.out))) : w.heap.size ≤ gb113)); have n3_ := Aside0.mk ((by rw [hg]; exact (below_size (by repeat (first | (with_reducible first | exact HB.out | apply bA_ | apply bN_ | apply b1_) | exact HB.out))) : w.heap.size ≤ gb113)); clear HB; have HB := n0_; have BK113 := n1_; have GW113 := n2_; have GE113 := n3_; clear n0_ n1_ n2_ n3_; clear hb hbox hg; have hcz13_0 : w12.cell? ⟨gb113, 0, none⟩ = some (.int .u8 0) := (blk_cell BK113.out 0).trans rfl; have hcz13_1 : w12.cell? ⟨gb113, 1, none⟩ = some (.int .i64 0) := (blk_cell BK113.out 1).trans rfl; have hcz13_2 : w12.cell? ⟨gb113, 2, none⟩ = some (.string (⟨#[]⟩ : ByteArray)) := (blk_cell BK113.out 2).trans rfl; have hfz13_0 := blk_frozen BK113.out 0; have hfz13_1 := blk_frozen BK113.out 1; have hfz13_2 := blk_frozen BK113.out 2))
             (try simp only [Act.put, sTA_, sCZ_, sCS_])
             go_cut [43] (fun v43 wc => ∃ (kq : Nat) (x43_10 : Bool), v43 = .bool x43_10 ∧ Aside0 (bag_allowed.j2 kq a0 x7_2 l2 (l2.length : Int) x22_2 x43_10 ((rd_T36 l2 x22_2).f0) ((rd_T36 l2 x22_2).f1) ((rd_T36 l2 x22_2).f2) = some r) ∧ Aside0 (kq ≤ k2) ∧ Aside0 (wc.heap[gb113]? = some (.cells #[.int .u8 ((rd_T36 l2 x22_2).f0), .int .i64 ((rd_T36 l2 x22_2).f1), .string ((rd_T36 l2 x22_2).f2)] 36 (0, 0))) ∧ Aside0 (Below w.heap.size w wc))
             case first =>
              have H := HC11.out
              clear HC11
              replace H := Option.bind_eq_some_iff.mp H
              obtain ⟨t114, A140, H⟩ := H
              replace H : (if t114 = true then (if x7_2 = 0 then (bag_allowed.j2 k2 a0 x7_2 l2 (l2.length : Int) x22_2 false ((rd_T36 l2 x22_2).f0) ((rd_T36 l2 x22_2).f1) ((rd_T36 l2 x22_2).f2)) else (if ((rd_T36 l2 x22_2).f0) = 0 then (bag_allowed.j2 k2 a0 x7_2 l2 (l2.length : Int) x22_2 false ((rd_T36 l2 x22_2).f0) ((rd_T36 l2 x22_2).f1) ((rd_T36 l2 x22_2).f2)) else (bag_allowed.j2 k2 a0 x7_2 l2 (l2.length : Int) x22_2 (((rd_T36 l2 x22_2).f0) != x7_2) ((rd_T36 l2 x22_2).f0) ((rd_T36 l2 x22_2).f1) ((rd_T36 l2 x22_2).f2)))) else (bag_allowed.j2 k2 a0 x7_2 l2 (l2.length : Int) x22_2 true ((rd_T36 l2 x22_2).f0) ((rd_T36 l2 x22_2).f1) ((rd_T36 l2 x22_2).f2))) = some r := H
              have A14 := Aside0.mk A140
              clear A140
              by_cases c15 : t114 = true
              · subst c15
                have H1 : (if x7_2 = 0 then (bag_allowed.j2 k2 a0 x7_2 l2 (l2.length : Int) x22_2 false ((rd_T36 l2 x22_2).f0) ((rd_T36 l2 x22_2).f1) ((rd_T36 l2 x22_2).f2)) else (if ((rd_T36 l2 x22_2).f0) = 0 then (bag_allowed.j2 k2 a0 x7_2 l2 (l2.length : Int) x22_2 false ((rd_T36 l2 x22_2).f0) ((rd_T36 l2 x22_2).f1) ((rd_T36 l2 x22_2).f2)) else (bag_allowed.j2 k2 a0 x7_2 l2 (l2.length : Int) x22_2 (((rd_T36 l2 x22_2).f0) != x7_2) ((rd_T36 l2 x22_2).f0) ((rd_T36 l2 x22_2).f1) ((rd_T36 l2 x22_2).f2)))) = some r := by rw [if_pos rfl] at H; exact H
                clear H
                have H := H1
                clear H1
                by_cases c16 : x7_2 = 0
                · rw [if_pos c16] at H
                  have c16b0 : (x7_2 == 0) = true := beq_iff_eq.mpr c16
                  have c16b1 : (x7_2 != 0) = false := bne_eq_false_iff_eq.mpr c16
                  clear c16
                  (first | rw [c16b0] | (simp only [i64_w, i32_w]; rw [c16b0]) | skip)
                  have H' := Aside0.mk H
                  clear H
                  have hcz17_0 : w12.cell? ⟨gb113, 0, none⟩ = some (.int .u8 0) := (blk_cell BK113.out 0).trans rfl
                  have hcz17_1 : w12.cell? ⟨gb113, 1, none⟩ = some (.int .i64 0) := (blk_cell BK113.out 1).trans rfl
                  have hcz17_2 : w12.cell? ⟨gb113, 2, none⟩ = some (.string (⟨#[]⟩ : ByteArray)) := (blk_cell BK113.out 2).trans rfl
                  have hfz17_0 := blk_frozen BK113.out 0
                  have hfz17_1 := blk_frozen BK113.out 1
                  have hfz17_2 := blk_frozen BK113.out 2
                  go_wp2_with (first | ((with_reducible refine gate_callee (f := 42) rfl ?_); refine goesL_ (some 27) rfl rfl Tryz.func42 (by kernel_rfl) rfl #[.agg #[.int .u8 ((rd_T36 l2 x22_2).f0), .int .i64 ((rd_T36 l2 x22_2).f1), .string ((rd_T36 l2 x22_2).f2)]] rfl (by (try simp only [List.map_toArray, List.map_cons, List.map_nil]); first | done | rfl | (simp only [List.length_drop, List.length_take]; rfl)) ?_; (with_reducible refine (value_Valid.calls ((rd_T36 l2 x22_2).f0) ((rd_T36 l2 x22_2).f1) ((rd_T36 l2 x22_2).f2) true _ A14.out).mono ?_); rintro e w18 ⟨rfl, hb⟩; refine ⟨_, rfl, ?_⟩; have n0_ := Aside0.mk (blk_below (g := gb113) (o := .cells #[.int .u8 ((rd_T36 l2 x22_2).f0), .int .i64 ((rd_T36 l2 x22_2).f1), .string ((rd_T36 l2 x22_2).f2)] 36 (0, 0)) (by (with_reducible repeat (first | refine blk_drewN ?_ _ | refine blk_drew ?_ | refine blk_alloc ?_ _)); refine blk_put (cs := #[.int .u8 ((rd_T36 l2 x22_2).f0), .int .i64 ((rd_T36 l2 x22_2).f1), .string (⟨#[]⟩ : ByteArray)]) ?_ 2 _ rfl; (with_reducible repeat (first | refine blk_drewN ?_ _ | refine blk_drew ?_ | refine blk_alloc ?_ _)); refine blk_put (cs := #[.int .u8 ((rd_T36 l2 x22_2).f0), .int .i64 0, .string (⟨#[]⟩ : ByteArray)]) ?_ 1 _ rfl; (with_reducible repeat (first | refine blk_drewN ?_ _ | refine blk_drew ?_ | refine blk_alloc ?_ _)); refine blk_put (cs := #[.int .u8 0, .int .i64 0, .string (⟨#[]⟩ : ByteArray)]) ?_ 0 _ rfl; (with_reducible repeat (first | refine blk_drewN ?_ _ | refine blk_drew ?_ | refine blk_alloc ?_ _)); exact BK113.out) hb); have n1_ := Aside0.mk (below_step (by repeat (first | (with_reducible first | exact HB.out | apply bA_ | apply bN_ | apply b1_ | refine below_set ?_ GE113.out) | exact HB.out)) hb); clear BK113; clear HB; have BK113 := n0_; have HB := n1_; clear n0_ n1_; (try clear hb); (try clear hb2); (try clear hk); (try clear hi)))
                  go_meet
                  case rel => exact ⟨_, (false), (by first | rfl | (simp; done) | (simp [*]; done)), H', ⟨by have := HJ3.out; have := HK2.out; first | omega | exact Nat.le_refl _⟩, ⟨by (with_reducible repeat (first | refine blk_drewN ?_ _ | refine blk_drew ?_ | refine blk_alloc ?_ _)); exact BK113.out⟩, ⟨by repeat (first | (with_reducible first | exact HB.out | apply bA_ | apply bN_ | apply b1_ | refine below_set ?_ GE113.out) | exact HB.out)⟩⟩
                · rw [if_neg c16] at H
                  have c16b0 : (x7_2 == 0) = false := beq_eq_false_iff_ne.mpr c16
                  have c16b1 : (x7_2 != 0) = true := bne_iff_ne.mpr c16
                  (first | rw [c16b0] | (simp only [i64_w, i32_w]; rw [c16b0]) | skip)
                  by_cases c19 : ((rd_T36 l2 x22_2).f0) = 0
                  · rw [if_pos c19] at H
                    have c19b0 : (((rd_T36 l2 x22_2).f0) == 0) = true := beq_iff_eq.mpr c19
                    have c19b1 : (((rd_T36 l2 x22_2).f0) != 0) = false := bne_eq_false_iff_eq.mpr c19
                    clear c19
                    have H' := Aside0.mk H
                    clear H
                    have hcz20_0 : w12.cell? ⟨gb113, 0, none⟩ = some (.int .u8 0) := (blk_cell BK113.out 0).trans rfl
                    have hcz20_1 : w12.cell? ⟨gb113, 1, none⟩ = some (.int .i64 0) := (blk_cell BK113.out 1).trans rfl
                    have hcz20_2 : w12.cell? ⟨gb113, 2, none⟩ = some (.string (⟨#[]⟩ : ByteArray)) := (blk_cell BK113.out 2).trans rfl
                    have hfz20_0 := blk_frozen BK113.out 0
                    have hfz20_1 := blk_frozen BK113.out 1
                    have hfz20_2 := blk_frozen BK113.out 2
                    go_wp2_with (first | ((with_reducible refine gate_callee (f := 42) rfl ?_); refine goesL_ (some 27) rfl rfl Tryz.func42 (by kernel_rfl) rfl #[.agg #[.int .u8 ((rd_T36 l2 x22_2).f0), .int .i64 ((rd_T36 l2 x22_2).f1), .string ((rd_T36 l2 x22_2).f2)]] rfl (by (try simp only [List.map_toArray, List.map_cons, List.map_nil]); first | done | rfl | (simp only [List.length_drop, List.length_take]; rfl)) ?_; (with_reducible refine (value_Valid.calls ((rd_T36 l2 x22_2).f0) ((rd_T36 l2 x22_2).f1) ((rd_T36 l2 x22_2).f2) true _ A14.out).mono ?_); rintro e w21 ⟨rfl, hb⟩; refine ⟨_, rfl, ?_⟩; have n0_ := Aside0.mk (blk_below (g := gb113) (o := .cells #[.int .u8 ((rd_T36 l2 x22_2).f0), .int .i64 ((rd_T36 l2 x22_2).f1), .string ((rd_T36 l2 x22_2).f2)] 36 (0, 0)) (by (with_reducible repeat (first | refine blk_drewN ?_ _ | refine blk_drew ?_ | refine blk_alloc ?_ _)); refine blk_put (cs := #[.int .u8 ((rd_T36 l2 x22_2).f0), .int .i64 ((rd_T36 l2 x22_2).f1), .string (⟨#[]⟩ : ByteArray)]) ?_ 2 _ rfl; (with_reducible repeat (first | refine blk_drewN ?_ _ | refine blk_drew ?_ | refine blk_alloc ?_ _)); refine blk_put (cs := #[.int .u8 ((rd_T36 l2 x22_2).f0), .int .i64 0, .string (⟨#[]⟩ : ByteArray)]) ?_ 1 _ rfl; (with_reducible repeat (first | refine blk_drewN ?_ _ | refine blk_drew ?_ | refine blk_alloc ?_ _)); refine blk_put (cs := #[.int .u8 0, .int .i64 0, .string (⟨#[]⟩ : ByteArray)]) ?_ 0 _ rfl; (with_reducible repeat (first | refine blk_drewN ?_ _ | refine blk_drew ?_ | refine blk_alloc ?_ _)); exact BK113.out) hb); have n1_ := Aside0.mk (below_step (by repeat (first | (with_reducible first | exact HB.out | apply bA_ | apply bN_ | apply b1_ | refine below_set ?_ GE113.out) | exact HB.out)) hb); clear BK113; clear HB; have BK113 := n0_; have HB := n1_; clear n0_ n1_; (try clear hb); (try clear hb2); (try clear hk); (try clear hi); have hcz22_0 : w21.cell? ⟨gb113, 0, none⟩ = some (.int .u8 ((rd_T36 l2 x22_2).f0)) := (blk_cell BK113.out 0).trans rfl; have hcz22_1 : w21.cell? ⟨gb113, 1, none⟩ = some (.int .i64 ((rd_T36 l2 x22_2).f1)) := (blk_cell BK113.out 1).trans rfl; have hcz22_2 : w21.cell? ⟨gb113, 2, none⟩ = some (.string ((rd_T36 l2 x22_2).f2)) := (blk_cell BK113.out 2).trans rfl; have hfz22_0 := blk_frozen BK113.out 0; have hfz22_1 := blk_frozen BK113.out 1; have hfz22_2 := blk_frozen BK113.out 2))
                    go_meet
                    case rel => exact ⟨_, (false), (by first | rfl | (simp; done) | (simp [*]; done)), H', ⟨by have := HJ3.out; have := HK2.out; first | omega | exact Nat.le_refl _⟩, ⟨by (with_reducible repeat (first | refine blk_drewN ?_ _ | refine blk_drew ?_ | refine blk_alloc ?_ _)); exact BK113.out⟩, ⟨by repeat (first | (with_reducible first | exact HB.out | apply bA_ | apply bN_ | apply b1_ | refine below_set ?_ GE113.out) | exact HB.out)⟩⟩
                  · rw [if_neg c19] at H
                    have c19b0 : (((rd_T36 l2 x22_2).f0) == 0) = false := beq_eq_false_iff_ne.mpr c19
                    have c19b1 : (((rd_T36 l2 x22_2).f0) != 0) = true := bne_iff_ne.mpr c19
                    have H' := Aside0.mk H
                    clear H
                    have hcz23_0 : w12.cell? ⟨gb113, 0, none⟩ = some (.int .u8 0) := (blk_cell BK113.out 0).trans rfl
                    have hcz23_1 : w12.cell? ⟨gb113, 1, none⟩ = some (.int .i64 0) := (blk_cell BK113.out 1).trans rfl
                    have hcz23_2 : w12.cell? ⟨gb113, 2, none⟩ = some (.string (⟨#[]⟩ : ByteArray)) := (blk_cell BK113.out 2).trans rfl
                    have hfz23_0 := blk_frozen BK113.out 0
                    have hfz23_1 := blk_frozen BK113.out 1
                    have hfz23_2 := blk_frozen BK113.out 2
                    go_wp2_with (first | ((with_reducible refine gate_callee (f := 42) rfl ?_); refine goesL_ (some 27) rfl rfl Tryz.func42 (by kernel_rfl) rfl #[.agg #[.int .u8 ((rd_T36 l2 x22_2).f0), .int .i64 ((rd_T36 l2 x22_2).f1), .string ((rd_T36 l2 x22_2).f2)]] rfl (by (try simp only [List.map_toArray, List.map_cons, List.map_nil]); first | done | rfl | (simp only [List.length_drop, List.length_take]; rfl)) ?_; (with_reducible refine (value_Valid.calls ((rd_T36 l2 x22_2).f0) ((rd_T36 l2 x22_2).f1) ((rd_T36 l2 x22_2).f2) true _ A14.out).mono ?_); rintro e w24 ⟨rfl, hb⟩; refine ⟨_, rfl, ?_⟩; have n0_ := Aside0.mk (blk_below (g := gb113) (o := .cells #[.int .u8 ((rd_T36 l2 x22_2).f0), .int .i64 ((rd_T36 l2 x22_2).f1), .string ((rd_T36 l2 x22_2).f2)] 36 (0, 0)) (by (with_reducible repeat (first | refine blk_drewN ?_ _ | refine blk_drew ?_ | refine blk_alloc ?_ _)); refine blk_put (cs := #[.int .u8 ((rd_T36 l2 x22_2).f0), .int .i64 ((rd_T36 l2 x22_2).f1), .string (⟨#[]⟩ : ByteArray)]) ?_ 2 _ rfl; (with_reducible repeat (first | refine blk_drewN ?_ _ | refine blk_drew ?_ | refine blk_alloc ?_ _)); refine blk_put (cs := #[.int .u8 ((rd_T36 l2 x22_2).f0), .int .i64 0, .string (⟨#[]⟩ : ByteArray)]) ?_ 1 _ rfl; (with_reducible repeat (first | refine blk_drewN ?_ _ | refine blk_drew ?_ | refine blk_alloc ?_ _)); refine blk_put (cs := #[.int .u8 0, .int .i64 0, .string (⟨#[]⟩ : ByteArray)]) ?_ 0 _ rfl; (with_reducible repeat (first | refine blk_drewN ?_ _ | refine blk_drew ?_ | refine blk_alloc ?_ _)); exact BK113.out) hb); have n1_ := Aside0.mk (below_step (by repeat (first | (with_reducible first | exact HB.out | apply bA_ | apply bN_ | apply b1_ | refine below_set ?_ GE113.out) | exact HB.out)) hb); clear BK113; clear HB; have BK113 := n0_; have HB := n1_; clear n0_ n1_; (try clear hb); (try clear hb2); (try clear hk); (try clear hi); have hcz25_0 : w24.cell? ⟨gb113, 0, none⟩ = some (.int .u8 ((rd_T36 l2 x22_2).f0)) := (blk_cell BK113.out 0).trans rfl; have hcz25_1 : w24.cell? ⟨gb113, 1, none⟩ = some (.int .i64 ((rd_T36 l2 x22_2).f1)) := (blk_cell BK113.out 1).trans rfl; have hcz25_2 : w24.cell? ⟨gb113, 2, none⟩ = some (.string ((rd_T36 l2 x22_2).f2)) := (blk_cell BK113.out 2).trans rfl; have hfz25_0 := blk_frozen BK113.out 0; have hfz25_1 := blk_frozen BK113.out 1; have hfz25_2 := blk_frozen BK113.out 2))
                    go_meet
                    case rel => exact ⟨_, ((((rd_T36 l2 x22_2).f0) != x7_2)), (by first | rfl | (simp; done) | (simp [*]; done)), H', ⟨by have := HJ3.out; have := HK2.out; first | omega | exact Nat.le_refl _⟩, ⟨by (with_reducible repeat (first | refine blk_drewN ?_ _ | refine blk_drew ?_ | refine blk_alloc ?_ _)); exact BK113.out⟩, ⟨by repeat (first | (with_reducible first | exact HB.out | apply bA_ | apply bN_ | apply b1_ | refine below_set ?_ GE113.out) | exact HB.out)⟩⟩
              · replace c15 := Bool.eq_false_iff.mpr c15
                subst c15
                have H1 : (bag_allowed.j2 k2 a0 x7_2 l2 (l2.length : Int) x22_2 true ((rd_T36 l2 x22_2).f0) ((rd_T36 l2 x22_2).f1) ((rd_T36 l2 x22_2).f2)) = some r := by rw [if_neg (show ¬ (false = true) by decide)] at H; exact H
                clear H
                have H := H1
                clear H1
                have H' := Aside0.mk H
                clear H
                have hcz26_0 : w12.cell? ⟨gb113, 0, none⟩ = some (.int .u8 0) := (blk_cell BK113.out 0).trans rfl
                have hcz26_1 : w12.cell? ⟨gb113, 1, none⟩ = some (.int .i64 0) := (blk_cell BK113.out 1).trans rfl
                have hcz26_2 : w12.cell? ⟨gb113, 2, none⟩ = some (.string (⟨#[]⟩ : ByteArray)) := (blk_cell BK113.out 2).trans rfl
                have hfz26_0 := blk_frozen BK113.out 0
                have hfz26_1 := blk_frozen BK113.out 1
                have hfz26_2 := blk_frozen BK113.out 2
                go_wp2_with (first | ((with_reducible refine gate_callee (f := 42) rfl ?_); refine goesL_ (some 27) rfl rfl Tryz.func42 (by kernel_rfl) rfl #[.agg #[.int .u8 ((rd_T36 l2 x22_2).f0), .int .i64 ((rd_T36 l2 x22_2).f1), .string ((rd_T36 l2 x22_2).f2)]] rfl (by (try simp only [List.map_toArray, List.map_cons, List.map_nil]); first | done | rfl | (simp only [List.length_drop, List.length_take]; rfl)) ?_; (with_reducible refine (value_Valid.calls ((rd_T36 l2 x22_2).f0) ((rd_T36 l2 x22_2).f1) ((rd_T36 l2 x22_2).f2) false _ A14.out).mono ?_); rintro e w27 ⟨rfl, hb⟩; refine ⟨_, rfl, ?_⟩; have n0_ := Aside0.mk (blk_below (g := gb113) (o := .cells #[.int .u8 ((rd_T36 l2 x22_2).f0), .int .i64 ((rd_T36 l2 x22_2).f1), .string ((rd_T36 l2 x22_2).f2)] 36 (0, 0)) (by (with_reducible repeat (first | refine blk_drewN ?_ _ | refine blk_drew ?_ | refine blk_alloc ?_ _)); refine blk_put (cs := #[.int .u8 ((rd_T36 l2 x22_2).f0), .int .i64 ((rd_T36 l2 x22_2).f1), .string (⟨#[]⟩ : ByteArray)]) ?_ 2 _ rfl; (with_reducible repeat (first | refine blk_drewN ?_ _ | refine blk_drew ?_ | refine blk_alloc ?_ _)); refine blk_put (cs := #[.int .u8 ((rd_T36 l2 x22_2).f0), .int .i64 0, .string (⟨#[]⟩ : ByteArray)]) ?_ 1 _ rfl; (with_reducible repeat (first | refine blk_drewN ?_ _ | refine blk_drew ?_ | refine blk_alloc ?_ _)); refine blk_put (cs := #[.int .u8 0, .int .i64 0, .string (⟨#[]⟩ : ByteArray)]) ?_ 0 _ rfl; (with_reducible repeat (first | refine blk_drewN ?_ _ | refine blk_drew ?_ | refine blk_alloc ?_ _)); exact BK113.out) hb); have n1_ := Aside0.mk (below_step (by repeat (first | (with_reducible first | exact HB.out | apply bA_ | apply bN_ | apply b1_ | refine below_set ?_ GE113.out) | exact HB.out)) hb); clear BK113; clear HB; have BK113 := n0_; have HB := n1_; clear n0_ n1_; (try clear hb); (try clear hb2); (try clear hk); (try clear hi)))
                go_meet
                case rel => exact ⟨_, (true), (by first | rfl | (simp; done) | (simp [*]; done)), H', ⟨by have := HJ3.out; have := HK2.out; first | omega | exact Nat.le_refl _⟩, ⟨by (with_reducible repeat (first | refine blk_drewN ?_ _ | refine blk_drew ?_ | refine blk_alloc ?_ _)); exact BK113.out⟩, ⟨by repeat (first | (with_reducible first | exact HB.out | apply bA_ | apply bN_ | apply b1_ | refine below_set ?_ GE113.out) | exact HB.out)⟩⟩
             case rest =>
              clear HC11
              try clear c1
              try clear p1
              try clear q1
              try clear hx1
              try clear c2
              try clear p2
              try clear c4
              try clear c5
              try clear c5b0
              try clear c6
              try clear c6b0
              try clear c6b1
              try clear c7
              try clear c8
              try clear c8b0
              try clear c9
              try clear c9b0
              try clear c10
              try clear c10b0
              try clear p11
              try clear q11
              try clear hx11
              try clear c15
              try clear c16
              try clear c16b0
              try clear c16b1
              try clear c19
              try clear c19b0
              try clear c19b1
              try clear hcz13_0
              try clear hcz13_1
              try clear hcz13_2
              try clear hcz17_0
              try clear hcz17_1
              try clear hcz17_2
              try clear hcz20_0
              try clear hcz20_1
              try clear hcz20_2
              try clear hcz22_0
              try clear hcz22_1
              try clear hcz22_2
              try clear hcz23_0
              try clear hcz23_1
              try clear hcz23_2
              try clear hcz25_0
              try clear hcz25_1
              try clear hcz25_2
              try clear hcz26_0
              try clear hcz26_1
              try clear hcz26_2
              try clear hfz13_0
              try clear hfz13_1
              try clear hfz13_2
              try clear hfz17_0
              try clear hfz17_1
              try clear hfz17_2
              try clear hfz20_0
              try clear hfz20_1
              try clear hfz20_2
              try clear hfz22_0
              try clear hfz22_1
              try clear hfz22_2
              try clear hfz23_0
              try clear hfz23_1
              try clear hfz23_2
              try clear hfz25_0
              try clear hfz25_1
              try clear hfz25_2
              try clear hfz26_0
              try clear hfz26_1
              try clear hfz26_2
              try clear hx112_0
              try clear hx112_1
              try clear hx112_2
              try clear p112
              try clear p2
              try clear q112
              obtain ⟨kq, x43_10, rfl, HA, HJ10, BK113, HB⟩ := hcut
              cases kq with
              | zero => exact absurd HA.out (by simp [bag_allowed.j2])
              | succ kj10 =>
               have H := HA.out
               clear HA
               simp only [bag_allowed.j2] at H
               by_cases c28 : x43_10 = true
               · subst c28
                 have H1 : (some false) = some r := by rw [if_pos rfl] at H; exact H
                 clear H
                 have H := H1
                 clear H1
                 obtain rfl := Option.some.inj H
                 go_wp2
                 go_ret
                 exact ⟨by first | rfl | (simp [*, errW_none, errW_some] <;> rfl), by repeat (first | (with_reducible first | exact HB.out | apply bA_ | apply bN_ | apply b1_ | refine below_set ?_ GE113.out) | exact HB.out)⟩
               · replace c28 := Bool.eq_false_iff.mpr c28
                 subst c28
                 have H1 : (if ((rd_T36 l2 x22_2).f0) = 0 then (bag_allowed.l0 kj10 a0 x7_2 l2 (l2.length : Int) (wrap64 (x22_2 + 1))) else (bag_allowed.l0 kj10 a0 ((rd_T36 l2 x22_2).f0) l2 (l2.length : Int) (wrap64 (x22_2 + 1)))) = some r := by rw [if_neg (show ¬ (false = true) by decide)] at H; exact H
                 clear H
                 have H := H1
                 clear H1
                 by_cases c29 : ((rd_T36 l2 x22_2).f0) = 0
                 · rw [if_pos c29] at H
                   have c29b0 : (((rd_T36 l2 x22_2).f0) == 0) = true := beq_iff_eq.mpr c29
                   have c29b1 : (((rd_T36 l2 x22_2).f0) != 0) = false := bne_eq_false_iff_eq.mpr c29
                   clear c29
                   have H' := Aside0.mk H
                   clear H
                   have hcz30_0 : wc.cell? ⟨gb113, 0, none⟩ = some (.int .u8 ((rd_T36 l2 x22_2).f0)) := (blk_cell BK113.out 0).trans rfl
                   have hcz30_1 : wc.cell? ⟨gb113, 1, none⟩ = some (.int .i64 ((rd_T36 l2 x22_2).f1)) := (blk_cell BK113.out 1).trans rfl
                   have hcz30_2 : wc.cell? ⟨gb113, 2, none⟩ = some (.string ((rd_T36 l2 x22_2).f2)) := (blk_cell BK113.out 2).trans rfl
                   have hfz30_0 := blk_frozen BK113.out 0
                   have hfz30_1 := blk_frozen BK113.out 1
                   have hfz30_2 := blk_frozen BK113.out 2
                   go_wp2
                   go_roundg kj10
                   case measure => have := HJ3.out; have := HK2.out; have := HJ10.out; omega
                   case rel => exact ⟨(x7_2), (wrap64 (x22_2 + 1)), (by first | rfl | (simp; done) | (simp [*]; done)), (by first | rfl | (simp; done) | (simp [*]; done)), H', ⟨by have := HJ3.out; have := HK2.out; have := HJ10.out; omega⟩, ⟨by repeat (first | (with_reducible first | exact HB.out | apply bA_ | apply bN_ | apply b1_ | refine below_set ?_ GE113.out) | exact HB.out)⟩⟩
                 · rw [if_neg c29] at H
                   have c29b0 : (((rd_T36 l2 x22_2).f0) == 0) = false := beq_eq_false_iff_ne.mpr c29
                   have c29b1 : (((rd_T36 l2 x22_2).f0) != 0) = true := bne_iff_ne.mpr c29
                   have H' := Aside0.mk H
                   clear H
                   have hcz31_0 : wc.cell? ⟨gb113, 0, none⟩ = some (.int .u8 ((rd_T36 l2 x22_2).f0)) := (blk_cell BK113.out 0).trans rfl
                   have hcz31_1 : wc.cell? ⟨gb113, 1, none⟩ = some (.int .i64 ((rd_T36 l2 x22_2).f1)) := (blk_cell BK113.out 1).trans rfl
                   have hcz31_2 : wc.cell? ⟨gb113, 2, none⟩ = some (.string ((rd_T36 l2 x22_2).f2)) := (blk_cell BK113.out 2).trans rfl
                   have hfz31_0 := blk_frozen BK113.out 0
                   have hfz31_1 := blk_frozen BK113.out 1
                   have hfz31_2 := blk_frozen BK113.out 2
                   go_wp2
                   go_roundg kj10
                   case measure => have := HJ3.out; have := HK2.out; have := HJ10.out; omega
                   case rel => exact ⟨(((rd_T36 l2 x22_2).f0)), (wrap64 (x22_2 + 1)), (by first | rfl | (simp; done) | (simp [*]; done)), (by first | rfl | (simp; done) | (simp [*]; done)), H', ⟨by have := HJ3.out; have := HK2.out; have := HJ10.out; omega⟩, ⟨by repeat (first | (with_reducible first | exact HB.out | apply bA_ | apply bN_ | apply b1_ | refine below_set ?_ GE113.out) | exact HB.out)⟩⟩
           · rw [if_neg c10] at H
             exact absurd H (by simp)
         · rw [if_neg c9] at H
           exact absurd H (by simp)
       · rw [if_neg c8] at H
         have c8b0 : decide (x22_2 < (l2.length : Int)) = false := dF_ c8
         clear c8
         by_cases c32 : x7_2 = 0
         · rw [if_pos c32] at H
           have c32b0 : (x7_2 == 0) = true := beq_iff_eq.mpr c32
           have c32b1 : (x7_2 != 0) = false := bne_eq_false_iff_eq.mpr c32
           clear c32
           obtain rfl := Option.some.inj H
           go_wp2
           go_ret
           exact ⟨by first | rfl | (simp [*, errW_none, errW_some] <;> rfl), by repeat (first | (with_reducible first | exact HB.out | apply bA_ | apply bN_ | apply b1_) | exact HB.out)⟩
         · rw [if_neg c32] at H
           have c32b0 : (x7_2 == 0) = false := beq_eq_false_iff_ne.mpr c32
           have c32b1 : (x7_2 != 0) = true := bne_iff_ne.mpr c32
           by_cases c33 : x7_2 = 1
           · rw [if_pos c33] at H
             have c33b0 : (x7_2 == 1) = true := beq_iff_eq.mpr c33
             have c33b1 : (x7_2 != 1) = false := bne_eq_false_iff_eq.mpr c33
             clear c33
             obtain rfl := Option.some.inj H
             go_wp2
             go_ret
             exact ⟨by first | rfl | (simp [*, errW_none, errW_some] <;> rfl), by repeat (first | (with_reducible first | exact HB.out | apply bA_ | apply bN_ | apply b1_) | exact HB.out)⟩
           · rw [if_neg c33] at H
             have c33b0 : (x7_2 == 1) = false := beq_eq_false_iff_ne.mpr c33
             have c33b1 : (x7_2 != 1) = true := bne_iff_ne.mpr c33
             by_cases c34 : a0 = 2
             · rw [if_pos c34] at H
               have c34b0 : (a0 == 2) = true := beq_iff_eq.mpr c34
               have c34b1 : (a0 != 2) = false := bne_eq_false_iff_eq.mpr c34
               clear c34
               obtain rfl := Option.some.inj H
               go_wp2
               go_ret
               exact ⟨by first | rfl | (simp [*, errW_none, errW_some] <;> rfl), by repeat (first | (with_reducible first | exact HB.out | apply bA_ | apply bN_ | apply b1_) | exact HB.out)⟩
             · rw [if_neg c34] at H
               have c34b0 : (a0 == 2) = false := beq_eq_false_iff_ne.mpr c34
               have c34b1 : (a0 != 2) = true := bne_iff_ne.mpr c34
               obtain rfl := Option.some.inj H
               go_wp2
               go_ret
               exact ⟨by first | rfl | (simp [*, errW_none, errW_some] <;> rfl), by repeat (first | (with_reducible first | exact HB.out | apply bA_ | apply bN_ | apply b1_) | exact HB.out)⟩
end Go.Proofs.YtecgkcgfeghhgaaGreatDoor.PAll
set_option linter.unusedVariables false
set_option linter.unusedSimpArgs false
namespace Go.Proofs.YtecgkcgfeghhgaaGreatDoor.PAll
open Go.RowKit Go.Proofs.YtecgkcgfeghhgaaGreatDoorW.PrintWords Go.Proofs.YtecgkcgfeghhgaaGreatDoorW.PrintLast Go.Proofs.YtecgkcgfeghhgaaGreatDoorW.PrintMore
def cmpBy : List KeyT → List V → List V → Int
 | [], _, _ => 0
 | k :: ks, a, b => if compareV (rd_T36 a k.f0) (rd_T36 b k.f0) = 0 then cmpBy ks a b else if k.f1 = true then -compareV (rd_T36 a k.f0) (rd_T36 b k.f0) else compareV (rd_T36 a k.f0) (rd_T36 b k.f0)
theorem cmpI_bd (a b : Int) : -1 ≤ cmpI a b ∧ cmpI a b ≤ 1 := by unfold cmpI; split <;> (try split) <;> omega
theorem compareBytes_bd : ∀ a b : List UInt8, -1 ≤ Lib.compareBytes a b ∧ Lib.compareBytes a b ≤ 1
 | [], [] => by simp [Lib.compareBytes]
 | [], _ :: _ => by simp [Lib.compareBytes]
 | _ :: _, [] => by simp [Lib.compareBytes]
 | a :: x, b :: y => by
  have := compareBytes_bd x y
  simp only [Lib.compareBytes]
  split
  · omega
  · split <;> omega
theorem compareV_bd (a b : V) : -1 ≤ compareV a b ∧ compareV a b ≤ 1 := by
 unfold compareV
 have h1 := cmpI_bd a.f0 b.f0
 have h2 := cmpI_bd a.f1 b.f1
 have h3 := compareBytes_bd a.f2.data.toList b.f2.data.toList
 split
 · split
   · omega
   · split <;> omega
 · omega
def KeysIn (ks : List KeyT) (n : Nat) : Prop := ∀ k ∈ ks, 0 ≤ k.f0 ∧ k.f0 < (n : Int)
theorem order1_calls (A0 : Option Addr) (c0 : Nat) (l0 : List V) (A1 : Option Addr) (c1 : Nat) (l1 : List V) (kb : Nat) (AK : Option Addr) (cK : Nat) (ks : List KeyT) (w : World) (hr0 : Kd.C kV w A0 l0.length l0) (hr1 : Kd.C kV w A1 l1.length l1) (hcell : w.cell? ⟨kb, 0, none⟩ = some (.slice AK ks.length cK)) (hks : Kd.C kKey w AK ks.length ks) (hin0 : KeysIn ks l0.length) (hin1 : KeysIn ks l1.length) (hk : ∀ v ∈ l0, KindOk v) (hn : ks.length ≤ 1099511627776) :
 Calls Tryz.prog 90 #[.slice A0 l0.length c0, .slice A1 l1.length c1, .pointer (some ⟨kb, 0, none⟩)] w fun e w' => e = .returned (.int .i64 (cmpBy ks l0 l1)) ∧ Gr w w' := by
 have HR0 := Aside0.mk hr0
 have HR1 := Aside0.mk hr1
 have HKS := Aside0.mk hks
 have HI0 := Aside0.mk hin0
 have HI1 := Aside0.mk hin1
 have HK := Aside0.mk hk
 have HN := Aside0.mk hn
 clear hr0 hr1 hks hin0 hin1 hk hn
 go_enter Tryz.func90, Tryz.ntmps90
 go_wp2
 clear hcell
 go_loopg [11] ks.length (fun kq v11 W => ∃ x : Int, v11 = .int .i64 x ∧ Aside0 (0 ≤ x ∧ x ≤ ks.length ∧ (kq : Int) = ks.length - x) ∧ Aside0 (cmpBy ks l0 l1 = cmpBy (ks.drop x.toNat) l0 l1) ∧ Aside0 (Gr w W))
 case atStart => exact ⟨0, rfl, ⟨by omega⟩, ⟨rfl⟩, ⟨Gr.refl _⟩⟩
 case round =>
  obtain ⟨x, rfl, HX, HI, HB⟩ := hrel
  obtain ⟨hx0, hx1, hkq⟩ := HX.out
  by_cases hlt : x < (ks.length : Int)
  · have c1' : decide (x < (ks.length : Int)) = true := decide_eq_true hlt
    have c2 : decide (0 ≤ x) = true := decide_eq_true hx0
    obtain ⟨ad, e, hx_0, hx_1⟩ := at_T64 HKS.out x hx0 hlt
    cases e
    replace hx_0 := (HB.out.below.cell (World.block_lt_of_cell? w _ hx_0)).trans hx_0
    replace hx_1 := (HB.out.below.cell (World.block_lt_of_cell? w _ hx_1)).trans hx_1
    have hi : x.toNat < ks.length := by omega
    have hrd : rd_T64 ks x = ks[x.toNat] := by simp [rd_T64, List.getElem?_eq_getElem hi]
    have hI0 := HI0.out (rd_T64 ks x) (by rw [hrd]; exact List.getElem_mem hi)
    have hI1 := HI1.out (rd_T64 ks x) (by rw [hrd]; exact List.getElem_mem hi)
    rw [drop_cons ks x.toNat hi, ← hrd] at HI
    obtain ⟨y, hy⟩ : ∃ y, y = rd_T64 ks x := ⟨_, rfl⟩
    rw [← hy] at hx_0 hx_1 HI hI0 hI1
    obtain ⟨n, hn⟩ : ∃ n, n = y.f0 := ⟨_, rfl⟩
    obtain ⟨d, hd⟩ : ∃ d, d = y.f1 := ⟨_, rfl⟩
    rw [← hn] at hx_0 hI0 hI1
    rw [← hd] at hx_1
    have HD := Aside0.mk hd
    clear hd
    obtain ⟨hn0, hn1⟩ := hI0
    obtain ⟨_, hn2⟩ := hI1
    have HWR : Aside0 (wrap64 (x + 1) = x + 1) := ⟨by have := HN.out; unfold wrap64; omega⟩
    have HLT := Aside0.mk hlt
    have HKQ := Aside0.mk hkq
    have HNE := Aside0.mk hn
    have HHI := Aside0.mk hi
    clear hy hkq hrd hn
    clear hi
    have n1 : decide (0 ≤ n) = true := decide_eq_true hn0
    have n2 : decide (n < (l0.length : Int)) = true := decide_eq_true hn1
    have n3 : decide (n < (l1.length : Int)) = true := decide_eq_true hn2
    obtain ⟨adA, e, ha_0, ha_1, ha_2⟩ := at_T36 HR0.out n hn0 hn1
    cases e
    obtain ⟨adB, e, hb_0, hb_1, hb_2⟩ := at_T36 HR1.out n hn0 hn2
    cases e
    have hkv : KindOk (rd_T36 l0 n) := HK.out _ (by
     have : n.toNat < l0.length := by omega
     simp [rd_T36, List.getElem?_eq_getElem this])
    obtain ⟨va, hva⟩ : ∃ v, v = rd_T36 l0 n := ⟨_, rfl⟩
    obtain ⟨vb, hvb⟩ : ∃ v, v = rd_T36 l1 n := ⟨_, rfl⟩
    rw [← hva] at ha_0 ha_1 ha_2 hkv
    rw [← hvb] at hb_0 hb_1 hb_2
    have HKV := Aside0.mk hkv
    have HVA := Aside0.mk hva
    have HVB := Aside0.mk hvb
    clear hva hvb hkv
    have B2 := Aside0.mk (HB.out.alloc (.cells #[.int .i64 n, .bool d] 64))
    obtain ⟨W2, hW2⟩ : ∃ W2, W2 = wr.alloc (.cells #[.int .i64 n, .bool d] 64) := ⟨_, rfl⟩
    have D0 : W2.cell? ⟨wr.heap.size, 0, none⟩ = some (.int .i64 n) := by rw [hW2]; exact (blk_cell (heap_alloc_new _ _) 0).trans rfl
    have D1 : W2.cell? ⟨wr.heap.size, 1, none⟩ = some (.bool d) := by rw [hW2]; exact (blk_cell (heap_alloc_new _ _) 1).trans rfl
    rw [← hW2] at B2
    replace ha_0 := (B2.out.below.cell (World.block_lt_of_cell? w _ ha_0)).trans ha_0
    replace ha_1 := (B2.out.below.cell (World.block_lt_of_cell? w _ ha_1)).trans ha_1
    replace ha_2 := (B2.out.below.cell (World.block_lt_of_cell? w _ ha_2)).trans ha_2
    replace hb_0 := (B2.out.below.cell (World.block_lt_of_cell? w _ hb_0)).trans hb_0
    replace hb_1 := (B2.out.below.cell (World.block_lt_of_cell? w _ hb_1)).trans hb_1
    replace hb_2 := (B2.out.below.cell (World.block_lt_of_cell? w _ hb_2)).trans hb_2
    go_wp2_with fail
    rw [← hW2]
    have HW2 := Aside0.mk hW2
    clear hW2
    go_region_held3 (fun W' => W'.cell? ⟨wr.heap.size, 0, none⟩ = some (.int .i64 n) ∧ W'.cell? (adA.add (n.toNat * 3)) = some (.int .u8 va.f0) ∧ W'.cell? ⟨(adA.add (n.toNat * 3)).block, (adA.add (n.toNat * 3)).off + 1, none⟩ = some (.int .i64 va.f1) ∧ W'.cell? ⟨(adA.add (n.toNat * 3)).block, (adA.add (n.toNat * 3)).off + 2, none⟩ = some (.string va.f2) ∧ W'.cell? (adB.add (n.toNat * 3)) = some (.int .u8 vb.f0) ∧ W'.cell? ⟨(adB.add (n.toNat * 3)).block, (adB.add (n.toNat * 3)).off + 1, none⟩ = some (.int .i64 vb.f1) ∧ W'.cell? ⟨(adB.add (n.toNat * 3)).block, (adB.add (n.toNat * 3)).off + 2, none⟩ = some (.string vb.f2)) (go_keep) (first | (go_at_call 91; refine (compare_calls va vb HKV.out _).mono ?_; rintro e w1 ⟨rfl, hb1⟩; have r0 := cB_ (w := W2.drew) hb1.below D0; have r1 := cB_ (w := W2.drew) hb1.below ha_0; have r2 := cB_ (w := W2.drew) hb1.below ha_1; have r3 := cB_ (w := W2.drew) hb1.below ha_2; have r4 := cB_ (w := W2.drew) hb1.below hb_0; have r5 := cB_ (w := W2.drew) hb1.below hb_1; have r6 := cB_ (w := W2.drew) hb1.below hb_2; have r7 := cB_ (w := W2.drew) hb1.below D1; have HB1 := Aside0.mk (B2.out.drew.trans hb1); clear hb1))
    obtain ⟨c, hc⟩ : ∃ c, c = compareV va vb := ⟨_, rfl⟩
    obtain ⟨hc1, hc2⟩ := compareV_bd va vb
    rw [← hc]
    rw [← hc] at hc1 hc2
    have HIc : Aside0 (cmpBy ks l0 l1 = if c = 0 then cmpBy (ks.drop (x.toNat + 1)) l0 l1 else if d = true then -c else c) := ⟨by rw [HI.out]; simp only [cmpBy]; rw [← HNE.out, ← HVA.out, ← HVB.out, ← hc, ← HD.out]⟩
    clear hc r0 r1 r2 r3 r4 r5 r6
    by_cases h0 : c = 0
    · have z1 : (c == 0) = true := by simp [h0]
      have HI2 : Aside0 (cmpBy ks l0 l1 = cmpBy (ks.drop (x + 1).toNat) l0 l1) := ⟨by rw [HIc.out, if_pos h0, show (x + 1).toNat = x.toNat + 1 by omega]⟩
      clear h0
      go_wp2
      have hlt := HLT.out
      have hk := HKQ.out
      cases gk with
      | zero => omega
      | succ k1 =>
       go_roundg k1
       case measure => omega
       case rel => exact ⟨x + 1, by rw [HWR.out], ⟨by omega⟩, HI2, HB1⟩
    · have z1 : (c == 0) = false := by simpa using h0
      cases d with
      | true =>
       have H : Aside0 (cmpBy ks l0 l1 = -c) := ⟨by rw [HIc.out, if_neg h0, if_pos rfl]⟩
       clear h0
       go_wp2
       go_ret
       refine ⟨?_, HB1.out⟩
       rw [H.out]; rfl
      | false =>
       have H : Aside0 (cmpBy ks l0 l1 = c) := ⟨by rw [HIc.out, if_neg h0, if_neg (by simp)]⟩
       clear h0
       go_wp2
       go_ret
       refine ⟨?_, HB1.out⟩
       rw [H.out]; rfl
  · have c1' : decide (x < (ks.length : Int)) = false := decide_eq_false hlt
    go_wp2
    go_ret
    refine ⟨?_, HB.out⟩
    rw [HI.out, List.drop_eq_nil_of_le (by omega)]
    rfl
def cmpFull (ks : List KeyT) (a b : List V) : Int := if cmpBy ks a b = 0 then cmpRows a b else cmpBy ks a b
theorem arranged1_calls (A0 : Option Addr) (c0 : Nat) (l0 : List V) (A1 : Option Addr) (c1 : Nat) (l1 : List V) (bb kb : Nat) (AK : Option Addr) (cK : Nat) (ks : List KeyT) (w : World) (hr0 : Kd.C kV w A0 l0.length l0) (hr1 : Kd.C kV w A1 l1.length l1) (hby : w.cell? ⟨bb, 0, none⟩ = some (.func (.func 90) #[] #[.pointer (some ⟨kb, 0, none⟩)])) (hcell : w.cell? ⟨kb, 0, none⟩ = some (.slice AK ks.length cK)) (hks : Kd.C kKey w AK ks.length ks) (hin0 : KeysIn ks l0.length) (hin1 : KeysIn ks l1.length) (hk : ∀ v ∈ l0, KindOk v) (hn : ks.length ≤ 1099511627776) (hn0 : l0.length ≤ 1099511627776) (hn1 : l1.length ≤ 1099511627776) :
 Calls Tryz.prog 82 #[.slice A0 l0.length c0, .slice A1 l1.length c1, .pointer (some ⟨bb, 0, none⟩)] w fun e w' => e = .returned (.int .i64 (cmpFull ks l0 l1)) ∧ Gr w w' := by
 have H1 := Aside0.mk (order1_calls A0 c0 l0 A1 c1 l1 kb AK cK ks w hr0 hr1 hcell hks hin0 hin1 hk hn)
 have H2 : Aside0 (∀ w1, Gr w w1 → Calls Tryz.prog 83 #[.slice A0 l0.length c0, .slice A1 l1.length c1] w1 fun e w' => e = .returned (.int .i64 (cmpRows l0 l1)) ∧ Gr w1 w') := ⟨fun w1 hb => compareRows_calls A0 c0 l0 A1 c1 l1 w1 (Kd.C_below hr0 hb.below) (Kd.C_below hr1 hb.below) hk hn0 hn1⟩
 clear hr0 hr1 hcell hks hin0 hin1 hk hn hn0 hn1
 obtain ⟨c, hc⟩ : ∃ c, c = cmpBy ks l0 l1 := ⟨_, rfl⟩
 rw [← hc] at H1
 go_enter Tryz.func82, Tryz.ntmps82
 have HC := Aside0.mk hc
 clear hc
 go_wp2_with fail
 refine H1.out.mono ?_
 rintro e w1 ⟨rfl, hb1⟩
 have HB1 := Aside0.mk hb1
 clear hb1
 by_cases h0 : c = 0
 · have z1 : (c != 0) = false := by simp [h0]
   have H : Aside0 (cmpFull ks l0 l1 = cmpRows l0 l1) := ⟨by unfold cmpFull; rw [if_pos (by rw [← HC.out, h0])]⟩
   clear h0
   go_wp2_with fail
   refine (H2.out w1 HB1.out).mono ?_
   rintro e w2 ⟨rfl, hb2⟩
   have HB2 := Aside0.mk (HB1.out.trans hb2)
   clear hb2
   go_wp2
   go_ret
   refine ⟨?_, HB2.out⟩
   rw [H.out]; rfl
 · have z1 : (c != 0) = true := by simpa using h0
   have H : Aside0 (cmpFull ks l0 l1 = c) := ⟨by unfold cmpFull; rw [if_neg (by rw [← HC.out]; exact h0), HC.out]⟩
   clear h0
   go_wp2
   go_ret
   refine ⟨?_, HB1.out⟩
   rw [H.out]; rfl
structure Ord {α : Type} (c : α → α → Int) : Prop where
 flip : ∀ a b, c b a = -c a b
 trans : ∀ a b d, c a b ≤ 0 → c b d ≤ 0 → c a d ≤ 0
theorem Ord.zero {α : Type} : Ord (fun _ _ : α => (0 : Int)) := ⟨fun _ _ => rfl, fun _ _ _ _ _ => Int.le_refl _⟩
theorem Ord.pull {α β : Type} {c : α → α → Int} (h : Ord c) (f : β → α) : Ord (fun a b => c (f a) (f b)) := ⟨fun a b => h.flip _ _, fun a b d => h.trans _ _ _⟩
theorem Ord.neg {α : Type} {c : α → α → Int} (h : Ord c) : Ord (fun a b => -c a b) := ⟨fun a b => by have := h.flip a b; omega, fun a b d h1 h2 => by
 have e1 := h.flip a b
 have e2 := h.flip b d
 have e3 := h.flip a d
 have := h.trans d b a (by omega) (by omega)
 omega⟩
theorem Ord.lex {α κ : Type} {c1 : α → α → Int} {c2 : κ → α → α → Int} (h1 : Ord c1) (h2 : ∀ k, Ord (c2 k)) (f : α → κ) (hf : ∀ a b, c1 a b = 0 → f a = f b) : Ord (fun a b => if c1 a b = 0 then c2 (f a) a b else c1 a b) := by
 refine ⟨fun a b => ?_, fun a b d k1 k2 => ?_⟩
 · have e := h1.flip a b
   by_cases h : c1 a b = 0
   · rw [if_pos h, if_pos (by omega), ← hf a b h]
     exact (h2 _).flip a b
   · rw [if_neg h, if_neg (by omega)]
     exact e
 · have eab := h1.flip a b
   have ebd := h1.flip b d
   have ead := h1.flip a d
   have p1 : c1 a b ≤ 0 := by
    split at k1 <;> omega
   have p2 : c1 b d ≤ 0 := by
    split at k2 <;> omega
   have p3 := h1.trans a b d p1 p2
   show (if c1 a d = 0 then _ else _) ≤ 0
   by_cases h : c1 a d = 0
   · have q1 := h1.trans d a b (by omega) p1
     have q2 := h1.trans b d a p2 (by omega)
     have z1 : c1 a b = 0 := by omega
     have z2 : c1 b d = 0 := by omega
     rw [if_pos z1] at k1
     rw [if_pos z2, ← hf a b z1] at k2
     rw [if_pos h]
     exact (h2 _).trans a b d k1 k2
   · rw [if_neg h]
     exact p3
theorem cmpI_ord : Ord cmpI := ⟨fun a b => by unfold cmpI; repeat' split <;> omega, fun a b d => by unfold cmpI; repeat' split <;> omega⟩
theorem cmpI_zero {a b : Int} (h : cmpI a b = 0) : a = b := by unfold cmpI at h; split at h <;> (try split at h) <;> omega
theorem u8_tri (a b : UInt8) : a < b ∨ a = b ∨ b < a := by
 simp only [UInt8.lt_iff_toNat_lt, ← UInt8.toNat_inj]
 omega
theorem compareBytes_flip : ∀ a b : List UInt8, Lib.compareBytes b a = -Lib.compareBytes a b
 | [], [] => rfl
 | [], _ :: _ => rfl
 | _ :: _, [] => rfl
 | a :: x, b :: y => by
  have ih := compareBytes_flip x y
  simp only [Lib.compareBytes]
  rcases u8_tri a b with h | h | h
  · have h2 := UInt8.lt_asymm h
    simp [h, h2]
  · subst h
    simpa using ih
  · have h2 := UInt8.lt_asymm h
    simp [h, h2]
theorem compareBytes_trans : ∀ a b d : List UInt8, Lib.compareBytes a b ≤ 0 → Lib.compareBytes b d ≤ 0 → Lib.compareBytes a d ≤ 0
 | [], _, [] => fun _ _ => by simp [Lib.compareBytes]
 | [], _, _ :: _ => fun _ _ => by simp [Lib.compareBytes]
 | _ :: _, [], _ => fun h _ => by simp [Lib.compareBytes] at h
 | _ :: _, _ :: _, [] => fun _ h => by simp [Lib.compareBytes] at h
 | a :: x, b :: y, d :: z => fun h1 h2 => by
  have ih := compareBytes_trans x y z
  simp only [Lib.compareBytes] at h1 h2 ⊢
  simp only [UInt8.lt_iff_toNat_lt] at *
  repeat' split at h1
  all_goals repeat' split at h2
  all_goals repeat' split
  all_goals first | omega | (exact ih h1 h2)
theorem compareBytes_ord : Ord Lib.compareBytes := ⟨compareBytes_flip, compareBytes_trans⟩
theorem compareBytes_zero : ∀ {a b : List UInt8}, Lib.compareBytes a b = 0 → a = b
 | [], [], _ => rfl
 | [], _ :: _, h => by simp [Lib.compareBytes] at h
 | _ :: _, [], h => by simp [Lib.compareBytes] at h
 | a :: x, b :: y, h => by
  simp only [Lib.compareBytes] at h
  rcases u8_tri a b with h1 | h1 | h1
  · rw [if_pos h1] at h; omega
  · subst h1
    rw [if_neg (UInt8.lt_irrefl _), if_neg (UInt8.lt_irrefl _)] at h
    rw [compareBytes_zero h]
  · rw [if_neg (UInt8.lt_asymm h1), if_pos h1] at h; omega
theorem compareV_ord : Ord compareV := by
 have h := Ord.lex (c1 := fun a b : V => cmpI a.f0 b.f0) (c2 := fun (k : Int) (a b : V) => if k = 0 then 0 else if k = 2 then Lib.compareBytes a.f2.data.toList b.f2.data.toList else cmpI a.f1 b.f1) (cmpI_ord.pull _) (fun k => ?_) (fun a => a.f0) (fun a b h => cmpI_zero h)
 · exact h
 · by_cases h0 : k = 0
   · simp only [if_pos h0]; exact Ord.zero
   · by_cases h2 : k = 2
     · simp only [if_neg h0, if_pos h2]; exact compareBytes_ord.pull _
     · simp only [if_neg h0, if_neg h2]; exact cmpI_ord.pull _
theorem bytes_ext {a b : ByteArray} (h : a.data.toList = b.data.toList) : a = b := by
 cases a; cases b
 simpa using h
theorem noText_eq {s : ByteArray} (h : noText s = true) : s = ⟨#[]⟩ := by
 unfold noText at h
 rw [beq_iff_eq] at h
 have h2 : s.toList = s.data.toList := ByteArray.toList_eq s
 exact bytes_ext (by rw [← h2, h])
theorem valid_kind {v : V} (h : validV v = true) : KindOk v := by
 unfold validV at h
 unfold KindOk
 repeat' split at h
 all_goals first | omega | (simp at h)
theorem V_ext {a b : V} (h0 : a.f0 = b.f0) (h1 : a.f1 = b.f1) (h2 : a.f2 = b.f2) : a = b := by cases a; cases b; simp_all
theorem compareV_zero {a b : V} (ha : validV a = true) (hb : validV b = true) (h : compareV a b = 0) : a = b := by
 unfold compareV at h
 split at h
 · rename_i h0
   have h0 := cmpI_zero h0
   unfold validV at ha hb
   rw [← h0] at hb
   by_cases k0 : a.f0 = 0
   · rw [if_pos k0] at ha hb
     simp only [Bool.and_eq_true, beq_iff_eq] at ha hb
     exact V_ext h0 (by omega) (by rw [noText_eq ha.2, noText_eq hb.2])
   · rw [if_neg k0] at ha hb h
     by_cases k2 : a.f0 = 2
     · rw [if_neg (by omega), if_pos k2] at ha hb
       rw [if_pos k2] at h
       simp only [Bool.and_eq_true, beq_iff_eq] at ha hb
       exact V_ext h0 (by omega) (bytes_ext (compareBytes_zero h))
     · rw [if_neg k2] at h
       have h1 := cmpI_zero h
       refine V_ext h0 h1 ?_
       by_cases k1 : a.f0 = 1
       · rw [if_pos k1] at ha hb
         rw [noText_eq ha, noText_eq hb]
       · rw [if_neg k1, if_neg k2] at ha hb
         split at ha
         · rename_i k3
           rw [if_pos k3] at hb
           simp only [Bool.and_eq_true] at ha hb
           rw [noText_eq ha.1, noText_eq hb.1]
         · cases ha
 · omega
theorem cmpRows_flip : ∀ a b : List V, cmpRows b a = -cmpRows a b
 | [], [] => rfl
 | [], _ :: _ => rfl
 | _ :: _, [] => rfl
 | a :: x, b :: y => by
  have ih := cmpRows_flip x y
  have e := compareV_ord.flip a b
  simp only [cmpRows]
  by_cases h : compareV a b = 0
  · rw [if_pos h, if_pos (by omega)]; exact ih
  · rw [if_neg h, if_neg (by omega)]; exact e
theorem cmpRows_trans : ∀ a b d : List V, cmpRows a b ≤ 0 → cmpRows b d ≤ 0 → cmpRows a d ≤ 0
 | [], _, [] => fun _ _ => by simp [cmpRows]
 | [], _, _ :: _ => fun _ _ => by simp [cmpRows]
 | _ :: _, [], _ => fun h _ => by simp [cmpRows] at h
 | _ :: _, _ :: _, [] => fun _ h => by simp [cmpRows] at h
 | a :: x, b :: y, d :: z => fun k1 k2 => by
  have ih := cmpRows_trans x y z
  simp only [cmpRows] at k1 k2 ⊢
  have eab := compareV_ord.flip a b
  have ebd := compareV_ord.flip b d
  have ead := compareV_ord.flip a d
  have p1 : compareV a b ≤ 0 := by split at k1 <;> omega
  have p2 : compareV b d ≤ 0 := by split at k2 <;> omega
  have p3 := compareV_ord.trans a b d p1 p2
  by_cases h : compareV a d = 0
  · have q1 := compareV_ord.trans d a b (by omega) p1
    have q2 := compareV_ord.trans b d a p2 (by omega)
    rw [if_pos (by omega)] at k1 k2
    rw [if_pos h]
    exact ih k1 k2
  · rw [if_neg h]
    exact p3
theorem cmpRows_ord : Ord cmpRows := ⟨cmpRows_flip, cmpRows_trans⟩
theorem cmpRows_zero : ∀ {a b : List V}, (∀ v ∈ a, validV v = true) → (∀ v ∈ b, validV v = true) → cmpRows a b = 0 → a = b
 | [], [], _, _, _ => rfl
 | [], _ :: _, _, _, h => by simp [cmpRows] at h
 | _ :: _, [], _, _, h => by simp [cmpRows] at h
 | a :: x, b :: y, ha, hb, h => by
  simp only [cmpRows] at h
  split at h
  · rename_i h0
    rw [compareV_zero (ha a List.mem_cons_self) (hb b List.mem_cons_self) h0, cmpRows_zero (fun v hv => ha v (List.mem_cons_of_mem _ hv)) (fun v hv => hb v (List.mem_cons_of_mem _ hv)) h]
  · omega
theorem cmpBy_ord : ∀ ks : List KeyT, Ord (cmpBy ks)
 | [] => Ord.zero
 | k :: ks => by
  have ih := cmpBy_ord ks
  have h := Ord.lex (c1 := fun a b : List V => if k.f1 = true then -compareV (rd_T36 a k.f0) (rd_T36 b k.f0) else compareV (rd_T36 a k.f0) (rd_T36 b k.f0)) (c2 := fun (_ : Unit) => cmpBy ks) (by
   by_cases hk : k.f1 = true
   · simp only [if_pos hk]; exact (compareV_ord.pull (fun a => rd_T36 a k.f0)).neg
   · simp only [if_neg hk]; exact compareV_ord.pull (fun a => rd_T36 a k.f0)) (fun _ => ih) (fun _ => ()) (fun _ _ _ => rfl)
  have e : cmpBy (k :: ks) = fun a b => if (if k.f1 = true then -compareV (rd_T36 a k.f0) (rd_T36 b k.f0) else compareV (rd_T36 a k.f0) (rd_T36 b k.f0)) = 0 then cmpBy ks a b else (if k.f1 = true then -compareV (rd_T36 a k.f0) (rd_T36 b k.f0) else compareV (rd_T36 a k.f0) (rd_T36 b k.f0)) := by
   funext a b
   simp only [cmpBy]
   generalize compareV (rd_T36 a k.f0) (rd_T36 b k.f0) = c
   by_cases hk : k.f1 = true
   · simp only [if_pos hk]
     by_cases hc : c = 0
     · rw [if_pos hc, if_pos (by omega)]
     · rw [if_neg hc, if_neg (by omega)]
   · simp only [if_neg hk]
  rw [e]
  exact h
theorem cmpFull_ord (ks : List KeyT) : Ord (cmpFull ks) := Ord.lex (c2 := fun (_ : Unit) => cmpRows) (cmpBy_ord ks) (fun _ => cmpRows_ord) (fun _ => ()) (fun _ _ _ => rfl)
theorem cmpFull_zero {ks : List KeyT} {a b : List V} (ha : ∀ v ∈ a, validV v = true) (hb : ∀ v ∈ b, validV v = true) (h : cmpFull ks a b = 0) : a = b := by
 unfold cmpFull at h
 split at h
 · exact cmpRows_zero ha hb h
 · omega
def sortR (ks : List KeyT) (l : List (List V)) : List (List V) := l.mergeSort (fun a b => decide (cmpFull ks a b ≤ 0))
theorem sortR_perm (ks : List KeyT) (l : List (List V)) : (sortR ks l).Perm l := List.mergeSort_perm _ _
theorem sortR_pair (ks : List KeyT) (l : List (List V)) : (sortR ks l).Pairwise (fun a b => cmpFull ks a b ≤ 0) := by
 have h := List.pairwise_mergeSort (le := fun a b => decide (cmpFull ks a b ≤ 0)) (fun a b c h1 h2 => by
  simp only [decide_eq_true_eq] at h1 h2 ⊢
  exact (cmpFull_ord ks).trans a b c h1 h2) (fun a b => by
  have := (cmpFull_ord ks).flip a b
  simp only [Bool.or_eq_true, decide_eq_true_eq]
  omega) l
 exact h.imp (fun h => of_decide_eq_true h)
theorem sortR_unique {ks : List KeyT} {l r : List (List V)} (hv : ∀ row ∈ l, ∀ v ∈ row, validV v = true) (hp : r.Perm l) (hs : r.Pairwise (fun a b => cmpFull ks a b ≤ 0)) : r = sortR ks l := by
 refine List.Perm.eq_of_pairwise (le := fun a b => cmpFull ks a b ≤ 0) (fun a b ha hb h1 h2 => ?_) hs (sortR_pair ks l) (hp.trans (sortR_perm ks l).symm)
 have hfl := (cmpFull_ord ks).flip a b
 exact cmpFull_zero (ks := ks) (hv a (hp.mem_iff.1 ha)) (hv b ((sortR_perm ks l).mem_iff.1 hb)) (by omega)
theorem infoV : (Tryz.prog.info? 36).map (fun i => (i.zero, i.size, i.bytes)) = some (some (.agg #[(.int .u8 0), (.int .i64 0), (.string ⟨#[]⟩)]), 3, 32) := by kernel_rfl
theorem infoRow : (Tryz.prog.info? 53).map (fun i => (i.zero, i.size, i.bytes)) = some (some (.slice none 0 0), 1, 24) := by kernel_rfl
theorem R_empty {α : Type} (d : Kd α) (e : Nat) (w : World) : Kd.R d e (w.alloc (.cells #[] e)) w.heap.size (fun _ => True) (.slice (some ⟨w.heap.size, 0, none⟩) 0 0) [] :=
 ⟨fun _ _ => trivial, [], ⟨by simp, .inr ⟨w.heap.size, 0, #[], rfl, Nat.le_refl _, heap_alloc_new _ _, Nat.le_refl _, by decide, by simp, by simp⟩⟩, Reps.none _ _⟩
theorem clone_calls (A0 : Option Addr) (c0 : Nat) (l0 : List V) (w : World) (hr0 : Kd.C kV w A0 l0.length l0) (hn : l0.length ≤ 1099511627776) :
 Calls Tryz.prog 80 #[.slice A0 l0.length c0] w fun e w' => ∃ v : Value, e = .returned v ∧ Kd.R kV 36 w' w.heap.size (fun _ => True) v l0 ∧ Below w.heap.size w w' := by
 have qT : ∀ (w : World) (a : Option Addr) (n c n' c' : Nat), (binOp .eql 53 (.slice a n c) (.slice none n' c')).run Tryz.prog w = .ok (.bool a.isNone) w := fun w a n c n' c' => Lib.run_eql_slice_nil w _ _ a n c n' c' Tryz.underlying53
 have HR0 := Aside0.mk hr0
 have HN := Aside0.mk hn
 clear hr0 hn
 cases A0 with
 | none =>
  have hl : l0 = [] := by
   rcases Nat.eq_zero_or_pos l0.length with h | h
   · exact List.eq_nil_of_length_eq_zero h
   · obtain ⟨ad, h2, _⟩ := HR0.out.2.2 h
     cases h2
  have HL := Aside0.mk hl
  clear hl
  go_enter Tryz.func80, Tryz.ntmps80
  go_wp2
  go_ret
  refine ⟨_, rfl, ?_, Below.refl _ _⟩
  rw [HL.out]
  exact Kd.R_nil _ _ _ _ _
 | some ad =>
  go_enter Tryz.func80, Tryz.ntmps80
  have HO : Aside0 (Kd.R kV 36 (w.alloc (.cells #[] 36)) w.heap.size (fun _ => True) (.slice (some ⟨w.heap.size, 0, none⟩) 0 0) []) := ⟨R_empty kV 36 w⟩
  have HB := Aside0.mk ((Below.refl w.heap.size w).alloc (Nat.le_refl _) (.cells #[] 36))
  have HR1 := Aside0.mk (Kd.C_below HR0.out HB.out)
  go_wp2_with (at_builtin; refine Kd.R_append_rows kV (w0 := w) w.heap.size rfl (.tmp 5) (.tmp 6) 53 36 (.agg #[(.int .u8 0), (.int .i64 0), (.string ⟨#[]⟩)]) 32 rfl Tryz.underlying53 infoV rfl (by decide) (by decide) _ [] l0 (some ad) l0.length c0 (fun _ => True) (fun _ => False) rfl rfl HO.out HR1.out (fun x cs h => by obtain rfl := k36_open h; exact k36_mkM _ _ _ x) (fun _ h => h.elim) (fun _ _ => trivial) HB.out HB.out.size (by have := HN.out; simp; omega) ?_; intro v1 w1 hR hb hg hat; have HO1 := Aside0.mk hR; have HB1 := Aside0.mk hb; clear hR hb hg hat)
  obtain ⟨Av, cv, ev⟩ := Kd.R_slice HO1.out
  cases ev
  go_wp2
  go_ret
  exact ⟨_, rfl, HO1.out, HB1.out⟩
end Go.Proofs.YtecgkcgfeghhgaaGreatDoor.PAll
set_option linter.unusedVariables false
set_option linter.unusedSimpArgs false
namespace Go.Proofs.YtecgkcgfeghhgaaGreatDoor.PAll
open Go.RowKit Go.Proofs.YtecgkcgfeghhgaaGreatDoorW.PrintWords Go.Proofs.YtecgkcgfeghhgaaGreatDoorW.PrintLast Go.Proofs.YtecgkcgfeghhgaaGreatDoorW.PrintMore
open Go.Shelf Go.Lib
structure RowGood (ks : List KeyT) (l : List V) : Prop where
 valid : ∀ v ∈ l, validV v = true
 keys : KeysIn ks l.length
 len : l.length ≤ 1099511627776
structure RowIn (W : World) (base g : Nat) (ks : List KeyT) where
 v : Value
 l : List V
 rep : Kd.R kV 36 W base (fun k => k ≠ g) v l
 good : RowGood ks l
theorem sortWorld_blk {α : Type} [Inhabited α] (enc : α → Value) (w : World) (blk off m : Nat) (dk : Array α) (os : Array Obj) (k : Nat) (h1 : k ≠ blk) (h2 : k < w.heap.size) : (sortWorld enc w blk off m dk os).heap[k]? = w.heap[k]? := by
 unfold sortWorld Sort.grow Sort.putRow Sort.mapBlock
 show ((Array.modify _ blk _) ++ os)[k]? = _
 rw [Array.getElem?_append_left (by simpa using h2), Array.getElem?_modify, if_neg (Ne.symm h1)]
 rfl
theorem sortWorld_below {α : Type} [Inhabited α] (enc : α → Value) (w : World) (base blk off m : Nat) (dk : Array α) (os : Array Obj) (hb : base ≤ blk) (hw : base ≤ w.heap.size) : Below base w (sortWorld enc w blk off m dk os) := by
 refine ⟨rfl, rfl, rfl, ?_, fun k hk => ?_⟩
 · unfold sortWorld
   rw [Sort.size_grow, Sort.size_putRow]
   exact Nat.le_add_right _ _
 · exact sortWorld_blk enc w blk off m dk os k (by omega) (by omega)
structure RV (W : World) (base g cap : Nat) (vs : List Value) (l : List (List V)) : Prop where
 len : vs.length = l.length
 own : W.ownsRow base 53 1 (.slice (some ⟨g, 0, none⟩) l.length cap) l.length vs
 rep : ∀ (j : Nat) (v : Value) (r : List V), vs[j]? = some v → l[j]? = some r → Kd.R kV 36 W base (fun k => k ≠ g) v r
theorem RV_rowsIn {ks : List KeyT} {W : World} {base g cap : Nat} {vs : List Value} {l : List (List V)} (h : RV W base g cap vs l) (hG : ∀ row ∈ l, RowGood ks row) : ∃ d : List (RowIn W base g ks), d.map (·.l) = l ∧ d.map (·.v) = vs := by
 have key : ∀ (m : Nat), m ≤ l.length → ∃ d : List (RowIn W base g ks), d.map (·.l) = l.take m ∧ d.map (·.v) = vs.take m := by
  intro m
  induction m with
  | zero => exact fun _ => ⟨[], by simp, by simp⟩
  | succ m ih =>
   intro hm
   obtain ⟨d, h1, h2⟩ := ih (by omega)
   have hml : m < l.length := by omega
   have hmv : m < vs.length := by rw [h.len]; exact hml
   refine ⟨d ++ [⟨vs[m], l[m], h.rep m _ _ (List.getElem?_eq_getElem hmv) (List.getElem?_eq_getElem hml), hG _ (List.getElem_mem hml)⟩], ?_, ?_⟩
   · rw [List.map_append, h1, take_snoc _ _ hml]; rfl
   · rw [List.map_append, h2, take_snoc _ _ hmv]; rfl
 obtain ⟨d, h1, h2⟩ := key l.length (Nat.le_refl _)
 rw [List.take_length] at h1
 rw [List.take_of_length_le (by rw [h.len]; exact Nat.le_refl _)] at h2
 exact ⟨d, h1, h2⟩
theorem RV_ofRowsIn {ks : List KeyT} {W w1 : World} {base g cap : Nat} {d : List (RowIn W base g ks)} (ho : w1.ownsRow base 53 1 (.slice (some ⟨g, 0, none⟩) d.length cap) d.length (d.map (·.v))) (hm : ∀ k, k ≠ g → k < W.heap.size → w1.heap[k]? = W.heap[k]?) : RV w1 base g cap (d.map (·.v)) (d.map (·.l)) := by
 refine ⟨by simp, by rw [List.length_map]; exact ho, fun j v r hv hr => ?_⟩
 rw [List.getElem?_map] at hv hr
 obtain ⟨x, hx, rfl⟩ := Option.map_eq_some_iff.1 hv
 rw [hx] at hr
 obtain rfl := Option.some.inj hr
 exact Kd.R_step x.rep hm
theorem take_putV {α : Type} [Inhabited α] (enc : α → Value) (cur : Array Value) (d : Array α) (h : d.size ≤ cur.size) : (Sort.putCells enc 0 d cur).toList.take d.size = d.toList.map enc := by
 apply List.ext_getElem?
 intro j
 by_cases hj : j < d.size
 · rw [List.getElem?_take_of_lt hj, Array.getElem?_toList]
   simp [Sort.putCells, hj, show j < cur.size by omega]
 · rw [List.getElem?_take_eq_none (by omega), List.getElem?_eq_none (by simp; omega)]
theorem sortFuncV_calls (ks : List KeyT) (AK : Option Addr) (cK : Nat) (bb kb g cap : Nat) (vs : List Value) (l : List (List V)) (w W : World) (hR : RV W w.heap.size g cap vs l) (hB : Below w.heap.size w W)
 (hby : W.cell? ⟨bb, 0, none⟩ = some (.func (.func 90) #[] #[.pointer (some ⟨kb, 0, none⟩)])) (hcell : W.cell? ⟨kb, 0, none⟩ = some (.slice AK ks.length cK)) (hbb : bb ≠ g) (hkb : kb ≠ g) (hks : Kd.C kKey w AK ks.length ks) (hkn : ks.length ≤ 1099511627776)
 (hG : ∀ row ∈ l, RowGood ks row) (hn : l.length ≤ 1099511627776) (h0 : 0 < l.length) :
 Calls Tryz.prog 81 #[.slice (some ⟨g, 0, none⟩) l.length cap, .func (.func 82) #[] #[.pointer (some ⟨bb, 0, none⟩)]] W fun e w' => e = .returned (.tuple #[]) ∧ (∃ vs' : List Value, vs'.Perm vs ∧ RV w' w.heap.size g cap vs' (sortR ks l)) ∧ Below w.heap.size w w' := by
 obtain ⟨dl, hd1, hdv⟩ := RV_rowsIn (ks := ks) hR hG
 have hd2 := hR.own
 rw [← hdv] at hd2
 have hdl : dl.length = l.length := by rw [← hd1, List.length_map]
 haveI : Inhabited (RowIn W w.heap.size g ks) := ⟨dl[0]'(by omega)⟩
 have hg : w.heap.size ≤ g ∧ g < W.heap.size := hd2.lt g rfl
 have h1 : OneCell (fun r : RowIn W w.heap.size g ks => r.v) := fun r => by
  obtain ⟨A, c, e⟩ := Kd.R_slice r.rep
  show r.v.oneCell' = true
  rw [e]; rfl
 have hO : Sort.SWO (ltOf (fun x y : RowIn W w.heap.size g ks => cmpFull ks x.l y.l)) := by
  have H := cmpFull_ord ks
  refine ⟨fun x => ?_, fun x y z h1 h2 => ?_, fun x y z h1 h2 => ?_⟩
  · have := H.flip x.l x.l
    simp only [ltOf, decide_eq_false_iff_not]; omega
  · simp only [ltOf, decide_eq_true_eq] at h1 h2 ⊢
    have e1 := H.flip x.l y.l
    have e2 := H.flip y.l z.l
    have e3 := H.flip x.l z.l
    have t1 := H.trans x.l y.l z.l (by omega) (by omega)
    by_cases h : cmpFull ks x.l z.l = 0
    · have t2 := H.trans z.l x.l y.l (by omega) (by omega)
      omega
    · omega
  · simp only [ltOf, decide_eq_false_iff_not] at h1 h2 ⊢
    have e1 := H.flip x.l y.l
    have e2 := H.flip y.l z.l
    have e3 := H.flip x.l z.l
    have t1 := H.trans z.l y.l x.l (by omega) (by omega)
    omega
 have eg : ∀ args w, (callFunc 82 args).run Tryz.prog w = .ok (.enter 82 args) w := enters_of Tryz.func82 (by kernel_rfl) rfl
 have hH : Sort.Holds (fun r : RowIn W w.heap.size g ks => r.v) W g 0 dl.toArray := by
  intro j hj
  have hj : j < dl.length := by simpa using hj
  have h := own_at_of (enc := id) (d := (default : Value)) (xs := dl.map (·.v)) (by simpa [encs] using hd2) (j : Int) (by omega) (by omega)
  rw [Int.toNat_natCast] at h
  rw [Nat.zero_add]
  refine ⟨h.1.trans ?_, h.2⟩
  simp [rdOf, hj]
 have hcmp : CmpLays1 Tryz.prog 82 #[.pointer (some ⟨bb, 0, none⟩)] (fun r : RowIn W w.heap.size g ks => r.v) (fun x y => cmpFull ks x.l y.l) g 0 dl.toArray.size W := by
  intro m os dk hs x y
  have hbl := sortWorld_below (fun r : RowIn W w.heap.size g ks => r.v) W w.heap.size g 0 m dk os hg.1 hB.size
  have hbk := fun k h1 h2 => sortWorld_blk (fun r : RowIn W w.heap.size g ks => r.v) W g 0 m dk os k h1 h2
  obtain ⟨W3, hW3⟩ : ∃ W3, W3 = sortWorld (fun r : RowIn W w.heap.size g ks => r.v) W g 0 m dk os := ⟨_, rfl⟩
  rw [← hW3] at hbl hbk ⊢
  have hx := Kd.R_step (w1 := W3) x.rep hbk
  have hy := Kd.R_step (w1 := W3) y.rep hbk
  obtain ⟨Ax, cx, ex, _, hxc⟩ := Kd.R_reads hx
  obtain ⟨Ay, cy, ey, _, hyc⟩ := Kd.R_reads hy
  have hc1 : ∀ b, b ≠ g → ∀ u, W.cell? ⟨b, 0, none⟩ = some u → W3.cell? ⟨b, 0, none⟩ = some u := fun b hb u hu => by
   have hlt := World.block_lt_of_cell? W _ hu
   rw [← hu]
   simp only [World.cell?, hbk b hb hlt]
  have h := arranged1_calls Ax cx x.l Ay cy y.l bb kb AK cK ks W3 hxc hyc (hc1 bb hbb _ hby) (hc1 kb hkb _ hcell) (Kd.C_below hks (hB.trans hbl)) x.good.keys y.good.keys (fun v hv => valid_kind (x.good.valid v hv)) hkn x.good.len y.good.len
  show Calls _ _ #[x.v, y.v, .pointer (some ⟨bb, 0, none⟩)] _ _
  rw [ex, ey]
  refine h.mono ?_
  rintro e w' ⟨he, q, os', hw'⟩
  exact ⟨he, q, os', hw'⟩
 have hcon := Any.slices_SortFunc sortRows (fun r : RowIn W w.heap.size g ks => r.v) h1 (fun x y => cmpFull ks x.l y.l) hO 82 #[.pointer (some ⟨bb, 0, none⟩)] g 0 cap dl.toArray W eg hcmp hH hg.2 (by simp; omega)
 have hsz : dl.toArray.size = l.length := by simp [hdl]
 rw [hsz] at hcon
 change Calls Tryz.prog 81 _ _ _ at hcon
 refine hcon.mono ?_
 rintro e w' ⟨rfl, d', n, os, hp, hs, rfl⟩
 have hbl := sortWorld_below (fun r : RowIn W w.heap.size g ks => r.v) W w.heap.size g 0 n d' os hg.1 hB.size
 have hbk := fun k h1 h2 => sortWorld_blk (fun r : RowIn W w.heap.size g ks => r.v) W g 0 n d' os k h1 h2
 refine ⟨rfl, ?_, hB.trans hbl⟩
 obtain ⟨hp1, _, hp2⟩ := hp
 have hd's : d'.size = l.length := by rw [hp1, hsz]
 have hperm : d'.toList.Perm dl := by
  rw [show l.length = d'.size from hd's.symm] at hp2
  rw [show dl.toArray.extract 0 d'.size = dl.toArray by rw [hp1]; exact Array.extract_size, Array.extract_size] at hp2
  simpa using hp2
 have hpl : (d'.toList.map (·.l)).Perm l := by rw [← hd1]; exact hperm.map _
 have hres : d'.toList.map (·.l) = sortR ks l := by
  refine sortR_unique (fun row hrow => (hG row hrow).valid) hpl ?_
  rw [List.pairwise_map, List.pairwise_iff_getElem]
  intro i j hi hj hij
  have h := hs i j (Nat.zero_le _) hij (by rw [← hd's]; simpa using hj)
  simp only [ltOf, decide_eq_false_iff_not] at h
  have hi : i < d'.size := by simpa using hi
  have hj : j < d'.size := by simpa using hj
  rw [getElem!_pos d' i hi, getElem!_pos d' j hj] at h
  have e := (cmpFull_ord ks).flip d'[i].l d'[j].l
  simp only [Array.getElem_toList]
  omega
 rw [← hres]
 have hl2 : l.length = (d'.toList.map (·.l)).length := by simp [hd's]
 have ho : (sortWorld (fun r : RowIn W w.heap.size g ks => r.v) W g 0 n d' os).ownsRow w.heap.size 53 1 (.slice (some ⟨g, 0, none⟩) d'.toList.length cap) d'.toList.length (d'.toList.map (·.v)) := by
  rcases hd2.2 with ⟨h, _⟩ | ⟨g', cap', cur, he, hb1, hblk, hc1, hc2, hc3, hc4⟩
  · cases h
  · injection he with he1 he2 he3
    injection he1 with he1
    injection he1 with he1
    subst he1 he3
    refine ⟨by simp, .inr ⟨g, cap, Sort.putCells (fun r : RowIn W w.heap.size g ks => r.v) 0 d' cur, rfl, hb1, ?_, ?_, hc2, ?_, ?_⟩⟩
    · unfold sortWorld Sort.grow Sort.putRow Sort.mapBlock
      show ((Array.modify _ g _) ++ os)[g]? = _
      rw [Array.getElem?_append_left (by simpa using hg.2), Array.getElem?_modify, if_pos rfl]
      change Option.map _ (W.heap[g]?) = _
      rw [hblk]
      rfl
    · simp [hd's]; omega
    · simp [Sort.putCells, hc3]
    · rw [Nat.mul_one, Array.length_toList]
      exact take_putV _ cur d' (by omega)
 refine ⟨d'.toList.map (·.v), ?_, RV_ofRowsIn ho hbk⟩
 rw [← hdv]
 exact hperm.map _
def ApartV (vs : List Value) : Prop := vs.Pairwise (fun a b => ∀ k, a.ownBlock = some k → ¬ b.ownBlock = some k)
theorem ApartV.perm {vs vs' : List Value} (h : ApartV vs) (hp : vs'.Perm vs) : ApartV vs' :=
 (hp.pairwise_iff (fun {a b} hab k hb ha => hab k ha hb)).2 h
theorem S_RV {W : World} {base g cap : Nat} {l : List (List V)} (hS : Kd.S kRow 53 W base (fun _ => True) (.slice (some ⟨g, 0, none⟩) l.length cap) l) : ∃ vs, RV W base g cap vs l ∧ ApartV vs := by
 obtain ⟨f, _, inner, ho, hr⟩ := hS
 rw [List.length_zipIdx] at ho
 have hil : inner.length = l.length := by
  have h := hr.1
  change inner.length = l.zipIdx.length * 1 at h
  rw [List.length_zipIdx] at h
  omega
 have key : ∀ (j : Nat) (hj : j < l.length) (hji : j < inner.length), Kd.R kV 36 W base (fun k => (True ∧ some k ≠ (Value.slice (some ⟨g, 0, none⟩) l.length cap).ownBlock) ∧ f k = j) inner[j] l[j] := by
  intro j hj hji
  have h := hr.2 j (l[j], j) (Kd.zip_at (List.getElem?_eq_getElem hj))
  obtain ⟨v', hv', hR⟩ := h
  have e : inner[j] = v' := by
   change (inner.drop (j * 1)).take 1 = [v'] at hv'
   rw [Nat.mul_one, List.drop_eq_getElem_cons hji, List.take_succ_cons, List.take_zero] at hv'
   injection hv'
  rw [e]
  exact hR
 refine ⟨inner, ⟨hil, ho, fun j v r hv hl => ?_⟩, ?_⟩
 · obtain ⟨hj, rfl⟩ := List.getElem?_eq_some_iff.1 hl
   obtain ⟨hji, rfl⟩ := List.getElem?_eq_some_iff.1 hv
   exact Kd.R_mono (key j hj hji) (fun k hk e => hk.1.2 (by rw [e]; rfl))
 · refine List.pairwise_iff_getElem.2 fun i j hi hj hij k h1 h2 => ?_
   have e1 := ((key i (by omega) hi).1 k h1).2
   have e2 := ((key j (by omega) hj).1 k h2).2
   omega
theorem RV_S {W : World} {base g cap : Nat} {vs : List Value} {l : List (List V)} (h : RV W base g cap vs l) (ha : ApartV vs) : Kd.S kRow 53 W base (fun _ => True) (.slice (some ⟨g, 0, none⟩) l.length cap) l := by
 obtain ⟨f, hr⟩ := Kd.reps_tag (d := kRow) (w := W) (base := base) (ok := fun k => True ∧ some k ≠ (Value.slice (some ⟨g, 0, none⟩) l.length cap).ownBlock) (xs := l) (inner := vs) (fun j k => k ≠ g ∧ ∃ v, vs[j]? = some v ∧ v.ownBlock = some k)
  (by
   rintro i j k ⟨_, a, ha1, ha2⟩ ⟨_, b, hb1, hb2⟩
   obtain ⟨hi, rfl⟩ := List.getElem?_eq_some_iff.1 ha1
   obtain ⟨hj, rfl⟩ := List.getElem?_eq_some_iff.1 hb1
   have hp := List.pairwise_iff_getElem.1 ha
   rcases Nat.lt_trichotomy i j with hij | hij | hij
   · exact (hp i j hi hj hij k ha2 hb2).elim
   · exact hij
   · exact (hp j i hj hi hij k hb2 ha2).elim)
  (fun j k hk => ⟨trivial, fun e => hk.1 (by injection e)⟩)
  (by rw [h.len]; exact (Nat.mul_one _).symm)
  (by
   intro j x hj
   obtain ⟨hjl, rfl⟩ := List.getElem?_eq_some_iff.1 hj
   have hjv : j < vs.length := by rw [h.len]; exact hjl
   refine ⟨vs[j], ?_, ?_⟩
   · change (vs.drop (j * 1)).take 1 = [vs[j]]
     rw [Nat.mul_one, List.drop_eq_getElem_cons hjv, List.take_succ_cons, List.take_zero]
   · have hR := h.rep j _ _ (List.getElem?_eq_getElem hjv) hj
     exact Kd.R_mono (Kd.R_tight rfl hR) (fun k hk => ⟨hR.1 k hk.symm, _, List.getElem?_eq_getElem hjv, hk.symm⟩))
 refine ⟨f, fun _ _ => trivial, vs, ?_, ?_⟩
 · rw [List.length_zipIdx]; exact h.own
 · exact hr
theorem sortFuncS_all (ks : List KeyT) (AK : Option Addr) (cK : Nat) (bb kb g cap : Nat) (l : List (List V)) (w W : World) (hR : Kd.S kRow 53 W w.heap.size (fun _ => True) (.slice (some ⟨g, 0, none⟩) l.length cap) l) (hB : Below w.heap.size w W)
 (hby : W.cell? ⟨bb, 0, none⟩ = some (.func (.func 90) #[] #[.pointer (some ⟨kb, 0, none⟩)])) (hcell : W.cell? ⟨kb, 0, none⟩ = some (.slice AK ks.length cK)) (hbb : bb ≠ g) (hkb : kb ≠ g) (hks : Kd.C kKey w AK ks.length ks) (hkn : ks.length ≤ 1099511627776)
 (hG : ∀ row ∈ l, RowGood ks row) (hn : l.length ≤ 1099511627776) :
 Calls Tryz.prog 81 #[.slice (some ⟨g, 0, none⟩) l.length cap, .func (.func 82) #[] #[.pointer (some ⟨bb, 0, none⟩)]] W fun e w' => e = .returned (.tuple #[]) ∧ Kd.S kRow 53 w' w.heap.size (fun _ => True) (.slice (some ⟨g, 0, none⟩) l.length cap) (sortR ks l) ∧ Below w.heap.size w w' := by
 cases l with
 | cons r rs =>
  obtain ⟨vs, hvs, hap⟩ := S_RV hR
  refine (sortFuncV_calls ks AK cK bb kb g cap vs (r :: rs) w W hvs hB hby hcell hbb hkb hks hkn hG hn (by simp)).mono ?_
  rintro e w' ⟨rfl, ⟨vs', hp, h⟩, hb⟩
  refine ⟨rfl, ?_, hb⟩
  have := RV_S h (hap.perm hp)
  rw [(sortR_perm ks (r :: rs)).length_eq] at this
  exact this
 | nil =>
  haveI : Inhabited Value := ⟨.bool true⟩
  have h := AnyF.slices_SortFunc_none { sortRows with } (some ⟨g, 0, none⟩) cap (.func (.func 82) #[] #[.pointer (some ⟨bb, 0, none⟩)]) W
  change Calls Tryz.prog 81 _ _ _ at h
  refine h.mono ?_
  rintro e w' ⟨rfl, rfl⟩
  have e0 : sortR ks [] = [] := by simp [sortR]
  rw [e0]
  exact ⟨rfl, hR, hB⟩
end Go.Proofs.YtecgkcgfeghhgaaGreatDoor.PAll
set_option linter.unusedVariables false
set_option linter.unusedSimpArgs false
namespace Go.Proofs.YtecgkcgfeghhgaaGreatDoor.PAll
open Go.RowKit Go.Proofs.YtecgkcgfeghhgaaGreatDoorW.PrintWords Go.Proofs.YtecgkcgfeghhgaaGreatDoorW.PrintLast Go.Proofs.YtecgkcgfeghhgaaGreatDoorW.PrintMore
theorem order_calls (A1 : Option Addr) (n c1 : Nat) (w : World) :
 Calls Tryz.prog 69 #[.slice A1 n c1] w fun e w' => e = .returned (.func (.func 90) #[] #[.pointer (some ⟨w.heap.size, 0, none⟩)]) ∧ ∃ t, w' = w.alloc (.cells #[.slice A1 n c1] t) := by
 go_enter Tryz.func69, Tryz.ntmps69
 go_wp2
 go_ret
 exact ⟨rfl, _, rfl⟩
theorem rowStep_valid : ∀ (ks : List Int) (r : List V) (ks' : List Int), rowStep ks r = some ks' → ∀ v ∈ r, validV v = true
 | [], [], _, _ => by simp
 | [], _ :: _, _, h => by simp [rowStep] at h
 | _ :: _, [], _, h => by simp [rowStep] at h
 | k :: ks, v :: vs, ks', h => by
  simp only [rowStep] at h
  split at h
  · rename_i hv
    cases hr : rowStep ks vs with
    | none => simp [hr] at h
    | some t =>
     intro u hu
     rcases List.mem_cons.1 hu with rfl | hu
     · exact hv.1
     · exact rowStep_valid ks vs t hr u hu
  · cases h
theorem validFrom_valid : ∀ (l : List (List V)) (ks : List Int), validFrom ks l = true → ∀ r ∈ l, (∀ v ∈ r, validV v = true) ∧ r.length = ks.length
 | [], _, _ => by simp
 | r :: rs, ks, h => by
  simp only [validFrom] at h
  cases hr : rowStep ks r with
  | none => simp [hr] at h
  | some t =>
   rw [hr] at h
   intro u hu
   have hl := rowStep_len ks r t hr
   rcases List.mem_cons.1 hu with rfl | hu
   · exact ⟨rowStep_valid ks u t hr, hl.2⟩
   · have := validFrom_valid rs t h u hu
     exact ⟨this.1, this.2.trans hl.1⟩
theorem validB_valid {l : List (List V)} (h : validB l = true) : ∀ r ∈ l, ∀ v ∈ r, validV v = true := by
 cases l with
 | nil => simp
 | cons r rs => exact fun u hu => (validFrom_valid (r :: rs) _ h u hu).1
theorem validB_len {r : List V} {rs : List (List V)} (h : validB (r :: rs) = true) : ∀ u ∈ r :: rs, u.length = r.length := fun u hu => by
 have := (validFrom_valid (r :: rs) _ h u hu).2
 simpa using this
theorem made_form {α : Type} {d : Kd α} {e base N : Nat} {ok : Nat → Prop} {W : World} {v : Value} {xs : List α} (h : d.R e W base ok v xs) (hn : ∃ b, v.ownBlock = some b ∧ N ≤ b) : ∃ g cap, v = .slice (some ⟨g, 0, none⟩) xs.length cap ∧ N ≤ g ∧ g < W.heap.size := by
 obtain ⟨b, hb, hN⟩ := hn
 obtain ⟨_, inner, ho, _⟩ := h
 have hlt := own_lt ho b hb
 rcases ho.2 with ⟨rfl, _⟩ | ⟨g, cap, cur, rfl, hg, hh, r⟩
 · simp [Value.ownBlock] at hb
 · have : g = b := by simpa [Value.ownBlock] using hb
   subst this
   exact ⟨g, cap, rfl, hN, hlt⟩
theorem S_V {w' : World} {base : Nat} {v : Value} {l : List (List V)} (h : Kd.S kRow 53 w' base (fun _ => True) v l) : Kd.V kRow 53 w' base (fun k_ => base ≤ k_) v l := Kd.R_V (Kd.R_mono (Kd.R_bound (Kd.S_R h)) (fun k hk => hk.2.1))
theorem arrangedS_calls (A0 : Option Addr) (c0 : Nat) (l0 : List (List V)) (A1 : Option Addr) (c1 : Nat) (l1 : List KeyT) (w : World) (hr0 : Kd.C kRow w A0 l0.length l0) (hr1 : Kd.C kKey w A1 l1.length l1) (hG : ∀ row ∈ l0, RowGood l1 row) (hn0 : l0.length ≤ 1099511627776) (hn1 : l1.length ≤ 1099511627776) :
 Calls Tryz.prog 48 #[.slice A0 l0.length c0, .slice A1 l1.length c1] w fun e w' => ∃ v, e = .returned v ∧ Kd.S kRow 53 w' w.heap.size (fun _ => True) v (sortR l1 l0) ∧ Below w.heap.size w w' := by
 have HR0 := Aside0.mk hr0
 have HR1 := Aside0.mk hr1
 have HG := Aside0.mk hG
 have HN0 := Aside0.mk hn0
 have HN1 := Aside0.mk hn1
 clear hr0 hr1 hG hn0 hn1
 go_enter Tryz.func48, Tryz.ntmps48
 go_wp2_with (first | ((with_reducible refine gate_dst (N := 11) rfl ?_); refine Kd.S_make kRow (w0 := w) w.heap.size 53 rfl (N := 11) rfl _ _ _ rfl (l0.length : Int) rfl rfl (by kernel_rfl) (.slice none 0 0) 24 infoRow rfl (by decide) (by decide) [] (ok := fun _ => True) (okp := fun _ => True) ⟨_, rfl, Kd.R_nil _ _ _ _ _⟩ (fun _ hk => hk) trivial (by omega) (by have := HN0.out; omega) (Below.refl _ _) (Nat.le_refl _) ?_; intro v1 w1 hR hb hg hnew; obtain ⟨g, cap, e1, hg1, hg2⟩ := made_form (Kd.S_R hR) hnew; subst e1; have HO := Aside0.mk hR; have HB := Aside0.mk hb; have HGE := Aside0.mk hg1; have HGL := Aside0.mk hg2; clear hR hb hg hnew hg1 hg2))
 rw [Int.toNat_natCast, List.length_replicate] at HO
 clear HGL
 go_loopg [14] l0.length (fun kq v14 W => ∃ x : Int, v14 = .int .i64 x ∧ Aside0 (0 ≤ x ∧ x ≤ l0.length ∧ (kq : Int) = l0.length - x) ∧ Aside0 (Kd.S kRow 53 W w.heap.size (fun _ => True) (.slice (some ⟨g, 0, none⟩) l0.length cap) (l0.take x.toNat ++ List.replicate (l0.length - x.toNat) [])) ∧ Aside0 (Below w.heap.size w W))
 case atStart => exact ⟨0, rfl, ⟨by omega⟩, ⟨by simpa using HO.out⟩, HB⟩
 case round =>
  clear HO HB
  obtain ⟨x, rfl, HX, HO, HB⟩ := hrel
  obtain ⟨hx0, hx1, hkq⟩ := HX.out
  by_cases hlt : x < (l0.length : Int)
  · have c1' : decide (x < (l0.length : Int)) = true := decide_eq_true hlt
    have c2 : decide (0 ≤ x) = true := decide_eq_true hx0
    obtain ⟨ad, Ar, cr, e, hx_0, hlc, hrow⟩ := at_L4 HR0.out x hx0 hlt
    cases e
    replace hx_0 := (HB.out.cell (World.block_lt_of_cell? w _ hx_0)).trans hx_0
    have hi : x.toNat < l0.length := by omega
    have hrd : rd_L4 l0 x = l0[x.toNat] := by simp [rd_L4, List.getElem?_eq_getElem hi]
    have HROW := Aside0.mk hrow
    have HLN := Aside0.mk (HG.out l0[x.toNat] (List.getElem_mem hi)).len
    rw [← hrd] at HLN
    obtain ⟨row, hrw⟩ : ∃ row, row = rd_L4 l0 x := ⟨_, rfl⟩
    have HRD : Aside0 (l0[x.toNat]? = some row) := ⟨by rw [hrw, hrd]; exact List.getElem?_eq_getElem hi⟩
    rw [← hrw] at hx_0 hlc HROW HLN
    have HLT := Aside0.mk hlt
    have HKQ := Aside0.mk hkq
    have HHI := Aside0.mk hi
    have HX0 := Aside0.mk hx0
    have HWR : Aside0 (wrap64 (x + 1) = x + 1) := ⟨by have := HN0.out; unfold wrap64; omega⟩
    clear hlc hrow hrd hrw hkq hi hx1
    go_wp2_with fail
    refine (clone_calls Ar cr row _ (Kd.C_below HROW.out HB.out) HLN.out).mono ?_
    rintro e w2 ⟨vv, rfl, hRv, hbv⟩
    obtain ⟨Av, cv, ev⟩ := Kd.R_slice hRv
    subst ev
    have hgw : g < wr.heap.size := Kd.S_lt HO.out g rfl
    have HB2 := Aside0.mk (below_step HB.out hbv)
    have HO2 := Aside0.mk (Kd.S_mono (Kd.S_old HO.out hbv) (ok' := fun k => True ∧ ¬ wr.heap.size ≤ k) (fun k hk => ⟨trivial, by have := hk.2; omega⟩))
    have HRV := Aside0.mk (Kd.R_mono (Kd.R_lower (Kd.R_bound hRv) HB.out.size) (ok' := fun k => wr.heap.size ≤ k) (fun k hk => hk.2.1))
    clear hRv hbv
    obtain ⟨oki, cc, hcl, _, hcc, hfr, _, hH⟩ := Kd.S_elem HO2.out ([] : List V) x HX0.out HLT.out
    obtain ⟨u0, rfl⟩ : ∃ u0, cc = [u0] := List.length_eq_one_iff.1 hcl
    have F0 : w2.cell? ⟨g, x.toNat, none⟩ = some u0 := by
     have h := hcc 0 u0 rfl
     change w2.cell? ⟨g, x.toNat * 1 + 0, none⟩ = some u0 at h
     rwa [Nat.mul_one, Nat.add_zero] at h
    have F1 : w2.frozen? ⟨g, x.toNat, none⟩ = false := by
     have h := hfr 0
     change w2.frozen? ⟨g, x.toNat * 1 + 0, none⟩ = false at h
     rwa [Nat.mul_one, Nat.add_zero] at h
    obtain ⟨hO3, hG3⟩ := Kd.S_seg (okg := fun k => wr.heap.size ≤ k) (okp := fun k => wr.heap.size ≤ k) (j := 0) (seg := [Value.slice Av row.length cv]) (x' := row) hH HX0.out HLT.out (Nat.le_refl 1) ⟨_, rfl, HRV.out⟩ (fun k hk => .inr hk) (fun k hk => ⟨trivial, by omega⟩)
    have e3 : w2.setCells g (x.toNat * kRow.sz + 0) [Value.slice Av row.length cv] = w2.setCell ⟨g, x.toNat, none⟩ (Value.slice Av row.length cv) := by
     change w2.setCells g (x.toNat * 1 + 0) _ = _
     rw [Nat.mul_one, Nat.add_zero]
     rfl
    rw [e3] at hO3 hG3
    have HO3 := Aside0.mk hO3
    have HB3 : Aside0 (Below w.heap.size w (w2.setCell ⟨g, x.toNat, none⟩ (Value.slice Av row.length cv))) := ⟨HB2.out.setCell HGE.out _⟩
    clear hcl hcc hfr hO3 hG3 e3 hH
    have HXX : Aside0 ((l0.take x.toNat ++ List.replicate (l0.length - x.toNat) []).set x.toNat row = l0.take (x + 1).toNat ++ List.replicate (l0.length - (x + 1).toNat) []) := ⟨by
     have hi := HHI.out
     have e1 : (x + 1).toNat = x.toNat + 1 := by have := HX0.out; omega
     have e2 : l0.length - x.toNat = (l0.length - (x.toNat + 1)) + 1 := by omega
     have e3 : l0[x.toNat] = row := by
      have := HRD.out
      rw [List.getElem?_eq_getElem hi] at this
      exact Option.some.inj this
     rw [e1, e2, List.replicate_succ, take_snoc _ _ hi, List.set_append_right _ _ (by rw [List.length_take]; omega), List.length_take, Nat.min_eq_left (by omega), Nat.sub_self, List.set_cons_zero, e3]
     simp⟩
    go_wp2
    have hlt := HLT.out
    have hk := HKQ.out
    cases gk with
    | zero => omega
    | succ k1 =>
     go_roundg k1
     case measure => omega
     case rel => exact ⟨x + 1, by rw [HWR.out], ⟨by omega⟩, ⟨by rw [← HXX.out]; exact HO3.out⟩, HB3⟩
  · have c1' : decide (x < (l0.length : Int)) = false := decide_eq_false hlt
    have hxn : x.toNat = l0.length := by omega
    have HO2 : Aside0 (Kd.S kRow 53 wr w.heap.size (fun _ => True) (.slice (some ⟨g, 0, none⟩) l0.length cap) l0) := ⟨by
     have h := HO.out
     rw [hxn, List.take_length, Nat.sub_self, List.replicate_zero, List.append_nil] at h
     exact h⟩
    clear hlt hxn hkq hx0 hx1
    go_wp2_with fail
    refine (order_calls A1 l1.length c1 wr).mono ?_
    rintro e w2 ⟨rfl, t2, hw2⟩
    have HW2 := Aside0.mk hw2
    clear hw2
    have hst : ∀ (a : Addr) (m : Mode) (W : World), Sem.run Tryz.prog (store a (.func (.func 90) #[] #[.pointer (some ⟨wr.heap.size, 0, none⟩)]) m) W = stored Tryz.prog W a (.func (.func 90) #[] #[.pointer (some ⟨wr.heap.size, 0, none⟩)]) m := fun a m W => run_store _ W a _ m rfl
    go_wp2_with fail
    have hB2 : Below w.heap.size w w2 := by rw [HW2.out]; exact HB.out.alloc HB.out.size _
    have hgw : g < wr.heap.size := Kd.S_lt HO2.out g rfl
    have hw2s : w2.heap.size = wr.heap.size + 1 := by rw [HW2.out]; simp
    have D0 : w2.cell? ⟨wr.heap.size, 0, none⟩ = some (.slice A1 l1.length c1) := by rw [HW2.out]; exact (blk_cell (heap_alloc_new _ _) 0).trans rfl
    refine (sortFuncS_all l1 A1 c1 w2.heap.size wr.heap.size g cap l0 w _ (Kd.S_alloc (by rw [HW2.out]; exact Kd.S_alloc HO2.out _) _) (hB2.alloc hB2.size _) ((blk_cell (heap_alloc_new _ _) 0).trans rfl) ((Below.refl w2.heap.size w2).alloc (Nat.le_refl _) _ |>.cell (World.block_lt_of_cell? w2 _ D0) |>.trans D0) (by omega) (by omega) HR1.out HN1.out HG.out HN0.out).mono ?_
    rintro e w3 ⟨rfl, hR3, hB3⟩
    have HR3 := Aside0.mk hR3
    have HB3 := Aside0.mk hB3
    clear hR3 hB3 hB2 hgw hw2s D0
    go_wp2
    go_ret
    refine ⟨_, rfl, ?_, HB3.out⟩
    exact HR3.out
theorem arranged_calls (A0 : Option Addr) (c0 : Nat) (l0 : List (List V)) (A1 : Option Addr) (c1 : Nat) (l1 : List KeyT) (w : World) (hr0 : Kd.C kRow w A0 l0.length l0) (hr1 : Kd.C kKey w A1 l1.length l1) (hG : ∀ row ∈ l0, RowGood l1 row) (hn0 : l0.length ≤ 1099511627776) (hn1 : l1.length ≤ 1099511627776) :
 Calls Tryz.prog 48 #[.slice A0 l0.length c0, .slice A1 l1.length c1] w fun e w' => ∃ v, e = .returned v ∧ Kd.R kRow 53 w' w.heap.size (fun _ => True) v (sortR l1 l0) ∧ Below w.heap.size w w' := by
 refine (arrangedS_calls A0 c0 l0 A1 c1 l1 w hr0 hr1 hG hn0 hn1).mono ?_
 rintro e w' ⟨v, rfl, hS, hB⟩
 exact ⟨v, rfl, Kd.S_R hS, hB⟩
end Go.Proofs.YtecgkcgfeghhgaaGreatDoor.PAll
set_option linter.unusedVariables false
set_option linter.unusedSimpArgs false
namespace Go.Proofs.YtecgkcgfeghhgaaGreatDoor.PAll
open Go.RowKit Go.Proofs.YtecgkcgfeghhgaaGreatDoorW.PrintWords Go.Proofs.YtecgkcgfeghhgaaGreatDoorW.PrintLast Go.Proofs.YtecgkcgfeghhgaaGreatDoorW.PrintMore
open Go.Shelf Go.Lib
structure Rel1G (α : Type) where
 r : α → List Value → Prop
 len : ∀ {x cs}, r x cs → cs.length = 1
 one : ∀ {x cs}, r x cs → ∀ u ∈ cs, u.oneCell' = true
abbrev Rel1 := Rel1G (List V)
def Rel1G.kd {α : Type} (R : Rel1G α) : Kd α where
 sz := 1
 E := []
 K := fun _ x cs => R.r x cs
 M := fun _ _ _ x cs => R.r x cs
 K_len := R.len
 K_one := R.one
 K_below := fun _ h => h
 K_of_M := fun h => h
 M_mono := fun _ h => h
 M_bound := fun h => h
 M_move := fun _ h => h
 M_lower := fun _ h => h
def relK (w : World) : Rel1 := ⟨fun x cs => kRow.K w x cs, fun h => kRow.K_len h, fun h => kRow.K_one h⟩
theorem relK_C {w W : World} {A : Option Addr} {n : Nat} {xs : List (List V)} (h : (relK w).kd.C W A n xs) (hb : Below w.heap.size w W) : kRow.C W A n xs :=
 ReadsRow.imp_ h (Below.refl _ _) (fun _ _ hp => kRow.K_below hb hp)
theorem C_relK {w : World} {A : Option Addr} {n : Nat} {xs : List (List V)} (h : kRow.C w A n xs) : (relK w).kd.C w A n xs := h
def relT (f : Nat → Nat) (w : World) (base : Nat) : Rel1G (List V × Nat) := ⟨fun x cs => (Kd.tag f kRow).M w base (fun k => k < w.heap.size) x cs, fun h => (Kd.tag f kRow).K_len ((Kd.tag f kRow).K_of_M h), fun h => (Kd.tag f kRow).K_one ((Kd.tag f kRow).K_of_M h)⟩
theorem C_relT {w : World} {base : Nat} {e : Nat} {A : Option Addr} {n c : Nat} {xs : List (List V)} (h : Kd.S kRow e w base (fun _ => True) (.slice A n c) xs) : ∃ f, (relT f w base).kd.C w A n xs.zipIdx := by
 obtain ⟨f, h⟩ := h
 obtain ⟨A', c', he, hl, hr⟩ := OwnRow.reads h.2
 injection he with h1 h2 h3
 subst h1 h2 h3
 exact ⟨f, ReadsRow.imp_ hr (Below.refl _ _) (fun _ _ hp => (Kd.tag f kRow).M_mono (fun k hk => hk.2.2.1) ((Kd.tag f kRow).M_bound hp))⟩
theorem zip_take {α : Type} (xs : List α) (m : Nat) : (xs.take m).zipIdx = xs.zipIdx.take m := by
 apply List.ext_getElem?
 intro j
 simp only [List.getElem?_zipIdx, List.getElem?_take, Nat.zero_add]
 split <;> simp
theorem S_dropped {α : Type} {d : Kd α} {e base : Nat} {w : World} {ok : Nat → Prop} {v : Value} {f : Nat → Nat} {a : Nat} {xs : List α} (h : (Kd.tag f d).R e w base ok v (xs.zipIdx.drop a)) : Kd.S d e w base ok v (xs.drop a) := by
 obtain ⟨h0, inner, ho, hr⟩ := h
 have hl : (xs.zipIdx.drop a).length = (xs.drop a).length := by simp
 rw [hl] at ho
 refine ⟨fun k => f k - a, h0, inner, by rw [List.length_zipIdx]; exact ho, by rw [List.length_zipIdx, ← hl]; exact hr.1, fun j p hj => ?_⟩
 rw [List.getElem?_zipIdx, Nat.zero_add] at hj
 obtain ⟨x, hx, rfl⟩ := Option.map_eq_some_iff.1 hj
 rw [List.getElem?_drop] at hx
 refine d.M_mono (fun b hb => ⟨hb.1, ?_⟩) (hr.2 j (x, a + j) (by rw [List.getElem?_drop]; exact Kd.zip_at hx))
 have h2 : f b = a + j := hb.2
 show f b - a = j
 omega
theorem S_relT {f : Nat → Nat} {w W : World} {base b e m a : Nat} {v : Value} {xs : List (List V)} (h : (relT f w base).kd.R e W b (fun _ => True) v ((xs.zipIdx.take m).drop a)) (hb : Below w.heap.size w W) (hbb : base ≤ b) (hwb : w.heap.size ≤ b) : Kd.S kRow e W base (fun _ => True) v ((xs.take m).drop a) := by
 rw [← zip_take] at h
 refine S_dropped (f := f) ?_
 obtain ⟨h0, inner, ho, hr⟩ := h
 refine ⟨fun _ _ => trivial, inner, own_weaken ho hbb, ?_⟩
 exact hr.imp_ (fun _ _ hp => (Kd.tag f kRow).M_mono (fun k hk => ⟨trivial, fun e => by have := own_base ho k e.symm; omega⟩) (Kd.M_step hp (fun k hk _ => hb.block k hk)))
theorem cloneRows_calls {α : Type} (Rr : Rel1G α) (A0 : Option Addr) (n c0 : Nat) (l0 : List α) (w : World) (hr0 : Rr.kd.C w A0 n l0) (hn : l0.length ≤ 2199023255552) :
 Calls Tryz.prog 49 #[.slice A0 n c0] w fun e w' => ∃ v : Value, e = .returned v ∧ Rr.kd.R 53 w' w.heap.size (fun _ => True) v l0 ∧ Below w.heap.size w w' := by
 have qT : ∀ (w : World) (a : Option Addr) (n c n' c' : Nat), (binOp .eql 22 (.slice a n c) (.slice none n' c')).run Tryz.prog w = .ok (.bool a.isNone) w := fun w a n c n' c' => Lib.run_eql_slice_nil w _ _ a n c n' c' Tryz.underlying22
 have hln : l0.length = n := hr0.1
 subst hln
 have HR0 := Aside0.mk hr0
 have HN := Aside0.mk hn
 clear hr0 hn
 cases A0 with
 | none =>
  have hl : l0 = [] := by
   rcases Nat.eq_zero_or_pos l0.length with h | h
   · exact List.eq_nil_of_length_eq_zero h
   · obtain ⟨ad, h2, _⟩ := HR0.out.2.2 h
     cases h2
  have HL := Aside0.mk hl
  clear hl
  go_enter Tryz.func49, Tryz.ntmps49
  go_wp2
  go_ret
  refine ⟨_, rfl, ?_, Below.refl _ _⟩
  rw [HL.out]
  exact Kd.R_nil _ _ _ _ _
 | some ad =>
  go_enter Tryz.func49, Tryz.ntmps49
  have HO : Aside0 (Kd.R Rr.kd 53 (w.alloc (.cells #[] 53)) w.heap.size (fun _ => True) (.slice (some ⟨w.heap.size, 0, none⟩) 0 0) []) := ⟨R_empty Rr.kd 53 w⟩
  have HB := Aside0.mk ((Below.refl w.heap.size w).alloc (Nat.le_refl _) (.cells #[] 53))
  have HR1 := Aside0.mk (Kd.C_below HR0.out HB.out)
  go_wp2_with (at_builtin; refine Kd.R_append_rows Rr.kd (w0 := w) w.heap.size rfl (.tmp 5) (.tmp 6) 22 53 (.slice none 0 0) 24 rfl Tryz.underlying22 infoRow rfl (Nat.le_refl 1) (by decide) _ [] l0 (some ad) l0.length c0 (fun _ => True) (fun _ => False) rfl rfl HO.out HR1.out (fun x cs h => h) (fun _ h => h.elim) (fun _ _ => trivial) HB.out HB.out.size (by have := HN.out; simp; omega) ?_; intro v1 w1 hR hb hg hat; have HO1 := Aside0.mk hR; have HB1 := Aside0.mk hb; clear hR hb hg hat)
  go_wp2
  go_ret
  exact ⟨_, rfl, HO1.out, HB1.out⟩
theorem growRows_calls (Rr : Rel1) (n : Nat) (w : World) (hn : n ≤ 2199023255552) :
 Calls Tryz.prog 107 #[.slice none 0 0, .int .i64 n] w fun e w' => ∃ v : Value, e = .returned v ∧ Rr.kd.R 53 w' w.heap.size (fun _ => True) v [] ∧ Below w.heap.size w w' := by
 rcases Nat.eq_zero_or_pos n with h | h
 · subst h
   have h := Any8.slices_Grow_room growRows none 0 0 0 w (Nat.le_refl _) (by omega) (by omega) (Nat.le_refl _)
   change Calls Tryz.prog 107 _ _ _ at h
   refine h.mono ?_
   rintro e w' ⟨rfl, rfl⟩
   exact ⟨_, rfl, Kd.R_nil _ _ _ _ _, Below.refl _ _⟩
 · obtain ⟨i0, hi, hzz⟩ := Option.map_eq_some_iff.1 infoRow
   simp only [Prod.mk.injEq] at hzz
   obtain ⟨hz0, hz1, hz2⟩ := hzz
   have h := Any8.slices_Grow_grow growRows i0 (.slice none 0 0) hi hz0 (by omega) none 0 0 n [] w (Nat.le_refl _) (by omega) (by rw [hz2]; omega) (by omega) (by simp) (fun _ => rfl) (fun a h => by cases h)
   change Calls Tryz.prog 107 _ _ _ at h
   refine h.mono ?_
   rintro e w' ⟨rfl, rfl⟩
   obtain ⟨G, hG⟩ : ∃ G, G = grownCap w (0 + n) 0 53 := ⟨_, rfl⟩
   have hGn : 0 + n ≤ G := by rw [hG]; exact grownCap_ge w _ _ _
   have hG63 : G ≤ maxLen := by
    rw [hG]
    exact grownCap_le_maxLen w (0 + n) 0 53 (by unfold maxLen; omega)
   refine ⟨_, rfl, ⟨fun _ _ => trivial, [], ?_, Reps.none _ _⟩, ((Below.refl w.heap.size w).drew).alloc (Nat.le_refl _) _⟩
   have h := World.ownsRow_made (base := w.heap.size) (e := 53) (size := 1) w.drew (([] : List Value).toArray ++ Builtin.zeroCells (Value.slice none 0 0).cells (0 + n - 0) ++ Builtin.zeroCells (Value.slice none 0 0).cells (G - (0 + n))) G (Nat.le_refl _) hG63 (by
    simp [Builtin.zeroCells, Value.cells]
    omega)
   rw [hG] at h
   exact h
end Go.Proofs.YtecgkcgfeghhgaaGreatDoor.PAll
set_option linter.unusedVariables false
set_option linter.unusedSimpArgs false
namespace Go.Proofs.YtecgkcgfeghhgaaGreatDoor.PAll
open Go.RowKit Go.Proofs.YtecgkcgfeghhgaaGreatDoorW.PrintWords Go.Proofs.YtecgkcgfeghhgaaGreatDoorW.PrintLast Go.Proofs.YtecgkcgfeghhgaaGreatDoorW.PrintMore
theorem concat_calls (Rr : Rel1) (b : Nat) (A0 : Option Addr) (c0 : Nat) (l0 : List (List V)) (A1 : Option Addr) (c1 : Nat) (l1 : List (List V)) (w : World) (hr0 : Rr.kd.C w A0 l0.length l0) (hr1 : Rr.kd.C w A1 l1.length l1) (h0 : w.cell? ⟨b, 0, none⟩ = some (.slice A0 l0.length c0)) (h1 : w.cell? ⟨b, 1, none⟩ = some (.slice A1 l1.length c1)) (hn0 : l0.length ≤ 1099511627776) (hn1 : l1.length ≤ 1099511627776) :
 Calls Tryz.prog 92 #[.slice (some ⟨b, 0, none⟩) 2 2] w fun e w' => ∃ v : Value, e = .returned v ∧ Rr.kd.R 53 w' w.heap.size (fun _ => True) v (l0 ++ l1) ∧ Below w.heap.size w w' := by
 have HR0 := Aside0.mk hr0
 have HR1 := Aside0.mk hr1
 have H0 := Aside0.mk h0
 have H1 := Aside0.mk h1
 have HN0 := Aside0.mk hn0
 have HN1 := Aside0.mk hn1
 clear hr0 hr1 h0 h1 hn0 hn1
 go_enter Tryz.func92, Tryz.ntmps92
 go_wp2
 go_loopg [11, 3] 2 (fun kq v11 v3 W => ∃ x s : Int, v11 = .int .i64 x ∧ v3 = .int .i64 s ∧ Aside0 ((kq : Int) = 2 - x ∧ (x = 0 ∧ s = 0 ∨ x = 1 ∧ s = l0.length ∨ x = 2 ∧ s = (l0.length + l1.length : Nat))) ∧ Aside0 (W = w))
 case atStart => exact ⟨0, 0, rfl, rfl, ⟨by omega⟩, ⟨rfl⟩⟩
 case round =>
  obtain ⟨x, s, rfl, rfl, HX, HW⟩ := hrel
  obtain ⟨hk, hx⟩ := HX.out
  have hn0 := HN0.out
  have hn1 := HN1.out
  by_cases hlt : x < 2
  · obtain ⟨A, n, c, hcell, hnx, hnn⟩ : ∃ A n c, wr.cell? ⟨b, x.toNat, none⟩ = some (.slice A n c) ∧ (x + 1 = 1 ∧ s + n = l0.length ∨ x + 1 = 2 ∧ s + n = (l0.length + l1.length : Nat)) ∧ 0 ≤ s ∧ s + n ≤ 4398046511104 := by
     rcases hx with ⟨rfl, rfl⟩ | ⟨rfl, rfl⟩ | ⟨rfl, rfl⟩
     · exact ⟨A0, l0.length, c0, by rw [HW.out]; exact H0.out, by omega, by omega⟩
     · exact ⟨A1, l1.length, c1, by rw [HW.out]; exact H1.out, by omega, by omega⟩
     · omega
    have HNX := Aside0.mk hnx
    have HNN := Aside0.mk hnn
    have HK := Aside0.mk hk
    have c1' : decide (x < 2) = true := decide_eq_true hlt
    have hx0 : 0 ≤ x := by omega
    have HWR : Aside0 (wrap64 (s + n) = s + n) := ⟨by unfold wrap64; omega⟩
    have c3 : decide (wrap64 (s + n) < 0) = false := decide_eq_false (by rw [HWR.out]; omega)
    have HWX : Aside0 (wrap64 (x + 1) = x + 1) := ⟨by unfold wrap64; omega⟩
    clear hnx hnn hk hx hn0 hn1
    go_wp2
    have hk := HK.out
    cases gk with
    | zero => omega
    | succ k1 =>
     go_roundg k1
     case measure => omega
     case rel => exact ⟨x + 1, s + n, by first | rfl | rw [HWX.out], by first | rfl | rw [HWR.out], ⟨by have := HNX.out; omega⟩, HW⟩
  · have hs : s = (l0.length + l1.length : Nat) := by omega
    subst hs
    have c1' : decide (x < 2) = false := decide_eq_false hlt
    have hW := HW.out.symm
    subst hW
    clear HW hx hk hlt hn0 hn1 HX
    go_wp2_with fail
    refine (growRows_calls Rr (l0.length + l1.length) w (by have := HN0.out; have := HN1.out; omega)).mono ?_
    rintro e w1 ⟨v1, rfl, hR1, hB1⟩
    have HR2 := Aside0.mk hR1
    have HB1 := Aside0.mk hB1
    clear hR1 hB1
    go_wp2
    go_loopg [27, 6] 2 (fun kq v27 v6 W => ∃ x : Int, v27 = .int .i64 x ∧ Aside0 ((kq : Int) = 2 - x ∧ 0 ≤ x) ∧ Aside0 (Rr.kd.R 53 W w.heap.size (fun _ => True) v6 (if x = 0 then [] else if x = 1 then l0 else l0 ++ l1)) ∧ Aside0 (Below w.heap.size w W))
    case atStart => exact ⟨0, rfl, ⟨by omega⟩, ⟨by rw [if_pos rfl]; exact HR2.out⟩, HB1⟩
    case round =>
     clear HR2 HB1
     obtain ⟨x, rfl, HX, HO, HB⟩ := hrel
     obtain ⟨hk, hx⟩ := HX.out
     have hn0 := HN0.out
     have hn1 := HN1.out
     by_cases hlt : x < 2
     · obtain ⟨A, n, c, ls, hcell, hC, hls, hnx⟩ : ∃ A n c ls, wr.cell? ⟨b, x.toNat, none⟩ = some (.slice A n c) ∧ Rr.kd.C wr A n ls ∧ (n ≤ 1099511627776 ∧ (if x = 0 then [] else if x = 1 then l0 else l0 ++ l1).length ≤ 1099511627776) ∧ (if x = 0 then [] else if x = 1 then l0 else l0 ++ l1) ++ ls = (if x + 1 = 0 then [] else if x + 1 = 1 then l0 else l0 ++ l1) := by
        by_cases h0 : x = 0
        · subst h0
          exact ⟨A0, l0.length, c0, l0, (HB.out.cell (World.block_lt_of_cell? w _ H0.out)).trans H0.out, Kd.C_below HR0.out HB.out, by simp; omega, by simp⟩
        · have h1 : x = 1 := by omega
          subst h1
          exact ⟨A1, l1.length, c1, l1, (HB.out.cell (World.block_lt_of_cell? w _ H1.out)).trans H1.out, Kd.C_below HR1.out HB.out, by simp; omega, by simp⟩
       obtain ⟨cur, hcur⟩ : ∃ cur, cur = (if x = 0 then [] else if x = 1 then l0 else l0 ++ l1) := ⟨_, rfl⟩
       rw [← hcur] at HO hls hnx
       have HLS := Aside0.mk hls
       have HNX := Aside0.mk hnx
       have HC := Aside0.mk hC
       have HK := Aside0.mk hk
       have c1' : decide (x < 2) = true := decide_eq_true hlt
       have HWX : Aside0 (wrap64 (x + 1) = x + 1) := ⟨by unfold wrap64; omega⟩
       clear hls hnx hk hn0 hn1 hC hcur
       go_wp2_with (at_builtin; refine Kd.R_append_rows Rr.kd (w0 := w) w.heap.size rfl (.tmp 31) (.tmp 32) 22 53 (.slice none 0 0) 24 rfl Tryz.underlying22 infoRow rfl (Nat.le_refl 1) (by decide) _ cur ls A n c (fun _ => True) (fun _ => False) rfl rfl HO.out HC.out (fun x cs h => h) (fun _ h => h.elim) (fun _ _ => trivial) HB.out HB.out.size (by have := HLS.out; omega) ?_; intro v1 w1 hR hb hg hat; have HO1 := Aside0.mk hR; have HB1 := Aside0.mk hb; clear hR hb hg hat)
       have hk := HK.out
       cases gk with
       | zero => omega
       | succ k1 =>
        go_roundg k1
        case measure => omega
        case rel => exact ⟨x + 1, by first | rfl | rw [HWX.out], ⟨by omega⟩, ⟨by rw [← HNX.out]; exact HO1.out⟩, HB1⟩
     · have c1' : decide (x < 2) = false := decide_eq_false hlt
       go_wp2
       go_ret
       refine ⟨_, rfl, ?_, HB.out⟩
       have h := HO.out
       rw [if_neg (by omega), if_neg (by omega)] at h
       exact h
theorem both_calls (A0 : Option Addr) (c0 : Nat) (l0 : List (List V)) (A1 : Option Addr) (c1 : Nat) (l1 : List (List V)) (l : List (List V)) (hl : l = l0 ++ l1) (w : World) (hr0 : Kd.C kRow w A0 l0.length l0) (hr1 : Kd.C kRow w A1 l1.length l1) (hv : RowsV l) :
 Calls Tryz.prog 71 #[.slice A0 l0.length c0, .slice A1 l1.length c1] w fun e w' => ∃ v : Value, e = .returned (.tuple #[v, .bool (validB l)]) ∧ (relK w).kd.R 53 w' w.heap.size (fun _ => True) v l ∧ Below w.heap.size w w' := by
 obtain ⟨k, hk⟩ := (valid_ev l hv).rounds
 have hlen := hv.2
 rw [hl, List.length_append] at hlen
 have HLL := Aside0.mk hl
 have HK := Aside0.mk hk
 have HL := Aside0.mk hlen
 have HR0 := Aside0.mk hr0
 have HR1 := Aside0.mk hr1
 clear hk hr0 hr1 hv hlen hl
 go_enter Tryz.func71, Tryz.ntmps71
 go_wp2_with fail
 have B1 : Below w.heap.size w (w.alloc (.cells #[.slice A0 l0.length c0, .slice A1 l1.length c1] 22)) := (Below.refl w.heap.size w).alloc (Nat.le_refl _) _
 refine (concat_calls (relK w) w.heap.size A0 c0 l0 A1 c1 l1 _ (Kd.C_below (C_relK HR0.out) B1) (Kd.C_below (C_relK HR1.out) B1) ((blk_cell (heap_alloc_new _ _) 0).trans rfl) ((blk_cell (heap_alloc_new _ _) 1).trans rfl) (by have := HL.out; omega) (by have := HL.out; omega)).mono ?_
 rintro e w1 ⟨v1, rfl, hR1, hb1⟩
 rw [← HLL.out] at hR1
 have HO := Aside0.mk (Kd.R_lower hR1 B1.size)
 have HB := Aside0.mk (B1.trans (hb1.mono B1.size))
 clear hR1 hb1 B1
 obtain ⟨Av, cv, ev, hlc, hC⟩ := Kd.R_reads HO.out
 subst ev
 have HC := Aside0.mk (relK_C hC HB.out)
 have HLC := Aside0.mk hlc
 clear hC hlc
 go_wp2_with fail
 refine (bag_Valid.calls k _ _ l (validB l) _ HC.out HLC.out HK.out).mono ?_
 rintro e w2 ⟨rfl, hb2⟩
 have HO2 := Aside0.mk (Kd.R_below HO.out hb2)
 have HB2 := Aside0.mk (HB.out.trans (hb2.mono HB.out.size))
 clear hb2
 go_wp2
 go_ret2
 exact ⟨_, rfl, HO2.out, HB2.out⟩
open Classical in
noncomputable def bag_Union.f (l0 l1 : List (List V)) : Option (List (List V) × Int) := if RowsV (l0 ++ l1) then some (if validB (l0 ++ l1) = true then (sortR [] (l0 ++ l1), 0) else ([], 1)) else none
theorem bag_Union.callsS (A0 : Option Addr) (c0 : Nat) (l0 : List (List V)) (A1 : Option Addr) (c1 : Nat) (l1 : List (List V)) (r1 : List (List V)) (r2 : Int) (w : World) (hr0 : Kd.C kRow w A0 l0.length l0) (hc0 : l0.length ≤ c0) (hr1 : Kd.C kRow w A1 l1.length l1) (hc1 : l1.length ≤ c1) (h : bag_Union.f l0 l1 = some (r1, r2)) :
 Calls Tryz.prog 33 #[.slice A0 l0.length c0, .slice A1 l1.length c1] w fun e w' => ∃ v0_ : Value, e = .returned (.tuple #[v0_, .int .i64 r2]) ∧ Kd.S kRow 53 w' w.heap.size (fun _ => True) v0_ r1 ∧ Below w.heap.size w w' := by
 unfold bag_Union.f at h
 split at h
 case isFalse => cases h
 rename_i hv
 have H := Aside0.mk (Option.some.inj h)
 have HV := Aside0.mk hv
 have HBo := Aside0.mk (both_calls A0 c0 l0 A1 c1 l1 _ rfl w hr0 hr1 hv)
 clear h hv hr0 hr1 hc0 hc1
 obtain ⟨l, hl⟩ : ∃ l, l = l0 ++ l1 := ⟨_, rfl⟩
 rw [← hl] at H HV HBo
 clear hl
 cases hq : validB l with
 | true =>
  have HQ := Aside0.mk hq
  rw [hq, if_pos rfl] at H
  rw [hq] at HBo
  clear hq
  go_enter Tryz.func33, Tryz.ntmps33
  go_wp2_with fail
  refine HBo.out.mono ?_
  rintro e w1 ⟨v1, rfl, hR1, hb1⟩
  have HB := Aside0.mk hb1
  obtain ⟨Av, cv, ev, hlc, hC⟩ := Kd.R_reads hR1
  subst ev
  have HC := Aside0.mk (relK_C hC hb1)
  clear hC hlc hR1 hb1
  go_wp2_with fail
  refine (arrangedS_calls Av cv l none 0 [] w1 HC.out (Kd.C_nil _ _) (fun row hrow => ⟨validB_valid HQ.out row hrow, (by intro k hk; cases hk), (HV.out.1 row hrow).2⟩) HV.out.2 (by simp)).mono ?_
  rintro e w2 ⟨v2, rfl, hR2, hb2⟩
  have HR2 := Aside0.mk hR2
  have HB2 := Aside0.mk (HB.out.trans (hb2.mono HB.out.size))
  have HS := Aside0.mk HB.out.size
  clear hR2 hb2
  go_wp2
  go_ret2
  obtain ⟨e1, e2⟩ := Prod.mk.inj H.out
  refine ⟨v2, by rw [← e2]; rfl, ?_, HB2.out⟩
  rw [← e1]
  exact Kd.S_lower HR2.out HS.out
 | false =>
  rw [hq, if_neg (by simp)] at H
  rw [hq] at HBo
  clear hq
  go_enter Tryz.func33, Tryz.ntmps33
  go_wp2_with fail
  refine HBo.out.mono ?_
  rintro e w1 ⟨v1, rfl, hR1, hb1⟩
  have HB := Aside0.mk hb1
  clear hR1 hb1
  go_wp2
  go_ret2
  obtain ⟨e1, e2⟩ := Prod.mk.inj H.out
  refine ⟨.slice none 0 0, by rw [← e2]; rfl, ?_, HB.out⟩
  rw [← e1]
  exact Kd.S_nil _ _ _ _ _
open Classical in
noncomputable def distR : List ByteArray → List (List V) → List (List V)
 | _, [] => []
 | seen, r :: rs => if nameOf r ∈ seen then distR seen rs else r :: distR (nameOf r :: seen) rs
theorem distR_mem : ∀ (l : List (List V)) (seen : List ByteArray) (r : List V), r ∈ distR seen l → r ∈ l
 | [], _, _, h => by simp [distR] at h
 | a :: l, seen, r, h => by
  simp only [distR] at h
  split at h
  · exact List.mem_cons_of_mem _ (distR_mem l seen r h)
  · rcases List.mem_cons.1 h with rfl | h
    · exact List.mem_cons_self
    · exact List.mem_cons_of_mem _ (distR_mem l _ r h)
theorem distR_len : ∀ (l : List (List V)) (seen : List ByteArray), (distR seen l).length ≤ l.length
 | [], _ => by simp [distR]
 | a :: l, seen => by
  simp only [distR]
  split
  · have := distR_len l seen; simp; omega
  · have := distR_len l (nameOf a :: seen); simp; omega
theorem get_bool {kv : List (ByteArray × Bool)} {s : ByteArray} {c : Bool} (h : (KV.get kv s).getD false = c) : ((KV.get kv s).map Value.bool).getD (.bool false) = .bool c := by
 subst h
 cases KV.get kv s <;> rfl
theorem zeroBool (w : World) : (zeroValue 4).run Tryz.prog w = .ok (.bool false) w := by kernel_rfl
open Classical in
noncomputable def bag_Distinct.f (l0 : List (List V)) : Option (List (List V) × Int) := if RowsOk l0 then some (if validB l0 = true then (sortR [] (distR [] l0), 0) else ([], 1)) else none
open Classical in
theorem bag_Distinct.callsS (A0 : Option Addr) (c0 : Nat) (l0 : List (List V)) (r1 : List (List V)) (r2 : Int) (w : World) (hr0 : Kd.C kRow w A0 l0.length l0) (hc0 : l0.length ≤ c0) (hT : LaidT w) (h : bag_Distinct.f l0 = some (r1, r2)) :
 Calls Tryz.prog 31 #[.slice A0 l0.length c0] w fun e w' => ∃ v0_ : Value, e = .returned (.tuple #[v0_, .int .i64 r2]) ∧ Kd.S kRow 53 w' w.heap.size (fun _ => True) v0_ r1 ∧ Below w.heap.size w w' := by
 unfold bag_Distinct.f at h
 split at h
 case isFalse => cases h
 rename_i hok
 obtain ⟨k, hk⟩ := (valid_ev l0 hok.v).rounds
 have hmm : ∀ (n : Int) (w : World), (Instr.makeMap 78 (some (.int .i64 n))).run Tryz.prog w = .ok (.map (some w.heap.size)) (w.alloc (.map #[] 0)) := fun _ _ => by kernel_rfl
 have H := Aside0.mk (Option.some.inj h)
 have HOK := Aside0.mk hok
 have HK := Aside0.mk hk
 have HT := Aside0.mk hT
 have HR0 := Aside0.mk hr0
 have HC0 := Aside0.mk hc0
 clear h hok hk hT hr0 hc0
 cases hq : validB l0 with
 | false =>
  rw [hq, if_neg (by simp)] at H
  rw [hq] at HK
  clear hq
  go_enter Tryz.func31, Tryz.ntmps31
  go_wp2_with fail
  go_step3
  go_wp2_with fail
  refine (bag_Valid.calls k _ _ l0 false _ HR0.out HC0.out HK.out).mono ?_
  rintro e w1 ⟨rfl, hb1⟩
  have HB := Aside0.mk hb1
  clear hb1
  go_wp2
  rw [Exit.noGoto_ret]
  go_ret2
  obtain ⟨e1, e2⟩ := Prod.mk.inj H.out
  refine ⟨.slice none 0 0, by rw [← e2]; rfl, ?_, HB.out⟩
  rw [← e1]
  exact Kd.S_nil _ _ _ _ _
 | true =>
  rw [hq, if_pos rfl] at H
  have HV := Aside0.mk hq
  rw [hq] at HK
  clear hq
  go_enter Tryz.func31, Tryz.ntmps31
  go_wp2_with fail
  go_step3
  go_wp2_with fail
  refine (bag_Valid.calls k _ _ l0 true _ HR0.out HC0.out HK.out).mono ?_
  rintro e w1 ⟨rfl, hb1⟩
  have B1 := Aside0.mk hb1
  clear hb1
  go_wp2
  go_step3
  go_wp2
  clear hmm
  have M0 : Aside0 (∃ kv : List (ByteArray × Bool), KV.Is (w1.alloc (.map #[] 0)) w1.heap.size Value.bool kv ∧ ∀ s, (KV.get kv s).getD false = decide (s ∈ ([] : List ByteArray))) := ⟨⟨[], KV.Is.made w1 _, fun s => by simp [KV.get]⟩⟩
  have HMB := Aside0.mk B1.out.size
  have B2 := Aside0.mk (B1.out.alloc B1.out.size (.map #[] 0))
  have HMS : Aside0 (w1.heap.size < (w1.alloc (.map #[] 0)).heap.size) := ⟨by simp⟩
  obtain ⟨m, hm⟩ : ∃ m, m = w1.heap.size := ⟨_, rfl⟩
  rw [← hm] at M0 HMB
  simp only [← hm]
  clear hm HMS
  go_loopg [17, 5] l0.length (fun kq v17 v5 W => ∃ (x : Int) (seen : List ByteArray) (cur : List (List V)), v17 = .int .i64 x ∧ Aside0 (0 ≤ x ∧ x ≤ l0.length ∧ (kq : Int) = l0.length - x) ∧ Aside0 (∃ kv : List (ByteArray × Bool), KV.Is W m Value.bool kv ∧ ∀ s, (KV.get kv s).getD false = decide (s ∈ seen)) ∧ Aside0 ((relK w).kd.R 53 W w.heap.size (fun k => k ≠ m) v5 cur) ∧ Aside0 (cur ++ distR seen (l0.drop x.toNat) = distR [] l0 ∧ cur.length ≤ x) ∧ Aside0 (Below w.heap.size w W))
  case atStart => exact ⟨0, [], [], rfl, ⟨by omega⟩, M0, ⟨Kd.R_nil _ _ _ _ _⟩, ⟨by simp⟩, B2⟩
  case round =>
   clear M0 B1 B2
   obtain ⟨x, seen, cur, rfl, HX, HM, HO, HD, HB⟩ := hrel
   obtain ⟨hx0, hx1, hkq⟩ := HX.out
   by_cases hlt : x < (l0.length : Int)
   · have c1 : decide (x < (l0.length : Int)) = true := decide_eq_true hlt
     have c2 : decide (0 ≤ x) = true := decide_eq_true hx0
     obtain ⟨ad, A1, c1', e, hx_0, hl_0, hi_0⟩ := at_L4 HR0.out x hx0 hlt
     cases e
     replace hx_0 := (HB.out.cell (World.block_lt_of_cell? w _ hx_0)).trans hx_0
     have hi : x.toNat < l0.length := by omega
     have hrd : rd_L4 l0 x = l0[x.toNat] := by simp [rd_L4, List.getElem?_eq_getElem hi]
     have hok := HOK.out.1 (rd_L4 l0 x) (by rw [hrd]; exact List.getElem_mem hi)
     have hst := HD.out.1
     rw [drop_cons l0 x.toNat hi, ← hrd] at hst
     obtain ⟨r, hr⟩ : ∃ r, r = rd_L4 l0 x := ⟨_, rfl⟩
     rw [← hr] at hx_0 hl_0 hi_0 hok hst
     have HI0 := Aside0.mk hi_0
     have HL0 := Aside0.mk hl_0
     have HOK1 := Aside0.mk hok
     have HST := Aside0.mk hst
     have HLT := Aside0.mk hlt
     have HX0 := Aside0.mk hx0
     have HWR : Aside0 (wrap64 (x + 1) = x + 1) := ⟨by have := HOK.out.2; unfold wrap64; omega⟩
     clear hi_0 hl_0 hok hst hrd hr hkq hi
     go_wp2_with fail
     refine (name_calls _ _ r wr (HT.out.below HB.out) (Kd.C_below HI0.out HB.out) HL0.out HOK1.out.1 HOK1.out.2.1 HOK1.out.2.2).mono ?_
     rintro e w2 ⟨rfl, hb1⟩
     obtain ⟨kv, hkv⟩ := HM.out
     have HKV : Aside0 (KV.Is w2 m Value.bool kv) := ⟨hkv.1.below hb1⟩
     have HSE := Aside0.mk hkv.2
     have HB1 := Aside0.mk (HB.out.trans (hb1.mono HB.out.size))
     have HO1 := Aside0.mk (Kd.R_below HO.out hb1)
     clear hb1 hkv
     have hc : Aside0 ((KV.get kv (nameOf r)).getD false = decide (nameOf r ∈ seen)) := ⟨HSE.out _⟩
     by_cases hz : nameOf r ∈ seen
     · rw [decide_eq_true hz] at hc
       have HZ := Aside0.mk hz
       clear hz
       go_wp2_with (at_lookup; refine KV.law_lookup _ rfl _ _ 78 rfl 9 4 Tryz.underlying9 Tryz.underlying78 (.bool false) (zeroBool _) m Value.bool kv rfl HKV.out (nameOf r) rfl (.bool true) (get_bool hc.out) ?_)
       have hlt := HLT.out
       have hk := HX.out.2.2
       have hx0 := HX0.out
       have hd := HD.out.2
       cases gk with
       | zero => omega
       | succ k1 =>
        go_roundg k1
        case measure => omega
        case rel =>
         refine ⟨x + 1, seen, cur, by rw [HWR.out], ⟨by omega⟩, ⟨kv, HKV.out, HSE.out⟩, HO1, ⟨?_, by omega⟩, HB1⟩
         have := HST.out
         rw [distR, if_pos HZ.out] at this
         rw [show (x + 1).toNat = x.toNat + 1 by omega]
         exact this
     · rw [decide_eq_false hz] at hc
       have HZ := Aside0.mk hz
       clear hz
       have hcl : Aside0 ((cur.length + 1) * 24 ≤ 140737488355328) := ⟨by have := HD.out.2; have := HOK.out.2; omega⟩
       have hM : Aside0 ((relK w).kd.M w2 w.heap.size (fun _ => False) r [.slice A1 r.length c1']) := ⟨⟨A1, c1', rfl, HL0.out, HI0.out⟩⟩
       go_wp2_with (first
        | (at_lookup; refine KV.law_lookup _ rfl _ _ 78 rfl 9 4 Tryz.underlying9 Tryz.underlying78 (.bool false) (zeroBool _) m Value.bool kv rfl HKV.out (nameOf r) rfl (.bool false) (get_bool hc.out) ?_)
        | (at_mapUpdate; refine KV.law_update _ rfl _ _ _ 78 rfl 9 4 Tryz.underlying9 Tryz.underlying78 m Value.bool kv rfl HKV.out (nameOf r) rfl true rfl ?_; intro w3 hM2 hg2; have HM2 := Aside0.mk hM2; have HB3 := Aside0.mk (HB1.out.grown hg2 HB1.out.size (fun k hk => by cases hk; exact HMB.out)); have HO3 := Aside0.mk (Kd.R_grown HO1.out hg2 (fun k hk e => hk (by injection e))); clear hM2 hg2)
        | (at_builtin; refine Kd.R_append (relK w).kd (w0 := w) w.heap.size rfl (.tmp 28) (.tmp 30) 22 53 (.slice none 0 0) 24 rfl Tryz.underlying22 infoRow rfl (Nat.le_refl 1) (by decide) _ cur r [.slice A1 r.length c1'] (fun k => k ≠ m) (fun _ => False) rfl rfl hM.out (fun _ h => h.elim) (fun k hk e => by have := HM2.out.lt; omega) HO3.out HB3.out HB3.out.size hcl.out ?_; intro v4 w4 hR4 hb4 hg4 hat4; have HO4 := Aside0.mk hR4; have HB4 := Aside0.mk hb4; have HM4 := Aside0.mk (HM2.out.grown hg4 (fun e => HO3.out.1 m e.symm rfl)); clear hR4 hb4 hg4 hat4))
       have hlt := HLT.out
       have hk := HX.out.2.2
       have hx0 := HX0.out
       have hd := HD.out.2
       cases gk with
       | zero => omega
       | succ k1 =>
        go_roundg k1
        case measure => omega
        case rel =>
         refine ⟨x + 1, nameOf r :: seen, cur ++ [r], by rw [HWR.out], ⟨by omega⟩, ⟨_, HM4.out, fun s => ?_⟩, HO4, ⟨?_, by simp; omega⟩, HB4⟩
         · by_cases h : s = nameOf r
           · subst h; simp [KV.get_put_same]
           · rw [KV.get_put_other _ h, HSE.out]
             simp [h]
         · have := HST.out
           rw [distR, if_neg HZ.out] at this
           rw [show (x + 1).toNat = x.toNat + 1 by omega]
           simpa using this
   · have c1 : decide (x < (l0.length : Int)) = false := decide_eq_false hlt
     have hcur : cur = distR [] l0 := by
      have := HD.out.1
      rw [List.drop_eq_nil_of_le (by omega), distR, List.append_nil] at this
      exact this
     subst hcur
     have HLN : Aside0 ((distR [] l0).length ≤ 1099511627776) := ⟨Nat.le_trans (distR_len l0 []) HOK.out.2⟩
     have HGD : Aside0 (∀ row ∈ distR [] l0, RowGood [] row) := ⟨fun row hrow => ⟨validB_valid HV.out row (distR_mem l0 [] row hrow), (by intro k hk; cases hk), (HOK.out.1 row (distR_mem l0 [] row hrow)).2.2⟩⟩
     obtain ⟨ds, hds⟩ : ∃ ds, ds = distR [] l0 := ⟨_, rfl⟩
     rw [← hds] at HLN HGD H HO
     clear HX HD hx0 hx1 hlt hkq hds
     obtain ⟨Av, cv, ev, hlc, hC⟩ := Kd.R_reads HO.out
     subst ev
     have HC := Aside0.mk (relK_C hC HB.out)
     clear hC hlc
     go_wp2_with fail
     refine (arrangedS_calls Av cv ds none 0 [] wr HC.out (Kd.C_nil _ _) HGD.out HLN.out (by simp)).mono ?_
     rintro e w2 ⟨v2, rfl, hR2, hb2⟩
     have HR2 := Aside0.mk hR2
     have HB2 := Aside0.mk (HB.out.trans (hb2.mono HB.out.size))
     have HS := Aside0.mk HB.out.size
     clear hR2 hb2
     go_wp2
     rw [Exit.noGoto_ret]
     go_ret2
     obtain ⟨e1, e2⟩ := Prod.mk.inj H.out
     refine ⟨v2, by rw [← e2]; rfl, ?_, HB2.out⟩
     rw [← e1]
     exact Kd.S_lower HR2.out HS.out
structure Gath where
 σ : Type
 T : TypeId
 S : TypeId
 take : Nat
 done : Nat
 cells : σ → Array Value
 init : σ
 step : σ → V → σ
 out : σ → Int × Int × ByteArray × Int
 good : V → Prop
 inv : σ → Prop
 inv0 : inv init
 step_inv : ∀ s v, inv s → good v → inv (step s v)
 hmt : ∀ (a : Addr) (w : World), (method 297 T (.pointer (some a)) "jointer/bag.take").run Tryz.prog w = .ok (take, .pointer (some a)) w
 hmd : ∀ (a : Addr) (w : World), (method 297 T (.pointer (some a)) "jointer/bag.done").run Tryz.prog w = .ok (done, .pointer (some a)) w
 het : ∀ args w, (callFunc take args).run Tryz.prog w = .ok (.enter take args) w
 hed : ∀ args w, (callFunc done args).run Tryz.prog w = .ok (.enter done args) w
 htake : ∀ b s v w, inv s → good v → w.heap[b]? = some (.cells (cells s) S (0, 0)) → Calls Tryz.prog take #[.pointer (some ⟨b, 0, none⟩), .agg #[.int .u8 v.f0, .int .i64 v.f1, .string v.f2]] w fun e w' => e = .returned (.tuple #[]) ∧ w'.heap[b]? = some (.cells (cells (step s v)) S (0, 0)) ∧ w.grownBy w' (some b)
 fin : σ → Prop
 hdone : ∀ b s w, inv s → fin s → w.heap[b]? = some (.cells (cells s) S (0, 0)) → Calls Tryz.prog done #[.pointer (some ⟨b, 0, none⟩)] w fun e w' => e = .returned (.agg #[.int .u8 (out s).1, .int .i64 (out s).2.1, .string (out s).2.2.1, .int .i64 (out s).2.2.2]) ∧ Below w.heap.size w w'
open Classical in
theorem seen_put {kv : List (ByteArray × Bool)} {seen : List ByteArray} (h : ∀ s, (KV.get kv s).getD false = decide (s ∈ seen)) (x : ByteArray) : ∀ t, (KV.get (KV.put kv x true) t).getD false = decide (t ∈ x :: seen) := fun t => by
 by_cases ht : t = x
 · subst ht; simp [KV.get_put_same]
 · rw [KV.get_put_other _ ht, h]; simp [ht]
theorem one_CV (W : World) (v : V) (t : TypeId) : Kd.C kV (W.alloc (.cells #[.int .u8 v.f0, .int .i64 v.f1, .string v.f2] t)) (some ⟨W.heap.size, 0, none⟩) [v].length [v] := by
 refine ⟨rfl, by simp, fun _ => ⟨⟨W.heap.size, 0, none⟩, rfl, fun j p hj => ?_⟩⟩
 cases j with
 | succ j => simp at hj
 | zero =>
  obtain rfl : v = p := by simpa using hj
  refine ⟨[.int .u8 v.f0, .int .i64 v.f1, .string v.f2], rfl, kV.K_of_M (base := 0) (ok := fun _ => True) (k36_mkM _ _ _ v), fun i u hi => ?_⟩
  have h := blk_cell (heap_alloc_new W (.cells #[.int .u8 v.f0, .int .i64 v.f1, .string v.f2] t)) i
  rw [add_plain, Nat.zero_mul, Nat.zero_add]
  refine h.trans ?_
  simpa using hi
open Classical in
noncomputable def pickV (fn : Int) (d : Bool) : List ByteArray → List V → List V
 | _, [] => []
 | seen, v :: vs => if fn ≠ 0 ∧ v.f0 = 0 then pickV fn d seen vs else if d = true then (if nameOf [v] ∈ seen then pickV fn d seen vs else v :: pickV fn d (nameOf [v] :: seen) vs) else v :: pickV fn d seen vs
open Classical in
theorem aggregate_walk (G : Gath) (k : Nat) (fn : Int) (d : Bool) (A2 : Option Addr) (c2 : Nat) (l : List V) (w : World) (hT : LaidT w) (hr : Kd.C kV w A2 l.length l) (hc : l.length ≤ c2) (hok : ∀ v ∈ l, RowOk [v]) (hn : l.length ≤ 1099511627776)
 (hall : bag_allowed.f k fn d l = some true) (hgood : ∀ v ∈ pickV fn d [] l, G.good v) (hfin : G.fin ((pickV fn d [] l).foldl G.step G.init))
 (hgath : ∀ w, Calls Tryz.prog 57 #[.int .u8 fn] w fun e w' => e = .returned (.iface G.T (.pointer (some ⟨w.heap.size, 0, none⟩))) ∧ w' = w.alloc (.cells (G.cells G.init) G.S)) :
 Calls Tryz.prog 21 #[.int .u8 fn, .bool d, .slice A2 l.length c2] w fun e w' => e = .returned (.agg #[.int .u8 (G.out ((pickV fn d [] l).foldl G.step G.init)).1, .int .i64 (G.out ((pickV fn d [] l).foldl G.step G.init)).2.1, .string (G.out ((pickV fn d [] l).foldl G.step G.init)).2.2.1, .int .i64 (G.out ((pickV fn d [] l).foldl G.step G.init)).2.2.2]) ∧ Below w.heap.size w w' := by
 have HT := Aside0.mk hT
 have HR := Aside0.mk hr
 have HC := Aside0.mk hc
 have HOK := Aside0.mk hok
 have HN := Aside0.mk hn
 have HA := Aside0.mk hall
 have HG := Aside0.mk hgood
 have HFI := Aside0.mk hfin
 have HGA := Aside0.mk hgath
 clear hT hr hc hok hn hall hgood hgath hfin
 have hmm : ∀ (w : World), (Instr.makeMap 78 none).run Tryz.prog w = .ok (.map (some w.heap.size)) (w.alloc (.map #[] 0)) := fun _ => by kernel_rfl
 go_enter Tryz.func21, Tryz.ntmps21
 go_wp2_with (first | ((with_reducible refine gate_dst (N := 6) rfl ?_); refine box_event ?hg (N := 6) ?hd (cs := #[.int .u8 0, .int .i64 0, .string (⟨#[]⟩ : ByteArray), .int .i64 0]) (t := 38) ?hr ?_; (case hd => rfl); (case hg => rfl); (case hr => first | (go_simp; done) | (go_simp; rfl)); intro q hq W hN hb1; have HB1 := Aside0.mk hb1; have HQ := Aside0.mk hq; have HN0 := Aside0.mk hN; clear hb1 hq hN))
 refine (bag_allowed.calls k fn d A2 c2 l true W (Kd.C_below HR.out HB1.out) HC.out HA.out).mono ?_
 rintro e W1 ⟨rfl, hb2⟩
 have HN1 := Aside0.mk ((hb2.block q (blk_lt HN0.out)).trans HN0.out)
 have HB2 := Aside0.mk (HB1.out.trans (hb2.mono HB1.out.size))
 clear hb2 HN0 HB1
 go_wp2_with fail
 refine (HGA.out W1).mono ?_
 rintro e W2 ⟨rfl, hW2⟩
 have HG0 : Aside0 (W2.heap[W1.heap.size]? = some (.cells (G.cells G.init) G.S (0, 0))) := ⟨by rw [hW2]; exact heap_alloc_new _ _⟩
 have HN2 : Aside0 (W2.heap[q]? = some (.cells #[.int .u8 0, .int .i64 0, .string ⟨#[]⟩, .int .i64 0] 38 (0, 0))) := ⟨by rw [hW2]; exact (Below.heap_alloc W1 _ q (blk_lt HN1.out)).trans HN1.out⟩
 have HB3 : Aside0 (Below w.heap.size w W2) := ⟨by rw [hW2]; exact HB2.out.alloc HB2.out.size _⟩
 have HGE : Aside0 (w.heap.size ≤ W1.heap.size) := ⟨HB2.out.size⟩
 have HNE : Aside0 (q ≠ W1.heap.size) := ⟨fun e => by have := blk_lt HN1.out; omega⟩
 obtain ⟨g, hg⟩ : ∃ g, g = W1.heap.size := ⟨_, rfl⟩
 rw [← hg] at HG0 HGE HNE
 rw [← hg]
 clear hW2 HN1 HB2 hg
 go_wp2
 clear hmm
 have M0 : Aside0 (∃ kv : List (ByteArray × Bool), KV.Is (W2.alloc (.map #[] 0)) W2.heap.size Value.bool kv ∧ ∀ s, (KV.get kv s).getD false = decide (s ∈ ([] : List ByteArray))) := ⟨⟨[], KV.Is.made W2 _, fun s => by simp [KV.get]⟩⟩
 have HMG : Aside0 (W2.heap.size ≠ g ∧ q ≠ W2.heap.size ∧ w.heap.size ≤ W2.heap.size) := ⟨fun e => by have := blk_lt HG0.out; omega, fun e => by have := blk_lt HN2.out; omega, HB3.out.size⟩
 have HG1 : Aside0 ((W2.alloc (.map #[] 0)).heap[g]? = some (.cells (G.cells G.init) G.S (0, 0))) := ⟨(Below.heap_alloc W2 _ g (blk_lt HG0.out)).trans HG0.out⟩
 have HN3 : Aside0 ((W2.alloc (.map #[] 0)).heap[q]? = some (.cells #[.int .u8 0, .int .i64 0, .string ⟨#[]⟩, .int .i64 0] 38 (0, 0))) := ⟨(Below.heap_alloc W2 _ q (blk_lt HN2.out)).trans HN2.out⟩
 have HB4 : Aside0 (Below w.heap.size w (W2.alloc (.map #[] 0))) := ⟨HB3.out.alloc HB3.out.size _⟩
 obtain ⟨m, hm⟩ : ∃ m, m = W2.heap.size := ⟨_, rfl⟩
 rw [← hm] at M0 HMG
 simp only [← hm]
 clear hm HG0 HN2 HB3
 go_loopg [23] l.length (fun kq v23 W => ∃ (x : Int) (seen : List ByteArray) (s : G.σ), v23 = .int .i64 x ∧ Aside0 (0 ≤ x ∧ x ≤ l.length ∧ (kq : Int) = l.length - x) ∧ Aside0 (∃ kv : List (ByteArray × Bool), KV.Is W m Value.bool kv ∧ ∀ s, (KV.get kv s).getD false = decide (s ∈ seen)) ∧ Aside0 (W.heap[g]? = some (.cells (G.cells s) G.S (0, 0))) ∧ Aside0 (G.inv s) ∧ Aside0 (W.heap[q]? = some (.cells #[.int .u8 0, .int .i64 0, .string ⟨#[]⟩, .int .i64 0] 38 (0, 0))) ∧ Aside0 ((pickV fn d seen (l.drop x.toNat)).foldl G.step s = (pickV fn d [] l).foldl G.step G.init ∧ ∀ v ∈ pickV fn d seen (l.drop x.toNat), G.good v) ∧ Aside0 (Below w.heap.size w W))
 case atStart => exact ⟨0, [], G.init, rfl, ⟨by omega⟩, M0, HG1, ⟨G.inv0⟩, HN3, ⟨rfl, HG.out⟩, HB4⟩
 case round =>
  clear M0 HG1 HN3 HB4 HG
  obtain ⟨x, seen, s, rfl, HX, HM, HS, HI, HQN, HD, HB⟩ := hrel
  obtain ⟨hx0, hx1, hkq⟩ := HX.out
  by_cases hlt : x < (l.length : Int)
  · have c1 : decide (x < (l.length : Int)) = true := decide_eq_true hlt
    have c2 : decide (0 ≤ x) = true := decide_eq_true hx0
    obtain ⟨ad, e, hx_0, hx_1, hx_2⟩ := at_T36 HR.out x hx0 hlt
    cases e
    replace hx_0 := (HB.out.cell (World.block_lt_of_cell? w _ hx_0)).trans hx_0
    replace hx_1 := (HB.out.cell (World.block_lt_of_cell? w _ hx_1)).trans hx_1
    replace hx_2 := (HB.out.cell (World.block_lt_of_cell? w _ hx_2)).trans hx_2
    have hi : x.toNat < l.length := by omega
    have hrd : rd_T36 l x = l[x.toNat] := by simp [rd_T36, List.getElem?_eq_getElem hi]
    have hok := HOK.out (rd_T36 l x) (by rw [hrd]; exact List.getElem_mem hi)
    have hd := HD.out
    rw [drop_cons l x.toNat hi, ← hrd] at hd
    obtain ⟨v, hv⟩ : ∃ v, v = rd_T36 l x := ⟨_, rfl⟩
    rw [← hv] at hx_0 hx_1 hx_2 hok hd
    have HDV := Aside0.mk hd
    have HOKV := Aside0.mk hok
    have HLT := Aside0.mk hlt
    have HX0 := Aside0.mk hx0
    have HWR : Aside0 (wrap64 (x + 1) = x + 1) := ⟨by have := HN.out; unfold wrap64; omega⟩
    clear hd hok hrd hv hkq hi
    by_cases hsk : fn ≠ 0 ∧ v.f0 = 0
    · have z1 : (fn != 0) = true := by simpa using hsk.1
      have z2 : (v.f0 == 0) = true := by simpa using hsk.2
      have HSK := Aside0.mk hsk
      clear hsk
      go_wp2
      have hlt := HLT.out
      have hk := HX.out.2.2
      have hx0 := HX0.out
      cases gk with
      | zero => omega
      | succ k1 =>
       go_roundg k1
       case measure => omega
       case rel =>
        obtain ⟨kv, hkv1, hkv2⟩ := HM.out
        have hd := HDV.out
        rw [pickV, if_pos HSK.out] at hd
        rw [← show (x + 1).toNat = x.toNat + 1 by omega] at hd
        exact ⟨x + 1, seen, s, by rw [HWR.out], ⟨by omega⟩, ⟨kv, hkv1.below ((Below.refl _ wr).alloc (Nat.le_refl _) _), hkv2⟩, ⟨(Below.heap_alloc wr _ g (blk_lt HS.out)).trans HS.out⟩, HI, ⟨(Below.heap_alloc wr _ q (blk_lt HQN.out)).trans HQN.out⟩, ⟨hd⟩, ⟨HB.out.alloc HB.out.size _⟩⟩
    · by_cases hf : fn = 0
      · have z1 : (fn != 0) = false := by simp [hf]
        have HSK := Aside0.mk hsk
        clear hsk hf
        cases d with
        | false =>
         have hmt := G.hmt
         have het := G.het
         obtain ⟨kv, hkv1, hkv2⟩ := HM.out
         have HK1 := Aside0.mk hkv1
         have HK2 := Aside0.mk hkv2
         have HGD : Aside0 (G.good v) := ⟨by
          have hd := HDV.out.2
          rw [pickV, if_neg HSK.out, if_neg (by simp)] at hd
          exact hd v List.mem_cons_self⟩
         clear hkv1 hkv2
         go_wp2_with fail
         refine (G.htake g s v _ HI.out HGD.out ((Below.heap_alloc wr _ g (blk_lt HS.out)).trans HS.out)).mono ?_
         rintro e w5 ⟨rfl, hcell, hgr⟩
         have HS5 := Aside0.mk hcell
         have HQ5 := Aside0.mk ((hgr.block q (blk_lt ((Below.heap_alloc wr _ q (blk_lt HQN.out)).trans HQN.out)) (fun e => HNE.out (by injection e))).trans ((Below.heap_alloc wr _ q (blk_lt HQN.out)).trans HQN.out))
         have HM5 : Aside0 (KV.Is w5 m Value.bool kv) := ⟨KV.Is.grown (HK1.out.below ((Below.refl _ wr).alloc (Nat.le_refl _) _)) hgr (fun e => HMG.out.1 (by injection e))⟩
         have HB5 : Aside0 (Below w.heap.size w w5) := ⟨((HB.out.alloc HB.out.size (.cells #[.int .u8 v.f0, .int .i64 v.f1, .string v.f2] 36))).grown hgr ((HB.out.alloc HB.out.size (.cells #[.int .u8 v.f0, .int .i64 v.f1, .string v.f2] 36))).size (fun k hk => by cases hk; exact HGE.out)⟩
         have HI5 := Aside0.mk (G.step_inv s v HI.out HGD.out)
         clear hcell hgr hmt het
         go_wp2
         have hlt := HLT.out
         have hk := HX.out.2.2
         have hx0 := HX0.out
         cases gk with
         | zero => omega
         | succ k1 =>
          go_roundg k1
          case measure => omega
          case rel =>
           have hd := HDV.out
           rw [pickV, if_neg HSK.out, if_neg (by simp)] at hd
           rw [← show (x + 1).toNat = x.toNat + 1 by omega] at hd
           exact ⟨x + 1, seen, G.step s v, by rw [HWR.out], ⟨by omega⟩, ⟨kv, HM5.out, HK2.out⟩, HS5, HI5, HQ5, ⟨hd.1, fun u hu => hd.2 u (List.mem_cons_of_mem _ hu)⟩, HB5⟩
        | true =>
         obtain ⟨kv, hkv1, hkv2⟩ := HM.out
         have HK1 := Aside0.mk hkv1
         have HK2 := Aside0.mk hkv2
         have HWB : Aside0 (m < wr.heap.size) := ⟨hkv1.lt⟩
         have HB2 : Aside0 (Below w.heap.size w ((wr.alloc (.cells #[.int .u8 v.f0, .int .i64 v.f1, .string v.f2] 36)).alloc (.cells #[.int .u8 v.f0, .int .i64 v.f1, .string v.f2] 36))) := ⟨(HB.out.alloc HB.out.size _).alloc (Nat.le_trans HB.out.size (by simp)) _⟩
         have HBW : Aside0 (Below wr.heap.size wr ((wr.alloc (.cells #[.int .u8 v.f0, .int .i64 v.f1, .string v.f2] 36)).alloc (.cells #[.int .u8 v.f0, .int .i64 v.f1, .string v.f2] 36))) := ⟨((Below.refl _ wr).alloc (Nat.le_refl _) _).alloc (by simp) _⟩
         have HBX : Aside0 (((wr.alloc (.cells #[.int .u8 v.f0, .int .i64 v.f1, .string v.f2] 36)).alloc (.cells #[.int .u8 v.f0, .int .i64 v.f1, .string v.f2] 36)).heap[wr.heap.size]? = some (.cells #[.int .u8 v.f0, .int .i64 v.f1, .string v.f2] 36 (0, 0))) := ⟨(Below.heap_alloc (wr.alloc (.cells #[.int .u8 v.f0, .int .i64 v.f1, .string v.f2] 36)) _ _ (by simp)).trans (heap_alloc_new _ _)⟩
         clear hkv1 hkv2
         go_wp2_with fail
         have hCV := one_CV (wr.alloc (.cells #[.int .u8 v.f0, .int .i64 v.f1, .string v.f2] 36)) v 36
         rw [show (wr.alloc (.cells #[.int .u8 v.f0, .int .i64 v.f1, .string v.f2] 36)).heap.size = wr.heap.size + 1 by simp] at hCV
         have hcall := name_calls (some ⟨wr.heap.size + 1, 0, none⟩) 1 [v] _ (HT.out.below HB2.out) hCV (by simp) HOKV.out.1 HOKV.out.2.1 HOKV.out.2.2
         clear hCV
         refine hcall.mono ?_
         clear hcall
         rintro e w4 ⟨rfl, hb4⟩
         have HBW4 := Aside0.mk (HBW.out.trans (hb4.mono HBW.out.size))
         have HB4 := Aside0.mk (HB2.out.trans (hb4.mono HB2.out.size))
         have hX4 := (hb4.block _ (blk_lt HBX.out)).trans HBX.out
         have HX4 := Aside0.mk hX4
         have HK4 := Aside0.mk (HK1.out.below HBW4.out)
         have HS4 := Aside0.mk ((HBW4.out.block g (blk_lt HS.out)).trans HS.out)
         have HQ4 := Aside0.mk ((HBW4.out.block q (blk_lt HQN.out)).trans HQN.out)
         have hc : Aside0 ((KV.get kv (nameOf [v])).getD false = decide (nameOf [v] ∈ seen)) := ⟨HK2.out _⟩
         clear hb4 HBX HBW HB2
         by_cases hz : nameOf [v] ∈ seen
         · rw [decide_eq_true hz] at hc
           have HZ := Aside0.mk hz
           clear hz hX4
           go_wp2_with (at_lookup; refine KV.law_lookup _ rfl _ _ 78 rfl 9 4 Tryz.underlying9 Tryz.underlying78 (.bool false) (zeroBool _) m Value.bool kv rfl HK4.out (nameOf [v]) rfl (.bool true) (get_bool hc.out) ?_)
           have hlt := HLT.out
           have hk := HX.out.2.2
           have hx0 := HX0.out
           cases gk with
           | zero => omega
           | succ k1 =>
            go_roundg k1
            case measure => omega
            case rel =>
             have hd := HDV.out
             rw [pickV, if_neg HSK.out, if_pos rfl, if_pos HZ.out] at hd
             rw [← show (x + 1).toNat = x.toNat + 1 by omega] at hd
             exact ⟨x + 1, seen, s, by rw [HWR.out], ⟨by omega⟩, ⟨kv, HK4.out, HK2.out⟩, HS4, HI, HQ4, ⟨hd⟩, HB4⟩
         · rw [decide_eq_false hz] at hc
           have HZ := Aside0.mk hz
           have HGD : Aside0 (G.good v) := ⟨by
            have hd := HDV.out.2
            rw [pickV, if_neg HSK.out, if_pos rfl, if_neg hz] at hd
            exact hd v List.mem_cons_self⟩
           have hmt := G.hmt
           have het := G.het
           clear hz hX4
           go_wp2_with (first
            | (at_lookup; refine KV.law_lookup _ rfl _ _ 78 rfl 9 4 Tryz.underlying9 Tryz.underlying78 (.bool false) (zeroBool _) m Value.bool kv rfl HK4.out (nameOf [v]) rfl (.bool false) (get_bool hc.out) ?_)
            | (at_mapUpdate; refine KV.law_update _ rfl _ _ _ 78 rfl 9 4 Tryz.underlying9 Tryz.underlying78 m Value.bool kv rfl HK4.out (nameOf [v]) rfl true rfl ?_; intro w6 hM6 hg6; have hX6 := (hg6.block _ (blk_lt HX4.out) (fun e => by have := HWB.out; injection e; omega)).trans HX4.out; have HM6 := Aside0.mk hM6; have HB6 := Aside0.mk (HB4.out.grown hg6 HB4.out.size (fun k hk => by cases hk; exact HMG.out.2.2)); have HS6 := Aside0.mk ((hg6.block g (blk_lt HS4.out) (fun e => HMG.out.1 (by injection e with e; exact e.symm))).trans HS4.out); have HQ6 := Aside0.mk ((hg6.block q (blk_lt HQ4.out) (fun e => HMG.out.2.1 (by injection e))).trans HQ4.out); have X0 : w6.cell? ⟨wr.heap.size, 0, none⟩ = some (.int .u8 v.f0) := (blk_cell hX6 0).trans rfl; have X1 : w6.cell? ⟨wr.heap.size, 1, none⟩ = some (.int .i64 v.f1) := (blk_cell hX6 1).trans rfl; have X2 : w6.cell? ⟨wr.heap.size, 2, none⟩ = some (.string v.f2) := (blk_cell hX6 2).trans rfl; clear hM6 hg6 hX6))
           refine (G.htake g s v _ HI.out HGD.out HS6.out).mono ?_
           rintro e w5 ⟨rfl, hcell, hgr⟩
           have HS5 := Aside0.mk hcell
           have HQ5 := Aside0.mk ((hgr.block q (blk_lt HQ6.out) (fun e => HNE.out (by injection e))).trans HQ6.out)
           have HM5 : Aside0 (KV.Is w5 m Value.bool (KV.put kv (nameOf [v]) true)) := ⟨KV.Is.grown HM6.out hgr (fun e => HMG.out.1 (by injection e))⟩
           have HB5 : Aside0 (Below w.heap.size w w5) := ⟨(HB6.out).grown hgr (HB6.out).size (fun k hk => by cases hk; exact HGE.out)⟩
           have HI5 := Aside0.mk (G.step_inv s v HI.out HGD.out)
           clear hcell hgr hmt het
           go_wp2
           have hlt := HLT.out
           have hk := HX.out.2.2
           have hx0 := HX0.out
           cases gk with
           | zero => omega
           | succ k1 =>
            go_roundg k1
            case measure => omega
            case rel =>
             have hd := HDV.out
             rw [pickV, if_neg HSK.out, if_pos rfl, if_neg HZ.out] at hd
             rw [← show (x + 1).toNat = x.toNat + 1 by omega] at hd
             exact ⟨x + 1, nameOf [v] :: seen, G.step s v, by rw [HWR.out], ⟨by omega⟩, ⟨(KV.put kv (nameOf [v]) true), HM5.out, seen_put HK2.out _⟩, HS5, HI5, HQ5, ⟨hd.1, fun u hu => hd.2 u (List.mem_cons_of_mem _ hu)⟩, HB5⟩
      · have z1 : (fn != 0) = true := by simpa using hf
        have z2 : (v.f0 == 0) = false := by
         have : v.f0 ≠ 0 := fun e => hsk ⟨hf, e⟩
         simpa using this
        have HSK := Aside0.mk hsk
        clear hsk hf
        cases d with
        | false =>
         have hmt := G.hmt
         have het := G.het
         obtain ⟨kv, hkv1, hkv2⟩ := HM.out
         have HK1 := Aside0.mk hkv1
         have HK2 := Aside0.mk hkv2
         have HGD : Aside0 (G.good v) := ⟨by
          have hd := HDV.out.2
          rw [pickV, if_neg HSK.out, if_neg (by simp)] at hd
          exact hd v List.mem_cons_self⟩
         clear hkv1 hkv2
         go_wp2_with fail
         refine (G.htake g s v _ HI.out HGD.out ((Below.heap_alloc wr _ g (blk_lt HS.out)).trans HS.out)).mono ?_
         rintro e w5 ⟨rfl, hcell, hgr⟩
         have HS5 := Aside0.mk hcell
         have HQ5 := Aside0.mk ((hgr.block q (blk_lt ((Below.heap_alloc wr _ q (blk_lt HQN.out)).trans HQN.out)) (fun e => HNE.out (by injection e))).trans ((Below.heap_alloc wr _ q (blk_lt HQN.out)).trans HQN.out))
         have HM5 : Aside0 (KV.Is w5 m Value.bool kv) := ⟨KV.Is.grown (HK1.out.below ((Below.refl _ wr).alloc (Nat.le_refl _) _)) hgr (fun e => HMG.out.1 (by injection e))⟩
         have HB5 : Aside0 (Below w.heap.size w w5) := ⟨((HB.out.alloc HB.out.size (.cells #[.int .u8 v.f0, .int .i64 v.f1, .string v.f2] 36))).grown hgr ((HB.out.alloc HB.out.size (.cells #[.int .u8 v.f0, .int .i64 v.f1, .string v.f2] 36))).size (fun k hk => by cases hk; exact HGE.out)⟩
         have HI5 := Aside0.mk (G.step_inv s v HI.out HGD.out)
         clear hcell hgr hmt het
         go_wp2
         have hlt := HLT.out
         have hk := HX.out.2.2
         have hx0 := HX0.out
         cases gk with
         | zero => omega
         | succ k1 =>
          go_roundg k1
          case measure => omega
          case rel =>
           have hd := HDV.out
           rw [pickV, if_neg HSK.out, if_neg (by simp)] at hd
           rw [← show (x + 1).toNat = x.toNat + 1 by omega] at hd
           exact ⟨x + 1, seen, G.step s v, by rw [HWR.out], ⟨by omega⟩, ⟨kv, HM5.out, HK2.out⟩, HS5, HI5, HQ5, ⟨hd.1, fun u hu => hd.2 u (List.mem_cons_of_mem _ hu)⟩, HB5⟩
        | true =>
         obtain ⟨kv, hkv1, hkv2⟩ := HM.out
         have HK1 := Aside0.mk hkv1
         have HK2 := Aside0.mk hkv2
         have HWB : Aside0 (m < wr.heap.size) := ⟨hkv1.lt⟩
         have HB2 : Aside0 (Below w.heap.size w ((wr.alloc (.cells #[.int .u8 v.f0, .int .i64 v.f1, .string v.f2] 36)).alloc (.cells #[.int .u8 v.f0, .int .i64 v.f1, .string v.f2] 36))) := ⟨(HB.out.alloc HB.out.size _).alloc (Nat.le_trans HB.out.size (by simp)) _⟩
         have HBW : Aside0 (Below wr.heap.size wr ((wr.alloc (.cells #[.int .u8 v.f0, .int .i64 v.f1, .string v.f2] 36)).alloc (.cells #[.int .u8 v.f0, .int .i64 v.f1, .string v.f2] 36))) := ⟨((Below.refl _ wr).alloc (Nat.le_refl _) _).alloc (by simp) _⟩
         have HBX : Aside0 (((wr.alloc (.cells #[.int .u8 v.f0, .int .i64 v.f1, .string v.f2] 36)).alloc (.cells #[.int .u8 v.f0, .int .i64 v.f1, .string v.f2] 36)).heap[wr.heap.size]? = some (.cells #[.int .u8 v.f0, .int .i64 v.f1, .string v.f2] 36 (0, 0))) := ⟨(Below.heap_alloc (wr.alloc (.cells #[.int .u8 v.f0, .int .i64 v.f1, .string v.f2] 36)) _ _ (by simp)).trans (heap_alloc_new _ _)⟩
         clear hkv1 hkv2
         go_wp2_with fail
         have hCV := one_CV (wr.alloc (.cells #[.int .u8 v.f0, .int .i64 v.f1, .string v.f2] 36)) v 36
         rw [show (wr.alloc (.cells #[.int .u8 v.f0, .int .i64 v.f1, .string v.f2] 36)).heap.size = wr.heap.size + 1 by simp] at hCV
         have hcall := name_calls (some ⟨wr.heap.size + 1, 0, none⟩) 1 [v] _ (HT.out.below HB2.out) hCV (by simp) HOKV.out.1 HOKV.out.2.1 HOKV.out.2.2
         clear hCV
         refine hcall.mono ?_
         clear hcall
         rintro e w4 ⟨rfl, hb4⟩
         have HBW4 := Aside0.mk (HBW.out.trans (hb4.mono HBW.out.size))
         have HB4 := Aside0.mk (HB2.out.trans (hb4.mono HB2.out.size))
         have hX4 := (hb4.block _ (blk_lt HBX.out)).trans HBX.out
         have HX4 := Aside0.mk hX4
         have HK4 := Aside0.mk (HK1.out.below HBW4.out)
         have HS4 := Aside0.mk ((HBW4.out.block g (blk_lt HS.out)).trans HS.out)
         have HQ4 := Aside0.mk ((HBW4.out.block q (blk_lt HQN.out)).trans HQN.out)
         have hc : Aside0 ((KV.get kv (nameOf [v])).getD false = decide (nameOf [v] ∈ seen)) := ⟨HK2.out _⟩
         clear hb4 HBX HBW HB2
         by_cases hz : nameOf [v] ∈ seen
         · rw [decide_eq_true hz] at hc
           have HZ := Aside0.mk hz
           clear hz hX4
           go_wp2_with (at_lookup; refine KV.law_lookup _ rfl _ _ 78 rfl 9 4 Tryz.underlying9 Tryz.underlying78 (.bool false) (zeroBool _) m Value.bool kv rfl HK4.out (nameOf [v]) rfl (.bool true) (get_bool hc.out) ?_)
           have hlt := HLT.out
           have hk := HX.out.2.2
           have hx0 := HX0.out
           cases gk with
           | zero => omega
           | succ k1 =>
            go_roundg k1
            case measure => omega
            case rel =>
             have hd := HDV.out
             rw [pickV, if_neg HSK.out, if_pos rfl, if_pos HZ.out] at hd
             rw [← show (x + 1).toNat = x.toNat + 1 by omega] at hd
             exact ⟨x + 1, seen, s, by rw [HWR.out], ⟨by omega⟩, ⟨kv, HK4.out, HK2.out⟩, HS4, HI, HQ4, ⟨hd⟩, HB4⟩
         · rw [decide_eq_false hz] at hc
           have HZ := Aside0.mk hz
           have HGD : Aside0 (G.good v) := ⟨by
            have hd := HDV.out.2
            rw [pickV, if_neg HSK.out, if_pos rfl, if_neg hz] at hd
            exact hd v List.mem_cons_self⟩
           have hmt := G.hmt
           have het := G.het
           clear hz hX4
           go_wp2_with (first
            | (at_lookup; refine KV.law_lookup _ rfl _ _ 78 rfl 9 4 Tryz.underlying9 Tryz.underlying78 (.bool false) (zeroBool _) m Value.bool kv rfl HK4.out (nameOf [v]) rfl (.bool false) (get_bool hc.out) ?_)
            | (at_mapUpdate; refine KV.law_update _ rfl _ _ _ 78 rfl 9 4 Tryz.underlying9 Tryz.underlying78 m Value.bool kv rfl HK4.out (nameOf [v]) rfl true rfl ?_; intro w6 hM6 hg6; have hX6 := (hg6.block _ (blk_lt HX4.out) (fun e => by have := HWB.out; injection e; omega)).trans HX4.out; have HM6 := Aside0.mk hM6; have HB6 := Aside0.mk (HB4.out.grown hg6 HB4.out.size (fun k hk => by cases hk; exact HMG.out.2.2)); have HS6 := Aside0.mk ((hg6.block g (blk_lt HS4.out) (fun e => HMG.out.1 (by injection e with e; exact e.symm))).trans HS4.out); have HQ6 := Aside0.mk ((hg6.block q (blk_lt HQ4.out) (fun e => HMG.out.2.1 (by injection e))).trans HQ4.out); have X0 : w6.cell? ⟨wr.heap.size, 0, none⟩ = some (.int .u8 v.f0) := (blk_cell hX6 0).trans rfl; have X1 : w6.cell? ⟨wr.heap.size, 1, none⟩ = some (.int .i64 v.f1) := (blk_cell hX6 1).trans rfl; have X2 : w6.cell? ⟨wr.heap.size, 2, none⟩ = some (.string v.f2) := (blk_cell hX6 2).trans rfl; clear hM6 hg6 hX6))
           refine (G.htake g s v _ HI.out HGD.out HS6.out).mono ?_
           rintro e w5 ⟨rfl, hcell, hgr⟩
           have HS5 := Aside0.mk hcell
           have HQ5 := Aside0.mk ((hgr.block q (blk_lt HQ6.out) (fun e => HNE.out (by injection e))).trans HQ6.out)
           have HM5 : Aside0 (KV.Is w5 m Value.bool (KV.put kv (nameOf [v]) true)) := ⟨KV.Is.grown HM6.out hgr (fun e => HMG.out.1 (by injection e))⟩
           have HB5 : Aside0 (Below w.heap.size w w5) := ⟨(HB6.out).grown hgr (HB6.out).size (fun k hk => by cases hk; exact HGE.out)⟩
           have HI5 := Aside0.mk (G.step_inv s v HI.out HGD.out)
           clear hcell hgr hmt het
           go_wp2
           have hlt := HLT.out
           have hk := HX.out.2.2
           have hx0 := HX0.out
           cases gk with
           | zero => omega
           | succ k1 =>
            go_roundg k1
            case measure => omega
            case rel =>
             have hd := HDV.out
             rw [pickV, if_neg HSK.out, if_pos rfl, if_neg HZ.out] at hd
             rw [← show (x + 1).toNat = x.toNat + 1 by omega] at hd
             exact ⟨x + 1, nameOf [v] :: seen, G.step s v, by rw [HWR.out], ⟨by omega⟩, ⟨(KV.put kv (nameOf [v]) true), HM5.out, seen_put HK2.out _⟩, HS5, HI5, HQ5, ⟨hd.1, fun u hu => hd.2 u (List.mem_cons_of_mem _ hu)⟩, HB5⟩
  · have c1 : decide (x < (l.length : Int)) = false := decide_eq_false hlt
    have hd := HD.out.1
    rw [List.drop_eq_nil_of_le (by omega), pickV, List.foldl_nil] at hd
    subst hd
    have hmd := G.hmd
    have hed := G.hed
    clear hlt hx0 hx1 hkq
    go_wp2_with fail
    refine (G.hdone g _ wr HI.out HFI.out HS.out).mono ?_
    rintro e w3 ⟨rfl, hb3⟩
    have hN3 := (hb3.block q (blk_lt HQN.out)).trans HQN.out
    have HN3 := Aside0.mk hN3
    have HB3 := Aside0.mk (HB.out.trans (hb3.mono HB.out.size))
    have G0 : w3.cell? ⟨q, 0, none⟩ = some (.int .u8 0) := (blk_cell hN3 0).trans rfl
    have G1 : w3.cell? ⟨q, 1, none⟩ = some (.int .i64 0) := (blk_cell hN3 1).trans rfl
    have G2 : w3.cell? ⟨q, 2, none⟩ = some (.string ⟨#[]⟩) := (blk_cell hN3 2).trans rfl
    have G3 : w3.cell? ⟨q, 3, none⟩ = some (.int .i64 0) := (blk_cell hN3 3).trans rfl
    have F4 : ∀ j, w3.frozen? ⟨q, j, none⟩ = false := fun j => by simp [World.frozen?, hN3]
    clear hb3 hN3 hmd hed
    go_wp2
    refine bodyPost_ret (results_cell_row rfl _ _ q 38 _ (0, 0) _ rfl (out_cells HN3.out _ _ _ _) Tryz.underlying38 rfl (by kernel_rfl)) rfl ?_
    exact ⟨rfl, out_below HB3.out HQ.out _ _ _ _⟩
end Go.Proofs.YtecgkcgfeghhgaaGreatDoor.PAll
namespace Go.Proofs.YtecgkcgfeghhgaaGreatDoor.PAll
open Go.RowKit Go.Proofs.YtecgkcgfeghhgaaGreatDoorW.PrintWords Go.Proofs.YtecgkcgfeghhgaaGreatDoorW.PrintLast Go.Proofs.YtecgkcgfeghhgaaGreatDoorW.PrintMore
attribute [local go_sem] max2_int min2_int max_two min_two max_three min_three max_four min_four
set_option linter.unusedVariables false
set_option linter.unusedSimpArgs false
def bag_columnOf.l0 : Nat → Int → List (S36) → List (List (S36)) → Int → Int → Option ((List (S36)))
 | 0, _, _, _, _, _ => none
 | k + 1, x1, x5, x11, x12, x13 => if x13 < x12 then (if 0 ≤ x13 then (if x13 < (x11.length : Int) then (if x1 < ((rd_L4 x11 x13).length : Int) then (if 0 ≤ x1 then (if x13 < (x5.length : Int) then (bag_columnOf.l0 k x1 (x5.set (x13 : Int).toNat (⟨(rd_T36 (rd_L4 x11 x13) x1).f0, (rd_T36 (rd_L4 x11 x13) x1).f1, (rd_T36 (rd_L4 x11 x13) x1).f2⟩ : S36)) x11 x12 (wrap64 (x13 + 1))) else (none)) else (none)) else (bag_columnOf.l0 k x1 x5 x11 x12 (wrap64 (x13 + 1)))) else (none)) else (none)) else (some x5)
def bag_columnOf.f (k : Nat) (l0 : List (List (S36))) (a1 : Int) : Option ((List (S36))) := if 0 ≤ (l0.length : Int) then (if ((l0.length : Int) : Int).toNat ≤ 8796093022208 then (bag_columnOf.l0 k a1 (List.replicate ((l0.length : Int) : Int).toNat z36) l0 (l0.length : Int) 0) else (none)) else (none)
theorem bag_columnOf.calls (k : Nat) (A0 : Option Addr) (c0 : Nat) (l0 : List (List (S36))) (a1 : Int) (r : List (S36)) (w : World) (hr0 : Kd.C (Kd.slice 36 k36) w A0 l0.length l0) (hc0 : l0.length ≤ c0) (h : bag_columnOf.f k l0 a1 = some r) :
 Calls Tryz.prog 63 #[.slice A0 l0.length c0, .int .i64 a1] w fun e w' => ∃ v0_ : Value, e = .returned (v0_) ∧ Kd.R k36 36 w' w.heap.size (fun _ => True) v0_ r ∧ Below w.heap.size w w' := by
 have hu36 := Tryz.underlying36
 have HR0 := Aside0.mk hr0
 have HC0 := Aside0.mk hc0
 clear hr0 hc0
 have HB := Aside0.mk (Below.refl w.heap.size w)
 have H : (if 0 ≤ (l0.length : Int) then (if ((l0.length : Int) : Int).toNat ≤ 8796093022208 then (bag_columnOf.l0 k a1 (List.replicate ((l0.length : Int) : Int).toNat z36) l0 (l0.length : Int) 0) else (none)) else (none)) = some r := h
 clear h
 by_cases c3 : 0 ≤ (l0.length : Int)
 · rw [if_pos c3] at H
   have c3b0 := eq_true c3
   have c3b1 : decide (0 ≤ (l0.length : Int)) = true := dT_ c3
   clear c3
   by_cases c4 : ((l0.length : Int) : Int).toNat ≤ 8796093022208
   · rw [if_pos c4] at H
     have c4b0 := eq_true c4
     have c4b1 : decide (((l0.length : Int) : Int).toNat ≤ 8796093022208) = true := dT_ c4
     clear c4
     obtain ⟨y116, hy116⟩ : ∃ y_ : List (S36), y_ = (List.replicate ((l0.length : Int) : Int).toNat z36) := ⟨_, rfl⟩
     replace H : (bag_columnOf.l0 k a1 y116 l0 (l0.length : Int) 0) = some r := by first | (rw [hy116]; with_reducible exact H) | (have H2_ := (Option.bind_some _ _).symm.trans H; rw [hy116]; with_reducible exact H2_) | (have H2_ := (Option.bind_some _ _).symm.trans H; with_reducible exact H2_) | with_reducible exact H | (rw [hy116]; exact H) | exact H
     have Ny116 := Aside0.mk hy116
     clear hy116
     have H' := Aside0.mk H
     clear H
     go_enter Tryz.func63, Tryz.ntmps63
     go_wp2_with (first | ((with_reducible refine gate_dst (N := 10) rfl ?_); refine Kd.R_make k36 _ 36 rfl (N := 10) rfl 33 _ _ rfl (l0.length : Int) rfl rfl Tryz.underlying33 (.agg #[(.int .u8 0), (.int .i64 0), (.string ⟨#[]⟩)]) 32 info36 rfl (by decide) (by omega) z36 (ok := fun _ => True) (okp := fun _ => True) (k36_mkM _ _ _ z36 ) (fun _ hk => hk) trivial (oT_ (by assumption)) (Nat.le_trans (Nat.mul_le_mul_right _ (oT_ (by assumption) : (l0.length : Int).toNat ≤ 8796093022208)) (by omega)) (Below.refl _ _) (Nat.le_refl _) ?_; intro v117 w5 ho6 hb hg_ hnew_; clear hg_ hnew_; (first | rw [← Ny116.out] at ho6 | (simp only [Int.reduceToNat] at ho6; rw [← Ny116.out] at ho6)); have n0_ := Aside0.mk (Kd.R_lower ho6 (below_size (by repeat (first | (with_reducible first | exact HB.out | apply bA_ | apply bN_ | apply b1_) | exact HB.out)))); have n1_ := Aside0.mk (below_step (by repeat (first | (with_reducible first | exact HB.out | apply bA_ | apply bN_ | apply b1_) | exact HB.out)) hb); clear HB; have HO118 := n0_; have HB := n1_; clear n0_ n1_; clear hb ho6))
     go_loopg [13] k (fun kq v13 w' => ∃ (x5_1 : List (S36)) (x13_1 : Int), v13 = .int .i64 x13_1 ∧ Aside0 (bag_columnOf.l0 kq a1 x5_1 l0 (l0.length : Int) x13_1 = some r) ∧ Aside0 (kq ≤ k) ∧ Aside0 (Kd.R k36 36 w' w.heap.size (fun _ => True) v117 x5_1) ∧ Aside0 (Below w.heap.size w w'))
     case atStart => exact ⟨(y116), (0), (by first | rfl | (simp; done) | (simp [*]; done)), H', ⟨Nat.le_refl _⟩, ⟨by (with_reducible repeat (first | apply Kd.R_alloc | apply Kd.R_drewN | apply Kd.R_drew)); exact HO118.out⟩, ⟨by repeat (first | (with_reducible first | exact HB.out | apply bA_ | apply bN_ | apply b1_) | exact HB.out)⟩⟩
     case round =>
      clear H'
      try clear p2
      try clear c3
      try clear c3b0
      try clear c3b1
      try clear c4
      try clear c4b0
      try clear c4b1
      try clear c6
      obtain ⟨x5_1, x13_1, rfl, HA, HK1, HO_5, HB⟩ := hrel
      cases gk with
      | zero => exact absurd HA.out (by simp [bag_columnOf.l0])
      | succ k1 =>
       have H := HA.out
       clear HA
       simp only [bag_columnOf.l0] at H
       by_cases c7 : x13_1 < (l0.length : Int)
       · rw [if_pos c7] at H
         have c7b0 : decide (x13_1 < (l0.length : Int)) = true := dT_ c7
         clear c7
         by_cases c8 : 0 ≤ x13_1
         · rw [if_pos c8] at H
           have c8b0 : decide (0 ≤ x13_1) = true := dT_ c8
           clear c8
           by_cases c9 : x13_1 < (l0.length : Int)
           · rw [if_pos c9] at H
             have c9b0 : decide (x13_1 < (l0.length : Int)) = true := dT_ c9
             clear c9
             by_cases c10 : a1 < ((rd_L4 l0 x13_1).length : Int)
             · rw [if_pos c10] at H
               have c10b0 : decide (a1 < ((rd_L4 l0 x13_1).length : Int)) = true := dT_ c10
               clear c10
               by_cases c11 : 0 ≤ a1
               · rw [if_pos c11] at H
                 have c11b0 : decide (0 ≤ a1) = true := dT_ c11
                 clear c11
                 by_cases c12 : x13_1 < (x5_1.length : Int)
                 · rw [if_pos c12] at H
                   have c12b0 : decide (x13_1 < (x5_1.length : Int)) = true := dT_ c12
                   clear c12
                   obtain ⟨y121, hy121⟩ : ∃ y_ : List (S36), y_ = (x5_1.set (x13_1 : Int).toNat (⟨(rd_T36 (rd_L4 l0 x13_1) a1).f0, (rd_T36 (rd_L4 l0 x13_1) a1).f1, (rd_T36 (rd_L4 l0 x13_1) a1).f2⟩ : S36)) := ⟨_, rfl⟩
                   replace H : (bag_columnOf.l0 k1 a1 y121 l0 (l0.length : Int) (wrap64 (x13_1 + 1))) = some r := by first | (rw [hy121]; with_reducible exact H) | (have H2_ := (Option.bind_some _ _).symm.trans H; rw [hy121]; with_reducible exact H2_) | (have H2_ := (Option.bind_some _ _).symm.trans H; with_reducible exact H2_) | with_reducible exact H | (rw [hy121]; exact H) | exact H
                   have Ny121 := Aside0.mk hy121
                   clear hy121
                   have H' := Aside0.mk H
                   clear H
                   have p119 : 0 ≤ (x13_1 : Int) := oT_ (by assumption)
                   have q119 : x13_1 < (l0.length : Int) := oT_ (by assumption)
                   obtain ⟨ad119, A119_0, c119_0, e119, hx119_0, hl119_0, hi119_0⟩ := at_L4 HR0.out x13_1 p119 q119
                   cases e119
                   replace hx119_0 := (HB.out.cell (bLC_ w _ hx119_0)).trans hx119_0
                   have HR119_0 := Aside0.mk hi119_0
                   have HC119_0 := Aside0.mk hl119_0
                   clear hi119_0 hl119_0
                   replace p119 := eq_true p119
                   replace q119 := eq_true q119
                   have p120 : 0 ≤ (a1 : Int) := oT_ (by assumption)
                   have q120 : a1 < ((rd_L4 l0 x13_1).length : Int) := oT_ (by assumption)
                   obtain ⟨ad120, e120, hx120_0, hx120_1, hx120_2⟩ := at_T36 HR119_0.out a1 p120 q120
                   cases e120
                   replace hx120_0 := (HB.out.cell (bLC_ w _ hx120_0)).trans hx120_0
                   replace hx120_1 := (HB.out.cell (bLC_ w _ hx120_1)).trans hx120_1
                   replace hx120_2 := (HB.out.cell (bLC_ w _ hx120_2)).trans hx120_2
                   replace p120 := eq_true p120
                   replace q120 := eq_true q120
                   have p13 : 0 ≤ (x13_1 : Int) := oT_ (by assumption)
                   have q13 : (x13_1 : Int) < ((x5_1.length : Int) : Int) := oT_ (by assumption)
                   obtain ⟨go13, co13, eo13, gb13, gl13, cl13, HG13⟩ := Kd.R_form HO_5.out (by omega)
                   (first | cases eo13 | (injection eo13 with ea_ en_ ec_; (first | subst ea_ | (injection ea_ with ea_; subst ea_)); subst ec_; clear en_))
                   have GB13 := Aside0.mk gb13
                   have GG13 := Aside0.mk HG13
                   clear gb13 gl13 HG13
                   obtain ⟨ce13, hcl13, hM13, hcc13, hfr13⟩ := Kd.R_elem HO_5.out z36 (x13_1 : Int) p13 q13
                   obtain rfl := k36_openM hM13
                   have hx13_0 : wr.cell? ⟨go13, (x13_1 : Int).toNat * 3, none⟩ = some (.int .u8 ((rd_T36 x5_1 x13_1).f0)) := hcc13 0 _ rfl
                   have hx13_1 : wr.cell? ⟨go13, (x13_1 : Int).toNat * 3 + 1, none⟩ = some (.int .i64 ((rd_T36 x5_1 x13_1).f1)) := hcc13 1 _ rfl
                   have hx13_2 : wr.cell? ⟨go13, (x13_1 : Int).toNat * 3 + 2, none⟩ = some (.string ((rd_T36 x5_1 x13_1).f2)) := hcc13 2 _ rfl
                   have hf13_0 : wr.frozen? ⟨go13, (x13_1 : Int).toNat * 3, none⟩ = false := hfr13 0
                   have hf13_1 : wr.frozen? ⟨go13, (x13_1 : Int).toNat * 3 + 1, none⟩ = false := hfr13 1
                   have hf13_2 : wr.frozen? ⟨go13, (x13_1 : Int).toNat * 3 + 2, none⟩ = false := hfr13 2
                   clear hcl13 hcc13 hfr13 hM13
                   replace p13 := eq_true p13
                   replace q13 := eq_true q13
                   have HX14 := Aside0.mk (show Kd.R k36 36 wr w.heap.size (fun _ => True) (.slice (some ⟨go13, 0, none⟩) x5_1.length co13) x5_1 from (by (with_reducible repeat (first | apply Kd.R_alloc | apply Kd.R_drewN | apply Kd.R_drew)); exact HO_5.out))
                   obtain ⟨ce14, hcl14, hM14, hcc14, hfr14⟩ := Kd.R_elem HX14.out z36 (x13_1 : Int) (oT_ (by assumption)) (by have h_ : (x13_1 : Int) < ((x5_1.length : Int) : Int) := oT_ (by assumption); first | exact h_ | (have e_ := (Kd.R_reads' HO_5.out).1; omega) | simpa using h_)
                   obtain rfl := k36_openM hM14
                   have HP14 := Kd.R_seg HX14.out (x13_1 : Int) (oT_ (by assumption)) (by have h_ : (x13_1 : Int) < ((x5_1.length : Int) : Int) := oT_ (by assumption); first | exact h_ | (have e_ := (Kd.R_reads' HO_5.out).1; omega) | simpa using h_) (seg := [.int .u8 ((rd_T36 (rd_L4 l0 x13_1) a1).f0), .int .i64 ((rd_T36 (rd_L4 l0 x13_1) a1).f1), .string ((rd_T36 (rd_L4 l0 x13_1) a1).f2)]) (j := 0) hcl14 hcc14 (show 3 ≤ 3 from by decide) (x' := (⟨(rd_T36 (rd_L4 l0 x13_1) a1).f0, (rd_T36 (rd_L4 l0 x13_1) a1).f1, (rd_T36 (rd_L4 l0 x13_1) a1).f2⟩ : S36)) (k36_mkM _ _ _ (⟨(rd_T36 (rd_L4 l0 x13_1) a1).f0, (rd_T36 (rd_L4 l0 x13_1) a1).f1, (rd_T36 (rd_L4 l0 x13_1) a1).f2⟩ : S36) ) (fun _ hk => hk)
                   have hx14_0 := hcc14 0 _ rfl
                   (try simp only [show (k36).sz = 3 from rfl, Nat.mul_one, Nat.add_zero] at hx14_0)
                   have hf14_0 := hfr14 0
                   (try simp only [show (k36).sz = 3 from rfl, Nat.mul_one, Nat.add_zero] at hf14_0)
                   have hx14_1 := hcc14 1 _ rfl
                   (try simp only [show (k36).sz = 3 from rfl, Nat.mul_one, Nat.add_zero] at hx14_1)
                   have hf14_1 := hfr14 1
                   (try simp only [show (k36).sz = 3 from rfl, Nat.mul_one, Nat.add_zero] at hf14_1)
                   have hx14_2 := hcc14 2 _ rfl
                   (try simp only [show (k36).sz = 3 from rfl, Nat.mul_one, Nat.add_zero] at hx14_2)
                   have hf14_2 := hfr14 2
                   (try simp only [show (k36).sz = 3 from rfl, Nat.mul_one, Nat.add_zero] at hf14_2)
                   clear hcl14 hcc14 hfr14 hM14
                   go_wp2_with (first | ((with_reducible refine gate_store (t := 36) (p := 28) rfl ?_); refine store_event (t := 36) (p := 28) (v := ?vo_w15) (w1 := (((wr.setCell ⟨go13, (x13_1 : Int).toNat * 3, none⟩ (.int .u8 ((rd_T36 (rd_L4 l0 x13_1) a1).f0))).setCell ⟨go13, (x13_1 : Int).toNat * 3 + 1, none⟩ (.int .i64 ((rd_T36 (rd_L4 l0 x13_1) a1).f1))).setCell ⟨go13, (x13_1 : Int).toNat * 3 + 2, none⟩ (.string ((rd_T36 (rd_L4 l0 x13_1) a1).f2)))) ?hg ?ho ?hn ?hr ?_; (case ho => rfl); (case hg => rfl); (case hn => rfl); (case hr => first | (go_simp; done) | (go_simp; rfl)); intro w15 hw; have hg : wr.grownBy w15 (some go13) := (by rw [hw]; exact HP14.2); have hp_ : Kd.R k36 36 w15 w.heap.size (fun _ => True) (.slice (some ⟨go13, 0, none⟩) x5_1.length co13) y121 := (by rw [hw, Ny121.out]; exact HP14.1); clear HP14; have n0_ := Aside0.mk (hp_); have n1_ := Aside0.mk ((by rw [hw]; exact below_set (below_set (below_set (HB.out) GB13.out) GB13.out) GB13.out : Below w.heap.size w w15)); clear HO_5; clear HB; have HO_5 := n0_; have HB := n1_; clear n0_ n1_; clear hg hw hp_))
                   go_roundg k1
                   case measure => have := HK1.out; omega
                   case rel => exact ⟨(y121), (wrap64 (x13_1 + 1)), (by first | rfl | (simp; done) | (simp [*]; done)), H', ⟨by have := HK1.out; omega⟩, ⟨by (with_reducible repeat (first | apply Kd.R_alloc | apply Kd.R_drewN | apply Kd.R_drew)); exact HO_5.out⟩, ⟨by repeat (first | (with_reducible first | exact HB.out | apply bA_ | apply bN_ | apply b1_) | exact HB.out)⟩⟩
                 · rw [if_neg c12] at H
                   exact absurd H (by simp)
               · rw [if_neg c11] at H
                 exact absurd H (by simp)
             · rw [if_neg c10] at H
               have c10b0 : decide (a1 < ((rd_L4 l0 x13_1).length : Int)) = false := dF_ c10
               clear c10
               have H' := Aside0.mk H
               clear H
               have p119 : 0 ≤ (x13_1 : Int) := oT_ (by assumption)
               have q119 : x13_1 < (l0.length : Int) := oT_ (by assumption)
               obtain ⟨ad119, A119_0, c119_0, e119, hx119_0, hl119_0, hi119_0⟩ := at_L4 HR0.out x13_1 p119 q119
               cases e119
               replace hx119_0 := (HB.out.cell (bLC_ w _ hx119_0)).trans hx119_0
               have HR119_0 := Aside0.mk hi119_0
               have HC119_0 := Aside0.mk hl119_0
               clear hi119_0 hl119_0
               replace p119 := eq_true p119
               replace q119 := eq_true q119
               go_wp2
               go_roundg k1
               case measure => have := HK1.out; omega
               case rel => exact ⟨(x5_1), (wrap64 (x13_1 + 1)), (by first | rfl | (simp; done) | (simp [*]; done)), H', ⟨by have := HK1.out; omega⟩, ⟨by (with_reducible repeat (first | apply Kd.R_alloc | apply Kd.R_drewN | apply Kd.R_drew)); exact HO_5.out⟩, ⟨by repeat (first | (with_reducible first | exact HB.out | apply bA_ | apply bN_ | apply b1_) | exact HB.out)⟩⟩
           · rw [if_neg c9] at H
             exact absurd H (by simp)
         · rw [if_neg c8] at H
           exact absurd H (by simp)
       · rw [if_neg c7] at H
         have c7b0 : decide (x13_1 < (l0.length : Int)) = false := dF_ c7
         clear c7
         obtain rfl := Option.some.inj H
         go_wp2
         go_ret
         exact ⟨_, by first | rfl | (simp [*, errW_none, errW_some] <;> rfl), by (with_reducible repeat (first | apply Kd.R_alloc | apply Kd.R_drewN | apply Kd.R_drew)); exact HO_5.out, by repeat (first | (with_reducible first | exact HB.out | apply bA_ | apply bN_ | apply b1_) | exact HB.out)⟩
   · rw [if_neg c4] at H
     exact absurd H (by simp)
 · rw [if_neg c3] at H
   exact absurd H (by simp)
end Go.Proofs.YtecgkcgfeghhgaaGreatDoor.PAll
set_option linter.unusedVariables false
set_option linter.unusedSimpArgs false
namespace Go.Proofs.YtecgkcgfeghhgaaGreatDoor.PAll
open Go.RowKit Go.Proofs.YtecgkcgfeghhgaaGreatDoorW.PrintWords Go.Proofs.YtecgkcgfeghhgaaGreatDoorW.PrintLast Go.Proofs.YtecgkcgfeghhgaaGreatDoorW.PrintMore
def columnR (l : List (List V)) (n : Int) : List V := l.map (fun r => rd_T36 r n)
theorem columnOf_l0 (l : List (List V)) (n : Int) (h0 : 0 ≤ n) (hn : l.length ≤ 1099511627776) : ∀ (d i : Nat) (xs : List V), i + d = l.length → xs = (l.take i).map (fun r => rd_T36 r n) ++ List.replicate d z36 →
 Ev (fun k => bag_columnOf.l0 k n xs l (l.length : Int) (i : Int)) (columnR l n) := by
 intro d
 induction d with
 | zero =>
  intro i xs hi hx
  refine Ev.step (f := fun _ => some (columnR l n)) (fun k => ?_) (Ev.now _)
  simp only [bag_columnOf.l0]
  rw [if_neg (by omega), hx, List.take_of_length_le (by omega)]
  simp [columnR]
 | succ d ih =>
  intro i xs hi hx
  have hlt : i < l.length := by omega
  have hxl : xs.length = l.length := by rw [hx]; simp; omega
  have hset : xs.set i (rd_T36 l[i] n) = (l.take (i + 1)).map (fun r => rd_T36 r n) ++ List.replicate d z36 := by
   rw [hx, List.replicate_succ, take_snoc _ _ hlt, List.set_append_right _ _ (by simp; omega)]
   simp only [List.length_map, List.length_take, Nat.min_eq_left (Nat.le_of_lt hlt), Nat.sub_self, List.set_cons_zero, List.map_append]
   simp
  by_cases c : n < (l[i].length : Int)
  · refine Ev.step (f := fun k => bag_columnOf.l0 k n (xs.set i (rd_T36 l[i] n)) l (l.length : Int) ((i + 1 : Nat) : Int)) (fun k => ?_) (ih (i + 1) _ (by omega) hset)
    simp only [bag_columnOf.l0]
    rw [if_pos (by omega), if_pos (by omega), if_pos (by omega), rdL_at hlt, if_pos c, if_pos h0, if_pos (by omega), w64 _ (by omega) (by omega), Int.toNat_natCast]
    rfl
  · have hz : rd_T36 l[i] n = z36 := by
     unfold rd_T36
     rw [List.getD_eq_getElem?_getD, List.getElem?_eq_none (by omega)]
     rfl
    have hsame : xs.set i (rd_T36 l[i] n) = xs := by
     rw [hz, hx, List.replicate_succ, List.set_append_right _ _ (by simp; omega)]
     simp [Nat.min_eq_left (Nat.le_of_lt hlt)]
    refine Ev.step (f := fun k => bag_columnOf.l0 k n xs l (l.length : Int) ((i + 1 : Nat) : Int)) (fun k => ?_) (ih (i + 1) _ (by omega) (by rw [← hset, hsame]))
    simp only [bag_columnOf.l0]
    rw [if_pos (by omega), if_pos (by omega), if_pos (by omega), rdL_at hlt, if_neg c, w64 _ (by omega) (by omega)]
    rfl
theorem columnOf_ev (l : List (List V)) (n : Int) (h0 : 0 ≤ n) (hn : l.length ≤ 1099511627776) : Ev (fun k => bag_columnOf.f k l n) (columnR l n) := by
 refine Ev.congr (f := fun k => bag_columnOf.l0 k n (List.replicate l.length z36) l (l.length : Int) ((0 : Nat) : Int)) (fun k => ?_) (columnOf_l0 l n h0 hn l.length 0 _ (by omega) (by simp))
 unfold bag_columnOf.f
 rw [if_pos (by omega), Int.toNat_natCast, if_pos (by omega)]
 rfl
def kindFrom : Int → List V → Option Int
 | k, [] => some k
 | k, v :: vs => if validV v = true ∧ (k = 0 ∨ v.f0 = 0 ∨ v.f0 = k) then kindFrom (if v.f0 = 0 then k else v.f0) vs else none
def allowedB (fn : Int) (d : Bool) (vs : List V) : Bool :=
 if fn > 5 ∨ fn = 0 ∧ d = true then false else match kindFrom 0 vs with
  | none => false
  | some k => decide (k = 0 ∨ k = 1 ∨ fn ≠ 2 ∧ fn ≠ 5)
theorem allowed_l0 (fn : Int) (vs : List V) (hv : ∀ v ∈ vs, VOk v) (hn : vs.length ≤ 1099511627776) : ∀ (d i : Nat) (k0 : Int), i + d = vs.length →
 Ev (fun k => bag_allowed.l0 k fn k0 vs (vs.length : Int) (i : Int)) (match kindFrom k0 (vs.drop i) with
 | none => false
 | some k => decide (k = 0 ∨ k = 1 ∨ fn ≠ 2 ∧ fn ≠ 5)) := by
 intro d
 induction d with
 | zero =>
  intro i k0 hi
  rw [List.drop_eq_nil_of_le (by omega)]
  refine Ev.step (f := fun _ => some (decide (k0 = 0 ∨ k0 = 1 ∨ fn ≠ 2 ∧ fn ≠ 5))) (fun k => ?_) (Ev.now _)
  simp only [bag_allowed.l0]
  rw [if_neg (by omega)]
  by_cases c0 : k0 = 0
  · simp [c0]
  · by_cases c1 : k0 = 1
    · simp [c1]
    · by_cases c2 : fn = 2
      · simp [c0, c1, c2]
      · by_cases c3 : fn = 5 <;> simp [c0, c1, c2, c3]
 | succ d ih =>
  intro i k0 hi
  have hlt : i < vs.length := by omega
  rw [drop_cons vs i hlt]
  have hvv := valid_value vs[i] (hv _ (List.getElem_mem hlt))
  have one : ∀ k, bag_allowed.l0 (k + 1) fn k0 vs (vs.length : Int) (i : Int) = if validV vs[i] = true then (if k0 = 0 then bag_allowed.j2 k fn k0 vs (vs.length : Int) (i : Int) false vs[i].f0 vs[i].f1 vs[i].f2 else if vs[i].f0 = 0 then bag_allowed.j2 k fn k0 vs (vs.length : Int) (i : Int) false vs[i].f0 vs[i].f1 vs[i].f2 else bag_allowed.j2 k fn k0 vs (vs.length : Int) (i : Int) (vs[i].f0 != k0) vs[i].f0 vs[i].f1 vs[i].f2) else bag_allowed.j2 k fn k0 vs (vs.length : Int) (i : Int) true vs[i].f0 vs[i].f1 vs[i].f2 := fun k => by
   simp only [bag_allowed.l0]
   rw [if_pos (by omega), if_pos (by omega), if_pos (by omega), rdV_at hlt, hvv]
   simp only [Option.bind_some]
  have bad : Ev (fun k => bag_allowed.j2 k fn k0 vs (vs.length : Int) (i : Int) true vs[i].f0 vs[i].f1 vs[i].f2) false :=
   Ev.step (f := fun _ => some false) (fun k => by simp [bag_allowed.j2]) (Ev.now _)
  have good : ∀ b, Ev (fun k => bag_allowed.l0 k fn (if vs[i].f0 = 0 then k0 else vs[i].f0) vs (vs.length : Int) ((i + 1 : Nat) : Int)) b → Ev (fun k => bag_allowed.j2 k fn k0 vs (vs.length : Int) (i : Int) false vs[i].f0 vs[i].f1 vs[i].f2) b := fun b hb =>
   Ev.step (fun k => by
    simp only [bag_allowed.j2]
    rw [if_neg (by simp), w64 _ (by omega) (by omega)]
    by_cases c : vs[i].f0 = 0
    · rw [if_pos c, if_pos c]; rfl
    · rw [if_neg c, if_neg c]; rfl) hb
  simp only [kindFrom]
  by_cases c0 : validV vs[i] = true
  · by_cases c1 : k0 = 0 ∨ vs[i].f0 = 0 ∨ vs[i].f0 = k0
    · rw [if_pos ⟨c0, c1⟩]
      refine Ev.step (f := fun k => bag_allowed.j2 k fn k0 vs (vs.length : Int) (i : Int) false vs[i].f0 vs[i].f1 vs[i].f2) (fun k => ?_) (good _ (ih (i + 1) _ (by omega)))
      rw [one, if_pos c0]
      by_cases d1 : k0 = 0
      · rw [if_pos d1]
      · rw [if_neg d1]
        by_cases d2 : vs[i].f0 = 0
        · rw [if_pos d2]
        · rw [if_neg d2, show (vs[i].f0 != k0) = false by simp; omega]
    · rw [if_neg (fun h => c1 h.2)]
      refine Ev.step (f := fun k => bag_allowed.j2 k fn k0 vs (vs.length : Int) (i : Int) true vs[i].f0 vs[i].f1 vs[i].f2) (fun k => ?_) bad
      rw [one, if_pos c0, if_neg (by omega), if_neg (by omega), show (vs[i].f0 != k0) = true by simp; omega]
  · rw [if_neg (fun h => c0 h.1)]
    refine Ev.step (f := fun k => bag_allowed.j2 k fn k0 vs (vs.length : Int) (i : Int) true vs[i].f0 vs[i].f1 vs[i].f2) (fun k => ?_) bad
    rw [one, if_neg c0]
theorem allowed_ev (fn : Int) (d : Bool) (vs : List V) (hv : ∀ v ∈ vs, VOk v) (hn : vs.length ≤ 1099511627776) : Ev (fun k => bag_allowed.f k fn d vs) (allowedB fn d vs) := by
 have bad : Ev (fun k => bag_allowed.j0 k fn vs true) false := Ev.step (f := fun _ => some false) (fun k => by simp [bag_allowed.j0]) (Ev.now _)
 have good := allowed_l0 fn vs hv hn vs.length 0 0 (by omega)
 rw [List.drop_zero] at good
 have good2 : Ev (fun k => bag_allowed.j0 k fn vs false) (match kindFrom 0 vs with
  | none => false
  | some k => decide (k = 0 ∨ k = 1 ∨ fn ≠ 2 ∧ fn ≠ 5)) := Ev.step (fun k => by simp only [bag_allowed.j0]; rw [if_neg (by simp)]; rfl) good
 unfold allowedB
 by_cases c0 : fn > 5
 · rw [if_pos (.inl c0)]
   exact Ev.congr (fun k => by unfold bag_allowed.f; rw [if_pos c0]) bad
 · by_cases c1 : fn = 0
   · cases d with
     | true =>
      rw [if_pos (.inr ⟨c1, rfl⟩)]
      exact Ev.congr (fun k => by unfold bag_allowed.f; rw [if_neg c0, if_pos c1]) bad
     | false =>
      rw [if_neg (by simp; omega)]
      exact Ev.congr (fun k => by unfold bag_allowed.f; rw [if_neg c0, if_pos c1]) good2
   · rw [if_neg (by omega)]
     exact Ev.congr (fun k => by unfold bag_allowed.f; rw [if_neg c0, if_neg c1]) good2
theorem rowStep_kind : ∀ (ks : List Int) (r : List V) (ks' : List Int), rowStep ks r = some ks' → ks'.length = ks.length ∧ (∀ j : Nat, ks.getD j 0 ≠ 0 → ks'.getD j 0 = ks.getD j 0) ∧ ∀ (j : Nat) (h : j < r.length), r[j].f0 = 0 ∨ r[j].f0 = ks'.getD j 0
 | [], [], ks', h => by
  simp [rowStep] at h; subst h; simp
 | [], _ :: _, _, h => by simp [rowStep] at h
 | _ :: _, [], _, h => by simp [rowStep] at h
 | k :: ks, v :: vs, ks', h => by
  simp only [rowStep] at h
  split at h
  · rename_i hv
    cases hr : rowStep ks vs with
    | none => simp [hr] at h
    | some t =>
     simp [hr] at h
     subst h
     obtain ⟨i1, i2, i3⟩ := rowStep_kind ks vs t hr
     refine ⟨by simp [i1], fun j hj => ?_, fun j hj => ?_⟩
     · cases j with
       | zero =>
        simp only [List.getD_cons_zero] at hj ⊢
        rw [if_neg hj]
       | succ j =>
        simp only [List.getD_cons_succ] at hj ⊢
        exact i2 j hj
     · cases j with
       | zero =>
        simp only [List.getElem_cons_zero, List.getD_cons_zero]
        split
        · exact .inr rfl
        · omega
       | succ j =>
        simp only [List.getElem_cons_succ, List.getD_cons_succ]
        exact i3 j (by simpa using hj)
  · cases h
theorem validFrom_kind : ∀ (l : List (List V)) (ks : List Int), validFrom ks l = true → ∃ K : List Int, (∀ j : Nat, ks.getD j 0 ≠ 0 → K.getD j 0 = ks.getD j 0) ∧ ∀ r ∈ l, ∀ (j : Nat) (h : j < r.length), r[j].f0 = 0 ∨ r[j].f0 = K.getD j 0
 | [], ks, _ => ⟨ks, fun _ _ => rfl, by simp⟩
 | r :: rs, ks, h => by
  simp only [validFrom] at h
  cases hr : rowStep ks r with
  | none => simp [hr] at h
  | some t =>
   rw [hr] at h
   obtain ⟨i1, i2, i3⟩ := rowStep_kind ks r t hr
   obtain ⟨K, k1, k2⟩ := validFrom_kind rs t h
   refine ⟨K, fun j hj => ?_, fun u hu j hj => ?_⟩
   · rw [← i2 j hj]
     exact k1 j (by rw [i2 j hj]; exact hj)
   · rcases List.mem_cons.1 hu with rfl | hu
     · rcases i3 j hj with h0 | h0
       · exact .inl h0
       · by_cases hz : t.getD j 0 = 0
         · exact .inl (h0.trans hz)
         · exact .inr (by rw [k1 j hz]; exact h0)
     · exact k2 u hu j hj
theorem kindFrom_some (K : Int) : ∀ (vs : List V) (k : Int), (∀ v ∈ vs, validV v = true ∧ (v.f0 = 0 ∨ v.f0 = K)) → (k = 0 ∨ k = K) → ∃ r, kindFrom k vs = some r ∧ (r = 0 ∨ r = K)
 | [], k, _, hk => ⟨k, rfl, hk⟩
 | v :: vs, k, h, hk => by
  have hv := h v List.mem_cons_self
  simp only [kindFrom]
  rw [if_pos ⟨hv.1, by omega⟩]
  exact kindFrom_some K vs _ (fun u hu => h u (List.mem_cons_of_mem _ hu)) (by split <;> omega)
theorem col_kind {l : List (List V)} (hv : validB l = true) (n : Int) : ∃ K : Int, ∀ row ∈ l, validV (rd_T36 row n) = true ∧ ((rd_T36 row n).f0 = 0 ∨ (rd_T36 row n).f0 = K) := by
 have hz : validV z36 = true := by
  unfold validV noText z36
  simp [ByteArray.toList_eq]
 cases l with
 | nil => exact ⟨0, by simp⟩
 | cons r rs =>
  obtain ⟨K, _, hK⟩ := validFrom_kind (r :: rs) _ hv
  refine ⟨K.getD n.toNat 0, fun row hrow => ?_⟩
  by_cases h : n.toNat < row.length
  · have e : rd_T36 row n = row[n.toNat] := by simp [rd_T36, List.getElem?_eq_getElem h]
    rw [e]
    exact ⟨validB_valid hv row hrow _ (List.getElem_mem h), hK row hrow n.toNat h⟩
  · have e : rd_T36 row n = z36 := by
     unfold rd_T36
     rw [List.getD_eq_getElem?_getD, List.getElem?_eq_none (by omega)]
     rfl
    rw [e]
    exact ⟨hz, .inl rfl⟩
theorem col_allowed {l ls : List (List V)} (hv : validB l = true) (hs : ∀ row ∈ ls, row ∈ l) (n : Int) : allowedB 0 false (columnR ls n) = true := by
 obtain ⟨K, hK⟩ := col_kind hv n
 obtain ⟨r, hr, _⟩ := kindFrom_some K (columnR ls n) 0 (fun v hv => by
  obtain ⟨row, hrow, rfl⟩ := List.mem_map.1 hv
  exact hK row (hs row hrow)) (.inl rfl)
 unfold allowedB
 rw [if_neg (by simp), hr]
 simp
theorem pickV_all : ∀ (vs : List V) (seen : List ByteArray), pickV 0 false seen vs = vs
 | [], _ => rfl
 | v :: vs, seen => by
  rw [pickV, if_neg (by simp), if_neg (by simp), pickV_all vs seen]
def okInt (v : V) : Prop := -9223372036854775808 ≤ v.f1 ∧ v.f1 ≤ 9223372036854775807
def cStep (n : Int) (_ : V) : Int := wrap64 (n + 1)
def tStep (s : Int × Int × Int) (v : V) : Int × Int × Int := ((s.1 + IntKind.u64.wrap (v.f1 / 9223372036854775808) + (s.2.1 + IntKind.u64.wrap v.f1) / 18446744073709551616) % 18446744073709551616, (s.2.1 + IntKind.u64.wrap v.f1) % 18446744073709551616, IntKind.u64.wrap (s.2.2 + 1))
def countG : Gath where
 σ := Int
 T := 129
 S := 131
 take := 168
 done := 167
 cells := fun n => #[.int .i64 n]
 init := 0
 step := cStep
 out := fun n => (1, n, ⟨#[]⟩, 0)
 good := fun _ => True
 inv := fun _ => True
 inv0 := trivial
 step_inv := fun _ _ _ _ => trivial
 hmt := fun a w => by kernel_rfl
 hmd := fun a w => by kernel_rfl
 het := enters_of Tryz.func168 (by kernel_rfl) rfl
 hed := enters_of Tryz.func167 (by kernel_rfl) rfl
 htake := fun b s v w _ _ hb => counter_take b s v w hb
 fin := fun _ => True
 hdone := fun b s w _ _ hb => counter_done b s w hb
def totalG : Gath where
 σ := Int × Int × Int
 T := 120
 S := 122
 take := 158
 done := 157
 cells := fun s => #[.int .u64 s.1, .int .u64 s.2.1, .int .u64 s.2.2]
 init := (0, 0, 0)
 step := tStep
 out := fun s => totalOut s.1 s.2.1 s.2.2
 good := fun _ => True
 inv := fun s => 0 ≤ s.1 ∧ 0 ≤ s.2.1 ∧ s.2.1 < 18446744073709551616
 inv0 := by decide
 step_inv := fun s v _ _ => by
  simp only [tStep]
  omega
 hmt := fun a w => by kernel_rfl
 hmd := fun a w => by kernel_rfl
 het := enters_of Tryz.func158 (by kernel_rfl) rfl
 hed := enters_of Tryz.func157 (by kernel_rfl) rfl
 htake := fun b s v w hi _ hb => total_take 122 b s.1 s.2.1 s.2.2 v w hb hi.1 hi.2.1 hi.2.2
 fin := fun _ => True
 hdone := fun b s w _ _ hb => total_done b s.1 s.2.1 s.2.2 w hb _ _ _ _ rfl
theorem count_fold : ∀ (vs : List V) (n : Int), 0 ≤ n → n + vs.length ≤ 1099511627776 → vs.foldl cStep n = n + vs.length
 | [], n, _, _ => by simp
 | v :: vs, n, h0, h1 => by
  have hl : ((v :: vs).length : Int) = vs.length + 1 := by simp
  rw [hl] at h1 ⊢
  rw [List.foldl_cons]
  show vs.foldl cStep (wrap64 (n + 1)) = _
  rw [w64 n h0 (by omega), count_fold vs (n + 1) (by omega) (by omega)]
  omega
def sumV : List V → Int
 | [] => 0
 | v :: vs => v.f1 + sumV vs
theorem sumV_bd : ∀ vs : List V, (∀ v ∈ vs, okInt v) → -9223372036854775808 * (vs.length : Int) ≤ sumV vs ∧ sumV vs ≤ 9223372036854775807 * (vs.length : Int)
 | [], _ => by simp [sumV]
 | v :: vs, h => by
  have h1 := h v List.mem_cons_self
  have h2 := sumV_bd vs (fun u hu => h u (List.mem_cons_of_mem _ hu))
  have hl : ((v :: vs).length : Int) = vs.length + 1 := by simp
  unfold okInt at h1
  simp only [sumV, hl]
  omega
theorem u64w (x : Int) : IntKind.u64.wrap x = x % 18446744073709551616 := by
 simp [IntKind.wrap, IntKind.bits, IntKind.signed]
def stOf (S : Int) (n : Int) : Int × Int × Int := ((S / 18446744073709551616) % 18446744073709551616, S % 18446744073709551616, n)
theorem total_step (S n : Int) (v : V) (hv : okInt v) (h0 : 0 ≤ n) (h1 : n ≤ 1099511627776) : tStep (stOf S n) v = stOf (S + v.f1) (n + 1) := by
 unfold okInt at hv
 unfold stOf tStep
 simp only [u64w]
 refine Prod.ext ?_ (Prod.ext ?_ ?_)
 · show (S / 18446744073709551616 % 18446744073709551616 + v.f1 / 9223372036854775808 % 18446744073709551616 + (S % 18446744073709551616 + v.f1 % 18446744073709551616) / 18446744073709551616) % 18446744073709551616 = (S + v.f1) / 18446744073709551616 % 18446744073709551616
   rcases (by omega : v.f1 < 0 ∨ 0 ≤ v.f1) with h | h
   · have e1 : v.f1 / 9223372036854775808 = -1 := by omega
     rw [e1]
     omega
   · have e1 : v.f1 / 9223372036854775808 = 0 := by omega
     rw [e1]
     omega
 · show (S % 18446744073709551616 + v.f1 % 18446744073709551616) % 18446744073709551616 = (S + v.f1) % 18446744073709551616
   omega
 · show (n + 1) % 18446744073709551616 = n + 1
   omega
theorem total_fold : ∀ (vs : List V) (S n : Int), (∀ v ∈ vs, okInt v) → 0 ≤ n → n + vs.length ≤ 1099511627776 → vs.foldl tStep (stOf S n) = stOf (S + sumV vs) (n + vs.length)
 | [], S, n, _, _, _ => by simp [sumV]
 | v :: vs, S, n, h, h0, h1 => by
  have hl : ((v :: vs).length : Int) = vs.length + 1 := by simp
  rw [hl] at h1 ⊢
  rw [List.foldl_cons, total_step S n v (h v List.mem_cons_self) h0 (by omega), total_fold vs _ _ (fun u hu => h u (List.mem_cons_of_mem _ hu)) (by omega) (by omega)]
  simp only [sumV]
  congr 1 <;> omega
def sumR (vs : List V) : Int × Int × ByteArray × Int :=
 if vs = [] then (0, 0, ⟨#[]⟩, 0) else if -9223372036854775808 ≤ sumV vs ∧ sumV vs ≤ 9223372036854775807 then (1, sumV vs, ⟨#[]⟩, 0) else (0, 0, ⟨#[]⟩, 4)
theorem wrap64_eq (x : Int) (h0 : 0 ≤ x) (h1 : x < 18446744073709551616) : wrap64 x = if x < 9223372036854775808 then x else x - 18446744073709551616 := by
 unfold wrap64
 split <;> omega
theorem total_out (vs : List V) (h : ∀ v ∈ vs, okInt v) (hn : vs.length ≤ 1099511627776) : totalG.out (vs.foldl totalG.step totalG.init) = sumR vs := by
 have e := total_fold vs 0 0 h (by omega) (by omega)
 have e0 : stOf 0 0 = (0, 0, 0) := by decide
 rw [e0] at e
 change (fun s : Int × Int × Int => totalOut s.1 s.2.1 s.2.2) (vs.foldl tStep (0, 0, 0)) = _
 rw [e]
 have hb := sumV_bd vs h
 rw [Int.zero_add, Int.zero_add]
 unfold stOf totalOut sumR
 obtain ⟨S, hS⟩ : ∃ S, S = sumV vs := ⟨_, rfl⟩
 rw [← hS] at hb ⊢
 by_cases c0 : vs = []
 · subst c0
   simp
 · have hp : 0 < vs.length := List.length_pos_iff.2 c0
   rw [if_neg c0]
   dsimp only
   rw [if_neg (by omega)]
   rw [wrap64_eq _ (by omega) (by omega), u64w]
   by_cases c : -9223372036854775808 ≤ S ∧ S ≤ 9223372036854775807
   · rw [if_pos c]
     split
     · rw [if_pos (by omega)]
       congr 2
       omega
     · rw [if_pos (by omega)]
       congr 2
       omega
   · rw [if_neg c]
     split
     · rw [if_neg (by omega)]
     · rw [if_neg (by omega)]
theorem extreme_done (b : Nat) (sg : Int) (so : Bool) (v : V) (w : World) (hb : w.heap[b]? = some (.cells #[.int .i64 sg, .bool so, .int .u8 v.f0, .int .i64 v.f1, .string v.f2] 128 (0, 0))) :
 Calls Tryz.prog 165 #[.pointer (some ⟨b, 0, none⟩)] w fun e w' => e = .returned (.agg #[.int .u8 v.f0, .int .i64 v.f1, .string v.f2, .int .i64 0]) ∧ Below w.heap.size w w' := by
 have hlt : b < w.heap.size := (Array.getElem?_eq_some_iff.1 hb).1
 have HLT := Aside0.mk hlt
 have HBK := Aside0.mk hb
 clear hb hlt
 go_enter Tryz.func165, Tryz.ntmps165
 go_wp2_with (first | ((with_reducible refine gate_dst (N := 2) rfl ?_); refine box_event ?hg (N := 2) ?hd (cs := #[.int .u8 0, .int .i64 0, .string (⟨#[]⟩ : ByteArray), .int .i64 0]) (t := 38) ?hr ?_; (case hd => rfl); (case hg => rfl); (case hr => first | (go_simp; done) | (go_simp; rfl)); intro q hq W hN hb1; have C0 := (hb1.block b HLT.out).trans HBK.out; have HB1 := Aside0.mk hb1; have HQ := Aside0.mk hq; have HN0 := Aside0.mk hN; have F2 : W.cell? ⟨b, 2, none⟩ = some (.int .u8 v.f0) := (blk_cell C0 2).trans rfl; have F3 : W.cell? ⟨b, 3, none⟩ = some (.int .i64 v.f1) := (blk_cell C0 3).trans rfl; have F5 : W.cell? ⟨b, 4, none⟩ = some (.string v.f2) := (blk_cell C0 4).trans rfl; have G0 : W.cell? ⟨q, 0, none⟩ = some (.int .u8 0) := (blk_cell hN 0).trans rfl; have G1 : W.cell? ⟨q, 1, none⟩ = some (.int .i64 0) := (blk_cell hN 1).trans rfl; have G2 : W.cell? ⟨q, 2, none⟩ = some (.string ⟨#[]⟩) := (blk_cell hN 2).trans rfl; have G3 : W.cell? ⟨q, 3, none⟩ = some (.int .i64 0) := (blk_cell hN 3).trans rfl; have F4 : ∀ j, W.frozen? ⟨q, j, none⟩ = false := (fun j => by simp [World.frozen?, hN]); clear hb1 hq hN C0))
 refine bodyPost_ret (results_cell_row rfl _ _ q 38 #[.int .u8 v.f0, .int .i64 v.f1, .string v.f2, .int .i64 0] (0, 0) _ rfl (out_cells HN0.out _ _ _ _) Tryz.underlying38 rfl (by kernel_rfl)) rfl ?_
 exact ⟨rfl, out_below HB1.out HQ.out _ _ _ _⟩
def eStep (sg : Int) (s : Bool × V) (v : V) : Bool × V := if s.1 = false ∨ sg * compareV v s.2 < 0 then (true, v) else s
theorem extreme_take (b : Nat) (sg : Int) (so : Bool) (u v : V) (w : World) (hb : w.heap[b]? = some (.cells #[.int .i64 sg, .bool so, .int .u8 u.f0, .int .i64 u.f1, .string u.f2] 128 (0, 0))) (hs : sg = 1 ∨ sg = -1) (hk : KindOk v) :
 Calls Tryz.prog 166 #[.pointer (some ⟨b, 0, none⟩), .agg #[.int .u8 v.f0, .int .i64 v.f1, .string v.f2]] w fun e w' => e = .returned (.tuple #[]) ∧ w'.heap[b]? = some (.cells #[.int .i64 sg, .bool (eStep sg (so, u) v).1, .int .u8 (eStep sg (so, u) v).2.f0, .int .i64 (eStep sg (so, u) v).2.f1, .string (eStep sg (so, u) v).2.f2] 128 (0, 0)) ∧ w.grownBy w' (some b) := by
 have hlt : b < w.heap.size := (Array.getElem?_eq_some_iff.1 hb).1
 have HLT := Aside0.mk hlt
 have HBK := Aside0.mk hb
 have HK := Aside0.mk hk
 have HS := Aside0.mk hs
 clear hb hlt hk hs
 cases so with
 | false =>
  have HCALL : ∀ W : World, Aside0 (Calls Tryz.prog 91 #[.agg #[.int .u8 v.f0, .int .i64 v.f1, .string v.f2], .agg #[.int .u8 u.f0, .int .i64 u.f1, .string u.f2]] W fun e w' => e = .returned (.int .i64 (compareV v u)) ∧ Gr W w') := fun W => ⟨compare_calls v u HK.out W⟩
  obtain ⟨c, hc⟩ : ∃ c, c = compareV v u := ⟨_, rfl⟩
  simp only [← hc] at HCALL
  have hm : IntKind.i64.wrap (sg * c) = sg * c := by
   have h1 := compareV_bd v u
   rw [← hc] at h1
   simp only [i64_w]
   unfold wrap64
   rcases HS.out with rfl | rfl <;> omega
  have HC := Aside0.mk hc
  clear hc
  go_enter Tryz.func166, Tryz.ntmps166
  go_wp2_with (first | ((with_reducible refine gate_dst (N := 3) rfl ?_); refine box_event ?hg (N := 3) ?hd (cs := #[.int .u8 v.f0, .int .i64 v.f1, .string v.f2]) (t := 36) ?hr ?_; (case hd => rfl); (case hg => rfl); (case hr => first | (go_simp; done) | (go_simp; rfl)); intro q hq W hN hb1; have C0 := (hb1.block b HLT.out).trans HBK.out; have HB1 := Aside0.mk hb1; have HC0 := Aside0.mk C0; have HQ := Aside0.mk hq; have HNB := Aside0.mk hN; have E0 : W.cell? ⟨b, 0, none⟩ = some (.int .i64 sg) := (blk_cell C0 0).trans rfl; have E1 : W.cell? ⟨b, 1, none⟩ = some (.bool false) := (blk_cell C0 1).trans rfl; have E2 : W.cell? ⟨b, 2, none⟩ = some (.int .u8 u.f0) := (blk_cell C0 2).trans rfl; have E3 : W.cell? ⟨b, 3, none⟩ = some (.int .i64 u.f1) := (blk_cell C0 3).trans rfl; have E4 : W.cell? ⟨b, 4, none⟩ = some (.string u.f2) := (blk_cell C0 4).trans rfl; have N0 : W.cell? ⟨q, 0, none⟩ = some (.int .u8 v.f0) := (blk_cell hN 0).trans rfl; have N1 : W.cell? ⟨q, 1, none⟩ = some (.int .i64 v.f1) := (blk_cell hN 1).trans rfl; have N2 : W.cell? ⟨q, 2, none⟩ = some (.string v.f2) := (blk_cell hN 2).trans rfl; clear hb1 hq hN C0))
  refine wp_region_held_drew (S := (fun W' => W'.cell? ⟨b, 1, none⟩ = some (.bool false))) (by kernel_rfl) E1 (fun hHeld => ?_)
  refine wpAnyH_take (i := 0) (oi := ⟨some 4, _, _, _, _, _⟩) (v := ?_) rfl (by kernel_rfl) (by kernel_rfl) (by kernel_rfl) (fun _ _ _ h => h) (Or.inl ⟨by rfl, ?_⟩) (by assumption) ?_
  rotate_left
  · intro w' hSw
    try dsimp only at hSw
    go_simp
    try with_reducible rfl
  try simp only [Act.put, sTA_, sCZ_, sCS_]
  refine wpAnyH_take (i := 1) (oi := ⟨some 5, _, _, _, _, _⟩) (v := ?_) rfl (by kernel_rfl) (by kernel_rfl) (by kernel_rfl) (fun _ _ _ h => h) (Or.inl ⟨by rfl, ?_⟩) (by assumption) ?_
  rotate_left
  · intro w' hSw
    try dsimp only at hSw
    go_simp
    try with_reducible rfl
  try simp only [Act.put, sTA_, sCZ_, sCS_]
  refine wpAnyH_take (i := 2) (oi := ⟨some 6, _, _, _, _, _⟩) (v := ?_) rfl (by kernel_rfl) (by kernel_rfl) (by kernel_rfl) (fun _ _ _ h => h) (Or.inl ⟨by rfl, ?_⟩) (by assumption) ?_
  rotate_left
  · intro w' hSw
    try dsimp only at hSw
    go_simp
    try with_reducible rfl
  try simp only [Act.put, sTA_, sCZ_, sCS_]
  refine wpAnyH_take (i := 3) (oi := ⟨some 7, _, _, _, _, _⟩) (v := ?_) rfl (by kernel_rfl) (by kernel_rfl) (by kernel_rfl) (fun _ _ _ h => h) (Or.inl ⟨by rfl, ?_⟩) (by assumption) ?_
  rotate_left
  · intro w' hSw
    try dsimp only at hSw
    go_simp
    try with_reducible rfl
  try simp only [Act.put, sTA_, sCZ_, sCS_]
  refine wpAnyH_take (i := 4) (oi := ⟨some 8, _, _, _, _, _⟩) (v := ?_) rfl (by kernel_rfl) (by kernel_rfl) (by kernel_rfl) (fun _ _ _ h => h) (Or.inl ⟨by rfl, ?_⟩) (by assumption) ?_
  rotate_left
  · intro w' hSw
    try dsimp only at hSw
    go_simp
    try with_reducible rfl
  try simp only [Act.put, sTA_, sCZ_, sCS_]
  refine wpAnyH_take (i := 5) (oi := ⟨some 9, _, _, _, _, _⟩) (v := ?_) rfl (by kernel_rfl) (by kernel_rfl) (by kernel_rfl) (fun _ _ _ h => h) (Or.inl ⟨by rfl, ?_⟩) (by assumption) ?_
  rotate_left
  · intro w' hSw
    try dsimp only at hSw
    go_simp
    try with_reducible rfl
  try simp only [Act.put, sTA_, sCZ_, sCS_]
  refine wpAnyH_take (i := 6) (oi := ⟨some 10, _, _, _, _, _⟩) (v := undef) rfl (by kernel_rfl) (by kernel_rfl) (by kernel_rfl) (fun _ _ _ h => h) (Or.inr ⟨by rfl, rfl⟩) (by assumption) ?_
  simp only [Act.put, sTA_, sCZ_, sCS_]
  refine wpAnyH_take (i := 7) (oi := ⟨some 11, _, _, _, _, _⟩) (v := undef) rfl (by kernel_rfl) (by kernel_rfl) (by kernel_rfl) (fun _ _ _ h => h) (Or.inr ⟨by rfl, rfl⟩) (by assumption) ?_
  simp only [Act.put, sTA_, sCZ_, sCS_]
  refine wpAnyH_take (i := 8) (oi := ⟨some 12, _, _, _, _, _⟩) (v := undef) rfl (by kernel_rfl) (by kernel_rfl) (by kernel_rfl) (fun _ _ _ h => h) (Or.inr ⟨by rfl, rfl⟩) (by assumption) ?_
  simp only [Act.put, sTA_, sCZ_, sCS_]
  refine wpAnyH_take (i := 9) (oi := ⟨some 13, _, _, _, _, _⟩) (v := undef) rfl (by kernel_rfl) (by kernel_rfl) (by kernel_rfl) (fun _ _ _ h => h) (Or.inr ⟨by rfl, rfl⟩) (by assumption) ?_
  simp only [Act.put, sTA_, sCZ_, sCS_]
  refine wpAnyH_take (i := 10) (oi := ⟨some 14, _, _, _, _, _⟩) (v := undef) rfl (by kernel_rfl) (by kernel_rfl) (by kernel_rfl) (fun _ _ _ h => h) (Or.inr ⟨by rfl, rfl⟩) (by assumption) ?_
  simp only [Act.put, sTA_, sCZ_, sCS_]
  refine wpAnyH_take (i := 11) (oi := ⟨some 15, _, _, _, _, _⟩) (v := undef) rfl (by kernel_rfl) (by kernel_rfl) (by kernel_rfl) (fun _ _ _ h => h) (Or.inr ⟨by rfl, rfl⟩) (by assumption) ?_
  simp only [Act.put, sTA_, sCZ_, sCS_]
  refine wpAnyH_take (i := 12) (oi := ⟨some 16, _, _, _, _, _⟩) (v := undef) rfl (by kernel_rfl) (by kernel_rfl) (by kernel_rfl) (fun _ _ _ h => h) (Or.inr ⟨by rfl, rfl⟩) (by assumption) ?_
  simp only [Act.put, sTA_, sCZ_, sCS_]
  refine wpAnyH_take (i := 13) (oi := ⟨some 17, _, _, _, _, _⟩) (v := undef) rfl (by kernel_rfl) (by kernel_rfl) (by kernel_rfl) (fun _ _ _ h => h) (Or.inr ⟨by rfl, rfl⟩) (by assumption) ?_
  simp only [Act.put, sTA_, sCZ_, sCS_]
  refine wpAnyH_take (i := 14) (oi := ⟨some 18, _, _, _, _, _⟩) (v := undef) rfl (by kernel_rfl) (by kernel_rfl) (by kernel_rfl) (fun _ _ _ h => h) (Or.inr ⟨by rfl, rfl⟩) (by assumption) ?_
  simp only [Act.put, sTA_, sCZ_, sCS_]
  refine wpAnyH_take (i := 15) (oi := ⟨some 19, _, _, _, _, _⟩) (v := undef) rfl (by kernel_rfl) (by kernel_rfl) (by kernel_rfl) (fun _ _ _ h => h) (Or.inr ⟨by rfl, rfl⟩) (by assumption) ?_
  simp only [Act.put, sTA_, sCZ_, sCS_]
  refine wpAnyH_take (i := 16) (oi := ⟨some 20, _, _, _, _, _⟩) (v := undef) rfl (by kernel_rfl) (by kernel_rfl) (by kernel_rfl) (fun _ _ _ h => h) (Or.inr ⟨by rfl, rfl⟩) (by assumption) ?_
  simp only [Act.put, sTA_, sCZ_, sCS_]
  refine wpAnyH_take (i := 17) (oi := ⟨some 21, _, _, _, _, _⟩) (v := undef) rfl (by kernel_rfl) (by kernel_rfl) (by kernel_rfl) (fun _ _ _ h => h) (Or.inr ⟨by rfl, rfl⟩) (by assumption) ?_
  simp only [Act.put, sTA_, sCZ_, sCS_]
  refine wpAnyH_take (i := 18) (oi := ⟨some 22, _, _, _, _, _⟩) (v := ?_) rfl (by kernel_rfl) (by kernel_rfl) (by kernel_rfl) (fun _ _ _ h => h) (Or.inl ⟨by rfl, ?_⟩) (by assumption) ?_
  rotate_left
  · intro w' hSw
    try dsimp only at hSw
    go_simp
    try with_reducible rfl
  try simp only [Act.put, sTA_, sCZ_, sCS_]
  refine wpAnyH_done (by kernel_rfl) ?_ _
  have HBW : Aside0 (Below W.heap.size W W.drew) := ⟨(Below.refl _ W).drew⟩
  obtain ⟨W2, hW2⟩ : ∃ W2, W2 = W.drew := ⟨_, rfl⟩
  rw [← hW2]
  rw [← hW2] at HBW
  have C2 := (HBW.out.block b (blk_lt HC0.out)).trans HC0.out
  have N2_ := (HBW.out.block q (blk_lt HNB.out)).trans HNB.out
  have HC2 := Aside0.mk C2
  have n0 : W2.cell? ⟨q, 0, none⟩ = some (.int .u8 v.f0) := (blk_cell N2_ 0).trans rfl
  have n1 : W2.cell? ⟨q, 1, none⟩ = some (.int .i64 v.f1) := (blk_cell N2_ 1).trans rfl
  have n2 : W2.cell? ⟨q, 2, none⟩ = some (.string v.f2) := (blk_cell N2_ 2).trans rfl
  have HNE : q ≠ b := fun e => by have := HQ.out; have := HLT.out; omega
  have hfz : ∀ j, W2.frozen? ⟨b, j, none⟩ = false := fun j => by simp [World.frozen?, C2]
  have e0 : W2.cell? ⟨b, 0, none⟩ = some (.int .i64 sg) := (blk_cell C2 0).trans rfl
  have e1 : W2.cell? ⟨b, 1, none⟩ = some (.bool false) := (blk_cell C2 1).trans rfl
  have e2 : W2.cell? ⟨b, 2, none⟩ = some (.int .u8 u.f0) := (blk_cell C2 2).trans rfl
  have e3 : W2.cell? ⟨b, 3, none⟩ = some (.int .i64 u.f1) := (blk_cell C2 3).trans rfl
  have e4 : W2.cell? ⟨b, 4, none⟩ = some (.string u.f2) := (blk_cell C2 4).trans rfl
  clear C2 N2_ hW2
  go_wp2
  go_region
  go_wp2
  have HES : Aside0 (eStep sg (false, u) v = (true, v)) := ⟨if_pos (.inl rfl)⟩
  go_end0
  refine ⟨rfl, ?_, ?_⟩
  · rw [HES.out]
    exact (blk_set (blk_set (blk_set (blk_set HC2.out 1 _) 2 _) 3 _) 4 _).trans rfl
  · exact grownBy_set (grownBy_set0 (grownBy_set0 (grownBy_set0 (below_grownBy (HB1.out.trans (HBW.out.mono HB1.out.size))) 1 _) 2 _) 3 _) 4 _
 | true =>
  have HCALL : ∀ W : World, Aside0 (Calls Tryz.prog 91 #[.agg #[.int .u8 v.f0, .int .i64 v.f1, .string v.f2], .agg #[.int .u8 u.f0, .int .i64 u.f1, .string u.f2]] W fun e w' => e = .returned (.int .i64 (compareV v u)) ∧ Gr W w') := fun W => ⟨compare_calls v u HK.out W⟩
  obtain ⟨c, hc⟩ : ∃ c, c = compareV v u := ⟨_, rfl⟩
  simp only [← hc] at HCALL
  have hm : IntKind.i64.wrap (sg * c) = sg * c := by
   have h1 := compareV_bd v u
   rw [← hc] at h1
   simp only [i64_w]
   unfold wrap64
   rcases HS.out with rfl | rfl <;> omega
  have HC := Aside0.mk hc
  clear hc
  go_enter Tryz.func166, Tryz.ntmps166
  go_wp2_with (first | ((with_reducible refine gate_dst (N := 3) rfl ?_); refine box_event ?hg (N := 3) ?hd (cs := #[.int .u8 v.f0, .int .i64 v.f1, .string v.f2]) (t := 36) ?hr ?_; (case hd => rfl); (case hg => rfl); (case hr => first | (go_simp; done) | (go_simp; rfl)); intro q hq W hN hb1; have C0 := (hb1.block b HLT.out).trans HBK.out; have HB1 := Aside0.mk hb1; have HC0 := Aside0.mk C0; have HQ := Aside0.mk hq; have HNB := Aside0.mk hN; have E0 : W.cell? ⟨b, 0, none⟩ = some (.int .i64 sg) := (blk_cell C0 0).trans rfl; have E1 : W.cell? ⟨b, 1, none⟩ = some (.bool true) := (blk_cell C0 1).trans rfl; have E2 : W.cell? ⟨b, 2, none⟩ = some (.int .u8 u.f0) := (blk_cell C0 2).trans rfl; have E3 : W.cell? ⟨b, 3, none⟩ = some (.int .i64 u.f1) := (blk_cell C0 3).trans rfl; have E4 : W.cell? ⟨b, 4, none⟩ = some (.string u.f2) := (blk_cell C0 4).trans rfl; have N0 : W.cell? ⟨q, 0, none⟩ = some (.int .u8 v.f0) := (blk_cell hN 0).trans rfl; have N1 : W.cell? ⟨q, 1, none⟩ = some (.int .i64 v.f1) := (blk_cell hN 1).trans rfl; have N2 : W.cell? ⟨q, 2, none⟩ = some (.string v.f2) := (blk_cell hN 2).trans rfl; clear hb1 hq hN C0))
  go_region_held3 (fun W' => W'.cell? ⟨b, 0, none⟩ = some (.int .i64 sg) ∧ W'.cell? ⟨b, 1, none⟩ = some (.bool true) ∧ W'.cell? ⟨b, 2, none⟩ = some (.int .u8 u.f0) ∧ W'.cell? ⟨b, 3, none⟩ = some (.int .i64 u.f1) ∧ W'.cell? ⟨b, 4, none⟩ = some (.string u.f2) ∧ W'.cell? ⟨q, 0, none⟩ = some (.int .u8 v.f0) ∧ W'.cell? ⟨q, 1, none⟩ = some (.int .i64 v.f1) ∧ W'.cell? ⟨q, 2, none⟩ = some (.string v.f2)) (go_keep) (first | (go_at_call 91; (with_reducible refine (HCALL _).out.mono ?_); rintro e w1 ⟨rfl, hg1⟩; have r0 := cB_ (w := W.drew) hg1.below E0; have r1 := cB_ (w := W.drew) hg1.below E1; have r2 := cB_ (w := W.drew) hg1.below E2; have r3 := cB_ (w := W.drew) hg1.below E3; have r4 := cB_ (w := W.drew) hg1.below E4; have r5 := cB_ (w := W.drew) hg1.below N0; have r6 := cB_ (w := W.drew) hg1.below N1; have r7 := cB_ (w := W.drew) hg1.below N2; have HB2 := Aside0.mk ((Below.refl _ W).drew.trans hg1.below); clear hg1))
  clear r0 r1 r2 r3 r4 r5 r6 r7 E0 E1 E2 E3 E4 N0 N1 N2
  have HBW : Aside0 (Below W.heap.size W w1) := ⟨HB2.out⟩
  obtain ⟨W2, hW2⟩ : ∃ W2, W2 = w1 := ⟨_, rfl⟩
  rw [← hW2]
  rw [← hW2] at HBW
  have C2 := (HBW.out.block b (blk_lt HC0.out)).trans HC0.out
  have N2_ := (HBW.out.block q (blk_lt HNB.out)).trans HNB.out
  have HC2 := Aside0.mk C2
  have n0 : W2.cell? ⟨q, 0, none⟩ = some (.int .u8 v.f0) := (blk_cell N2_ 0).trans rfl
  have n1 : W2.cell? ⟨q, 1, none⟩ = some (.int .i64 v.f1) := (blk_cell N2_ 1).trans rfl
  have n2 : W2.cell? ⟨q, 2, none⟩ = some (.string v.f2) := (blk_cell N2_ 2).trans rfl
  have HNE : q ≠ b := fun e => by have := HQ.out; have := HLT.out; omega
  have hfz : ∀ j, W2.frozen? ⟨b, j, none⟩ = false := fun j => by simp [World.frozen?, C2]
  have e0 : W2.cell? ⟨b, 0, none⟩ = some (.int .i64 sg) := (blk_cell C2 0).trans rfl
  have e1 : W2.cell? ⟨b, 1, none⟩ = some (.bool true) := (blk_cell C2 1).trans rfl
  have e2 : W2.cell? ⟨b, 2, none⟩ = some (.int .u8 u.f0) := (blk_cell C2 2).trans rfl
  have e3 : W2.cell? ⟨b, 3, none⟩ = some (.int .i64 u.f1) := (blk_cell C2 3).trans rfl
  have e4 : W2.cell? ⟨b, 4, none⟩ = some (.string u.f2) := (blk_cell C2 4).trans rfl
  clear C2 N2_ hW2 HB2
  by_cases hh : sg * c < 0
  · have hb : decide (sg * c < 0) = true := decide_eq_true hh
    have HES : Aside0 (eStep sg (true, u) v = (true, v)) := ⟨if_pos (.inr (by rw [HC.out] at hh; exact hh))⟩
    clear hh
    rw [hb]
    go_wp2
    go_region
    go_wp2
    go_end0
    refine ⟨rfl, ?_, ?_⟩
    · rw [HES.out]
      exact (blk_set (blk_set (blk_set (blk_set HC2.out 1 _) 2 _) 3 _) 4 _).trans rfl
    · exact grownBy_set (grownBy_set0 (grownBy_set0 (grownBy_set0 (below_grownBy (HB1.out.trans (HBW.out.mono HB1.out.size))) 1 _) 2 _) 3 _) 4 _
  · have hb : decide (sg * c < 0) = false := decide_eq_false hh
    have HES : Aside0 (eStep sg (true, u) v = (true, u)) := ⟨if_neg (fun h => by
     rcases h with h | h
     · cases h
     · rw [HC.out] at hh; exact hh h)⟩
    clear hh
    rw [hb]
    go_wp2
    go_end0
    refine ⟨rfl, ?_, below_grownBy (HB1.out.trans (HBW.out.mono HB1.out.size))⟩
    rw [HES.out]
    exact HC2.out
theorem wu64 (x : Int) : IntKind.u64.wrap x = x % 18446744073709551616 := by
 simp [IntKind.wrap, IntKind.bits, IntKind.signed]
theorem knuth (hi lo y p Y yn1 un32 un10 un1 un0 q1 q0 un21 : Nat) (h32 : Y = yn1 * 4294967296) (hY : Y = y * p) (hp : 0 < p) (hhi : hi < y)
 (hN : un32 * 18446744073709551616 + un10 = (hi * 18446744073709551616 + lo) * p) (h1 : un10 = un1 * 4294967296 + un0) (h0 : un0 < 4294967296)
 (hy : 0 < yn1) (hq1 : q1 = un32 / yn1) (h21 : un21 = (un32 % yn1) * 4294967296 + un1) (hq0 : q0 = un21 / yn1) : q1 * 4294967296 + q0 = (hi * 18446744073709551616 + lo) / y := by
 have e1 : yn1 * q1 + un32 % yn1 = un32 := by rw [hq1]; exact Nat.div_add_mod un32 yn1
 have e2 : yn1 * q0 + un21 % yn1 = un21 := by rw [hq0]; exact Nat.div_add_mod un21 yn1
 have l2 := Nat.mod_lt un21 hy
 obtain ⟨r1, hr1⟩ : ∃ r, r = un32 % yn1 := ⟨_, rfl⟩
 obtain ⟨r0, hr0⟩ : ∃ r, r = un21 % yn1 := ⟨_, rfl⟩
 rw [← hr1] at e1 h21
 rw [← hr0] at e2 l2
 have hy0 : 0 < y := by omega
 obtain ⟨A, hA⟩ : ∃ A, A = yn1 * q1 := ⟨_, rfl⟩
 obtain ⟨B, hB⟩ : ∃ B, B = yn1 * q0 := ⟨_, rfl⟩
 have e3 : (q1 * 4294967296 + q0) * Y = A * 18446744073709551616 + B * 4294967296 := by
  rw [h32, hA, hB, Nat.add_mul]
  congr 1
  · rw [Nat.mul_mul_mul_comm, Nat.mul_comm q1 yn1]
  · rw [← Nat.mul_assoc, Nat.mul_comm q0 yn1]
 rw [← hA] at e1
 rw [← hB] at e2
 have lt : (hi * 18446744073709551616 + lo) * p = (q1 * 4294967296 + q0) * Y + (r0 * 4294967296 + un0) := by
  rw [e3, ← hN]; omega
 have lt2 : r0 * 4294967296 + un0 < Y := by rw [h32]; omega
 have : (hi * 18446744073709551616 + lo) * p / (y * p) = q1 * 4294967296 + q0 := by
  rw [← hY, lt, Nat.mul_comm (q1 * 4294967296 + q0) Y, Nat.mul_add_div (by omega), Nat.div_eq_of_lt lt2, Nat.add_zero]
 rw [← this, Nat.mul_div_mul_right _ _ hp]
theorem vstep (U t1 W rh V : Nat) (eV : V = rh * 4294967296 + t1) (hd : W + rh = U) (hl : V < 18446744073709551616) :
 IntKind.u64.wrap (IntKind.u64.wrap (IntKind.u64.wrap ((U : Int) * 4294967296) + (t1 : Int)) - IntKind.u64.wrap ((W * 4294967296 : Nat) : Int)) = (V : Int) := by
 rw [wu64, wu64, wu64, wu64]
 omega
theorem div_facts (hi lo y : Int) (h0 : 0 ≤ hi) (h1 : hi < y) (h2 : y < 4294967296) (h3 : 0 ≤ lo) (h4 : lo < 18446744073709551616) :
 ∃ s p Y n1 H t p2 L1 U T t1 t0 q1 Q rh R1 R A1 A2 A3 V q0 B1 rh2 C1 C2 D1 : Int,
  64 - (Lib.bitLen y.toNat : Int) = s ∧ IntKind.u64.wrap s = s ∧ (2 : Int) ^ min s.toNat 64 = p ∧ IntKind.u64.wrap (y * p) = Y ∧ Y / 4294967296 = n1 ∧ bits BinOp.and IntKind.u64 Y 4294967295 = 0 ∧
  IntKind.u64.wrap (hi * p) = H ∧ IntKind.u64.wrap (64 - s) = t ∧ (2 : Int) ^ min t.toNat 64 = p2 ∧ lo / p2 = L1 ∧ bits BinOp.or IntKind.u64 H L1 = U ∧
  IntKind.u64.wrap (lo * p) = T ∧ T / 4294967296 = t1 ∧ bits BinOp.and IntKind.u64 T 4294967295 = t0 ∧
  ¬ n1 = 0 ∧ IntKind.u64.wrap (U.tdiv n1) = q1 ∧ IntKind.u64.wrap (q1 * n1) = Q ∧ IntKind.u64.wrap (U - Q) = rh ∧
  decide (4294967296 ≤ q1) = false ∧ IntKind.u64.wrap (4294967296 * rh) = R1 ∧ IntKind.u64.wrap (R1 + t1) = R ∧ decide (R < 0) = false ∧
  IntKind.u64.wrap (U * 4294967296) = A1 ∧ IntKind.u64.wrap (A1 + t1) = A2 ∧ IntKind.u64.wrap (q1 * Y) = A3 ∧ IntKind.u64.wrap (A2 - A3) = V ∧
  IntKind.u64.wrap (V.tdiv n1) = q0 ∧ IntKind.u64.wrap (q0 * n1) = B1 ∧ IntKind.u64.wrap (V - B1) = rh2 ∧
  decide (4294967296 ≤ q0) = false ∧ IntKind.u64.wrap (4294967296 * rh2) = C1 ∧ IntKind.u64.wrap (C1 + t0) = C2 ∧ decide (C2 < 0) = false ∧
  IntKind.u64.wrap (q1 * 4294967296) = D1 ∧ IntKind.u64.wrap (D1 + q0) = (hi * 18446744073709551616 + lo) / y ∧ 0 ≤ s ∧ 0 ≤ t := by
 obtain ⟨hn, rfl⟩ := Int.eq_ofNat_of_zero_le h0
 obtain ⟨ln, rfl⟩ := Int.eq_ofNat_of_zero_le h3
 obtain ⟨yn, rfl⟩ := Int.eq_ofNat_of_zero_le (show 0 ≤ y by omega)
 have k1 : hn < yn := by omega
 have k2 : yn < 4294967296 := by omega
 have k3 : ln < 18446744073709551616 := by omega
 obtain ⟨b, hb⟩ : ∃ b, b = Lib.bitLen yn := ⟨_, rfl⟩
 have hb32 : b ≤ 32 := by rw [hb]; exact Lib.bitLen_le yn 32 (by decide) k2
 obtain ⟨b1, _, b2⟩ := Lib.bitLenAux_bounds 64 yn (Nat.lt_trans k2 (by decide)) (by omega)
 change 1 ≤ Lib.bitLen yn at b1
 change yn < 2 ^ Lib.bitLen yn at b2
 rw [← hb] at b1 b2
 obtain ⟨p2, hp2⟩ : ∃ p2, p2 = 2 ^ b := ⟨_, rfl⟩
 obtain ⟨p0, hp0⟩ : ∃ p0, p0 = 2 ^ (32 - b) := ⟨_, rfl⟩
 have e02 : p0 * p2 = 4294967296 := by rw [hp0, hp2, ← Nat.pow_add, show 32 - b + b = 32 by omega]
 have p0pos : 0 < p0 := by rw [hp0]; exact Nat.two_pow_pos _
 have p2pos : 0 < p2 := by rw [hp2]; exact Nat.two_pow_pos _
 obtain ⟨p, hp⟩ : ∃ p, p = p0 * 4294967296 := ⟨_, rfl⟩
 have hpp : p = 2 ^ (64 - b) := by rw [hp, hp0, show (4294967296 : Nat) = 2 ^ 32 by decide, ← Nat.pow_add, show 32 - b + 32 = 64 - b by omega]
 have e12 : p * p2 = 18446744073709551616 := by rw [hp, Nat.mul_right_comm, e02]
 rw [← hp2] at b2
 have yp : yn * p0 < 4294967296 := by rw [← e02, Nat.mul_comm p0 p2]; exact Nat.mul_lt_mul_of_pos_right b2 p0pos
 obtain ⟨n1, hn1⟩ : ∃ n, n = yn * p0 := ⟨_, rfl⟩
 have n1pos : 0 < n1 := by rw [hn1]; exact Nat.mul_pos (by omega) p0pos
 have hYe : yn * p = n1 * 4294967296 := by rw [hp, hn1, Nat.mul_assoc]
 have hHle : hn * p + p ≤ yn * p := by rw [← Nat.succ_mul]; exact Nat.mul_le_mul_right _ k1
 obtain ⟨L1, hL1⟩ : ∃ x, x = ln / p2 := ⟨_, rfl⟩
 have hL1p : L1 < p := by rw [hL1]; exact Nat.div_lt_of_lt_mul (by rw [Nat.mul_comm, e12]; exact k3)
 obtain ⟨m, hm⟩ : ∃ x, x = ln % p2 := ⟨_, rfl⟩
 have hmp : m < p2 := by rw [hm]; exact Nat.mod_lt _ p2pos
 have hln : ln = p2 * L1 + m := by rw [hL1, hm]; exact (Nat.div_add_mod ln p2).symm
 have hT : ln * p = L1 * 18446744073709551616 + m * p := by rw [hln, Nat.add_mul, Nat.mul_right_comm, Nat.mul_comm p2 p, e12, Nat.mul_comm]
 have hTl : m * p < 18446744073709551616 := by rw [← e12, Nat.mul_comm p p2]; exact Nat.mul_lt_mul_of_pos_right hmp (by omega)
 obtain ⟨T, hTT⟩ : ∃ x, x = m * p := ⟨_, rfl⟩
 rw [← hTT] at hT hTl
 obtain ⟨H, hH⟩ : ∃ x, x = hn * p := ⟨_, rfl⟩
 rw [← hH, hYe] at hHle
 obtain ⟨U, hU⟩ : ∃ x, x = H + L1 := ⟨_, rfl⟩
 have hUl : U < n1 * 4294967296 := by omega
 rw [← hn1] at yp
 obtain ⟨q1, hq1⟩ : ∃ x, x = U / n1 := ⟨_, rfl⟩
 obtain ⟨rh, hrh⟩ : ∃ x, x = U % n1 := ⟨_, rfl⟩
 have d1 : n1 * q1 + rh = U := by rw [hq1, hrh]; exact Nat.div_add_mod U n1
 have d1l : rh < n1 := by rw [hrh]; exact Nat.mod_lt _ n1pos
 have q1l : q1 < 4294967296 := by rw [hq1]; exact Nat.div_lt_of_lt_mul hUl
 obtain ⟨W, hW⟩ : ∃ x, x = n1 * q1 := ⟨_, rfl⟩
 rw [← hW] at d1
 obtain ⟨t1, ht1⟩ : ∃ x, x = T / 4294967296 := ⟨_, rfl⟩
 obtain ⟨t0, ht0⟩ : ∃ x, x = T % 4294967296 := ⟨_, rfl⟩
 obtain ⟨V, hV⟩ : ∃ x, x = rh * 4294967296 + t1 := ⟨_, rfl⟩
 have hVl : V < n1 * 4294967296 := by omega
 obtain ⟨q0, hq0⟩ : ∃ x, x = V / n1 := ⟨_, rfl⟩
 obtain ⟨r2, hr2⟩ : ∃ x, x = V % n1 := ⟨_, rfl⟩
 have d2 : n1 * q0 + r2 = V := by rw [hq0, hr2]; exact Nat.div_add_mod V n1
 have d2l : r2 < n1 := by rw [hr2]; exact Nat.mod_lt _ n1pos
 have q0l : q0 < 4294967296 := by rw [hq0]; exact Nat.div_lt_of_lt_mul hVl
 obtain ⟨X, hX⟩ : ∃ x, x = n1 * q0 := ⟨_, rfl⟩
 rw [← hX] at d2
 have key := knuth hn ln yn p (n1 * 4294967296) n1 U T t1 t0 q1 q0 V rfl hYe.symm (by omega) k1 (by rw [hU, hH, Nat.add_mul (hn * 18446744073709551616), hT]; rw [Nat.mul_right_comm hn]; omega) (by omega) (by omega) n1pos hq1 (by rw [hV, hrh]) hq0
 have eQ : ((q1 : Int)) * (n1 : Int) = (W : Int) := by rw [hW, Nat.mul_comm]; exact (Int.natCast_mul q1 n1).symm
 have eB : ((q0 : Int)) * (n1 : Int) = (X : Int) := by rw [hX, Nat.mul_comm]; exact (Int.natCast_mul q0 n1).symm
 have eY : ((yn : Int)) * (p : Int) = ((n1 * 4294967296 : Nat) : Int) := by rw [← hYe]; exact (Int.natCast_mul yn p).symm
 have eH : ((hn : Int)) * (p : Int) = (H : Int) := by rw [hH]; exact (Int.natCast_mul hn p).symm
 have eT : ((ln : Int)) * (p : Int) = ((L1 * 18446744073709551616 + T : Nat) : Int) := by rw [← hT]; exact (Int.natCast_mul ln p).symm
 have eA : ((q1 : Int)) * ((n1 * 4294967296 : Nat) : Int) = ((W * 4294967296 : Nat) : Int) := by rw [Int.natCast_mul, ← Int.mul_assoc, eQ]; rfl
 have hk64 : ∀ n : Int, 0 ≤ n → n < 2 ^ 64 → IntKind.u64.wrap n = n := fun n a c => by rw [wu64]; omega
 refine ⟨((64 - b : Nat) : Int), (p : Int), ((n1 * 4294967296 : Nat) : Int), (n1 : Int), (H : Int), (b : Int), (p2 : Int), (L1 : Int), (U : Int), (T : Int), (t1 : Int), (t0 : Int), (q1 : Int), (W : Int), (rh : Int), ((4294967296 * rh : Nat) : Int), ((4294967296 * rh + t1 : Nat) : Int), IntKind.u64.wrap ((U : Int) * 4294967296), IntKind.u64.wrap (IntKind.u64.wrap ((U : Int) * 4294967296) + (t1 : Int)), IntKind.u64.wrap ((q1 : Int) * ((n1 * 4294967296 : Nat) : Int)), (V : Int), (q0 : Int), (X : Int), (r2 : Int), ((4294967296 * r2 : Nat) : Int), ((4294967296 * r2 + t0 : Nat) : Int), ((q1 * 4294967296 : Nat) : Int), ?_⟩
 refine ⟨?_, ?_, ?_, ?_, ?_, ?_, ?_, ?_, ?_, ?_, ?_, ?_, ?_, ?_, ?_, ?_, ?_, ?_, ?_, ?_, ?_, ?_, rfl, rfl, rfl, ?_, ?_, ?_, ?_, ?_, ?_, ?_, ?_, ?_, ?_, ?_, ?_⟩
 · rw [Int.toNat_natCast, ← hb]; omega
 · rw [wu64]; omega
 · rw [Int.toNat_natCast, show min (64 - b) 64 = 64 - b by omega, hpp]; simp
 · rw [eY, wu64]; omega
 · omega
 · have := bits_mask .u64 64 (by decide) hk64 32 (by decide) ((n1 * 4294967296 : Nat) : Int) (by omega) (by omega)
   rw [show ((2 : Int) ^ 32 - 1) = 4294967295 by decide] at this
   rw [this]
   omega
 · rw [eH, wu64]; omega
 · rw [wu64]; omega
 · rw [Int.toNat_natCast, show min b 64 = b by omega, hp2]; simp
 · rw [hL1]; exact (Int.natCast_ediv ln p2).symm
 · rw [hU]
   have hmod : ((H : Nat) : Int) % 2 ^ (64 - b) = 0 := by
    have e : ((2 : Int) ^ (64 - b)) = (p : Int) := by rw [hpp]; simp
    rw [e, hH, ← Int.natCast_emod, Nat.mul_mod_left]
    rfl
   have hlt : (L1 : Int) < 2 ^ (64 - b) := by
    have e : ((2 : Int) ^ (64 - b)) = (p : Int) := by rw [hpp]; simp
    rw [e]; omega
   have := bits_join .u64 64 (by decide) hk64 (64 - b) (H : Int) (L1 : Int) (by omega) hmod (by omega) (by omega) hlt (by omega)
   rw [this]
   omega
 · rw [eT, wu64]; omega
 · omega
 · have := bits_mask .u64 64 (by decide) hk64 32 (by decide) (T : Int) (by omega) (by omega)
   rw [show ((2 : Int) ^ 32 - 1) = 4294967295 by decide] at this
   rw [this]
   omega
 · omega
 · rw [← Int.ofNat_tdiv, ← hq1, wu64]; omega
 · rw [eQ, wu64]; omega
 · rw [wu64]; omega
 · exact decide_eq_false (by omega)
 · rw [wu64]; omega
 · rw [wu64]; omega
 · exact decide_eq_false (by omega)
 · rw [eA]; exact vstep U t1 W rh V hV d1 (by omega)
 · rw [← Int.ofNat_tdiv, ← hq0, wu64]; omega
 · rw [eB, wu64]; omega
 · rw [wu64]; omega
 · exact decide_eq_false (by omega)
 · rw [wu64]; omega
 · rw [wu64]; omega
 · exact decide_eq_false (by omega)
 · rw [wu64]; omega
 · rw [wu64]
   have e : ((hn : Int) * 18446744073709551616 + (ln : Int)) = ((hn * 18446744073709551616 + ln : Nat) : Int) := by omega
   rw [e, ← Int.natCast_ediv, ← key]
   omega
 · omega
 · omega
theorem div64_calls (hi lo y : Int) (h0 : 0 ≤ hi) (h1 : hi < y) (h2 : y < 4294967296) (h3 : 0 ≤ lo) (h4 : lo < 18446744073709551616) (w : World) :
 Calls Tryz.prog 163 #[.int .u64 hi, .int .u64 lo, .int .u64 y] w fun e w' => ∃ r, e = .returned (.tuple #[.int .u64 ((hi * 18446744073709551616 + lo) / y), .int .u64 r]) ∧ Below w.heap.size w w' := by
 have z1 : (y == 0) = false := by simp; omega
 have z2 : decide (y ≤ hi) = false := decide_eq_false (by omega)
 have z5 : ¬ y = 0 := by omega
 by_cases c0 : hi = 0
 · have z3 : (hi == 0) = true := by simpa using c0
   have HB : Aside0 (Below w.heap.size w w.drew) := ⟨(Below.refl _ w).drew⟩
   have HQ : Aside0 (IntKind.u64.wrap (lo.tdiv y) = (hi * 18446744073709551616 + lo) / y) := ⟨by
    rw [c0, Int.zero_mul, Int.zero_add]
    obtain ⟨ln, rfl⟩ := Int.eq_ofNat_of_zero_le h3
    obtain ⟨yn, rfl⟩ := Int.eq_ofNat_of_zero_le (show 0 ≤ y by omega)
    rw [← Int.ofNat_tdiv, ← Int.natCast_ediv, wu64]
    have h5 := Nat.div_le_self ln yn
    obtain ⟨d, hd⟩ : ∃ d, d = ln / yn := ⟨_, rfl⟩
    rw [← hd] at h5 ⊢
    omega⟩
   clear h0 h1 h2 h3 h4 c0
   go_enter Tryz.func163, Tryz.ntmps163
   go_wp2
   go_region
   go_wp2
   go_ret2
   exact ⟨_, by rw [HQ.out]; rfl, HB.out⟩
 · have z3 : (hi == 0) = false := by simpa using c0
   have HL := Aside0.mk (Tryz.bits_LeadingZeros64 y w (by omega) (by omega))
   obtain ⟨s, p, Y, n1, H, t, p2, L1, U, T, t1, t0, q1, Q, rh, R1, R, A1, A2, A3, V, q0, B1, rh2, C1, C2, D1, f1, f2, f3, f4, f5, f6, f7, f8, f9, f10, f11, f12, f13, f14, f15, f16, f17, f18, f19, f20, f21, f22, f23, f24, f25, f26, f27, f28, f29, f30, f31, f32, f33, f34, f35, f36, f37⟩ := div_facts hi lo y h0 h1 h2 h3 h4
   rw [f1] at HL
   have HD := Aside0.mk f35
   have g0 : IntKind.u64.wrap 0 = 0 := by decide
   have g1 : decide (0 > R) = false := f22
   have g2 : decide (0 > C2) = false := f33
   clear h0 h1 h2 h3 h4 c0 f35 f1
   go_enter Tryz.func163, Tryz.ntmps163
   go_wp2_with fail
   refine HL.out.mono ?_
   rintro e w1 ⟨rfl, rfl⟩
   clear HL
   go_wp2
   go_rounds 1
   go_rounds 1
   go_ret2
   exact ⟨_, by rw [HD.out]; rfl, Below.refl _ _⟩
end Go.Proofs.YtecgkcgfeghhgaaGreatDoor.PAll
set_option linter.unusedVariables false
set_option linter.unusedSimpArgs false
namespace Go.Proofs.YtecgkcgfeghhgaaGreatDoor.PAll
open Go.RowKit Go.Proofs.YtecgkcgfeghhgaaGreatDoorW.PrintWords Go.Proofs.YtecgkcgfeghhgaaGreatDoorW.PrintLast Go.Proofs.YtecgkcgfeghhgaaGreatDoorW.PrintMore
open Go.Shelf Go.Lib
theorem sub64 (y c : Int) (hy : 0 ≤ y) (hy1 : y < 18446744073709551616) (hc : 0 ≤ c) (hc1 : c ≤ 1) (w : World) :
 (callFunc 162 #[.int .u64 0, .int .u64 y, .int .u64 c]).run Tryz.prog w = .ok (.value (.tuple #[.int .u64 ((18446744073709551616 - y - c) % 18446744073709551616), .int .u64 (if 0 < y + c then 1 else 0)])) w := by
 obtain ⟨b, rfl⟩ := Int.eq_ofNat_of_zero_le hy
 obtain ⟨d, rfl⟩ := Int.eq_ofNat_of_zero_le hc
 have h := Any7.bits_Sub64 sub64L 0 b d (by omega) w
 change (callFunc 162 _).run _ _ = _ at h
 have e1 : (((0 + 18446744073709551616 - b - d) % 18446744073709551616 : Nat) : Int) = (18446744073709551616 - (b : Int) - (d : Int)) % 18446744073709551616 := by omega
 have e2 : ((if 0 < b + d then 1 else 0 : Nat) : Int) = if 0 < (b : Int) + (d : Int) then 1 else 0 := by split <;> split <;> omega
 rw [e1, e2] at h
 exact h
theorem mean_zero (b : Nat) (h l n : Int) (w : World) (hb : w.heap[b]? = some (.cells #[.int .u64 h, .int .u64 l, .int .u64 n] 125 (0, 0))) (hn : n = 0) :
 Calls Tryz.prog 161 #[.pointer (some ⟨b, 0, none⟩)] w fun e w' => e = .returned (.agg #[.int .u8 0, .int .i64 0, .string ⟨#[]⟩, .int .i64 0]) ∧ Below w.heap.size w w' := by
 have hlt : b < w.heap.size := (Array.getElem?_eq_some_iff.1 hb).1
 have HLT := Aside0.mk hlt
 have HBK := Aside0.mk hb
 have hnb : (n == 0) = true := by simp [hn]
 clear hb hlt hn
 go_enter Tryz.func161, Tryz.ntmps161
 go_wp2_with (first | ((with_reducible refine gate_dst (N := 2) rfl ?_); refine box_event ?hg (N := 2) ?hd (cs := #[.int .u8 0, .int .i64 0, .string (⟨#[]⟩ : ByteArray), .int .i64 0]) (t := 38) ?hr ?_; (case hd => rfl); (case hg => rfl); (case hr => first | (go_simp; done) | (go_simp; rfl)); intro q hq W hN hb1; have C0 := (hb1.block b HLT.out).trans HBK.out; have HC0 := Aside0.mk C0; have HB1 := Aside0.mk hb1; have HQ := Aside0.mk hq; have HN0 := Aside0.mk hN; have F0 : W.cell? ⟨b, 0, none⟩ = some (.int .u64 h) := (blk_cell C0 0).trans rfl; have F1 : W.cell? ⟨b, 1, none⟩ = some (.int .u64 l) := (blk_cell C0 1).trans rfl; have F2 : W.cell? ⟨b, 2, none⟩ = some (.int .u64 n) := (blk_cell C0 2).trans rfl; have G0 : W.cell? ⟨q, 0, none⟩ = some (.int .u8 0) := (blk_cell hN 0).trans rfl; have G1 : W.cell? ⟨q, 1, none⟩ = some (.int .i64 0) := (blk_cell hN 1).trans rfl; have G2 : W.cell? ⟨q, 2, none⟩ = some (.string ⟨#[]⟩) := (blk_cell hN 2).trans rfl; have G3 : W.cell? ⟨q, 3, none⟩ = some (.int .i64 0) := (blk_cell hN 3).trans rfl; have F4 : ∀ j, W.frozen? ⟨q, j, none⟩ = false := (fun j => by simp [World.frozen?, hN]); clear hb1 hq hN C0))
 refine bodyPost_ret (results_cell_row rfl _ _ q 38 #[.int .u8 0, .int .i64 0, .string (⟨#[]⟩ : ByteArray), .int .i64 0] (0, 0) _ rfl (out_cells HN0.out _ _ _ _) Tryz.underlying38 rfl (by kernel_rfl)) rfl ?_
 exact ⟨rfl, out_below HB1.out HQ.out _ _ _ _⟩
theorem mean_some (b : Nat) (h l n : Int) (w : World) (hb : w.heap[b]? = some (.cells #[.int .u64 h, .int .u64 l, .int .u64 n] 125 (0, 0))) (h0 : 0 ≤ h) (h1 : h < 18446744073709551616) (l0 : 0 ≤ l) (l1 : l < 18446744073709551616) (n0 : 0 < n) (n1 : n < 4294967296)
 (H L q0 X : Int) (neg : Bool) (hneg : decide (wrap64 h < 0) = neg) (hH : H = if neg = true then (18446744073709551616 - h - (if 0 < l then 1 else 0)) % 18446744073709551616 else h) (hL : L = if neg = true then (18446744073709551616 - l) % 18446744073709551616 else l)
 (hq : (H.tmod n * 18446744073709551616 + L) / n = q0) (hX : X = if neg = true then wrap64 (IntKind.u64.wrap (-q0)) else wrap64 q0) :
 Calls Tryz.prog 161 #[.pointer (some ⟨b, 0, none⟩)] w fun e w' => e = .returned (.agg #[.int .u8 1, .int .i64 X, .string ⟨#[]⟩, .int .i64 0]) ∧ Below w.heap.size w w' := by
 have hlt : b < w.heap.size := (Array.getElem?_eq_some_iff.1 hb).1
 have HLT := Aside0.mk hlt
 have HBK := Aside0.mk hb
 have hnb : (n == 0) = false := by simp; omega
 have hnz : ¬ n = 0 := by omega
 have hm : 0 ≤ H.tmod n ∧ H.tmod n < n := by
  have hh : 0 ≤ H := by rw [hH]; split <;> omega
  exact ⟨Int.tmod_nonneg _ hh, Int.tmod_lt_of_pos _ n0⟩
 have hLb : 0 ≤ L ∧ L < 18446744073709551616 := by rw [hL]; split <;> omega
 obtain ⟨R, hR⟩ : ∃ R, H.tmod n = R := ⟨_, rfl⟩
 rw [hR] at hm hq
 have HDIV : ∀ W : World, Aside0 (Calls Tryz.prog 163 #[.int .u64 R, .int .u64 L, .int .u64 n] W fun e w' => ∃ r, e = .returned (.tuple #[.int .u64 q0, .int .u64 r]) ∧ Below W.heap.size W w') := fun W => ⟨by rw [← hq]; exact div64_calls R L n hm.1 hm.2 n1 hLb.1 hLb.2 W⟩
 cases neg with
 | false =>
  simp only [Bool.false_eq_true, if_false] at hH hL hX
  have hH := hH.symm
  have hL := hL.symm
  have hX := hX.symm
  subst hH
  subst hL
  subst hX
  clear hb hlt h0 h1 l0 l1 n0 n1 hm hLb hq
  go_enter Tryz.func161, Tryz.ntmps161
  go_wp2_with (first | ((with_reducible refine gate_dst (N := 2) rfl ?_); refine box_event ?hg (N := 2) ?hd (cs := #[.int .u8 0, .int .i64 0, .string (⟨#[]⟩ : ByteArray), .int .i64 0]) (t := 38) ?hr ?_; (case hd => rfl); (case hg => rfl); (case hr => first | (go_simp; done) | (go_simp; rfl)); intro q hq W hN hb1; have C0 := (hb1.block b HLT.out).trans HBK.out; have HC0 := Aside0.mk C0; have HB1 := Aside0.mk hb1; have HQ := Aside0.mk hq; have HN0 := Aside0.mk hN; have F0 : W.cell? ⟨b, 0, none⟩ = some (.int .u64 h) := (blk_cell C0 0).trans rfl; have F1 : W.cell? ⟨b, 1, none⟩ = some (.int .u64 l) := (blk_cell C0 1).trans rfl; have F2 : W.cell? ⟨b, 2, none⟩ = some (.int .u64 n) := (blk_cell C0 2).trans rfl; have G0 : W.cell? ⟨q, 0, none⟩ = some (.int .u8 0) := (blk_cell hN 0).trans rfl; have G1 : W.cell? ⟨q, 1, none⟩ = some (.int .i64 0) := (blk_cell hN 1).trans rfl; have G2 : W.cell? ⟨q, 2, none⟩ = some (.string ⟨#[]⟩) := (blk_cell hN 2).trans rfl; have G3 : W.cell? ⟨q, 3, none⟩ = some (.int .i64 0) := (blk_cell hN 3).trans rfl; have F4 : ∀ j, W.frozen? ⟨q, j, none⟩ = false := (fun j => by simp [World.frozen?, hN]); clear hb1 hq hN C0))
  go_region
  obtain ⟨W2, hW2⟩ : ∃ W2, W2 = W.drew := ⟨_, rfl⟩
  rw [← hW2]
  have HBW : Aside0 (Below W.heap.size W W2) := ⟨by rw [hW2]; exact (Below.refl _ W).drew⟩
  clear hW2 F0 F1 F2 F4 G0 G1 G2 G3
  have F2 : W2.cell? ⟨b, 2, none⟩ = some (.int .u64 n) := (blk_cell ((HBW.out.block b (blk_lt HC0.out)).trans HC0.out) 2).trans rfl
  go_wp2
  go_region_held3 (fun W' => W'.cell? ⟨b, 2, none⟩ = some (.int .u64 n)) (go_keep) (first | (go_at_call 163; (with_reducible refine (HDIV _).out.mono ?_); rintro e w1 ⟨r, rfl, hg1⟩; have r0 := cB_ (w := W2.drew) hg1 F2; have HB2 := Aside0.mk ((Below.refl _ W2).drew.trans hg1); clear hg1))
  clear r0 F2
  go_wp2_with fail
  refine (value_Int.calls (wrap64 q0) 1 (wrap64 q0) ⟨#[]⟩ w1 rfl).mono ?_
  rintro e W3 ⟨rfl, hb3⟩
  have HB4 : Aside0 (Below W.heap.size W W3) := ⟨(HBW.out.trans (HB2.out.mono HBW.out.size)).trans (hb3.mono (HBW.out.trans (HB2.out.mono HBW.out.size)).size)⟩
  have hN3 := (HB4.out.block q (blk_lt HN0.out)).trans HN0.out
  have HN3 := Aside0.mk hN3
  have HB3 : Aside0 (Below w.heap.size w W3) := ⟨HB1.out.trans (HB4.out.mono HB1.out.size)⟩
  have G0 : W3.cell? ⟨q, 0, none⟩ = some (.int .u8 0) := (blk_cell hN3 0).trans rfl
  have G1 : W3.cell? ⟨q, 1, none⟩ = some (.int .i64 0) := (blk_cell hN3 1).trans rfl
  have G2 : W3.cell? ⟨q, 2, none⟩ = some (.string ⟨#[]⟩) := (blk_cell hN3 2).trans rfl
  have G3 : W3.cell? ⟨q, 3, none⟩ = some (.int .i64 0) := (blk_cell hN3 3).trans rfl
  have F4 : ∀ j, W3.frozen? ⟨q, j, none⟩ = false := (fun j => by simp [World.frozen?, hN3])
  clear hb3 hN3
  go_wp2
  refine bodyPost_ret (results_cell_row rfl _ _ q 38 #[.int .u8 1, .int .i64 (wrap64 q0), .string (⟨#[]⟩ : ByteArray), .int .i64 0] (0, 0) _ rfl (out_cells HN3.out _ _ _ _) Tryz.underlying38 rfl (by kernel_rfl)) rfl ?_
  exact ⟨rfl, out_below HB3.out HQ.out _ _ _ _⟩
 | true =>
  simp only [if_true] at hH hL hX
  obtain ⟨br, hbr⟩ : ∃ br : Int, (if 0 < l then 1 else 0) = br := ⟨_, rfl⟩
  rw [hbr] at hH
  have hb01 : 0 ≤ br ∧ br ≤ 1 := by rw [← hbr]; split <;> omega
  have A1 : ∀ W, (callFunc 162 #[.int .u64 0, .int .u64 l, .int .u64 0]).run Tryz.prog W = .ok (.value (.tuple #[.int .u64 L, .int .u64 br])) W := fun W => by
   rw [sub64 l 0 l0 l1 (by omega) (by omega) W, Int.add_zero, hbr, hL, Int.sub_zero]
  obtain ⟨br2, hbr2⟩ : ∃ br2 : Int, (if 0 < h + br then 1 else 0) = br2 := ⟨_, rfl⟩
  have A2 : ∀ W, (callFunc 162 #[.int .u64 0, .int .u64 h, .int .u64 br]).run Tryz.prog W = .ok (.value (.tuple #[.int .u64 H, .int .u64 br2])) W := fun W => by
   rw [sub64 h br h0 h1 hb01.1 hb01.2 W, hH, hbr2]
  obtain ⟨Q, hQ⟩ : ∃ Q, IntKind.u64.wrap (-q0) = Q := ⟨_, rfl⟩
  rw [hQ] at hX
  have hX := hX.symm
  subst hX
  clear hb hlt h0 h1 l0 l1 n0 n1 hm hLb hq hH hL hbr hbr2 hb01
  go_enter Tryz.func161, Tryz.ntmps161
  go_wp2_with (first | ((with_reducible refine gate_dst (N := 2) rfl ?_); refine box_event ?hg (N := 2) ?hd (cs := #[.int .u8 0, .int .i64 0, .string (⟨#[]⟩ : ByteArray), .int .i64 0]) (t := 38) ?hr ?_; (case hd => rfl); (case hg => rfl); (case hr => first | (go_simp; done) | (go_simp; rfl)); intro q hq W hN hb1; have C0 := (hb1.block b HLT.out).trans HBK.out; have HC0 := Aside0.mk C0; have HB1 := Aside0.mk hb1; have HQ := Aside0.mk hq; have HN0 := Aside0.mk hN; have F0 : W.cell? ⟨b, 0, none⟩ = some (.int .u64 h) := (blk_cell C0 0).trans rfl; have F1 : W.cell? ⟨b, 1, none⟩ = some (.int .u64 l) := (blk_cell C0 1).trans rfl; have F2 : W.cell? ⟨b, 2, none⟩ = some (.int .u64 n) := (blk_cell C0 2).trans rfl; have G0 : W.cell? ⟨q, 0, none⟩ = some (.int .u8 0) := (blk_cell hN 0).trans rfl; have G1 : W.cell? ⟨q, 1, none⟩ = some (.int .i64 0) := (blk_cell hN 1).trans rfl; have G2 : W.cell? ⟨q, 2, none⟩ = some (.string ⟨#[]⟩) := (blk_cell hN 2).trans rfl; have G3 : W.cell? ⟨q, 3, none⟩ = some (.int .i64 0) := (blk_cell hN 3).trans rfl; have F4 : ∀ j, W.frozen? ⟨q, j, none⟩ = false := (fun j => by simp [World.frozen?, hN]); clear hb1 hq hN C0))
  go_region
  obtain ⟨W2, hW2⟩ : ∃ W2, W2 = W.drew := ⟨_, rfl⟩
  rw [← hW2]
  have HBW : Aside0 (Below W.heap.size W W2) := ⟨by rw [hW2]; exact (Below.refl _ W).drew⟩
  clear hW2 F0 F1 F2 F4 G0 G1 G2 G3
  have F2 : W2.cell? ⟨b, 2, none⟩ = some (.int .u64 n) := (blk_cell ((HBW.out.block b (blk_lt HC0.out)).trans HC0.out) 2).trans rfl
  go_wp2
  go_region_held3 (fun W' => W'.cell? ⟨b, 2, none⟩ = some (.int .u64 n)) (go_keep) (first | (go_at_call 163; (with_reducible refine (HDIV _).out.mono ?_); rintro e w1 ⟨r, rfl, hg1⟩; have r0 := cB_ (w := W2.drew) hg1 F2; have HB2 := Aside0.mk ((Below.refl _ W2).drew.trans hg1); clear hg1))
  clear r0 F2
  go_wp2_with fail
  refine (value_Int.calls (wrap64 Q) 1 (wrap64 Q) ⟨#[]⟩ w1 rfl).mono ?_
  rintro e W3 ⟨rfl, hb3⟩
  have HB4 : Aside0 (Below W.heap.size W W3) := ⟨(HBW.out.trans (HB2.out.mono HBW.out.size)).trans (hb3.mono (HBW.out.trans (HB2.out.mono HBW.out.size)).size)⟩
  have hN3 := (HB4.out.block q (blk_lt HN0.out)).trans HN0.out
  have HN3 := Aside0.mk hN3
  have HB3 : Aside0 (Below w.heap.size w W3) := ⟨HB1.out.trans (HB4.out.mono HB1.out.size)⟩
  have G0 : W3.cell? ⟨q, 0, none⟩ = some (.int .u8 0) := (blk_cell hN3 0).trans rfl
  have G1 : W3.cell? ⟨q, 1, none⟩ = some (.int .i64 0) := (blk_cell hN3 1).trans rfl
  have G2 : W3.cell? ⟨q, 2, none⟩ = some (.string ⟨#[]⟩) := (blk_cell hN3 2).trans rfl
  have G3 : W3.cell? ⟨q, 3, none⟩ = some (.int .i64 0) := (blk_cell hN3 3).trans rfl
  have F4 : ∀ j, W3.frozen? ⟨q, j, none⟩ = false := (fun j => by simp [World.frozen?, hN3])
  clear hb3 hN3
  go_wp2
  refine bodyPost_ret (results_cell_row rfl _ _ q 38 #[.int .u8 1, .int .i64 (wrap64 Q), .string (⟨#[]⟩ : ByteArray), .int .i64 0] (0, 0) _ rfl (out_cells HN3.out _ _ _ _) Tryz.underlying38 rfl (by kernel_rfl)) rfl ?_
  exact ⟨rfl, out_below HB3.out HQ.out _ _ _ _⟩
end Go.Proofs.YtecgkcgfeghhgaaGreatDoor.PAll
set_option linter.unusedVariables false
set_option linter.unusedSimpArgs false
namespace Go.Proofs.YtecgkcgfeghhgaaGreatDoor.PAll
open Go.RowKit Go.Proofs.YtecgkcgfeghhgaaGreatDoorW.PrintWords Go.Proofs.YtecgkcgfeghhgaaGreatDoorW.PrintLast Go.Proofs.YtecgkcgfeghhgaaGreatDoorW.PrintMore
def meanH (h l : Int) : Int := if decide (wrap64 h < 0) = true then (18446744073709551616 - h - (if 0 < l then 1 else 0)) % 18446744073709551616 else h
def meanL (h l : Int) : Int := if decide (wrap64 h < 0) = true then (18446744073709551616 - l) % 18446744073709551616 else l
def meanQ (h l n : Int) : Int := ((meanH h l).tmod n * 18446744073709551616 + meanL h l) / n
def meanX (h l n : Int) : Int := if decide (wrap64 h < 0) = true then wrap64 (IntKind.u64.wrap (-meanQ h l n)) else wrap64 (meanQ h l n)
def meanOut (h l n : Int) : Int × Int × ByteArray × Int := if n = 0 then (0, 0, ⟨#[]⟩, 0) else (1, meanX h l n, ⟨#[]⟩, 0)
def meanG : Gath where
 σ := Int × Int × Int
 T := 123
 S := 125
 take := 158
 done := 161
 cells := fun s => #[.int .u64 s.1, .int .u64 s.2.1, .int .u64 s.2.2]
 init := (0, 0, 0)
 step := tStep
 out := fun s => meanOut s.1 s.2.1 s.2.2
 good := fun _ => True
 inv := fun s => 0 ≤ s.1 ∧ s.1 < 18446744073709551616 ∧ 0 ≤ s.2.1 ∧ s.2.1 < 18446744073709551616
 inv0 := by decide
 step_inv := fun s v _ _ => by
  simp only [tStep]
  omega
 hmt := fun a w => by kernel_rfl
 hmd := fun a w => by kernel_rfl
 het := enters_of Tryz.func158 (by kernel_rfl) rfl
 hed := enters_of Tryz.func161 (by kernel_rfl) rfl
 htake := fun b s v w hi _ hb => total_take 125 b s.1 s.2.1 s.2.2 v w hb hi.1 hi.2.2.1 hi.2.2.2
 fin := fun s => 0 ≤ s.2.2 ∧ s.2.2 < 4294967296
 hdone := fun b s w hi hf hb => by
  by_cases hn : s.2.2 = 0
  · simp only [meanOut, if_pos hn]
    exact mean_zero b s.1 s.2.1 s.2.2 w hb hn
  · simp only [meanOut, if_neg hn]
    exact mean_some b s.1 s.2.1 s.2.2 w hb hi.1 hi.2.1 hi.2.2.1 hi.2.2.2 (by omega) hf.2 _ _ _ _ _ rfl rfl rfl rfl rfl
def extG (sg : Int) (hs : sg = 1 ∨ sg = -1) : Gath where
 σ := Bool × V
 T := 126
 S := 128
 take := 166
 done := 165
 cells := fun s => #[.int .i64 sg, .bool s.1, .int .u8 s.2.f0, .int .i64 s.2.f1, .string s.2.f2]
 init := (false, ⟨0, 0, ⟨#[]⟩⟩)
 step := eStep sg
 out := fun s => (s.2.f0, s.2.f1, s.2.f2, 0)
 good := KindOk
 inv := fun _ => True
 inv0 := trivial
 step_inv := fun _ _ _ _ => trivial
 hmt := fun a w => by kernel_rfl
 hmd := fun a w => by kernel_rfl
 het := enters_of Tryz.func166 (by kernel_rfl) rfl
 hed := enters_of Tryz.func165 (by kernel_rfl) rfl
 htake := fun b s v w _ hk hb => extreme_take b sg s.1 s.2 v w hb hs hk
 fin := fun _ => True
 hdone := fun b s w _ _ hb => extreme_done b sg s.1 s.2 w hb
def avgR (vs : List V) : Int × Int × ByteArray × Int := if vs = [] then (0, 0, ⟨#[]⟩, 0) else (1, (sumV vs).tdiv vs.length, ⟨#[]⟩, 0)
theorem mean_pos (S n : Int) (n0 : 0 < n) (h0 : 0 ≤ S) (h1 : S ≤ 9223372036854775807 * n) (n1 : n < 4294967296) : meanX ((S / 18446744073709551616) % 18446744073709551616) (S % 18446744073709551616) n = S.tdiv n := by
 obtain ⟨h, hh⟩ : ∃ h, h = (S / 18446744073709551616) % 18446744073709551616 := ⟨_, rfl⟩
 obtain ⟨l, hl⟩ : ∃ l, l = S % 18446744073709551616 := ⟨_, rfl⟩
 rw [← hh, ← hl]
 have hb : 0 ≤ h ∧ h < n := by omega
 have hneg : decide (wrap64 h < 0) = false := decide_eq_false (by unfold wrap64; omega)
 have hS : h * 18446744073709551616 + l = S := by omega
 unfold meanX meanQ meanH meanL
 rw [hneg]
 simp only [Bool.false_eq_true, if_false]
 rw [Int.tmod_eq_of_lt hb.1 hb.2, hS, Int.tdiv_eq_ediv_of_nonneg h0]
 have q1 : S / n ≤ 9223372036854775807 := Int.ediv_le_of_le_mul n0 h1
 have q0 : 0 ≤ S / n := Int.ediv_nonneg h0 (by omega)
 obtain ⟨q, hq⟩ : ∃ q, q = S / n := ⟨_, rfl⟩
 rw [← hq] at q0 q1 ⊢
 unfold wrap64
 omega
theorem mean_neg (M n : Int) (n0 : 0 < n) (h0 : 0 < M) (h1 : M ≤ 9223372036854775808 * n) (n1 : n < 4294967296) : meanX ((-M / 18446744073709551616) % 18446744073709551616) (-M % 18446744073709551616) n = (-M).tdiv n := by
 obtain ⟨h, hh⟩ : ∃ h, h = (-M / 18446744073709551616) % 18446744073709551616 := ⟨_, rfl⟩
 obtain ⟨l, hl⟩ : ∃ l, l = -M % 18446744073709551616 := ⟨_, rfl⟩
 rw [← hh, ← hl]
 have hneg : decide (wrap64 h < 0) = true := decide_eq_true (by unfold wrap64; omega)
 have hH : meanH h l = M / 18446744073709551616 := by
  unfold meanH
  rw [if_pos hneg]
  split <;> omega
 have hL : meanL h l = M % 18446744073709551616 := by
  unfold meanL
  rw [if_pos hneg]
  omega
 have hHn : 0 ≤ M / 18446744073709551616 ∧ M / 18446744073709551616 < n := by omega
 have hS : M / 18446744073709551616 * 18446744073709551616 + M % 18446744073709551616 = M := by omega
 unfold meanX meanQ
 rw [if_pos hneg, hH, hL, Int.tmod_eq_of_lt hHn.1 hHn.2, hS, Int.neg_tdiv, Int.tdiv_eq_ediv_of_nonneg (by omega)]
 have q1 : M / n ≤ 9223372036854775808 := Int.ediv_le_of_le_mul n0 h1
 have q0 : 0 ≤ M / n := Int.ediv_nonneg (by omega) (by omega)
 obtain ⟨q, hq⟩ : ∃ q, q = M / n := ⟨_, rfl⟩
 rw [← hq] at q0 q1 ⊢
 rw [u64w]
 unfold wrap64
 omega
theorem mean_fin (vs : List V) (h : ∀ v ∈ vs, okInt v) (hn : vs.length < 4294967296) : meanG.fin (vs.foldl meanG.step meanG.init) ∧ meanG.out (vs.foldl meanG.step meanG.init) = avgR vs := by
 have e := total_fold vs 0 0 h (by omega) (by omega)
 have e0 : stOf 0 0 = (0, 0, 0) := by decide
 rw [e0, Int.zero_add, Int.zero_add] at e
 change (fun s : Int × Int × Int => 0 ≤ s.2.2 ∧ s.2.2 < 4294967296) (vs.foldl tStep (0, 0, 0)) ∧ (fun s : Int × Int × Int => meanOut s.1 s.2.1 s.2.2) (vs.foldl tStep (0, 0, 0)) = _
 rw [e]
 have hb := sumV_bd vs h
 refine ⟨⟨by show (0 : Int) ≤ (vs.length : Int); omega, by show (vs.length : Int) < 4294967296; omega⟩, ?_⟩
 unfold avgR
 by_cases c0 : vs = []
 · subst c0
   simp [stOf, meanOut]
 · have hp : 0 < vs.length := List.length_pos_iff.2 c0
   rw [if_neg c0]
   show meanOut _ _ _ = _
   unfold meanOut
   rw [if_neg (by show ¬ (vs.length : Int) = 0; omega)]
   congr 2
   obtain ⟨S, hS⟩ : ∃ S, S = sumV vs := ⟨_, rfl⟩
   rw [← hS] at hb ⊢
   by_cases c : 0 ≤ S
   · exact mean_pos S vs.length (by omega) c hb.2 (by omega)
   · obtain ⟨M, hM⟩ : ∃ M, M = -S := ⟨_, rfl⟩
     obtain rfl : S = -M := by omega
     exact mean_neg M vs.length (by omega) (by omega) (by omega) (by omega)
theorem aggregate_bad (k : Nat) (fn : Int) (d : Bool) (A2 : Option Addr) (c2 : Nat) (l : List V) (w : World) (hr : Kd.C kV w A2 l.length l) (hc : l.length ≤ c2) (hall : bag_allowed.f k fn d l = some false) :
 Calls Tryz.prog 21 #[.int .u8 fn, .bool d, .slice A2 l.length c2] w fun e w' => e = .returned (.agg #[.int .u8 0, .int .i64 0, .string ⟨#[]⟩, .int .i64 1]) ∧ Below w.heap.size w w' := by
 have HR := Aside0.mk hr
 have HC := Aside0.mk hc
 have HA := Aside0.mk hall
 clear hr hc hall
 go_enter Tryz.func21, Tryz.ntmps21
 go_wp2_with (first | ((with_reducible refine gate_dst (N := 6) rfl ?_); refine box_event ?hg (N := 6) ?hd (cs := #[.int .u8 0, .int .i64 0, .string (⟨#[]⟩ : ByteArray), .int .i64 0]) (t := 38) ?hr ?_; (case hd => rfl); (case hg => rfl); (case hr => first | (go_simp; done) | (go_simp; rfl)); intro q hq W hN hb1; have HB1 := Aside0.mk hb1; have HQ := Aside0.mk hq; have HN0 := Aside0.mk hN; clear hb1 hq hN))
 refine (bag_allowed.calls k fn d A2 c2 l false W (Kd.C_below HR.out HB1.out) HC.out HA.out).mono ?_
 rintro e w3 ⟨rfl, hb2⟩
 have hN3 := (hb2.block q (blk_lt HN0.out)).trans HN0.out
 have HN3 := Aside0.mk hN3
 have HB3 := Aside0.mk (HB1.out.trans (hb2.mono HB1.out.size))
 have G0 : w3.cell? ⟨q, 0, none⟩ = some (.int .u8 0) := (blk_cell hN3 0).trans rfl
 have G1 : w3.cell? ⟨q, 1, none⟩ = some (.int .i64 0) := (blk_cell hN3 1).trans rfl
 have G2 : w3.cell? ⟨q, 2, none⟩ = some (.string ⟨#[]⟩) := (blk_cell hN3 2).trans rfl
 have G3 : w3.cell? ⟨q, 3, none⟩ = some (.int .i64 0) := (blk_cell hN3 3).trans rfl
 have F4 : ∀ j, w3.frozen? ⟨q, j, none⟩ = false := fun j => by simp [World.frozen?, hN3]
 clear hb2 hN3
 go_wp2
 refine bodyPost_ret (results_cell_row rfl _ _ q 38 _ (0, 0) _ rfl (out_cells HN3.out _ _ _ _) Tryz.underlying38 rfl (by kernel_rfl)) rfl ?_
 exact ⟨rfl, out_below HB3.out HQ.out _ _ _ _⟩
noncomputable def extR (sg : Int) (vs : List V) : Int × Int × ByteArray × Int := (fun s : Bool × V => (s.2.f0, s.2.f1, s.2.f2, 0)) (vs.foldl (eStep sg) (false, ⟨0, 0, ⟨#[]⟩⟩))
noncomputable def aggV (fn : Int) (vs : List V) : Int × Int × ByteArray × Int :=
 if fn = 2 then sumR vs else if fn = 3 then extR 1 vs else if fn = 4 then extR (-1) vs else if fn = 5 then avgR vs else (1, (vs.length : Int), ⟨#[]⟩, 0)
noncomputable def aggR (fn : Int) (d : Bool) (vs : List V) : Int × Int × ByteArray × Int :=
 if allowedB fn d vs = true then aggV fn (pickV fn d [] vs) else (0, 0, ⟨#[]⟩, 1)
theorem kindFrom_valid : ∀ (vs : List V) (k k' : Int), kindFrom k vs = some k' → ∀ v ∈ vs, validV v = true
 | [], _, _, _ => by simp
 | v :: vs, k, k', h => by
  unfold kindFrom at h
  split at h
  case isFalse => cases h
  rename_i hc
  intro u hu
  rcases List.mem_cons.1 hu with rfl | hu
  · exact hc.1
  · exact kindFrom_valid vs _ _ h u hu
theorem allowedB_valid {fn : Int} {d : Bool} {vs : List V} (h : allowedB fn d vs = true) : fn ≤ 5 ∧ ∀ v ∈ vs, validV v = true := by
 unfold allowedB at h
 split at h
 · cases h
 rename_i hc
 refine ⟨by omega, ?_⟩
 cases hk : kindFrom 0 vs with
 | none => rw [hk] at h; cases h
 | some k => exact kindFrom_valid vs 0 k hk
theorem pickV_sub (fn : Int) (d : Bool) : ∀ (vs : List V) (seen : List ByteArray), (∀ v ∈ pickV fn d seen vs, v ∈ vs) ∧ (pickV fn d seen vs).length ≤ vs.length
 | [], _ => by simp [pickV]
 | v :: vs, seen => by
  have h1 := pickV_sub fn d vs seen
  have h2 := pickV_sub fn d vs (nameOf [v] :: seen)
  have e1 : ∀ seen', (∀ u ∈ pickV fn d seen' vs, u ∈ vs) ∧ (pickV fn d seen' vs).length ≤ vs.length → (∀ u ∈ v :: pickV fn d seen' vs, u ∈ v :: vs) ∧ (v :: pickV fn d seen' vs).length ≤ (v :: vs).length := fun seen' h => ⟨fun u hu => by
   rcases List.mem_cons.1 hu with rfl | hu
   · exact List.mem_cons_self
   · exact List.mem_cons_of_mem _ (h.1 u hu), by simp; exact h.2⟩
  have e2 : (∀ u ∈ pickV fn d seen vs, u ∈ v :: vs) ∧ (pickV fn d seen vs).length ≤ (v :: vs).length := ⟨fun u hu => List.mem_cons_of_mem _ (h1.1 u hu), by simp; omega⟩
  simp only [pickV]
  split
  · exact e2
  · split
    · split
      · exact e2
      · exact e1 _ h2
    · exact e1 _ h1
def AggOk (fn : Int) (vs : List V) : Prop := 0 ≤ fn ∧ (fn = 5 → vs.length < 4294967296) ∧ (∀ v ∈ vs, RowOk [v]) ∧ vs.length ≤ 1099511627776
open Classical in
noncomputable def bag_Aggregate.f (fn : Int) (d : Bool) (vs : List V) : Option (Int × Int × ByteArray × Int) := if AggOk fn vs then some (aggR fn d vs) else none
theorem bag_Aggregate.calls (a0 : Int) (a1 : Bool) (A2 : Option Addr) (c2 : Nat) (l2 : List V) (r1 r2 : Int) (r3 : ByteArray) (r4 : Int) (w : World) (hr2 : Kd.C kV w A2 l2.length l2) (hc2 : l2.length ≤ c2) (hT : LaidT w) (h : bag_Aggregate.f a0 a1 l2 = some (r1, r2, r3, r4)) :
 Calls Tryz.prog 21 #[.int .u8 a0, .bool a1, .slice A2 l2.length c2] w fun e w' => e = .returned (.agg #[.int .u8 r1, .int .i64 r2, .string r3, .int .i64 r4]) ∧ Below w.heap.size w w' := by
 unfold bag_Aggregate.f at h
 split at h
 case isFalse => cases h
 rename_i hok
 obtain ⟨hf0, hf1, hok, hn⟩ := hok
 have h := Option.some.inj h
 have hv : ∀ v ∈ l2, VOk v := fun v hv => (hok v hv).1 v (by simp)
 obtain ⟨k, hk⟩ := (allowed_ev a0 a1 l2 hv hn).rounds
 unfold aggR at h
 cases hq : allowedB a0 a1 l2 with
 | false =>
  rw [hq] at hk h
  simp only [Bool.false_eq_true, if_false, Prod.mk.injEq] at h
  obtain ⟨rfl, rfl, rfl, rfl⟩ := h
  exact aggregate_bad k a0 a1 A2 c2 l2 w hr2 hc2 hk
 | true =>
  rw [hq] at hk h
  rw [if_pos rfl] at h
  obtain ⟨hle, hval⟩ := allowedB_valid hq
  obtain ⟨hsub, hlen⟩ := pickV_sub a0 a1 l2 []
  have hkind : ∀ v ∈ pickV a0 a1 [] l2, KindOk v := fun v hm => valid_kind (hval v (hsub v hm))
  have hint : ∀ v ∈ pickV a0 a1 [] l2, okInt v := fun v hm => by have := hv v (hsub v hm); exact ⟨this.2.2.1, this.2.2.2⟩
  unfold aggV at h
  by_cases h2 : a0 = 2
  · subst h2
    rw [if_pos rfl] at h
    have hc := aggregate_walk totalG k 2 a1 A2 c2 l2 w hT hr2 hc2 hok hn hk (fun _ _ => trivial) trivial (fun w => gath_sum w)
    have e := total_out (pickV 2 a1 [] l2) hint (Nat.le_trans hlen hn)
    rw [e, h] at hc
    exact hc
  · rw [if_neg h2] at h
    by_cases h3 : a0 = 3
    · subst h3
      rw [if_pos rfl] at h
      have hc := aggregate_walk (extG 1 (.inl rfl)) k 3 a1 A2 c2 l2 w hT hr2 hc2 hok hn hk hkind trivial (fun w => gath_min w)
      have e : (extG 1 (.inl rfl)).out ((pickV 3 a1 [] l2).foldl (extG 1 (.inl rfl)).step (extG 1 (.inl rfl)).init) = (r1, r2, r3, r4) := h
      rw [e] at hc
      exact hc
    · rw [if_neg h3] at h
      by_cases h4 : a0 = 4
      · subst h4
        rw [if_pos rfl] at h
        have hc := aggregate_walk (extG (-1) (.inr rfl)) k 4 a1 A2 c2 l2 w hT hr2 hc2 hok hn hk hkind trivial (fun w => gath_max w)
        have e : (extG (-1) (.inr rfl)).out ((pickV 4 a1 [] l2).foldl (extG (-1) (.inr rfl)).step (extG (-1) (.inr rfl)).init) = (r1, r2, r3, r4) := h
        rw [e] at hc
        exact hc
      · rw [if_neg h4] at h
        by_cases h5 : a0 = 5
        · subst h5
          rw [if_pos rfl] at h
          obtain ⟨e1, e2⟩ := mean_fin (pickV 5 a1 [] l2) hint (Nat.lt_of_le_of_lt hlen (hf1 rfl))
          have hc := aggregate_walk meanG k 5 a1 A2 c2 l2 w hT hr2 hc2 hok hn hk (fun _ _ => trivial) e1 (fun w => gath_avg w)
          rw [e2, h] at hc
          exact hc
        · rw [if_neg h5] at h
          have hc := aggregate_walk countG k a0 a1 A2 c2 l2 w hT hr2 hc2 hok hn hk (fun _ _ => trivial) trivial (fun w => gath_count a0 (by omega) w)
          have e := count_fold (pickV a0 a1 [] l2) 0 (Int.le_refl _) (by omega)
          change Calls _ _ _ _ fun e w' => e = .returned (.agg #[.int .u8 1, .int .i64 ((pickV a0 a1 [] l2).foldl cStep 0), .string ⟨#[]⟩, .int .i64 0]) ∧ _ at hc
          rw [e, Int.zero_add] at hc
          simp only [Prod.mk.injEq] at h
          obtain ⟨rfl, rfl, rfl, rfl⟩ := h
          exact hc
open Classical in
noncomputable def decAt (c : ByteArray → Int) (s : ByteArray) : ByteArray → Int := fun t => if t = s then c s - 1 else c t
noncomputable def splitR : (ByteArray → Int) → List (List V) → List (List V) × List (List V)
 | _, [] => ([], [])
 | c, r :: rs => if 0 < c (nameOf r) then (r :: (splitR (decAt c (nameOf r)) rs).1, (splitR (decAt c (nameOf r)) rs).2) else ((splitR c rs).1, r :: (splitR c rs).2)
theorem splitR_mem : ∀ (l : List (List V)) (c : ByteArray → Int) (r : List V), r ∈ (splitR c l).1 ∨ r ∈ (splitR c l).2 → r ∈ l
 | [], _, _, h => by simp [splitR] at h
 | a :: l, c, r, h => by
  have i1 := splitR_mem l c r
  have i2 := splitR_mem l (decAt c (nameOf a)) r
  simp only [splitR] at h
  split at h
  · simp only [List.mem_cons] at h ⊢
    rcases h with (h | h) | h
    · exact .inl h
    · exact .inr (i2 (.inl h))
    · exact .inr (i2 (.inr h))
  · simp only [List.mem_cons] at h ⊢
    rcases h with h | h | h
    · exact .inr (i1 (.inl h))
    · exact .inl h
    · exact .inr (i1 (.inr h))
theorem splitR_len : ∀ (l : List (List V)) (c : ByteArray → Int), (splitR c l).1.length + (splitR c l).2.length = l.length
 | [], _ => by simp [splitR]
 | a :: l, c => by
  have i1 := splitR_len l c
  have i2 := splitR_len l (decAt c (nameOf a))
  simp only [splitR]
  split <;> simp <;> omega
open Classical in
noncomputable def bag_split.f (l0 l1 : List (List V)) : Option (List (List V) × List (List V) × Int) := if RowsOk (l0 ++ l1) then some (if validB (l0 ++ l1) = true then (sortR [] (splitR (cnt (l1.map nameOf)) l0).1, sortR [] (splitR (cnt (l1.map nameOf)) l0).2, 0) else ([], [], 1)) else none
open Classical in
theorem bag_split.callsS (A0 : Option Addr) (c0 : Nat) (l0 : List (List V)) (A1 : Option Addr) (c1 : Nat) (l1 : List (List V)) (r1 r2 : List (List V)) (r3 : Int) (w : World) (hr0 : Kd.C kRow w A0 l0.length l0) (hc0 : l0.length ≤ c0) (hr1 : Kd.C kRow w A1 l1.length l1) (hc1 : l1.length ≤ c1) (hT : LaidT w) (h : bag_split.f l0 l1 = some (r1, r2, r3)) :
 Calls Tryz.prog 72 #[.slice A0 l0.length c0, .slice A1 l1.length c1] w fun e w' => ∃ v0_ v1_ : Value, e = .returned (.tuple #[v0_, v1_, .int .i64 r3]) ∧ Kd.S kRow 53 w' w.heap.size (fun _ => True) v0_ r1 ∧ Kd.S kRow 53 w' w.heap.size (fun _ => True) v1_ r2 ∧ Below w.heap.size w w' := by
 unfold bag_split.f at h
 split at h
 case isFalse => cases h
 rename_i hok
 have hok0 : RowsOk l0 := ⟨fun r hr => hok.1 r (List.mem_append_left _ hr), by have := hok.2; rw [List.length_append] at this; omega⟩
 have hok1 : RowsOk l1 := ⟨fun r hr => hok.1 r (List.mem_append_right _ hr), by have := hok.2; rw [List.length_append] at this; omega⟩
 have H := Aside0.mk (Option.some.inj h)
 have HBo := Aside0.mk (both_calls A0 c0 l0 A1 c1 l1 _ rfl w hr0 hr1 hok.v)
 have HOK := Aside0.mk hok0
 have HOK1 := Aside0.mk hok1
 have HT := Aside0.mk hT
 have HR0 := Aside0.mk hr0
 have HR1 := Aside0.mk hr1
 have HC1 := Aside0.mk hc1
 clear h hok hok0 hok1 hT hr0 hr1 hc0 hc1
 cases hq : validB (l0 ++ l1) with
 | false =>
  rw [hq, if_neg (by simp)] at H
  rw [hq] at HBo
  clear hq
  go_enter Tryz.func72, Tryz.ntmps72
  go_wp2_with fail
  refine HBo.out.mono ?_
  rintro e w1 ⟨v1, rfl, hR1, hb1⟩
  have HB := Aside0.mk hb1
  clear hb1 hR1
  go_wp2
  go_ret3
  obtain ⟨e1, e2⟩ := Prod.mk.inj H.out
  obtain ⟨e2, e3⟩ := Prod.mk.inj e2
  refine ⟨.slice none 0 0, .slice none 0 0, by rw [← e3]; rfl, ?_, ?_, HB.out⟩
  · rw [← e1]; exact Kd.S_nil _ _ _ _ _
  · rw [← e2]; exact Kd.S_nil _ _ _ _ _
 | true =>
  rw [hq, if_pos rfl] at H
  have HV : Aside0 (∀ row ∈ l0, ∀ v ∈ row, validV v = true) := ⟨fun row hrow => validB_valid hq row (List.mem_append_left _ hrow)⟩
  rw [hq] at HBo
  clear hq
  go_enter Tryz.func72, Tryz.ntmps72
  go_wp2_with fail
  refine HBo.out.mono ?_
  rintro e w1 ⟨v1, rfl, hR1, hb1⟩
  have B1 := Aside0.mk hb1
  clear hb1 hR1
  go_wp2_with fail
  refine (tally_calls A1 c1 l1 w1 (HT.out.below B1.out) (Kd.C_below HR1.out B1.out) HC1.out HOK1.out).mono ?_
  rintro e w2 ⟨m, rfl, hm, hM, hb2⟩
  have HMB : Aside0 (w.heap.size ≤ m) := ⟨Nat.le_trans B1.out.size hm⟩
  have M0 := Aside0.mk hM
  have B2 := Aside0.mk (B1.out.trans (hb2.mono B1.out.size))
  clear hm hM hb2
  go_wp2
  clear B1
  obtain ⟨c0f, hc0f⟩ : ∃ c0f, c0f = cnt (l1.map nameOf) := ⟨_, rfl⟩
  have HBD0 : Aside0 (∀ s, 0 ≤ c0f s ∧ c0f s ≤ 1099511627776) := ⟨fun s => by
   have h1 := cnt_nonneg (l1.map nameOf) s
   have h2 := cnt_le (l1.map nameOf) s
   have h3 := HOK1.out.2
   rw [List.length_map] at h2
   rw [hc0f]
   omega⟩
  rw [← hc0f] at M0 H
  clear hc0f
  go_loopg [25, 4, 5] l0.length (fun kq v25 v4 v5 W => ∃ (x : Int) (c : ByteArray → Int) (met left : List (List V)), v25 = .int .i64 x ∧ Aside0 (0 ≤ x ∧ x ≤ l0.length ∧ (kq : Int) = l0.length - x) ∧ Aside0 (CMap W m c) ∧ Aside0 (∀ s, 0 ≤ c s ∧ c s ≤ 1099511627776) ∧ Aside0 ((relK w).kd.R 53 W w.heap.size (fun k => k ≠ m) v4 met) ∧ Aside0 ((relK w).kd.R 53 W w.heap.size (fun k => k ≠ m) v5 left) ∧ Aside0 (∀ k, v4.ownBlock = some k → v5.ownBlock ≠ some k) ∧ Aside0 (met ++ (splitR c (l0.drop x.toNat)).1 = (splitR c0f l0).1 ∧ left ++ (splitR c (l0.drop x.toNat)).2 = (splitR c0f l0).2 ∧ met.length + left.length ≤ x) ∧ Aside0 (Below w.heap.size w W))
  case atStart => exact ⟨0, c0f, [], [], rfl, ⟨by omega⟩, M0, HBD0, ⟨Kd.R_nil _ _ _ _ _⟩, ⟨Kd.R_nil _ _ _ _ _⟩, ⟨fun k hk => by simp [Value.ownBlock] at hk⟩, ⟨by simp⟩, B2⟩
  case round =>
   clear M0 B2 HBD0
   obtain ⟨x, c, met, left, rfl, HX, HM, HBD, HO, HP, HNE, HD, HB⟩ := hrel
   obtain ⟨hx0, hx1, hkq⟩ := HX.out
   by_cases hlt : x < (l0.length : Int)
   · have c1 : decide (x < (l0.length : Int)) = true := decide_eq_true hlt
     have c2 : decide (0 ≤ x) = true := decide_eq_true hx0
     obtain ⟨ad, Ar, cr, e, hx_0, hl_0, hi_0⟩ := at_L4 HR0.out x hx0 hlt
     cases e
     replace hx_0 := (HB.out.cell (World.block_lt_of_cell? w _ hx_0)).trans hx_0
     have hi : x.toNat < l0.length := by omega
     have hrd : rd_L4 l0 x = l0[x.toNat] := by simp [rd_L4, List.getElem?_eq_getElem hi]
     have hok := HOK.out.1 (rd_L4 l0 x) (by rw [hrd]; exact List.getElem_mem hi)
     have hst := HD.out
     rw [drop_cons l0 x.toNat hi, ← hrd] at hst
     obtain ⟨r, hr⟩ : ∃ r, r = rd_L4 l0 x := ⟨_, rfl⟩
     rw [← hr] at hx_0 hl_0 hi_0 hok hst
     have HI0 := Aside0.mk hi_0
     have HL0 := Aside0.mk hl_0
     have HOK2 := Aside0.mk hok
     have HST := Aside0.mk hst
     have HLT := Aside0.mk hlt
     have HX0 := Aside0.mk hx0
     have HWR : Aside0 (wrap64 (x + 1) = x + 1) := ⟨by have := HOK.out.2; unfold wrap64; omega⟩
     clear hi_0 hl_0 hok hst hrd hr hkq hi
     go_wp2_with fail
     refine (name_calls _ _ r wr (HT.out.below HB.out) (Kd.C_below HI0.out HB.out) HL0.out HOK2.out.1 HOK2.out.2.1 HOK2.out.2.2).mono ?_
     rintro e w3 ⟨rfl, hb1⟩
     have HM1 := HM.out.below hb1
     obtain ⟨kv, hkv⟩ := HM1
     have HKV := Aside0.mk hkv
     obtain ⟨n, hn⟩ : ∃ n, n = c (nameOf r) := ⟨_, rfl⟩
     have hc : Aside0 ((KV.get kv (nameOf r)).getD 0 = n) := ⟨by rw [hn]; exact hkv.2 _⟩
     have hbd := HBD.out (nameOf r)
     rw [← hn] at hbd
     have HN := Aside0.mk hn
     have HB1 := Aside0.mk (HB.out.trans (hb1.mono HB.out.size))
     have HO1 := Aside0.mk (Kd.R_below HO.out hb1)
     have HP1 := Aside0.mk (Kd.R_below HP.out hb1)
     clear hb1 hkv hn HM
     have hcl : Aside0 ((met.length + 1) * 24 ≤ 140737488355328 ∧ (left.length + 1) * 24 ≤ 140737488355328) := ⟨by have := HD.out.2.2; have := HOK.out.2; omega⟩
     have hM : Aside0 (∀ W, (relK w).kd.M W w.heap.size (fun _ => False) r [.slice Ar r.length cr]) := ⟨fun W => ⟨Ar, cr, rfl, HL0.out, HI0.out⟩⟩
     have hml : Aside0 (m < w3.heap.size) := ⟨HKV.out.1.lt⟩
     by_cases hz : 0 < n
     · have hzb : decide (n > 0) = true := decide_eq_true hz
       have HZ := Aside0.mk hz
       have HW : Aside0 (wrap64 (n - 1) = n - 1) := ⟨by unfold wrap64; omega⟩
       have HBDN := Aside0.mk hbd
       clear hz hbd
       go_wp2_with (first
        | (at_lookup; refine KV.law_lookup _ rfl _ _ 66 rfl 9 3 Tryz.underlying9 Tryz.underlying66 (.int .i64 0) (zeroInt _) m (Value.int .i64) kv rfl HKV.out.1 (nameOf r) rfl (.int .i64 n) (get_int hc.out) ?_)
        | (at_mapUpdate; refine KV.law_update _ rfl _ _ _ 66 rfl 9 3 Tryz.underlying9 Tryz.underlying66 m (Value.int .i64) kv rfl HKV.out.1 (nameOf r) rfl (wrap64 (n - 1)) rfl ?_; intro w4 hM2 hg2; rw [HW.out] at hM2; have HM2 := Aside0.mk (CMap.put HKV.out.2 hM2); have HB3 := Aside0.mk (HB1.out.grown hg2 HB1.out.size (fun k hk => by cases hk; exact HMB.out)); have HO3 := Aside0.mk (Kd.R_grown HO1.out hg2 (fun k hk e => hk (by injection e))); have HP3 := Aside0.mk (Kd.R_grown HP1.out hg2 (fun k hk e => hk (by injection e))); have hml4 := Aside0.mk (Nat.lt_of_lt_of_le hml.out hg2.size); clear hM2 hg2)
        | (at_builtin; refine Kd.R_append (relK w).kd (w0 := w) w.heap.size rfl (.tmp 39) (.tmp 41) 22 53 (.slice none 0 0) 24 rfl Tryz.underlying22 infoRow rfl (Nat.le_refl 1) (by decide) _ met r [.slice Ar r.length cr] (fun k => k ≠ m ∧ u5.ownBlock ≠ some k) (fun _ => False) rfl rfl (hM.out _) (fun _ h => h.elim) (fun k hk => ⟨fun e => by have := hml4.out; omega, fun e => by have := Kd.R_lt HP3.out k e; omega⟩) (Kd.R_reok rfl HO3.out (fun k hk => ⟨HO3.out.1 k hk, HNE.out k hk⟩)) HB3.out HB3.out.size hcl.out.1 ?_; intro v6 w6 hR4 hb4 hg4 hat4; have HO4 := Aside0.mk hR4; have HB4 := Aside0.mk hb4; have HG4 := Aside0.mk hg4; clear hR4 hb4 hg4 hat4))
       have hlt := HLT.out
       have hk := HX.out.2.2
       have hx0 := HX0.out
       have hd := HD.out.2.2
       cases gk with
       | zero => omega
       | succ k1 =>
        go_roundg k1
        case measure => omega
        case rel =>
         have hp3 : ∀ k, u5.ownBlock = some k → k ≠ m ∧ v6.ownBlock ≠ some k := fun k hk => ⟨HP3.out.1 k hk, fun e => (HO4.out.1 k e).2 hk⟩
         have hp4 := Kd.R_grown (Kd.R_tight rfl HP3.out) HG4.out (fun k hk e => HNE.out k e.symm hk.symm)
         refine ⟨x + 1, decAt c (nameOf r), met ++ [r], left, by rw [HWR.out], ⟨by omega⟩, ⟨?_⟩, ⟨fun s => ?_⟩, ⟨Kd.R_reok rfl HO4.out (fun k hk => (HO4.out.1 k hk).1)⟩, ⟨Kd.R_mono hp4 (fun k hk => (hp3 k hk.symm).1)⟩, ⟨fun k hk => (HO4.out.1 k hk).2⟩, ⟨?_, ?_, by simp; omega⟩, HB4⟩
         · have h3 := CMap.grown HM2.out HG4.out (fun e => HO3.out.1 m e.symm rfl)
           have h4 : (fun t => if t = nameOf r then n - 1 else c t) = decAt c (nameOf r) := by
            funext t
            unfold decAt
            rw [HN.out]
           rw [← h4]
           exact h3
         · unfold decAt
           have h1 := HBD.out s
           have h2 := HZ.out
           have h3 := HBDN.out
           have h4 := HN.out
           split <;> omega
         · have := HST.out.1
           rw [splitR, if_pos (by rw [← HN.out]; exact HZ.out)] at this
           rw [show (x + 1).toNat = x.toNat + 1 by omega]
           simpa using this
         · have := HST.out.2.1
           rw [splitR, if_pos (by rw [← HN.out]; exact HZ.out)] at this
           rw [show (x + 1).toNat = x.toNat + 1 by omega]
           simpa using this
     · have hzb : decide (n > 0) = false := decide_eq_false hz
       have HZ := Aside0.mk hz
       have hne5 : ∀ k, u5.ownBlock = some k → k ≠ m ∧ u4.ownBlock ≠ some k := fun k hk => ⟨HP1.out.1 k hk, fun e => HNE.out k e hk⟩
       have HNE5 := Aside0.mk hne5
       clear hz hbd hne5
       go_wp2_with (first
        | (at_lookup; refine KV.law_lookup _ rfl _ _ 66 rfl 9 3 Tryz.underlying9 Tryz.underlying66 (.int .i64 0) (zeroInt _) m (Value.int .i64) kv rfl HKV.out.1 (nameOf r) rfl (.int .i64 n) (get_int hc.out) ?_)
        | (at_builtin; refine Kd.R_append (relK w).kd (w0 := w) w.heap.size rfl (.tmp 43) (.tmp 45) 22 53 (.slice none 0 0) 24 rfl Tryz.underlying22 infoRow rfl (Nat.le_refl 1) (by decide) _ left r [.slice Ar r.length cr] (fun k => k ≠ m ∧ u4.ownBlock ≠ some k) (fun _ => False) rfl rfl (hM.out _) (fun _ h => h.elim) (fun k hk => ⟨fun e => by have := hml.out; omega, fun e => by have := Kd.R_lt HO1.out k e; omega⟩) (Kd.R_reok rfl HP1.out HNE5.out) HB1.out HB1.out.size hcl.out.2 ?_; intro v6 w6 hR4 hb4 hg4 hat4; have HO4 := Aside0.mk hR4; have HB4 := Aside0.mk hb4; have HG4 := Aside0.mk hg4; clear hR4 hb4 hg4 hat4))
       have hlt := HLT.out
       have hk := HX.out.2.2
       have hx0 := HX0.out
       have hd := HD.out.2.2
       cases gk with
       | zero => omega
       | succ k1 =>
        go_roundg k1
        case measure => omega
        case rel =>
         have hp4 := Kd.R_grown (Kd.R_tight rfl HO1.out) HG4.out (fun k hk e => HNE.out k hk.symm e.symm)
         refine ⟨x + 1, c, met, left ++ [r], by rw [HWR.out], ⟨by omega⟩, ⟨CMap.grown ⟨kv, HKV.out⟩ HG4.out (fun e => HP1.out.1 m e.symm rfl)⟩, HBD, ⟨Kd.R_mono hp4 (fun k hk => HO1.out.1 k hk.symm)⟩, ⟨Kd.R_reok rfl HO4.out (fun k hk => (HO4.out.1 k hk).1)⟩, ⟨fun k hk e => (HO4.out.1 k e).2 hk⟩, ⟨?_, ?_, by simp; omega⟩, HB4⟩
         · have := HST.out.1
           rw [splitR, if_neg (by rw [← HN.out]; have := HZ.out; omega)] at this
           rw [show (x + 1).toNat = x.toNat + 1 by omega]
           simpa using this
         · have := HST.out.2.1
           rw [splitR, if_neg (by rw [← HN.out]; have := HZ.out; omega)] at this
           rw [show (x + 1).toNat = x.toNat + 1 by omega]
           simpa using this
   · have c1 : decide (x < (l0.length : Int)) = false := decide_eq_false hlt
     have hms : met = (splitR c0f l0).1 ∧ left = (splitR c0f l0).2 := by
      have := HD.out
      rw [List.drop_eq_nil_of_le (by omega)] at this
      have h1 := this.1
      have h2 := this.2.1
      simp only [splitR, List.append_nil] at h1 h2
      exact ⟨h1, h2⟩
     obtain ⟨hms, hls⟩ := hms
     have hmem := splitR_mem l0 c0f
     have hlen := splitR_len l0 c0f
     rw [← hms, ← hls] at H hmem hlen
     have good : ∀ row, row ∈ met ∨ row ∈ left → RowGood [] row := fun row hrow => ⟨HV.out row (hmem row hrow), (by intro k hk; cases hk), (HOK.out.1 row (hmem row hrow)).2.2⟩
     have HG4 : Aside0 (∀ row ∈ met, RowGood [] row) := ⟨fun row h => good row (.inl h)⟩
     have HG5 : Aside0 (∀ row ∈ left, RowGood [] row) := ⟨fun row h => good row (.inr h)⟩
     have HL4 : Aside0 (met.length ≤ 1099511627776 ∧ left.length ≤ 1099511627776) := ⟨by have := HOK.out.2; omega⟩
     clear HX HD hx0 hx1 hlt hkq hms hls hmem hlen good HM HBD
     obtain ⟨Av, cv, ev, hlc, hC⟩ := Kd.R_reads HO.out
     subst ev
     obtain ⟨Aw, cw, ew, hlc2, hC2⟩ := Kd.R_reads HP.out
     subst ew
     have HC := Aside0.mk (relK_C hC HB.out)
     have HC2 := Aside0.mk (relK_C hC2 HB.out)
     clear hC hlc hC2 hlc2
     go_wp2_with fail
     refine (arrangedS_calls Av cv met none 0 [] wr HC.out (Kd.C_nil _ _) HG4.out HL4.out.1 (by simp)).mono ?_
     rintro e w3 ⟨v2, rfl, hR2, hb2⟩
     have HV2 := Aside0.mk (Kd.S_lower hR2 HB.out.size)
     have HB2 := Aside0.mk (HB.out.trans (hb2.mono HB.out.size))
     have HC3 := Aside0.mk (Kd.C_below HC2.out hb2)
     have HS := Aside0.mk HB2.out.size
     clear hR2 hb2
     go_wp2_with fail
     refine (arrangedS_calls Aw cw left none 0 [] w3 HC3.out (Kd.C_nil _ _) HG5.out HL4.out.2 (by simp)).mono ?_
     rintro e w4 ⟨v3, rfl, hR3, hb3⟩
     have HV3 := Aside0.mk (Kd.S_lower hR3 HS.out)
     have HV4 := Aside0.mk (Kd.S_below HV2.out hb3)
     have HB3 := Aside0.mk (HB2.out.trans (hb3.mono HB2.out.size))
     clear hR3 hb3
     go_wp2
     go_ret3
     obtain ⟨e1, e2⟩ := Prod.mk.inj H.out
     obtain ⟨e2, e3⟩ := Prod.mk.inj e2
     refine ⟨v2, v3, by rw [← e3]; rfl, ?_, ?_, HB3.out⟩
     · rw [← e1]; exact HV4.out
     · rw [← e2]; exact HV3.out
theorem split_IntersectS (A0 : Option Addr) (c0 : Nat) (l0 : List (List V)) (A1 : Option Addr) (c1 : Nat) (l1 : List (List V)) (r1 r2 : List (List V)) (r3 : Int) (w : World) (hr0 : Kd.C kRow w A0 l0.length l0) (hc0 : l0.length ≤ c0) (hr1 : Kd.C kRow w A1 l1.length l1) (hc1 : l1.length ≤ c1) (hT : LaidT w) (h : bag_split.f l0 l1 = some (r1, r2, r3)) :
 Calls Tryz.prog 35 #[.slice A0 l0.length c0, .slice A1 l1.length c1] w fun e w' => ∃ v0_ : Value, e = .returned (.tuple #[v0_, .int .i64 r3]) ∧ Kd.S kRow 53 w' w.heap.size (fun _ => True) v0_ r1 ∧ Below w.heap.size w w' := by
 have HS := Aside0.mk (bag_split.callsS A0 c0 l0 A1 c1 l1 r1 r2 r3 w hr0 hc0 hr1 hc1 hT h)
 clear hr0 hc0 hr1 hc1 hT h
 go_enter Tryz.func35, Tryz.ntmps35
 go_wp2_with fail
 refine HS.out.mono ?_
 rintro e w1 ⟨v0, v1, rfl, hv0, hv1, hb⟩
 have HV := Aside0.mk hv0
 have HB := Aside0.mk hb
 clear hv0 hv1 hb
 go_wp2
 go_ret2
 exact ⟨v0, rfl, HV.out, HB.out⟩
theorem split_ExceptS (A0 : Option Addr) (c0 : Nat) (l0 : List (List V)) (A1 : Option Addr) (c1 : Nat) (l1 : List (List V)) (r1 r2 : List (List V)) (r3 : Int) (w : World) (hr0 : Kd.C kRow w A0 l0.length l0) (hc0 : l0.length ≤ c0) (hr1 : Kd.C kRow w A1 l1.length l1) (hc1 : l1.length ≤ c1) (hT : LaidT w) (h : bag_split.f l0 l1 = some (r1, r2, r3)) :
 Calls Tryz.prog 37 #[.slice A0 l0.length c0, .slice A1 l1.length c1] w fun e w' => ∃ v0_ : Value, e = .returned (.tuple #[v0_, .int .i64 r3]) ∧ Kd.S kRow 53 w' w.heap.size (fun _ => True) v0_ r2 ∧ Below w.heap.size w w' := by
 have HS := Aside0.mk (bag_split.callsS A0 c0 l0 A1 c1 l1 r1 r2 r3 w hr0 hc0 hr1 hc1 hT h)
 clear hr0 hc0 hr1 hc1 hT h
 go_enter Tryz.func37, Tryz.ntmps37
 go_wp2_with fail
 refine HS.out.mono ?_
 rintro e w1 ⟨v0, v1, rfl, hv0, hv1, hb⟩
 have HV := Aside0.mk hv1
 have HB := Aside0.mk hb
 clear hv0 hv1 hb
 go_wp2
 go_ret2
 exact ⟨v1, rfl, HV.out, HB.out⟩
theorem split_Except (A0 : Option Addr) (c0 : Nat) (l0 : List (List V)) (A1 : Option Addr) (c1 : Nat) (l1 : List (List V)) (r1 r2 : List (List V)) (r3 : Int) (w : World) (hr0 : Kd.C kRow w A0 l0.length l0) (hc0 : l0.length ≤ c0) (hr1 : Kd.C kRow w A1 l1.length l1) (hc1 : l1.length ≤ c1) (hT : LaidT w) (h : bag_split.f l0 l1 = some (r1, r2, r3)) :
 Calls Tryz.prog 37 #[.slice A0 l0.length c0, .slice A1 l1.length c1] w fun e w' => ∃ v0_ : Value, e = .returned (.tuple #[v0_, .int .i64 r3]) ∧ Kd.V kRow 53 w' w.heap.size (fun k_ => (w.heap.size ≤ k_)) v0_ r2 ∧ Below w.heap.size w w' := by
 refine (split_ExceptS A0 c0 l0 A1 c1 l1 r1 r2 r3 w hr0 hc0 hr1 hc1 hT h).mono ?_
 rintro e w' ⟨v, rfl, hS, hB⟩
 exact ⟨v, rfl, S_V hS, hB⟩
def keyOf (cols : List Int) (row : List V) : List V := cols.map (fun n => rd_T36 row n)
open Classical in
noncomputable def keysR (cols : List Int) (l : List (List V)) : List (List V) := if cols = [] then [[]] else sortR [] (distR [] (l.map (keyOf cols)))
open Classical in
noncomputable def listR (cols : List Int) (l : List (List V)) (s : ByteArray) : List (List V) := l.filter (fun r => decide (nameOf (keyOf cols r) = s))
abbrev LV := Value × List (List V)
structure LM (w W : World) (m : Nat) (kv : List (ByteArray × LV)) : Prop where
 is : KV.Is W m (fun p : LV => p.1) kv
 own : ∀ s p, KV.get kv s = some p → (relK w).kd.R 53 W w.heap.size (fun k => k ≠ m) p.1 p.2
 apart : ∀ s t p q, KV.get kv s = some p → KV.get kv t = some q → s ≠ t → ∀ k, p.1.ownBlock = some k → q.1.ownBlock ≠ some k
theorem LM.below {w W W1 : World} {m : Nat} {kv : List (ByteArray × LV)} (h : LM w W m kv) (hb : Below W.heap.size W W1) : LM w W1 m kv :=
 ⟨h.is.below hb, fun s p hp => Kd.R_below (h.own s p hp) hb, h.apart⟩
theorem LM.grown {w W W1 : World} {m : Nat} {kv : List (ByteArray × LV)} (h : LM w W m kv) {row : Option Nat} (hg : W.grownBy W1 row) (hm : some m ≠ row) (hr : ∀ s p, KV.get kv s = some p → ∀ k, p.1.ownBlock = some k → some k ≠ row) : LM w W1 m kv :=
 ⟨h.is.grown hg hm, fun s p hp => Kd.R_mono (Kd.R_grown (Kd.R_tight rfl (h.own s p hp)) hg (fun k hk => hr s p hp k hk.symm)) (fun k hk => (h.own s p hp).1 k hk.symm), h.apart⟩
theorem LM.put {w W W1 W2 : World} {m : Nat} {kv : List (ByteArray × LV)} (h : LM w W m kv) {s : ByteArray} {v0 v1 : Value} {r0 r1 : List (List V)} (h0 : KV.get kv s = some (v0, r0) ∨ KV.get kv s = none ∧ v0.ownBlock = none)
 (hR : (relK w).kd.R 53 W1 w.heap.size (fun k => k ≠ m) v1 r1) (hg : W.grownBy W1 v0.ownBlock) (hat : v1.ownBlock = v0.ownBlock ∨ ∃ b, v1.ownBlock = some b ∧ W.heap.size ≤ b)
 (hi : KV.Is W2 m (fun p : LV => p.1) (KV.put kv s (v1, r1))) (hg2 : W1.grownBy W2 (some m)) : LM w W2 m (KV.put kv s (v1, r1)) := by
 have old : ∀ t p, t ≠ s → KV.get kv t = some p → ∀ k, p.1.ownBlock = some k → v0.ownBlock ≠ some k ∧ v1.ownBlock ≠ some k := fun t p ht hp k hk => by
  have hlt := Kd.R_lt (h.own t p hp) k hk
  have e0 : v0.ownBlock ≠ some k := by
   rcases h0 with h0 | ⟨_, h0⟩
   · exact h.apart t s p (v0, r0) hp h0 ht k hk
   · rw [h0]; exact fun e => by cases e
  refine ⟨e0, ?_⟩
  rcases hat with hat | ⟨b, hb, hb2⟩
  · rw [hat]; exact e0
  · rw [hb]; intro e; injection e; omega
 refine ⟨hi, fun t p hp => ?_, fun t u p q hp hq htu k hk => ?_⟩
 · by_cases ht : t = s
   · subst ht
     rw [KV.get_put_same] at hp
     obtain rfl := Option.some.inj hp
     exact Kd.R_grown hR hg2 (fun k hk e => hk (by injection e))
   · rw [KV.get_put_other _ ht] at hp
     have h1 := Kd.R_mono (Kd.R_grown (Kd.R_tight rfl (h.own t p hp)) hg (fun k hk e => (old t p ht hp k hk.symm).1 e.symm)) (fun k hk => (h.own t p hp).1 k hk.symm)
     exact Kd.R_grown h1 hg2 (fun k hk e => hk (by injection e))
 · by_cases ht : t = s
   · subst ht
     rw [KV.get_put_same] at hp
     obtain rfl := Option.some.inj hp
     rw [KV.get_put_other _ (fun e => htu e.symm)] at hq
     intro e
     exact (old u q (fun e => htu e.symm) hq k e).2 hk
   · rw [KV.get_put_other _ ht] at hp
     by_cases hu : u = s
     · subst hu
       rw [KV.get_put_same] at hq
       obtain rfl := Option.some.inj hq
       exact (old t p ht hp k hk).2
     · rw [KV.get_put_other _ hu] at hq
       exact h.apart t u p q hp hq htu k hk
abbrev KOk (w : World) (kv : List (ByteArray × LV)) : Nat → Prop := fun k => k ≠ w.heap.size ∧ ∀ s p, KV.get kv s = some p → p.1.ownBlock ≠ some k
theorem KR_put {w W W1 W2 : World} {kv : List (ByteArray × LV)} {v : Value} {keys : List (List V)} (h : kRow.R 53 W w.heap.size (KOk w kv) v keys) {s : ByteArray} {v0 v1 : Value} {r0 r1 : List (List V)} (h0 : KV.get kv s = some (v0, r0) ∨ KV.get kv s = none ∧ v0.ownBlock = none)
 (hg : W.grownBy W1 v0.ownBlock) (hat : v1.ownBlock = v0.ownBlock ∨ ∃ b, v1.ownBlock = some b ∧ W.heap.size ≤ b) (hg2 : W1.grownBy W2 (some w.heap.size)) : kRow.R 53 W2 w.heap.size (KOk w (KV.put kv s (v1, r1))) v keys := by
 have e0 : ∀ k, KOk w kv k → some k ≠ v0.ownBlock := fun k hk => by
  rcases h0 with h0 | ⟨_, h0⟩
  · exact fun e => hk.2 s _ h0 e.symm
  · rw [h0]; exact fun e => by cases e
 have h1 := Kd.R_grown (Kd.R_bound h) hg (fun k hk => e0 k hk.1)
 have h2 := Kd.R_grown h1 hg2 (fun k hk e => hk.1.1 (by injection e))
 refine Kd.R_mono h2 (fun k hk => ⟨hk.1.1, fun t p hp => ?_⟩)
 by_cases ht : t = s
 · subst ht
   rw [KV.get_put_same] at hp
   obtain rfl := Option.some.inj hp
   rcases hat with hat | ⟨b, hb, hb2⟩
   · show v1.ownBlock ≠ some k
     rw [hat]; exact fun e => e0 k hk.1 e.symm
   · show v1.ownBlock ≠ some k
     rw [hb]; intro e; injection e; have := hk.2.2.1; omega
 · rw [KV.get_put_other _ ht] at hp
   exact hk.1.2 t p hp
open Classical in
theorem list_put {cols : List Int} {t : List (List V)} {kv : List (ByteArray × LV)} {row : List V} {v1 : Value} {r0 : List (List V)} (h : ∀ s, ((KV.get kv s).map (·.2)).getD [] = listR cols t s) (h0 : ((KV.get kv (nameOf (keyOf cols row))).map (·.2)).getD [] = r0) :
 ∀ s, ((KV.get (KV.put kv (nameOf (keyOf cols row)) (v1, r0 ++ [row])) s).map (·.2)).getD [] = listR cols (t ++ [row]) s := fun s => by
 unfold listR at h ⊢
 rw [List.filter_append]
 by_cases hs : s = nameOf (keyOf cols row)
 · subst hs
   rw [KV.get_put_same, ← h, h0]
   simp
 · rw [KV.get_put_other _ hs, h]
   have : ¬ nameOf (keyOf cols row) = s := fun e => hs e.symm
   simp [this]
theorem len_put {kv : List (ByteArray × LV)} {x : Int} (h : ∀ s p, KV.get kv s = some p → (p.2.length : Int) ≤ x) (s : ByteArray) (y : LV) (hy : (y.2.length : Int) ≤ x + 1) : ∀ t p, KV.get (KV.put kv s y) t = some p → (p.2.length : Int) ≤ x + 1 := fun t p hp => by
 by_cases ht : t = s
 · subst ht
   rw [KV.get_put_same] at hp
   obtain rfl := Option.some.inj hp
   exact hy
 · rw [KV.get_put_other _ ht] at hp
   have := h t p hp
   omega
theorem zeroRows (w : World) : (zeroValue 22).run Tryz.prog w = .ok (.slice none 0 0) w := by kernel_rfl
abbrev AggT := S55
abbrev kAgg : Kd AggT := k55
def aggOkB (l : List (List V)) (a : AggT) : Bool := if a.f0 = 0 then decide (a.f1 = 0 ∧ a.f2 = false) else hasB l a.f1 && allowedB a.f0 a.f2 (columnR l a.f1)
def groupableB (l : List (List V)) (cols : List Int) (aggs : List AggT) : Bool := validB l && cols.all (hasB l) && aggs.all (aggOkB l)
noncomputable def rowOf (ls : List (List V)) : List AggT → List V → List V × Int
 | [], acc => (acc, 0)
 | a :: aa, acc => if (aggR a.f0 a.f2 (columnR ls a.f1)).2.2.2 = 0 then rowOf ls aa (acc ++ [⟨(aggR a.f0 a.f2 (columnR ls a.f1)).1, (aggR a.f0 a.f2 (columnR ls a.f1)).2.1, (aggR a.f0 a.f2 (columnR ls a.f1)).2.2.1⟩]) else ([], (aggR a.f0 a.f2 (columnR ls a.f1)).2.2.2)
noncomputable def rowsOf (cols : List Int) (l : List (List V)) (aggs : List AggT) : List (List V) → List (List V) → List (List V) × Int
 | [], acc => (acc, 0)
 | key :: ks, acc => if (rowOf (listR cols l (nameOf key)) aggs key).2 = 0 then rowsOf cols l aggs ks (acc ++ [(rowOf (listR cols l (nameOf key)) aggs key).1]) else ([], (rowOf (listR cols l (nameOf key)) aggs key).2)
noncomputable def groupG (l : List (List V)) (cols : List Int) (aggs : List AggT) : List (List V) × Int := if groupableB l cols aggs = true then rowsOf cols l aggs (keysR cols l) [] else ([], 1)
structure GroupOk (l : List (List V)) (cols : List Int) (aggs : List AggT) : Prop where
 rows : RowsOk l
 ln : l.length < 4294967296
 cn : cols.length ≤ 1099511627776
 an : aggs.length ≤ 1099511627776
 fn : ∀ a ∈ aggs, 0 ≤ a.f0
 keys : ∀ row ∈ l, RowOk (keyOf cols row)
 vals : ∀ a ∈ aggs, ∀ row ∈ l, RowOk [rd_T36 row a.f1]
theorem GroupOk.keysn {l : List (List V)} {cols : List Int} {aggs : List AggT} (h : GroupOk l cols aggs) : (keysR cols l).length ≤ 1099511627776 := by
 have h1 := h.ln
 unfold keysR
 split
 · simp
 · rw [(sortR_perm _ _).length_eq]
   have := distR_len (l.map (keyOf cols)) []
   rw [List.length_map] at this
   omega
theorem GroupOk.keyn {l : List (List V)} {cols : List Int} {aggs : List AggT} (h : GroupOk l cols aggs) : ∀ key ∈ keysR cols l, RowOk key := fun key hk => by
 unfold keysR at hk
 split at hk
 · obtain rfl : key = [] := by simpa using hk
   exact ⟨by simp, by simp [nameB], by simp⟩
 · obtain ⟨row, hr, rfl⟩ := List.mem_map.1 (distR_mem _ _ _ ((sortR_perm _ _).mem_iff.1 hk))
   exact h.keys row hr
theorem groupable_parts {l : List (List V)} {cols : List Int} {aggs : List AggT} (h : groupableB l cols aggs = true) : validB l = true ∧ (∀ n ∈ cols, hasB l n = true) ∧ ∀ a ∈ aggs, aggOkB l a = true := by
 unfold groupableB at h
 simp only [Bool.and_eq_true, List.all_eq_true] at h
 exact ⟨h.1.1, h.1.2, h.2⟩
theorem agg_ok {l ls : List (List V)} {cols : List Int} {aggs : List AggT} (hok : GroupOk l cols aggs) (hv : validB l = true) {a : AggT} (ha : a ∈ aggs) (hs : ∀ row ∈ ls, row ∈ l) (hn : ls.length ≤ l.length) : bag_Aggregate.f a.f0 a.f2 (columnR ls a.f1) = some (aggR a.f0 a.f2 (columnR ls a.f1)) := by
 unfold bag_Aggregate.f
 refine if_pos ⟨hok.fn a ha, fun _ => ?_, fun v hm => ?_, ?_⟩
 · rw [columnR, List.length_map]; have := hok.ln; omega
 · obtain ⟨row, hr, rfl⟩ := List.mem_map.1 hm
   exact hok.vals a ha row (hs row hr)
 · rw [columnR, List.length_map]; have := hok.ln; omega
theorem aggOk_col {l : List (List V)} {a : AggT} (h : aggOkB l a = true) : 0 ≤ a.f1 := by
 unfold aggOkB at h
 by_cases h0 : a.f0 = 0
 · rw [if_pos h0] at h
   have := of_decide_eq_true h
   omega
 · rw [if_neg h0] at h
   simp only [Bool.and_eq_true] at h
   have h1 := h.1
   unfold hasB at h1
   cases l with
   | nil => exact (of_decide_eq_true h1).1
   | cons r rs => exact (of_decide_eq_true h1).1
theorem rowOf_snoc {ls : List (List V)} {a : AggT} {aa : List AggT} {acc : List V} {r0 r1 r3 : Int} {r2 : ByteArray} (h : aggR a.f0 a.f2 (columnR ls a.f1) = (r0, r1, r2, r3)) : rowOf ls (a :: aa) acc = if r3 = 0 then rowOf ls aa (acc ++ [⟨r0, r1, r2⟩]) else ([], r3) := by
 simp only [rowOf, h]
theorem rowsOf_all {cols : List Int} {l : List (List V)} {aggs : List AggT} : ∀ (ks acc : List (List V)), (∀ key ∈ ks, (rowOf (listR cols l (nameOf key)) aggs key).2 = 0) → rowsOf cols l aggs ks acc = (acc ++ ks.map (fun key => (rowOf (listR cols l (nameOf key)) aggs key).1), 0)
 | [], acc, _ => by simp [rowsOf]
 | key :: ks, acc, h => by
  simp only [rowsOf]
  rw [if_pos (h key List.mem_cons_self), rowsOf_all ks _ (fun k hk => h k (List.mem_cons_of_mem _ hk))]
  simp
theorem count_row {l ls : List (List V)} (hv : validB l = true) (hs : ∀ row ∈ ls, row ∈ l) : aggR 0 false (columnR ls 0) = (1, (ls.length : Int), ⟨#[]⟩, 0) := by
 unfold aggR
 rw [if_pos (col_allowed hv hs 0)]
 unfold aggV
 rw [if_neg (by omega), if_neg (by omega), if_neg (by omega), if_neg (by omega), pickV_all]
 simp [columnR]
theorem list_sub {cols : List Int} {l : List (List V)} {s : ByteArray} : ∀ row ∈ listR cols l s, row ∈ l := fun row h => (List.mem_filter.1 h).1
theorem groupG_count {l : List (List V)} {cols : List Int} (hv : validB l = true) (hc : ∀ n ∈ cols, hasB l n = true) : groupG l cols [⟨0, 0, false⟩] = ((keysR cols l).map (fun key => key ++ [(⟨1, ((listR cols l (nameOf key)).length : Int), ⟨#[]⟩⟩ : V)]), 0) := by
 have e : ∀ key, rowOf (listR cols l (nameOf key)) [⟨0, 0, false⟩] key = (key ++ [(⟨1, ((listR cols l (nameOf key)).length : Int), ⟨#[]⟩⟩ : V)], 0) := fun key => by
  simp only [rowOf]
  rw [count_row hv list_sub]
  rfl
 unfold groupG
 rw [if_pos (by unfold groupableB; simp only [Bool.and_eq_true, List.all_eq_true]; exact ⟨⟨hv, hc⟩, fun a ha => by
  obtain rfl : a = _ := by simpa using ha
  rfl⟩), rowsOf_all _ _ (fun key _ => by rw [e])]
 simp only [e, List.nil_append]
end Go.Proofs.YtecgkcgfeghhgaaGreatDoor.PAll
