/- What the last of these texts proves is told there. Joined by a program of this session out of its texts. -/
import Derived.Test.YtecgkcgfeghhgaaGreatDoorQBagSets4
import Derived.Below
import Derived.Deep.Draws
import Derived.Deep.AppendLies
import Derived.Maps.AppendAt
import Derived.OwnWalk
import Derived.Laws.BytesArg
import Derived.Laws.MakeOwn
import Derived.Laws.OwnMore
import Derived.Deep.OwnRows
import Derived.Tactics
import Derived.Lib.ConvBytes
import Derived.Laws.Slices
import Derived.WalkKit
import Derived.KernelRfl
import Derived.RowKit3
import Derived.Deep.LoopGhost
import Derived.Deep.QuietTactic
import Derived.BigQuiet
import Derived.WideLaws
import Derived.Deep.DeepCutAuto
import Derived.Deep.CutBlock
import Derived.Deep.RegionHeld3
import Derived.Laws.Rows
import Derived.Lib.AppendStr
import Derived.ArgAppend
import Derived.Laws.IdiomCopy
import Derived.RowKit
import Derived.OrdersHeld
import Derived.Laws.BitsLemmas
import Derived.Laws.StructEq
import Derived.Shelf.Strings.BuilderK
import Derived.Shelf.Spec.SlicesGrow
import Derived.Shelf.SlGeneric
import Derived.Ground.Names8Prog
import Derived.Shelf.SlSortCmp.NoneTotal
import Derived.Ground.SlsfProg
import Derived.Ground.NamesProg
import Derived.Shelf.Spec.BitsCarry
import Derived.Ground.Names7Prog
import Derived.Shelf.Strings.Builder1
import Derived.Shelf.Small.Bits
import Derived.Shelf.Small.Strs
import Derived.Shelf.Strings.BuilderF
import Derived.Shelf.Strconv.Itoa0
import Derived.Shelf.Strconv.Itoa1
import Derived.Shelf.LaysM
import Derived.Shelf.Strconv.Itoa2
import Derived.Shelf.Strconv.Itoa3
import Derived.Shelf.Strconv.Itoa4
import Derived.Shelf.Strings.BuilderCap
import Derived.Maps.OwnOps
import Derived.ChangeArms
import Derived.Deep.Slices
import Derived.Deep.Strs
import Derived.Lib.ItoaLen
import Derived.Sort.Statements
import Derived.WalkSpells
import Derived.WalkMore
import Derived.BigRegion
import Derived.RegionTactic
set_option maxHeartbeats 8000000
set_option maxRecDepth 100000
namespace Go.Proofs.YtecgkcgfeghhgaaGreatDoor.PAll
open Go.RowKit Go.Proofs.YtecgkcgfeghhgaaGreatDoorW.PrintWords Go.Proofs.YtecgkcgfeghhgaaGreatDoorW.PrintLast Go.Proofs.YtecgkcgfeghhgaaGreatDoorW.PrintMore
attribute [local go_sem] max2_int min2_int max_two min_two max_three min_three max_four min_four
set_option linter.unusedVariables false
set_option linter.unusedSimpArgs false
mutual
def bag_allowed.j0 : Nat → Int → List (S36) → Bool → Option (Bool)
 | 0, _, _, _ => none
 | k + 1, x0, x2, x19 => if x19 = true then (some false) else (bag_allowed.l0 k x0 0 x2 (x2.length : Int) 0)
def bag_allowed.l0 : Nat → Int → Int → List (S36) → Int → Int → Option (Bool)
 | 0, _, _, _, _, _ => none
 | k + 1, x0, x7, x20, x21, x22 => if x22 < x21 then (if 0 ≤ x22 then (if x22 < (x20.length : Int) then ((value_Valid.f ((rd_T36 x20 x22).f0) ((rd_T36 x20 x22).f1) ((rd_T36 x20 x22).f2)).bind fun t114 => (if t114 = true then (if x7 = 0 then (bag_allowed.j2 k x0 x7 x20 x21 x22 false ((rd_T36 x20 x22).f0) ((rd_T36 x20 x22).f1) ((rd_T36 x20 x22).f2)) else (if ((rd_T36 x20 x22).f0) = 0 then (bag_allowed.j2 k x0 x7 x20 x21 x22 false ((rd_T36 x20 x22).f0) ((rd_T36 x20 x22).f1) ((rd_T36 x20 x22).f2)) else (bag_allowed.j2 k x0 x7 x20 x21 x22 (((rd_T36 x20 x22).f0) != x7) ((rd_T36 x20 x22).f0) ((rd_T36 x20 x22).f1) ((rd_T36 x20 x22).f2)))) else (bag_allowed.j2 k x0 x7 x20 x21 x22 true ((rd_T36 x20 x22).f0) ((rd_T36 x20 x22).f1) ((rd_T36 x20 x22).f2)))) else (none)) else (none)) else (if x7 = 0 then (some true) else (if x7 = 1 then (some true) else (if x0 = 2 then (some false) else (some (x0 != 5)))))
def bag_allowed.j2 : Nat → Int → Int → List (S36) → Int → Int → Bool → Int → Int → ByteArray → Option (Bool)
 | 0, _, _, _, _, _, _, _, _, _ => none
 | k + 1, x0, x7, x20, x21, x22, x43, x114000, x114001, x114002 => if x43 = true then (some false) else (if x114000 = 0 then (bag_allowed.l0 k x0 x7 x20 x21 (wrap64 (x22 + 1))) else (bag_allowed.l0 k x0 x114000 x20 x21 (wrap64 (x22 + 1))))
end
def bag_allowed.f (k : Nat) (a0 : Int) (a1 : Bool) (l2 : List (S36)) : Option (Bool) := if a0 > 5 then (bag_allowed.j0 k a0 l2 true) else (if a0 = 0 then (bag_allowed.j0 k a0 l2 a1) else (bag_allowed.j0 k a0 l2 false))
theorem bag_allowed.calls (k : Nat) (a0 : Int) (a1 : Bool) (A2 : Option Addr) (c2 : Nat) (l2 : List (S36)) (r : Bool) (w : World) (hr2 : Kd.C k36 w A2 l2.length l2) (hc2 : l2.length ≤ c2) (h : bag_allowed.f k a0 a1 l2 = some r) :
 Calls Tryz.prog 56 #[.int .u8 a0, .bool a1, .slice A2 l2.length c2] w fun e w' => e = .returned (.bool r) ∧ Below w.heap.size w w' := by
 have hu36 := Tryz.underlying36
 have HR2 := Aside0.mk hr2
 have HC2 := Aside0.mk hc2
 clear hr2 hc2
 have HB := Aside0.mk (Below.refl w.heap.size w)
 have H : (if a0 > 5 then (bag_allowed.j0 k a0 l2 true) else (if a0 = 0 then (bag_allowed.j0 k a0 l2 a1) else (bag_allowed.j0 k a0 l2 false))) = some r := h
 clear h
 have HC4 := Aside0.mk H
 clear H
 go_enter Tryz.func56, Tryz.ntmps56
 go_upto_region 1 with (fail)
 go_cut [19] (fun v19 wc => ∃ (kq : Nat) (x19_3 : Bool), v19 = .bool x19_3 ∧ Aside0 (bag_allowed.j0 kq a0 l2 x19_3 = some r) ∧ Aside0 (kq ≤ k) ∧ Aside0 (Below w.heap.size w wc))
 case first =>
  have H := HC4.out
  clear HC4
  by_cases c5 : a0 > 5
  · rw [if_pos c5] at H
    have c5b0 : decide (5 < a0) = true := dT_ c5
    clear c5
    (first | rw [c5b0] | (simp only [i64_w, i32_w]; rw [c5b0]) | skip)
    have H' := Aside0.mk H
    clear H
    go_wp2
    go_meet
    case rel => exact ⟨_, (true), (by first | rfl | (simp; done) | (simp [*]; done)), H', ⟨by first | omega | exact Nat.le_refl _⟩, ⟨by repeat (first | (with_reducible first | exact HB.out | apply bA_ | apply bN_ | apply b1_) | exact HB.out)⟩⟩
  · rw [if_neg c5] at H
    have c5b0 : decide (5 < a0) = false := dF_ c5
    clear c5
    (first | rw [c5b0] | (simp only [i64_w, i32_w]; rw [c5b0]) | skip)
    by_cases c6 : a0 = 0
    · rw [if_pos c6] at H
      have c6b0 : (a0 == 0) = true := beq_iff_eq.mpr c6
      have c6b1 : (a0 != 0) = false := bne_eq_false_iff_eq.mpr c6
      clear c6
      have H' := Aside0.mk H
      clear H
      go_wp2
      go_meet
      case rel => exact ⟨_, (a1), (by first | rfl | (simp; done) | (simp [*]; done)), H', ⟨by first | omega | exact Nat.le_refl _⟩, ⟨by repeat (first | (with_reducible first | exact HB.out | apply bA_ | apply bN_ | apply b1_) | exact HB.out)⟩⟩
    · rw [if_neg c6] at H
      have c6b0 : (a0 == 0) = false := beq_eq_false_iff_ne.mpr c6
      have c6b1 : (a0 != 0) = true := bne_iff_ne.mpr c6
      have H' := Aside0.mk H
      clear H
      go_wp2
      go_meet
      case rel => exact ⟨_, (false), (by first | rfl | (simp; done) | (simp [*]; done)), H', ⟨by first | omega | exact Nat.le_refl _⟩, ⟨by repeat (first | (with_reducible first | exact HB.out | apply bA_ | apply bN_ | apply b1_) | exact HB.out)⟩⟩
 case rest =>
  clear HC4
  try clear c2
  try clear p2
  try clear c5
  try clear c5b0
  try clear c6
  try clear c6b0
  try clear c6b1
  obtain ⟨kq, x19_3, rfl, HA, HJ3, HB⟩ := hcut
  cases kq with
  | zero => exact absurd HA.out (by simp [bag_allowed.j0])
  | succ kj3 =>
   have H := HA.out
   clear HA
   simp only [bag_allowed.j0] at H
   by_cases c7 : x19_3 = true
   · subst c7
     have H1 : (some false) = some r := by rw [if_pos rfl] at H; exact H
     clear H
     have H := H1
     clear H1
     obtain rfl := Option.some.inj H
     go_wp2
     go_ret
     exact ⟨by first | rfl | (simp [*, errW_none, errW_some] <;> rfl), by repeat (first | (with_reducible first | exact HB.out | apply bA_ | apply bN_ | apply b1_) | exact HB.out)⟩
   · replace c7 := Bool.eq_false_iff.mpr c7
     subst c7
     have H1 : (bag_allowed.l0 kj3 a0 0 l2 (l2.length : Int) 0) = some r := by rw [if_neg (show ¬ (false = true) by decide)] at H; exact H
     clear H
     have H := H1
     clear H1
     have H' := Aside0.mk H
     clear H
     go_wp2
     go_loopg [7, 22] kj3 (fun kq v7 v22 w' => ∃ (x7_2 : Int) (x22_2 : Int), v7 = .int .u8 x7_2 ∧ v22 = .int .i64 x22_2 ∧ Aside0 (bag_allowed.l0 kq a0 x7_2 l2 (l2.length : Int) x22_2 = some r) ∧ Aside0 (kq ≤ kj3) ∧ Aside0 (Below w.heap.size w w'))
     case atStart => exact ⟨(0), (0), (by first | rfl | (simp; done) | (simp [*]; done)), (by first | rfl | (simp; done) | (simp [*]; done)), H', ⟨Nat.le_refl _⟩, ⟨by repeat (first | (with_reducible first | exact HB.out | apply bA_ | apply bN_ | apply b1_) | exact HB.out)⟩⟩
     case round =>
      clear H'
      try clear c2
      try clear p2
      try clear c5
      try clear c5b0
      try clear c6
      try clear c6b0
      try clear c6b1
      try clear c7
      try clear p2
      obtain ⟨x7_2, x22_2, rfl, rfl, HA, HK2, HB⟩ := hrel
      cases gk with
      | zero => exact absurd HA.out (by simp [bag_allowed.l0])
      | succ k2 =>
       have H := HA.out
       clear HA
       simp only [bag_allowed.l0] at H
       by_cases c8 : x22_2 < (l2.length : Int)
       · rw [if_pos c8] at H
         have c8b0 : decide (x22_2 < (l2.length : Int)) = true := dT_ c8
         clear c8
         by_cases c9 : 0 ≤ x22_2
         · rw [if_pos c9] at H
           have c9b0 : decide (0 ≤ x22_2) = true := dT_ c9
           clear c9
           by_cases c10 : x22_2 < (l2.length : Int)
           · rw [if_pos c10] at H
             have c10b0 : decide (x22_2 < (l2.length : Int)) = true := dT_ c10
             clear c10
             have HC11 := Aside0.mk H
             clear H
             have p112 : 0 ≤ (x22_2 : Int) := oT_ (by assumption)
             have q112 : x22_2 < (l2.length : Int) := oT_ (by assumption)
             obtain ⟨ad112, e112, hx112_0, hx112_1, hx112_2⟩ := at_T36 HR2.out x22_2 p112 q112
             cases e112
             replace hx112_0 := (HB.out.cell (bLC_ w _ hx112_0)).trans hx112_0
             replace hx112_1 := (HB.out.cell (bLC_ w _ hx112_1)).trans hx112_1
             replace hx112_2 := (HB.out.cell (bLC_ w _ hx112_2)).trans hx112_2
             replace p112 := eq_true p112
             replace q112 := eq_true q112
             go_upto_region 7 with (first | ((with_reducible refine gate_dst (N := 9) rfl ?_); refine box_event ?hg (N := 9) ?hd (cs := #[.int .u8 0, .int .i64 0, .string (⟨#[]⟩ : ByteArray)]) (t := 36) ?hr ?_; (case hd => rfl); (case hg => rfl); (case hr => first | (go_simp; done) | (go_simp; rfl)); intro gb113 hg w12 hbox hb; have n0_ := Aside0.mk (below_step (by repeat (first | (with_reducible first | exact HB.out | apply bA_ | apply bN_ | apply b1_) | exact HB.out)) hb); have n1_ := Aside0.mk (hbox); have n2_ := Aside0.mk ((by rw [hg]; exact (below_size (by repeat (first | (with_reducible first | exact HB.out | apply bA_ | apply bN_ | apply b1_) | exact HB.out))) : w.heap.size ≤ gb113)); have n3_ := Aside0.mk ((by rw [hg]; exact (below_size (by repeat (first | (with_reducible first | exact HB.out | apply bA_ | apply bN_ | apply b1_) | exact HB.out))) : w.heap.size ≤ gb113)); clear HB; have HB := n0_; have BK113 := n1_; have GW113 := n2_; have GE113 := n3_; clear n0_ n1_ n2_ n3_; clear hb hbox hg; have hcz13_0 : w12.cell? ⟨gb113, 0, none⟩ = some (.int .u8 0) := (blk_cell BK113.out 0).trans rfl; have hcz13_1 : w12.cell? ⟨gb113, 1, none⟩ = some (.int .i64 0) := (blk_cell BK113.out 1).trans rfl; have hcz13_2 : w12.cell? ⟨gb113, 2, none⟩ = some (.string (⟨#[]⟩ : ByteArray)) := (blk_cell BK113.out 2).trans rfl; have hfz13_0 := blk_frozen BK113.out 0; have hfz13_1 := blk_frozen BK113.out 1; have hfz13_2 := blk_frozen BK113.out 2))
             (try simp only [Act.put, sTA_, sCZ_, sCS_])
             go_cut [43] (fun v43 wc => ∃ (kq : Nat) (x43_10 : Bool), v43 = .bool x43_10 ∧ Aside0 (bag_allowed.j2 kq a0 x7_2 l2 (l2.length : Int) x22_2 x43_10 ((rd_T36 l2 x22_2).f0) ((rd_T36 l2 x22_2).f1) ((rd_T36 l2 x22_2).f2) = some r) ∧ Aside0 (kq ≤ k2) ∧ Aside0 (wc.heap[gb113]? = some (.cells #[.int .u8 ((rd_T36 l2 x22_2).f0), .int .i64 ((rd_T36 l2 x22_2).f1), .string ((rd_T36 l2 x22_2).f2)] 36 (0, 0))) ∧ Aside0 (Below w.heap.size w wc))
             case first =>
              have H := HC11.out
              clear HC11
              replace H := Option.bind_eq_some_iff.mp H
              obtain ⟨t114, A140, H⟩ := H
              replace H : (if t114 = true then (if x7_2 = 0 then (bag_allowed.j2 k2 a0 x7_2 l2 (l2.length : Int) x22_2 false ((rd_T36 l2 x22_2).f0) ((rd_T36 l2 x22_2).f1) ((rd_T36 l2 x22_2).f2)) else (if ((rd_T36 l2 x22_2).f0) = 0 then (bag_allowed.j2 k2 a0 x7_2 l2 (l2.length : Int) x22_2 false ((rd_T36 l2 x22_2).f0) ((rd_T36 l2 x22_2).f1) ((rd_T36 l2 x22_2).f2)) else (bag_allowed.j2 k2 a0 x7_2 l2 (l2.length : Int) x22_2 (((rd_T36 l2 x22_2).f0) != x7_2) ((rd_T36 l2 x22_2).f0) ((rd_T36 l2 x22_2).f1) ((rd_T36 l2 x22_2).f2)))) else (bag_allowed.j2 k2 a0 x7_2 l2 (l2.length : Int) x22_2 true ((rd_T36 l2 x22_2).f0) ((rd_T36 l2 x22_2).f1) ((rd_T36 l2 x22_2).f2))) = some r := H
              have A14 := Aside0.mk A140
              clear A140
              by_cases c15 : t114 = true
              · subst c15
                have H1 : (if x7_2 = 0 then (bag_allowed.j2 k2 a0 x7_2 l2 (l2.length : Int) x22_2 false ((rd_T36 l2 x22_2).f0) ((rd_T36 l2 x22_2).f1) ((rd_T36 l2 x22_2).f2)) else (if ((rd_T36 l2 x22_2).f0) = 0 then (bag_allowed.j2 k2 a0 x7_2 l2 (l2.length : Int) x22_2 false ((rd_T36 l2 x22_2).f0) ((rd_T36 l2 x22_2).f1) ((rd_T36 l2 x22_2).f2)) else (bag_allowed.j2 k2 a0 x7_2 l2 (l2.length : Int) x22_2 (((rd_T36 l2 x22_2).f0) != x7_2) ((rd_T36 l2 x22_2).f0) ((rd_T36 l2 x22_2).f1) ((rd_T36 l2 x22_2).f2)))) = some r := by rw [if_pos rfl] at H; exact H
                clear H
                have H := H1
                clear H1
                by_cases c16 : x7_2 = 0
                · rw [if_pos c16] at H
                  have c16b0 : (x7_2 == 0) = true := beq_iff_eq.mpr c16
                  have c16b1 : (x7_2 != 0) = false := bne_eq_false_iff_eq.mpr c16
                  clear c16
                  (first | rw [c16b0] | (simp only [i64_w, i32_w]; rw [c16b0]) | skip)
                  have H' := Aside0.mk H
                  clear H
                  have hcz17_0 : w12.cell? ⟨gb113, 0, none⟩ = some (.int .u8 0) := (blk_cell BK113.out 0).trans rfl
                  have hcz17_1 : w12.cell? ⟨gb113, 1, none⟩ = some (.int .i64 0) := (blk_cell BK113.out 1).trans rfl
                  have hcz17_2 : w12.cell? ⟨gb113, 2, none⟩ = some (.string (⟨#[]⟩ : ByteArray)) := (blk_cell BK113.out 2).trans rfl
                  have hfz17_0 := blk_frozen BK113.out 0
                  have hfz17_1 := blk_frozen BK113.out 1
                  have hfz17_2 := blk_frozen BK113.out 2
                  go_wp2_with (first | ((with_reducible refine gate_callee (f := 42) rfl ?_); refine goesL_ (some 27) rfl rfl Tryz.func42 (by kernel_rfl) rfl #[.agg #[.int .u8 ((rd_T36 l2 x22_2).f0), .int .i64 ((rd_T36 l2 x22_2).f1), .string ((rd_T36 l2 x22_2).f2)]] rfl (by (try simp only [List.map_toArray, List.map_cons, List.map_nil]); first | done | rfl | (simp only [List.length_drop, List.length_take]; rfl)) ?_; (with_reducible refine (value_Valid.calls ((rd_T36 l2 x22_2).f0) ((rd_T36 l2 x22_2).f1) ((rd_T36 l2 x22_2).f2) true _ A14.out).mono ?_); rintro e w18 ⟨rfl, hb⟩; refine ⟨_, rfl, ?_⟩; have n0_ := Aside0.mk (blk_below (g := gb113) (o := .cells #[.int .u8 ((rd_T36 l2 x22_2).f0), .int .i64 ((rd_T36 l2 x22_2).f1), .string ((rd_T36 l2 x22_2).f2)] 36 (0, 0)) (by (with_reducible repeat (first | refine blk_drewN ?_ _ | refine blk_drew ?_ | refine blk_alloc ?_ _)); refine blk_put (cs := #[.int .u8 ((rd_T36 l2 x22_2).f0), .int .i64 ((rd_T36 l2 x22_2).f1), .string (⟨#[]⟩ : ByteArray)]) ?_ 2 _ rfl; (with_reducible repeat (first | refine blk_drewN ?_ _ | refine blk_drew ?_ | refine blk_alloc ?_ _)); refine blk_put (cs := #[.int .u8 ((rd_T36 l2 x22_2).f0), .int .i64 0, .string (⟨#[]⟩ : ByteArray)]) ?_ 1 _ rfl; (with_reducible repeat (first | refine blk_drewN ?_ _ | refine blk_drew ?_ | refine blk_alloc ?_ _)); refine blk_put (cs := #[.int .u8 0, .int .i64 0, .string (⟨#[]⟩ : ByteArray)]) ?_ 0 _ rfl; (with_reducible repeat (first | refine blk_drewN ?_ _ | refine blk_drew ?_ | refine blk_alloc ?_ _)); exact BK113.out) hb); have n1_ := Aside0.mk (below_step (by repeat (first | (with_reducible first | exact HB.out | apply bA_ | apply bN_ | apply b1_ | refine below_set ?_ GE113.out) | exact HB.out)) hb); clear BK113; clear HB; have BK113 := n0_; have HB := n1_; clear n0_ n1_; (try clear hb); (try clear hb2); (try clear hk); (try clear hi)))
                  go_meet
                  case rel => exact ⟨_, (false), (by first | rfl | (simp; done) | (simp [*]; done)), H', ⟨by have := HJ3.out; have := HK2.out; first | omega | exact Nat.le_refl _⟩, ⟨by (with_reducible repeat (first | refine blk_drewN ?_ _ | refine blk_drew ?_ | refine blk_alloc ?_ _)); exact BK113.out⟩, ⟨by repeat (first | (with_reducible first | exact HB.out | apply bA_ | apply bN_ | apply b1_ | refine below_set ?_ GE113.out) | exact HB.out)⟩⟩
                · rw [if_neg c16] at H
                  have c16b0 : (x7_2 == 0) = false := beq_eq_false_iff_ne.mpr c16
                  have c16b1 : (x7_2 != 0) = true := bne_iff_ne.mpr c16
                  (first | rw [c16b0] | (simp only [i64_w, i32_w]; rw [c16b0]) | skip)
                  by_cases c19 : ((rd_T36 l2 x22_2).f0) = 0
                  · rw [if_pos c19] at H
                    have c19b0 : (((rd_T36 l2 x22_2).f0) == 0) = true := beq_iff_eq.mpr c19
                    have c19b1 : (((rd_T36 l2 x22_2).f0) != 0) = false := bne_eq_false_iff_eq.mpr c19
                    clear c19
                    have H' := Aside0.mk H
                    clear H
                    have hcz20_0 : w12.cell? ⟨gb113, 0, none⟩ = some (.int .u8 0) := (blk_cell BK113.out 0).trans rfl
                    have hcz20_1 : w12.cell? ⟨gb113, 1, none⟩ = some (.int .i64 0) := (blk_cell BK113.out 1).trans rfl
                    have hcz20_2 : w12.cell? ⟨gb113, 2, none⟩ = some (.string (⟨#[]⟩ : ByteArray)) := (blk_cell BK113.out 2).trans rfl
                    have hfz20_0 := blk_frozen BK113.out 0
                    have hfz20_1 := blk_frozen BK113.out 1
                    have hfz20_2 := blk_frozen BK113.out 2
                    go_wp2_with (first | ((with_reducible refine gate_callee (f := 42) rfl ?_); refine goesL_ (some 27) rfl rfl Tryz.func42 (by kernel_rfl) rfl #[.agg #[.int .u8 ((rd_T36 l2 x22_2).f0), .int .i64 ((rd_T36 l2 x22_2).f1), .string ((rd_T36 l2 x22_2).f2)]] rfl (by (try simp only [List.map_toArray, List.map_cons, List.map_nil]); first | done | rfl | (simp only [List.length_drop, List.length_take]; rfl)) ?_; (with_reducible refine (value_Valid.calls ((rd_T36 l2 x22_2).f0) ((rd_T36 l2 x22_2).f1) ((rd_T36 l2 x22_2).f2) true _ A14.out).mono ?_); rintro e w21 ⟨rfl, hb⟩; refine ⟨_, rfl, ?_⟩; have n0_ := Aside0.mk (blk_below (g := gb113) (o := .cells #[.int .u8 ((rd_T36 l2 x22_2).f0), .int .i64 ((rd_T36 l2 x22_2).f1), .string ((rd_T36 l2 x22_2).f2)] 36 (0, 0)) (by (with_reducible repeat (first | refine blk_drewN ?_ _ | refine blk_drew ?_ | refine blk_alloc ?_ _)); refine blk_put (cs := #[.int .u8 ((rd_T36 l2 x22_2).f0), .int .i64 ((rd_T36 l2 x22_2).f1), .string (⟨#[]⟩ : ByteArray)]) ?_ 2 _ rfl; (with_reducible repeat (first | refine blk_drewN ?_ _ | refine blk_drew ?_ | refine blk_alloc ?_ _)); refine blk_put (cs := #[.int .u8 ((rd_T36 l2 x22_2).f0), .int .i64 0, .string (⟨#[]⟩ : ByteArray)]) ?_ 1 _ rfl; (with_reducible repeat (first | refine blk_drewN ?_ _ | refine blk_drew ?_ | refine blk_alloc ?_ _)); refine blk_put (cs := #[.int .u8 0, .int .i64 0, .string (⟨#[]⟩ : ByteArray)]) ?_ 0 _ rfl; (with_reducible repeat (first | refine blk_drewN ?_ _ | refine blk_drew ?_ | refine blk_alloc ?_ _)); exact BK113.out) hb); have n1_ := Aside0.mk (below_step (by repeat (first | (with_reducible first | exact HB.out | apply bA_ | apply bN_ | apply b1_ | refine below_set ?_ GE113.out) | exact HB.out)) hb); clear BK113; clear HB; have BK113 := n0_; have HB := n1_; clear n0_ n1_; (try clear hb); (try clear hb2); (try clear hk); (try clear hi); have hcz22_0 : w21.cell? ⟨gb113, 0, none⟩ = some (.int .u8 ((rd_T36 l2 x22_2).f0)) := (blk_cell BK113.out 0).trans rfl; have hcz22_1 : w21.cell? ⟨gb113, 1, none⟩ = some (.int .i64 ((rd_T36 l2 x22_2).f1)) := (blk_cell BK113.out 1).trans rfl; have hcz22_2 : w21.cell? ⟨gb113, 2, none⟩ = some (.string ((rd_T36 l2 x22_2).f2)) := (blk_cell BK113.out 2).trans rfl; have hfz22_0 := blk_frozen BK113.out 0; have hfz22_1 := blk_frozen BK113.out 1; have hfz22_2 := blk_frozen BK113.out 2))
                    go_meet
                    case rel => exact ⟨_, (false), (by first | rfl | (simp; done) | (simp [*]; done)), H', ⟨by have := HJ3.out; have := HK2.out; first | omega | exact Nat.le_refl _⟩, ⟨by (with_reducible repeat (first | refine blk_drewN ?_ _ | refine blk_drew ?_ | refine blk_alloc ?_ _)); exact BK113.out⟩, ⟨by repeat (first | (with_reducible first | exact HB.out | apply bA_ | apply bN_ | apply b1_ | refine below_set ?_ GE113.out) | exact HB.out)⟩⟩
                  · rw [if_neg c19] at H
                    have c19b0 : (((rd_T36 l2 x22_2).f0) == 0) = false := beq_eq_false_iff_ne.mpr c19
                    have c19b1 : (((rd_T36 l2 x22_2).f0) != 0) = true := bne_iff_ne.mpr c19
                    have H' := Aside0.mk H
                    clear H
                    have hcz23_0 : w12.cell? ⟨gb113, 0, none⟩ = some (.int .u8 0) := (blk_cell BK113.out 0).trans rfl
                    have hcz23_1 : w12.cell? ⟨gb113, 1, none⟩ = some (.int .i64 0) := (blk_cell BK113.out 1).trans rfl
                    have hcz23_2 : w12.cell? ⟨gb113, 2, none⟩ = some (.string (⟨#[]⟩ : ByteArray)) := (blk_cell BK113.out 2).trans rfl
                    have hfz23_0 := blk_frozen BK113.out 0
                    have hfz23_1 := blk_frozen BK113.out 1
                    have hfz23_2 := blk_frozen BK113.out 2
                    go_wp2_with (first | ((with_reducible refine gate_callee (f := 42) rfl ?_); refine goesL_ (some 27) rfl rfl Tryz.func42 (by kernel_rfl) rfl #[.agg #[.int .u8 ((rd_T36 l2 x22_2).f0), .int .i64 ((rd_T36 l2 x22_2).f1), .string ((rd_T36 l2 x22_2).f2)]] rfl (by (try simp only [List.map_toArray, List.map_cons, List.map_nil]); first | done | rfl | (simp only [List.length_drop, List.length_take]; rfl)) ?_; (with_reducible refine (value_Valid.calls ((rd_T36 l2 x22_2).f0) ((rd_T36 l2 x22_2).f1) ((rd_T36 l2 x22_2).f2) true _ A14.out).mono ?_); rintro e w24 ⟨rfl, hb⟩; refine ⟨_, rfl, ?_⟩; have n0_ := Aside0.mk (blk_below (g := gb113) (o := .cells #[.int .u8 ((rd_T36 l2 x22_2).f0), .int .i64 ((rd_T36 l2 x22_2).f1), .string ((rd_T36 l2 x22_2).f2)] 36 (0, 0)) (by (with_reducible repeat (first | refine blk_drewN ?_ _ | refine blk_drew ?_ | refine blk_alloc ?_ _)); refine blk_put (cs := #[.int .u8 ((rd_T36 l2 x22_2).f0), .int .i64 ((rd_T36 l2 x22_2).f1), .string (⟨#[]⟩ : ByteArray)]) ?_ 2 _ rfl; (with_reducible repeat (first | refine blk_drewN ?_ _ | refine blk_drew ?_ | refine blk_alloc ?_ _)); refine blk_put (cs := #[.int .u8 ((rd_T36 l2 x22_2).f0), .int .i64 0, .string (⟨#[]⟩ : ByteArray)]) ?_ 1 _ rfl; (with_reducible repeat (first | refine blk_drewN ?_ _ | refine blk_drew ?_ | refine blk_alloc ?_ _)); refine blk_put (cs := #[.int .u8 0, .int .i64 0, .string (⟨#[]⟩ : ByteArray)]) ?_ 0 _ rfl; (with_reducible repeat (first | refine blk_drewN ?_ _ | refine blk_drew ?_ | refine blk_alloc ?_ _)); exact BK113.out) hb); have n1_ := Aside0.mk (below_step (by repeat (first | (with_reducible first | exact HB.out | apply bA_ | apply bN_ | apply b1_ | refine below_set ?_ GE113.out) | exact HB.out)) hb); clear BK113; clear HB; have BK113 := n0_; have HB := n1_; clear n0_ n1_; (try clear hb); (try clear hb2); (try clear hk); (try clear hi); have hcz25_0 : w24.cell? ⟨gb113, 0, none⟩ = some (.int .u8 ((rd_T36 l2 x22_2).f0)) := (blk_cell BK113.out 0).trans rfl; have hcz25_1 : w24.cell? ⟨gb113, 1, none⟩ = some (.int .i64 ((rd_T36 l2 x22_2).f1)) := (blk_cell BK113.out 1).trans rfl; have hcz25_2 : w24.cell? ⟨gb113, 2, none⟩ = some (.string ((rd_T36 l2 x22_2).f2)) := (blk_cell BK113.out 2).trans rfl; have hfz25_0 := blk_frozen BK113.out 0; have hfz25_1 := blk_frozen BK113.out 1; have hfz25_2 := blk_frozen BK113.out 2))
                    go_meet
                    case rel => exact ⟨_, ((((rd_T36 l2 x22_2).f0) != x7_2)), (by first | rfl | (simp; done) | (simp [*]; done)), H', ⟨by have := HJ3.out; have := HK2.out; first | omega | exact Nat.le_refl _⟩, ⟨by (with_reducible repeat (first | refine blk_drewN ?_ _ | refine blk_drew ?_ | refine blk_alloc ?_ _)); exact BK113.out⟩, ⟨by repeat (first | (with_reducible first | exact HB.out | apply bA_ | apply bN_ | apply b1_ | refine below_set ?_ GE113.out) | exact HB.out)⟩⟩
              · replace c15 := Bool.eq_false_iff.mpr c15
                subst c15
                have H1 : (bag_allowed.j2 k2 a0 x7_2 l2 (l2.length : Int) x22_2 true ((rd_T36 l2 x22_2).f0) ((rd_T36 l2 x22_2).f1) ((rd_T36 l2 x22_2).f2)) = some r := by rw [if_neg (show ¬ (false = true) by decide)] at H; exact H
                clear H
                have H := H1
                clear H1
                have H' := Aside0.mk H
                clear H
                have hcz26_0 : w12.cell? ⟨gb113, 0, none⟩ = some (.int .u8 0) := (blk_cell BK113.out 0).trans rfl
                have hcz26_1 : w12.cell? ⟨gb113, 1, none⟩ = some (.int .i64 0) := (blk_cell BK113.out 1).trans rfl
                have hcz26_2 : w12.cell? ⟨gb113, 2, none⟩ = some (.string (⟨#[]⟩ : ByteArray)) := (blk_cell BK113.out 2).trans rfl
                have hfz26_0 := blk_frozen BK113.out 0
                have hfz26_1 := blk_frozen BK113.out 1
                have hfz26_2 := blk_frozen BK113.out 2
                go_wp2_with (first | ((with_reducible refine gate_callee (f := 42) rfl ?_); refine goesL_ (some 27) rfl rfl Tryz.func42 (by kernel_rfl) rfl #[.agg #[.int .u8 ((rd_T36 l2 x22_2).f0), .int .i64 ((rd_T36 l2 x22_2).f1), .string ((rd_T36 l2 x22_2).f2)]] rfl (by (try simp only [List.map_toArray, List.map_cons, List.map_nil]); first | done | rfl | (simp only [List.length_drop, List.length_take]; rfl)) ?_; (with_reducible refine (value_Valid.calls ((rd_T36 l2 x22_2).f0) ((rd_T36 l2 x22_2).f1) ((rd_T36 l2 x22_2).f2) false _ A14.out).mono ?_); rintro e w27 ⟨rfl, hb⟩; refine ⟨_, rfl, ?_⟩; have n0_ := Aside0.mk (blk_below (g := gb113) (o := .cells #[.int .u8 ((rd_T36 l2 x22_2).f0), .int .i64 ((rd_T36 l2 x22_2).f1), .string ((rd_T36 l2 x22_2).f2)] 36 (0, 0)) (by (with_reducible repeat (first | refine blk_drewN ?_ _ | refine blk_drew ?_ | refine blk_alloc ?_ _)); refine blk_put (cs := #[.int .u8 ((rd_T36 l2 x22_2).f0), .int .i64 ((rd_T36 l2 x22_2).f1), .string (⟨#[]⟩ : ByteArray)]) ?_ 2 _ rfl; (with_reducible repeat (first | refine blk_drewN ?_ _ | refine blk_drew ?_ | refine blk_alloc ?_ _)); refine blk_put (cs := #[.int .u8 ((rd_T36 l2 x22_2).f0), .int .i64 0, .string (⟨#[]⟩ : ByteArray)]) ?_ 1 _ rfl; (with_reducible repeat (first | refine blk_drewN ?_ _ | refine blk_drew ?_ | refine blk_alloc ?_ _)); refine blk_put (cs := #[.int .u8 0, .int .i64 0, .string (⟨#[]⟩ : ByteArray)]) ?_ 0 _ rfl; (with_reducible repeat (first | refine blk_drewN ?_ _ | refine blk_drew ?_ | refine blk_alloc ?_ _)); exact BK113.out) hb); have n1_ := Aside0.mk (below_step (by repeat (first | (with_reducible first | exact HB.out | apply bA_ | apply bN_ | apply b1_ | refine below_set ?_ GE113.out) | exact HB.out)) hb); clear BK113; clear HB; have BK113 := n0_; have HB := n1_; clear n0_ n1_; (try clear hb); (try clear hb2); (try clear hk); (try clear hi)))
                go_meet
                case rel => exact ⟨_, (true), (by first | rfl | (simp; done) | (simp [*]; done)), H', ⟨by have := HJ3.out; have := HK2.out; first | omega | exact Nat.le_refl _⟩, ⟨by (with_reducible repeat (first | refine blk_drewN ?_ _ | refine blk_drew ?_ | refine blk_alloc ?_ _)); exact BK113.out⟩, ⟨by repeat (first | (with_reducible first | exact HB.out | apply bA_ | apply bN_ | apply b1_ | refine below_set ?_ GE113.out) | exact HB.out)⟩⟩
             case rest =>
              clear HC11
              try clear c1
              try clear p1
              try clear q1
              try clear hx1
              try clear c2
              try clear p2
              try clear c4
              try clear c5
              try clear c5b0
              try clear c6
              try clear c6b0
              try clear c6b1
              try clear c7
              try clear c8
              try clear c8b0
              try clear c9
              try clear c9b0
              try clear c10
              try clear c10b0
              try clear p11
              try clear q11
              try clear hx11
              try clear c15
              try clear c16
              try clear c16b0
              try clear c16b1
              try clear c19
              try clear c19b0
              try clear c19b1
              try clear hcz13_0
              try clear hcz13_1
              try clear hcz13_2
              try clear hcz17_0
              try clear hcz17_1
              try clear hcz17_2
              try clear hcz20_0
              try clear hcz20_1
              try clear hcz20_2
              try clear hcz22_0
              try clear hcz22_1
              try clear hcz22_2
              try clear hcz23_0
              try clear hcz23_1
              try clear hcz23_2
              try clear hcz25_0
              try clear hcz25_1
              try clear hcz25_2
              try clear hcz26_0
              try clear hcz26_1
              try clear hcz26_2
              try clear hfz13_0
              try clear hfz13_1
              try clear hfz13_2
              try clear hfz17_0
              try clear hfz17_1
              try clear hfz17_2
              try clear hfz20_0
              try clear hfz20_1
              try clear hfz20_2
              try clear hfz22_0
              try clear hfz22_1
              try clear hfz22_2
              try clear hfz23_0
              try clear hfz23_1
              try clear hfz23_2
              try clear hfz25_0
              try clear hfz25_1
              try clear hfz25_2
              try clear hfz26_0
              try clear hfz26_1
              try clear hfz26_2
              try clear hx112_0
              try clear hx112_1
              try clear hx112_2
              try clear p112
              try clear p2
              try clear q112
              obtain ⟨kq, x43_10, rfl, HA, HJ10, BK113, HB⟩ := hcut
              cases kq with
              | zero => exact absurd HA.out (by simp [bag_allowed.j2])
              | succ kj10 =>
               have H := HA.out
               clear HA
               simp only [bag_allowed.j2] at H
               by_cases c28 : x43_10 = true
               · subst c28
                 have H1 : (some false) = some r := by rw [if_pos rfl] at H; exact H
                 clear H
                 have H := H1
                 clear H1
                 obtain rfl := Option.some.inj H
                 go_wp2
                 go_ret
                 exact ⟨by first | rfl | (simp [*, errW_none, errW_some] <;> rfl), by repeat (first | (with_reducible first | exact HB.out | apply bA_ | apply bN_ | apply b1_ | refine below_set ?_ GE113.out) | exact HB.out)⟩
               · replace c28 := Bool.eq_false_iff.mpr c28
                 subst c28
                 have H1 : (if ((rd_T36 l2 x22_2).f0) = 0 then (bag_allowed.l0 kj10 a0 x7_2 l2 (l2.length : Int) (wrap64 (x22_2 + 1))) else (bag_allowed.l0 kj10 a0 ((rd_T36 l2 x22_2).f0) l2 (l2.length : Int) (wrap64 (x22_2 + 1)))) = some r := by rw [if_neg (show ¬ (false = true) by decide)] at H; exact H
                 clear H
                 have H := H1
                 clear H1
                 by_cases c29 : ((rd_T36 l2 x22_2).f0) = 0
                 · rw [if_pos c29] at H
                   have c29b0 : (((rd_T36 l2 x22_2).f0) == 0) = true := beq_iff_eq.mpr c29
                   have c29b1 : (((rd_T36 l2 x22_2).f0) != 0) = false := bne_eq_false_iff_eq.mpr c29
                   clear c29
                   have H' := Aside0.mk H
                   clear H
                   have hcz30_0 : wc.cell? ⟨gb113, 0, none⟩ = some (.int .u8 ((rd_T36 l2 x22_2).f0)) := (blk_cell BK113.out 0).trans rfl
                   have hcz30_1 : wc.cell? ⟨gb113, 1, none⟩ = some (.int .i64 ((rd_T36 l2 x22_2).f1)) := (blk_cell BK113.out 1).trans rfl
                   have hcz30_2 : wc.cell? ⟨gb113, 2, none⟩ = some (.string ((rd_T36 l2 x22_2).f2)) := (blk_cell BK113.out 2).trans rfl
                   have hfz30_0 := blk_frozen BK113.out 0
                   have hfz30_1 := blk_frozen BK113.out 1
                   have hfz30_2 := blk_frozen BK113.out 2
                   go_wp2
                   go_roundg kj10
                   case measure => have := HJ3.out; have := HK2.out; have := HJ10.out; omega
                   case rel => exact ⟨(x7_2), (wrap64 (x22_2 + 1)), (by first | rfl | (simp; done) | (simp [*]; done)), (by first | rfl | (simp; done) | (simp [*]; done)), H', ⟨by have := HJ3.out; have := HK2.out; have := HJ10.out; omega⟩, ⟨by repeat (first | (with_reducible first | exact HB.out | apply bA_ | apply bN_ | apply b1_ | refine below_set ?_ GE113.out) | exact HB.out)⟩⟩
                 · rw [if_neg c29] at H
                   have c29b0 : (((rd_T36 l2 x22_2).f0) == 0) = false := beq_eq_false_iff_ne.mpr c29
                   have c29b1 : (((rd_T36 l2 x22_2).f0) != 0) = true := bne_iff_ne.mpr c29
                   have H' := Aside0.mk H
                   clear H
                   have hcz31_0 : wc.cell? ⟨gb113, 0, none⟩ = some (.int .u8 ((rd_T36 l2 x22_2).f0)) := (blk_cell BK113.out 0).trans rfl
                   have hcz31_1 : wc.cell? ⟨gb113, 1, none⟩ = some (.int .i64 ((rd_T36 l2 x22_2).f1)) := (blk_cell BK113.out 1).trans rfl
                   have hcz31_2 : wc.cell? ⟨gb113, 2, none⟩ = some (.string ((rd_T36 l2 x22_2).f2)) := (blk_cell BK113.out 2).trans rfl
                   have hfz31_0 := blk_frozen BK113.out 0
                   have hfz31_1 := blk_frozen BK113.out 1
                   have hfz31_2 := blk_frozen BK113.out 2
                   go_wp2
                   go_roundg kj10
                   case measure => have := HJ3.out; have := HK2.out; have := HJ10.out; omega
                   case rel => exact ⟨(((rd_T36 l2 x22_2).f0)), (wrap64 (x22_2 + 1)), (by first | rfl | (simp; done) | (simp [*]; done)), (by first | rfl | (simp; done) | (simp [*]; done)), H', ⟨by have := HJ3.out; have := HK2.out; have := HJ10.out; omega⟩, ⟨by repeat (first | (with_reducible first | exact HB.out | apply bA_ | apply bN_ | apply b1_ | refine below_set ?_ GE113.out) | exact HB.out)⟩⟩
           · rw [if_neg c10] at H
             exact absurd H (by simp)
         · rw [if_neg c9] at H
           exact absurd H (by simp)
       · rw [if_neg c8] at H
         have c8b0 : decide (x22_2 < (l2.length : Int)) = false := dF_ c8
         clear c8
         by_cases c32 : x7_2 = 0
         · rw [if_pos c32] at H
           have c32b0 : (x7_2 == 0) = true := beq_iff_eq.mpr c32
           have c32b1 : (x7_2 != 0) = false := bne_eq_false_iff_eq.mpr c32
           clear c32
           obtain rfl := Option.some.inj H
           go_wp2
           go_ret
           exact ⟨by first | rfl | (simp [*, errW_none, errW_some] <;> rfl), by repeat (first | (with_reducible first | exact HB.out | apply bA_ | apply bN_ | apply b1_) | exact HB.out)⟩
         · rw [if_neg c32] at H
           have c32b0 : (x7_2 == 0) = false := beq_eq_false_iff_ne.mpr c32
           have c32b1 : (x7_2 != 0) = true := bne_iff_ne.mpr c32
           by_cases c33 : x7_2 = 1
           · rw [if_pos c33] at H
             have c33b0 : (x7_2 == 1) = true := beq_iff_eq.mpr c33
             have c33b1 : (x7_2 != 1) = false := bne_eq_false_iff_eq.mpr c33
             clear c33
             obtain rfl := Option.some.inj H
             go_wp2
             go_ret
             exact ⟨by first | rfl | (simp [*, errW_none, errW_some] <;> rfl), by repeat (first | (with_reducible first | exact HB.out | apply bA_ | apply bN_ | apply b1_) | exact HB.out)⟩
           · rw [if_neg c33] at H
             have c33b0 : (x7_2 == 1) = false := beq_eq_false_iff_ne.mpr c33
             have c33b1 : (x7_2 != 1) = true := bne_iff_ne.mpr c33
             by_cases c34 : a0 = 2
             · rw [if_pos c34] at H
               have c34b0 : (a0 == 2) = true := beq_iff_eq.mpr c34
               have c34b1 : (a0 != 2) = false := bne_eq_false_iff_eq.mpr c34
               clear c34
               obtain rfl := Option.some.inj H
               go_wp2
               go_ret
               exact ⟨by first | rfl | (simp [*, errW_none, errW_some] <;> rfl), by repeat (first | (with_reducible first | exact HB.out | apply bA_ | apply bN_ | apply b1_) | exact HB.out)⟩
             · rw [if_neg c34] at H
               have c34b0 : (a0 == 2) = false := beq_eq_false_iff_ne.mpr c34
               have c34b1 : (a0 != 2) = true := bne_iff_ne.mpr c34
               obtain rfl := Option.some.inj H
               go_wp2
               go_ret
               exact ⟨by first | rfl | (simp [*, errW_none, errW_some] <;> rfl), by repeat (first | (with_reducible first | exact HB.out | apply bA_ | apply bN_ | apply b1_) | exact HB.out)⟩
end Go.Proofs.YtecgkcgfeghhgaaGreatDoor.PAll
set_option linter.unusedVariables false
set_option linter.unusedSimpArgs false
namespace Go.Proofs.YtecgkcgfeghhgaaGreatDoor.PAll
open Go.RowKit Go.Proofs.YtecgkcgfeghhgaaGreatDoorW.PrintWords Go.Proofs.YtecgkcgfeghhgaaGreatDoorW.PrintLast Go.Proofs.YtecgkcgfeghhgaaGreatDoorW.PrintMore
structure Gath where
 σ : Type
 T : TypeId
 S : TypeId
 take : Nat
 done : Nat
 cells : σ → Array Value
 init : σ
 step : σ → V → σ
 out : σ → Int × Int × ByteArray × Int
 good : V → Prop
 inv : σ → Prop
 inv0 : inv init
 step_inv : ∀ s v, inv s → good v → inv (step s v)
 hmt : ∀ (a : Addr) (w : World), (method 297 T (.pointer (some a)) "jointer/bag.take").run Tryz.prog w = .ok (take, .pointer (some a)) w
 hmd : ∀ (a : Addr) (w : World), (method 297 T (.pointer (some a)) "jointer/bag.done").run Tryz.prog w = .ok (done, .pointer (some a)) w
 het : ∀ args w, (callFunc take args).run Tryz.prog w = .ok (.enter take args) w
 hed : ∀ args w, (callFunc done args).run Tryz.prog w = .ok (.enter done args) w
 htake : ∀ b s v w, inv s → good v → w.heap[b]? = some (.cells (cells s) S (0, 0)) → Calls Tryz.prog take #[.pointer (some ⟨b, 0, none⟩), .agg #[.int .u8 v.f0, .int .i64 v.f1, .string v.f2]] w fun e w' => e = .returned (.tuple #[]) ∧ w'.heap[b]? = some (.cells (cells (step s v)) S (0, 0)) ∧ w.grownBy w' (some b)
 hdone : ∀ b s w, inv s → w.heap[b]? = some (.cells (cells s) S (0, 0)) → Calls Tryz.prog done #[.pointer (some ⟨b, 0, none⟩)] w fun e w' => e = .returned (.agg #[.int .u8 (out s).1, .int .i64 (out s).2.1, .string (out s).2.2.1, .int .i64 (out s).2.2.2]) ∧ Below w.heap.size w w'
open Classical in
theorem seen_put {kv : List (ByteArray × Bool)} {seen : List ByteArray} (h : ∀ s, (KV.get kv s).getD false = decide (s ∈ seen)) (x : ByteArray) : ∀ t, (KV.get (KV.put kv x true) t).getD false = decide (t ∈ x :: seen) := fun t => by
 by_cases ht : t = x
 · subst ht; simp [KV.get_put_same]
 · rw [KV.get_put_other _ ht, h]; simp [ht]
theorem one_CV (W : World) (v : V) (t : TypeId) : Kd.C kV (W.alloc (.cells #[.int .u8 v.f0, .int .i64 v.f1, .string v.f2] t)) (some ⟨W.heap.size, 0, none⟩) [v].length [v] := by
 refine ⟨rfl, by simp, fun _ => ⟨⟨W.heap.size, 0, none⟩, rfl, fun j p hj => ?_⟩⟩
 cases j with
 | succ j => simp at hj
 | zero =>
  obtain rfl : v = p := by simpa using hj
  refine ⟨[.int .u8 v.f0, .int .i64 v.f1, .string v.f2], rfl, kV.K_of_M (base := 0) (ok := fun _ => True) (k36_mkM _ _ _ v), fun i u hi => ?_⟩
  have h := blk_cell (heap_alloc_new W (.cells #[.int .u8 v.f0, .int .i64 v.f1, .string v.f2] t)) i
  rw [add_plain, Nat.zero_mul, Nat.zero_add]
  refine h.trans ?_
  simpa using hi
open Classical in
noncomputable def pickV (fn : Int) (d : Bool) : List ByteArray → List V → List V
 | _, [] => []
 | seen, v :: vs => if fn ≠ 0 ∧ v.f0 = 0 then pickV fn d seen vs else if d = true then (if nameOf [v] ∈ seen then pickV fn d seen vs else v :: pickV fn d (nameOf [v] :: seen) vs) else v :: pickV fn d seen vs
open Classical in
theorem aggregate_walk (G : Gath) (k : Nat) (fn : Int) (d : Bool) (A2 : Option Addr) (c2 : Nat) (l : List V) (w : World) (hT : LaidT w) (hr : Kd.C kV w A2 l.length l) (hc : l.length ≤ c2) (hok : ∀ v ∈ l, RowOk [v]) (hn : l.length ≤ 1099511627776)
 (hall : bag_allowed.f k fn d l = some true) (hgood : ∀ v ∈ pickV fn d [] l, G.good v)
 (hgath : ∀ w, Calls Tryz.prog 57 #[.int .u8 fn] w fun e w' => e = .returned (.iface G.T (.pointer (some ⟨w.heap.size, 0, none⟩))) ∧ w' = w.alloc (.cells (G.cells G.init) G.S)) :
 Calls Tryz.prog 21 #[.int .u8 fn, .bool d, .slice A2 l.length c2] w fun e w' => e = .returned (.agg #[.int .u8 (G.out ((pickV fn d [] l).foldl G.step G.init)).1, .int .i64 (G.out ((pickV fn d [] l).foldl G.step G.init)).2.1, .string (G.out ((pickV fn d [] l).foldl G.step G.init)).2.2.1, .int .i64 (G.out ((pickV fn d [] l).foldl G.step G.init)).2.2.2]) ∧ Below w.heap.size w w' := by
 have HT := Aside0.mk hT
 have HR := Aside0.mk hr
 have HC := Aside0.mk hc
 have HOK := Aside0.mk hok
 have HN := Aside0.mk hn
 have HA := Aside0.mk hall
 have HG := Aside0.mk hgood
 have HGA := Aside0.mk hgath
 clear hT hr hc hok hn hall hgood hgath
 have hmm : ∀ (w : World), (Instr.makeMap 78 none).run Tryz.prog w = .ok (.map (some w.heap.size)) (w.alloc (.map #[] 0)) := fun _ => by kernel_rfl
 go_enter Tryz.func21, Tryz.ntmps21
 go_wp2_with (first | ((with_reducible refine gate_dst (N := 6) rfl ?_); refine box_event ?hg (N := 6) ?hd (cs := #[.int .u8 0, .int .i64 0, .string (⟨#[]⟩ : ByteArray), .int .i64 0]) (t := 38) ?hr ?_; (case hd => rfl); (case hg => rfl); (case hr => first | (go_simp; done) | (go_simp; rfl)); intro q hq W hN hb1; have HB1 := Aside0.mk hb1; have HQ := Aside0.mk hq; have HN0 := Aside0.mk hN; clear hb1 hq hN))
 refine (bag_allowed.calls k fn d A2 c2 l true W (Kd.C_below HR.out HB1.out) HC.out HA.out).mono ?_
 rintro e W1 ⟨rfl, hb2⟩
 have HN1 := Aside0.mk ((hb2.block q (blk_lt HN0.out)).trans HN0.out)
 have HB2 := Aside0.mk (HB1.out.trans (hb2.mono HB1.out.size))
 clear hb2 HN0 HB1
 go_wp2_with fail
 refine (HGA.out W1).mono ?_
 rintro e W2 ⟨rfl, hW2⟩
 have HG0 : Aside0 (W2.heap[W1.heap.size]? = some (.cells (G.cells G.init) G.S (0, 0))) := ⟨by rw [hW2]; exact heap_alloc_new _ _⟩
 have HN2 : Aside0 (W2.heap[q]? = some (.cells #[.int .u8 0, .int .i64 0, .string ⟨#[]⟩, .int .i64 0] 38 (0, 0))) := ⟨by rw [hW2]; exact (Below.heap_alloc W1 _ q (blk_lt HN1.out)).trans HN1.out⟩
 have HB3 : Aside0 (Below w.heap.size w W2) := ⟨by rw [hW2]; exact HB2.out.alloc HB2.out.size _⟩
 have HGE : Aside0 (w.heap.size ≤ W1.heap.size) := ⟨HB2.out.size⟩
 have HNE : Aside0 (q ≠ W1.heap.size) := ⟨fun e => by have := blk_lt HN1.out; omega⟩
 obtain ⟨g, hg⟩ : ∃ g, g = W1.heap.size := ⟨_, rfl⟩
 rw [← hg] at HG0 HGE HNE
 rw [← hg]
 clear hW2 HN1 HB2 hg
 go_wp2
 clear hmm
 have M0 : Aside0 (∃ kv : List (ByteArray × Bool), KV.Is (W2.alloc (.map #[] 0)) W2.heap.size Value.bool kv ∧ ∀ s, (KV.get kv s).getD false = decide (s ∈ ([] : List ByteArray))) := ⟨⟨[], KV.Is.made W2 _, fun s => by simp [KV.get]⟩⟩
 have HMG : Aside0 (W2.heap.size ≠ g ∧ q ≠ W2.heap.size ∧ w.heap.size ≤ W2.heap.size) := ⟨fun e => by have := blk_lt HG0.out; omega, fun e => by have := blk_lt HN2.out; omega, HB3.out.size⟩
 have HG1 : Aside0 ((W2.alloc (.map #[] 0)).heap[g]? = some (.cells (G.cells G.init) G.S (0, 0))) := ⟨(Below.heap_alloc W2 _ g (blk_lt HG0.out)).trans HG0.out⟩
 have HN3 : Aside0 ((W2.alloc (.map #[] 0)).heap[q]? = some (.cells #[.int .u8 0, .int .i64 0, .string ⟨#[]⟩, .int .i64 0] 38 (0, 0))) := ⟨(Below.heap_alloc W2 _ q (blk_lt HN2.out)).trans HN2.out⟩
 have HB4 : Aside0 (Below w.heap.size w (W2.alloc (.map #[] 0))) := ⟨HB3.out.alloc HB3.out.size _⟩
 obtain ⟨m, hm⟩ : ∃ m, m = W2.heap.size := ⟨_, rfl⟩
 rw [← hm] at M0 HMG
 simp only [← hm]
 clear hm HG0 HN2 HB3
 go_loopg [23] l.length (fun kq v23 W => ∃ (x : Int) (seen : List ByteArray) (s : G.σ), v23 = .int .i64 x ∧ Aside0 (0 ≤ x ∧ x ≤ l.length ∧ (kq : Int) = l.length - x) ∧ Aside0 (∃ kv : List (ByteArray × Bool), KV.Is W m Value.bool kv ∧ ∀ s, (KV.get kv s).getD false = decide (s ∈ seen)) ∧ Aside0 (W.heap[g]? = some (.cells (G.cells s) G.S (0, 0))) ∧ Aside0 (G.inv s) ∧ Aside0 (W.heap[q]? = some (.cells #[.int .u8 0, .int .i64 0, .string ⟨#[]⟩, .int .i64 0] 38 (0, 0))) ∧ Aside0 ((pickV fn d seen (l.drop x.toNat)).foldl G.step s = (pickV fn d [] l).foldl G.step G.init ∧ ∀ v ∈ pickV fn d seen (l.drop x.toNat), G.good v) ∧ Aside0 (Below w.heap.size w W))
 case atStart => exact ⟨0, [], G.init, rfl, ⟨by omega⟩, M0, HG1, ⟨G.inv0⟩, HN3, ⟨rfl, HG.out⟩, HB4⟩
 case round =>
  clear M0 HG1 HN3 HB4 HG
  obtain ⟨x, seen, s, rfl, HX, HM, HS, HI, HQN, HD, HB⟩ := hrel
  obtain ⟨hx0, hx1, hkq⟩ := HX.out
  by_cases hlt : x < (l.length : Int)
  · have c1 : decide (x < (l.length : Int)) = true := decide_eq_true hlt
    have c2 : decide (0 ≤ x) = true := decide_eq_true hx0
    obtain ⟨ad, e, hx_0, hx_1, hx_2⟩ := at_T36 HR.out x hx0 hlt
    cases e
    replace hx_0 := (HB.out.cell (World.block_lt_of_cell? w _ hx_0)).trans hx_0
    replace hx_1 := (HB.out.cell (World.block_lt_of_cell? w _ hx_1)).trans hx_1
    replace hx_2 := (HB.out.cell (World.block_lt_of_cell? w _ hx_2)).trans hx_2
    have hi : x.toNat < l.length := by omega
    have hrd : rd_T36 l x = l[x.toNat] := by simp [rd_T36, List.getElem?_eq_getElem hi]
    have hok := HOK.out (rd_T36 l x) (by rw [hrd]; exact List.getElem_mem hi)
    have hd := HD.out
    rw [drop_cons l x.toNat hi, ← hrd] at hd
    obtain ⟨v, hv⟩ : ∃ v, v = rd_T36 l x := ⟨_, rfl⟩
    rw [← hv] at hx_0 hx_1 hx_2 hok hd
    have HDV := Aside0.mk hd
    have HOKV := Aside0.mk hok
    have HLT := Aside0.mk hlt
    have HX0 := Aside0.mk hx0
    have HWR : Aside0 (wrap64 (x + 1) = x + 1) := ⟨by have := HN.out; unfold wrap64; omega⟩
    clear hd hok hrd hv hkq hi
    by_cases hsk : fn ≠ 0 ∧ v.f0 = 0
    · have z1 : (fn != 0) = true := by simpa using hsk.1
      have z2 : (v.f0 == 0) = true := by simpa using hsk.2
      have HSK := Aside0.mk hsk
      clear hsk
      go_wp2
      have hlt := HLT.out
      have hk := HX.out.2.2
      have hx0 := HX0.out
      cases gk with
      | zero => omega
      | succ k1 =>
       go_roundg k1
       case measure => omega
       case rel =>
        obtain ⟨kv, hkv1, hkv2⟩ := HM.out
        have hd := HDV.out
        rw [pickV, if_pos HSK.out] at hd
        rw [← show (x + 1).toNat = x.toNat + 1 by omega] at hd
        exact ⟨x + 1, seen, s, by rw [HWR.out], ⟨by omega⟩, ⟨kv, hkv1.below ((Below.refl _ wr).alloc (Nat.le_refl _) _), hkv2⟩, ⟨(Below.heap_alloc wr _ g (blk_lt HS.out)).trans HS.out⟩, HI, ⟨(Below.heap_alloc wr _ q (blk_lt HQN.out)).trans HQN.out⟩, ⟨hd⟩, ⟨HB.out.alloc HB.out.size _⟩⟩
    · by_cases hf : fn = 0
      · have z1 : (fn != 0) = false := by simp [hf]
        have HSK := Aside0.mk hsk
        clear hsk hf
        cases d with
        | false =>
         have hmt := G.hmt
         have het := G.het
         obtain ⟨kv, hkv1, hkv2⟩ := HM.out
         have HK1 := Aside0.mk hkv1
         have HK2 := Aside0.mk hkv2
         have HGD : Aside0 (G.good v) := ⟨by
          have hd := HDV.out.2
          rw [pickV, if_neg HSK.out, if_neg (by simp)] at hd
          exact hd v List.mem_cons_self⟩
         clear hkv1 hkv2
         go_wp2_with fail
         refine (G.htake g s v _ HI.out HGD.out ((Below.heap_alloc wr _ g (blk_lt HS.out)).trans HS.out)).mono ?_
         rintro e w5 ⟨rfl, hcell, hgr⟩
         have HS5 := Aside0.mk hcell
         have HQ5 := Aside0.mk ((hgr.block q (blk_lt ((Below.heap_alloc wr _ q (blk_lt HQN.out)).trans HQN.out)) (fun e => HNE.out (by injection e))).trans ((Below.heap_alloc wr _ q (blk_lt HQN.out)).trans HQN.out))
         have HM5 : Aside0 (KV.Is w5 m Value.bool kv) := ⟨KV.Is.grown (HK1.out.below ((Below.refl _ wr).alloc (Nat.le_refl _) _)) hgr (fun e => HMG.out.1 (by injection e))⟩
         have HB5 : Aside0 (Below w.heap.size w w5) := ⟨((HB.out.alloc HB.out.size (.cells #[.int .u8 v.f0, .int .i64 v.f1, .string v.f2] 36))).grown hgr ((HB.out.alloc HB.out.size (.cells #[.int .u8 v.f0, .int .i64 v.f1, .string v.f2] 36))).size (fun k hk => by cases hk; exact HGE.out)⟩
         have HI5 := Aside0.mk (G.step_inv s v HI.out HGD.out)
         clear hcell hgr hmt het
         go_wp2
         have hlt := HLT.out
         have hk := HX.out.2.2
         have hx0 := HX0.out
         cases gk with
         | zero => omega
         | succ k1 =>
          go_roundg k1
          case measure => omega
          case rel =>
           have hd := HDV.out
           rw [pickV, if_neg HSK.out, if_neg (by simp)] at hd
           rw [← show (x + 1).toNat = x.toNat + 1 by omega] at hd
           exact ⟨x + 1, seen, G.step s v, by rw [HWR.out], ⟨by omega⟩, ⟨kv, HM5.out, HK2.out⟩, HS5, HI5, HQ5, ⟨hd.1, fun u hu => hd.2 u (List.mem_cons_of_mem _ hu)⟩, HB5⟩
        | true =>
         obtain ⟨kv, hkv1, hkv2⟩ := HM.out
         have HK1 := Aside0.mk hkv1
         have HK2 := Aside0.mk hkv2
         have HWB : Aside0 (m < wr.heap.size) := ⟨hkv1.lt⟩
         have HB2 : Aside0 (Below w.heap.size w ((wr.alloc (.cells #[.int .u8 v.f0, .int .i64 v.f1, .string v.f2] 36)).alloc (.cells #[.int .u8 v.f0, .int .i64 v.f1, .string v.f2] 36))) := ⟨(HB.out.alloc HB.out.size _).alloc (Nat.le_trans HB.out.size (by simp)) _⟩
         have HBW : Aside0 (Below wr.heap.size wr ((wr.alloc (.cells #[.int .u8 v.f0, .int .i64 v.f1, .string v.f2] 36)).alloc (.cells #[.int .u8 v.f0, .int .i64 v.f1, .string v.f2] 36))) := ⟨((Below.refl _ wr).alloc (Nat.le_refl _) _).alloc (by simp) _⟩
         have HBX : Aside0 (((wr.alloc (.cells #[.int .u8 v.f0, .int .i64 v.f1, .string v.f2] 36)).alloc (.cells #[.int .u8 v.f0, .int .i64 v.f1, .string v.f2] 36)).heap[wr.heap.size]? = some (.cells #[.int .u8 v.f0, .int .i64 v.f1, .string v.f2] 36 (0, 0))) := ⟨(Below.heap_alloc (wr.alloc (.cells #[.int .u8 v.f0, .int .i64 v.f1, .string v.f2] 36)) _ _ (by simp)).trans (heap_alloc_new _ _)⟩
         clear hkv1 hkv2
         go_wp2_with fail
         have hCV := one_CV (wr.alloc (.cells #[.int .u8 v.f0, .int .i64 v.f1, .string v.f2] 36)) v 36
         rw [show (wr.alloc (.cells #[.int .u8 v.f0, .int .i64 v.f1, .string v.f2] 36)).heap.size = wr.heap.size + 1 by simp] at hCV
         have hcall := name_calls (some ⟨wr.heap.size + 1, 0, none⟩) 1 [v] _ (HT.out.below HB2.out) hCV (by simp) HOKV.out.1 HOKV.out.2.1 HOKV.out.2.2
         clear hCV
         refine hcall.mono ?_
         clear hcall
         rintro e w4 ⟨rfl, hb4⟩
         have HBW4 := Aside0.mk (HBW.out.trans (hb4.mono HBW.out.size))
         have HB4 := Aside0.mk (HB2.out.trans (hb4.mono HB2.out.size))
         have hX4 := (hb4.block _ (blk_lt HBX.out)).trans HBX.out
         have HX4 := Aside0.mk hX4
         have HK4 := Aside0.mk (HK1.out.below HBW4.out)
         have HS4 := Aside0.mk ((HBW4.out.block g (blk_lt HS.out)).trans HS.out)
         have HQ4 := Aside0.mk ((HBW4.out.block q (blk_lt HQN.out)).trans HQN.out)
         have hc : Aside0 ((KV.get kv (nameOf [v])).getD false = decide (nameOf [v] ∈ seen)) := ⟨HK2.out _⟩
         clear hb4 HBX HBW HB2
         by_cases hz : nameOf [v] ∈ seen
         · rw [decide_eq_true hz] at hc
           have HZ := Aside0.mk hz
           clear hz hX4
           go_wp2_with (at_lookup; refine KV.law_lookup _ rfl _ _ 78 rfl 9 4 Tryz.underlying9 Tryz.underlying78 (.bool false) (zeroBool _) m Value.bool kv rfl HK4.out (nameOf [v]) rfl (.bool true) (get_bool hc.out) ?_)
           have hlt := HLT.out
           have hk := HX.out.2.2
           have hx0 := HX0.out
           cases gk with
           | zero => omega
           | succ k1 =>
            go_roundg k1
            case measure => omega
            case rel =>
             have hd := HDV.out
             rw [pickV, if_neg HSK.out, if_pos rfl, if_pos HZ.out] at hd
             rw [← show (x + 1).toNat = x.toNat + 1 by omega] at hd
             exact ⟨x + 1, seen, s, by rw [HWR.out], ⟨by omega⟩, ⟨kv, HK4.out, HK2.out⟩, HS4, HI, HQ4, ⟨hd⟩, HB4⟩
         · rw [decide_eq_false hz] at hc
           have HZ := Aside0.mk hz
           have HGD : Aside0 (G.good v) := ⟨by
            have hd := HDV.out.2
            rw [pickV, if_neg HSK.out, if_pos rfl, if_neg hz] at hd
            exact hd v List.mem_cons_self⟩
           have hmt := G.hmt
           have het := G.het
           clear hz hX4
           go_wp2_with (first
            | (at_lookup; refine KV.law_lookup _ rfl _ _ 78 rfl 9 4 Tryz.underlying9 Tryz.underlying78 (.bool false) (zeroBool _) m Value.bool kv rfl HK4.out (nameOf [v]) rfl (.bool false) (get_bool hc.out) ?_)
            | (at_mapUpdate; refine KV.law_update _ rfl _ _ _ 78 rfl 9 4 Tryz.underlying9 Tryz.underlying78 m Value.bool kv rfl HK4.out (nameOf [v]) rfl true rfl ?_; intro w6 hM6 hg6; have hX6 := (hg6.block _ (blk_lt HX4.out) (fun e => by have := HWB.out; injection e; omega)).trans HX4.out; have HM6 := Aside0.mk hM6; have HB6 := Aside0.mk (HB4.out.grown hg6 HB4.out.size (fun k hk => by cases hk; exact HMG.out.2.2)); have HS6 := Aside0.mk ((hg6.block g (blk_lt HS4.out) (fun e => HMG.out.1 (by injection e with e; exact e.symm))).trans HS4.out); have HQ6 := Aside0.mk ((hg6.block q (blk_lt HQ4.out) (fun e => HMG.out.2.1 (by injection e))).trans HQ4.out); have X0 : w6.cell? ⟨wr.heap.size, 0, none⟩ = some (.int .u8 v.f0) := (blk_cell hX6 0).trans rfl; have X1 : w6.cell? ⟨wr.heap.size, 1, none⟩ = some (.int .i64 v.f1) := (blk_cell hX6 1).trans rfl; have X2 : w6.cell? ⟨wr.heap.size, 2, none⟩ = some (.string v.f2) := (blk_cell hX6 2).trans rfl; clear hM6 hg6 hX6))
           refine (G.htake g s v _ HI.out HGD.out HS6.out).mono ?_
           rintro e w5 ⟨rfl, hcell, hgr⟩
           have HS5 := Aside0.mk hcell
           have HQ5 := Aside0.mk ((hgr.block q (blk_lt HQ6.out) (fun e => HNE.out (by injection e))).trans HQ6.out)
           have HM5 : Aside0 (KV.Is w5 m Value.bool (KV.put kv (nameOf [v]) true)) := ⟨KV.Is.grown HM6.out hgr (fun e => HMG.out.1 (by injection e))⟩
           have HB5 : Aside0 (Below w.heap.size w w5) := ⟨(HB6.out).grown hgr (HB6.out).size (fun k hk => by cases hk; exact HGE.out)⟩
           have HI5 := Aside0.mk (G.step_inv s v HI.out HGD.out)
           clear hcell hgr hmt het
           go_wp2
           have hlt := HLT.out
           have hk := HX.out.2.2
           have hx0 := HX0.out
           cases gk with
           | zero => omega
           | succ k1 =>
            go_roundg k1
            case measure => omega
            case rel =>
             have hd := HDV.out
             rw [pickV, if_neg HSK.out, if_pos rfl, if_neg HZ.out] at hd
             rw [← show (x + 1).toNat = x.toNat + 1 by omega] at hd
             exact ⟨x + 1, nameOf [v] :: seen, G.step s v, by rw [HWR.out], ⟨by omega⟩, ⟨(KV.put kv (nameOf [v]) true), HM5.out, seen_put HK2.out _⟩, HS5, HI5, HQ5, ⟨hd.1, fun u hu => hd.2 u (List.mem_cons_of_mem _ hu)⟩, HB5⟩
      · have z1 : (fn != 0) = true := by simpa using hf
        have z2 : (v.f0 == 0) = false := by
         have : v.f0 ≠ 0 := fun e => hsk ⟨hf, e⟩
         simpa using this
        have HSK := Aside0.mk hsk
        clear hsk hf
        cases d with
        | false =>
         have hmt := G.hmt
         have het := G.het
         obtain ⟨kv, hkv1, hkv2⟩ := HM.out
         have HK1 := Aside0.mk hkv1
         have HK2 := Aside0.mk hkv2
         have HGD : Aside0 (G.good v) := ⟨by
          have hd := HDV.out.2
          rw [pickV, if_neg HSK.out, if_neg (by simp)] at hd
          exact hd v List.mem_cons_self⟩
         clear hkv1 hkv2
         go_wp2_with fail
         refine (G.htake g s v _ HI.out HGD.out ((Below.heap_alloc wr _ g (blk_lt HS.out)).trans HS.out)).mono ?_
         rintro e w5 ⟨rfl, hcell, hgr⟩
         have HS5 := Aside0.mk hcell
         have HQ5 := Aside0.mk ((hgr.block q (blk_lt ((Below.heap_alloc wr _ q (blk_lt HQN.out)).trans HQN.out)) (fun e => HNE.out (by injection e))).trans ((Below.heap_alloc wr _ q (blk_lt HQN.out)).trans HQN.out))
         have HM5 : Aside0 (KV.Is w5 m Value.bool kv) := ⟨KV.Is.grown (HK1.out.below ((Below.refl _ wr).alloc (Nat.le_refl _) _)) hgr (fun e => HMG.out.1 (by injection e))⟩
         have HB5 : Aside0 (Below w.heap.size w w5) := ⟨((HB.out.alloc HB.out.size (.cells #[.int .u8 v.f0, .int .i64 v.f1, .string v.f2] 36))).grown hgr ((HB.out.alloc HB.out.size (.cells #[.int .u8 v.f0, .int .i64 v.f1, .string v.f2] 36))).size (fun k hk => by cases hk; exact HGE.out)⟩
         have HI5 := Aside0.mk (G.step_inv s v HI.out HGD.out)
         clear hcell hgr hmt het
         go_wp2
         have hlt := HLT.out
         have hk := HX.out.2.2
         have hx0 := HX0.out
         cases gk with
         | zero => omega
         | succ k1 =>
          go_roundg k1
          case measure => omega
          case rel =>
           have hd := HDV.out
           rw [pickV, if_neg HSK.out, if_neg (by simp)] at hd
           rw [← show (x + 1).toNat = x.toNat + 1 by omega] at hd
           exact ⟨x + 1, seen, G.step s v, by rw [HWR.out], ⟨by omega⟩, ⟨kv, HM5.out, HK2.out⟩, HS5, HI5, HQ5, ⟨hd.1, fun u hu => hd.2 u (List.mem_cons_of_mem _ hu)⟩, HB5⟩
        | true =>
         obtain ⟨kv, hkv1, hkv2⟩ := HM.out
         have HK1 := Aside0.mk hkv1
         have HK2 := Aside0.mk hkv2
         have HWB : Aside0 (m < wr.heap.size) := ⟨hkv1.lt⟩
         have HB2 : Aside0 (Below w.heap.size w ((wr.alloc (.cells #[.int .u8 v.f0, .int .i64 v.f1, .string v.f2] 36)).alloc (.cells #[.int .u8 v.f0, .int .i64 v.f1, .string v.f2] 36))) := ⟨(HB.out.alloc HB.out.size _).alloc (Nat.le_trans HB.out.size (by simp)) _⟩
         have HBW : Aside0 (Below wr.heap.size wr ((wr.alloc (.cells #[.int .u8 v.f0, .int .i64 v.f1, .string v.f2] 36)).alloc (.cells #[.int .u8 v.f0, .int .i64 v.f1, .string v.f2] 36))) := ⟨((Below.refl _ wr).alloc (Nat.le_refl _) _).alloc (by simp) _⟩
         have HBX : Aside0 (((wr.alloc (.cells #[.int .u8 v.f0, .int .i64 v.f1, .string v.f2] 36)).alloc (.cells #[.int .u8 v.f0, .int .i64 v.f1, .string v.f2] 36)).heap[wr.heap.size]? = some (.cells #[.int .u8 v.f0, .int .i64 v.f1, .string v.f2] 36 (0, 0))) := ⟨(Below.heap_alloc (wr.alloc (.cells #[.int .u8 v.f0, .int .i64 v.f1, .string v.f2] 36)) _ _ (by simp)).trans (heap_alloc_new _ _)⟩
         clear hkv1 hkv2
         go_wp2_with fail
         have hCV := one_CV (wr.alloc (.cells #[.int .u8 v.f0, .int .i64 v.f1, .string v.f2] 36)) v 36
         rw [show (wr.alloc (.cells #[.int .u8 v.f0, .int .i64 v.f1, .string v.f2] 36)).heap.size = wr.heap.size + 1 by simp] at hCV
         have hcall := name_calls (some ⟨wr.heap.size + 1, 0, none⟩) 1 [v] _ (HT.out.below HB2.out) hCV (by simp) HOKV.out.1 HOKV.out.2.1 HOKV.out.2.2
         clear hCV
         refine hcall.mono ?_
         clear hcall
         rintro e w4 ⟨rfl, hb4⟩
         have HBW4 := Aside0.mk (HBW.out.trans (hb4.mono HBW.out.size))
         have HB4 := Aside0.mk (HB2.out.trans (hb4.mono HB2.out.size))
         have hX4 := (hb4.block _ (blk_lt HBX.out)).trans HBX.out
         have HX4 := Aside0.mk hX4
         have HK4 := Aside0.mk (HK1.out.below HBW4.out)
         have HS4 := Aside0.mk ((HBW4.out.block g (blk_lt HS.out)).trans HS.out)
         have HQ4 := Aside0.mk ((HBW4.out.block q (blk_lt HQN.out)).trans HQN.out)
         have hc : Aside0 ((KV.get kv (nameOf [v])).getD false = decide (nameOf [v] ∈ seen)) := ⟨HK2.out _⟩
         clear hb4 HBX HBW HB2
         by_cases hz : nameOf [v] ∈ seen
         · rw [decide_eq_true hz] at hc
           have HZ := Aside0.mk hz
           clear hz hX4
           go_wp2_with (at_lookup; refine KV.law_lookup _ rfl _ _ 78 rfl 9 4 Tryz.underlying9 Tryz.underlying78 (.bool false) (zeroBool _) m Value.bool kv rfl HK4.out (nameOf [v]) rfl (.bool true) (get_bool hc.out) ?_)
           have hlt := HLT.out
           have hk := HX.out.2.2
           have hx0 := HX0.out
           cases gk with
           | zero => omega
           | succ k1 =>
            go_roundg k1
            case measure => omega
            case rel =>
             have hd := HDV.out
             rw [pickV, if_neg HSK.out, if_pos rfl, if_pos HZ.out] at hd
             rw [← show (x + 1).toNat = x.toNat + 1 by omega] at hd
             exact ⟨x + 1, seen, s, by rw [HWR.out], ⟨by omega⟩, ⟨kv, HK4.out, HK2.out⟩, HS4, HI, HQ4, ⟨hd⟩, HB4⟩
         · rw [decide_eq_false hz] at hc
           have HZ := Aside0.mk hz
           have HGD : Aside0 (G.good v) := ⟨by
            have hd := HDV.out.2
            rw [pickV, if_neg HSK.out, if_pos rfl, if_neg hz] at hd
            exact hd v List.mem_cons_self⟩
           have hmt := G.hmt
           have het := G.het
           clear hz hX4
           go_wp2_with (first
            | (at_lookup; refine KV.law_lookup _ rfl _ _ 78 rfl 9 4 Tryz.underlying9 Tryz.underlying78 (.bool false) (zeroBool _) m Value.bool kv rfl HK4.out (nameOf [v]) rfl (.bool false) (get_bool hc.out) ?_)
            | (at_mapUpdate; refine KV.law_update _ rfl _ _ _ 78 rfl 9 4 Tryz.underlying9 Tryz.underlying78 m Value.bool kv rfl HK4.out (nameOf [v]) rfl true rfl ?_; intro w6 hM6 hg6; have hX6 := (hg6.block _ (blk_lt HX4.out) (fun e => by have := HWB.out; injection e; omega)).trans HX4.out; have HM6 := Aside0.mk hM6; have HB6 := Aside0.mk (HB4.out.grown hg6 HB4.out.size (fun k hk => by cases hk; exact HMG.out.2.2)); have HS6 := Aside0.mk ((hg6.block g (blk_lt HS4.out) (fun e => HMG.out.1 (by injection e with e; exact e.symm))).trans HS4.out); have HQ6 := Aside0.mk ((hg6.block q (blk_lt HQ4.out) (fun e => HMG.out.2.1 (by injection e))).trans HQ4.out); have X0 : w6.cell? ⟨wr.heap.size, 0, none⟩ = some (.int .u8 v.f0) := (blk_cell hX6 0).trans rfl; have X1 : w6.cell? ⟨wr.heap.size, 1, none⟩ = some (.int .i64 v.f1) := (blk_cell hX6 1).trans rfl; have X2 : w6.cell? ⟨wr.heap.size, 2, none⟩ = some (.string v.f2) := (blk_cell hX6 2).trans rfl; clear hM6 hg6 hX6))
           refine (G.htake g s v _ HI.out HGD.out HS6.out).mono ?_
           rintro e w5 ⟨rfl, hcell, hgr⟩
           have HS5 := Aside0.mk hcell
           have HQ5 := Aside0.mk ((hgr.block q (blk_lt HQ6.out) (fun e => HNE.out (by injection e))).trans HQ6.out)
           have HM5 : Aside0 (KV.Is w5 m Value.bool (KV.put kv (nameOf [v]) true)) := ⟨KV.Is.grown HM6.out hgr (fun e => HMG.out.1 (by injection e))⟩
           have HB5 : Aside0 (Below w.heap.size w w5) := ⟨(HB6.out).grown hgr (HB6.out).size (fun k hk => by cases hk; exact HGE.out)⟩
           have HI5 := Aside0.mk (G.step_inv s v HI.out HGD.out)
           clear hcell hgr hmt het
           go_wp2
           have hlt := HLT.out
           have hk := HX.out.2.2
           have hx0 := HX0.out
           cases gk with
           | zero => omega
           | succ k1 =>
            go_roundg k1
            case measure => omega
            case rel =>
             have hd := HDV.out
             rw [pickV, if_neg HSK.out, if_pos rfl, if_neg HZ.out] at hd
             rw [← show (x + 1).toNat = x.toNat + 1 by omega] at hd
             exact ⟨x + 1, nameOf [v] :: seen, G.step s v, by rw [HWR.out], ⟨by omega⟩, ⟨(KV.put kv (nameOf [v]) true), HM5.out, seen_put HK2.out _⟩, HS5, HI5, HQ5, ⟨hd.1, fun u hu => hd.2 u (List.mem_cons_of_mem _ hu)⟩, HB5⟩
  · have c1 : decide (x < (l.length : Int)) = false := decide_eq_false hlt
    have hd := HD.out.1
    rw [List.drop_eq_nil_of_le (by omega), pickV, List.foldl_nil] at hd
    subst hd
    have hmd := G.hmd
    have hed := G.hed
    clear hlt hx0 hx1 hkq
    go_wp2_with fail
    refine (G.hdone g _ wr HI.out HS.out).mono ?_
    rintro e w3 ⟨rfl, hb3⟩
    have hN3 := (hb3.block q (blk_lt HQN.out)).trans HQN.out
    have HN3 := Aside0.mk hN3
    have HB3 := Aside0.mk (HB.out.trans (hb3.mono HB.out.size))
    have G0 : w3.cell? ⟨q, 0, none⟩ = some (.int .u8 0) := (blk_cell hN3 0).trans rfl
    have G1 : w3.cell? ⟨q, 1, none⟩ = some (.int .i64 0) := (blk_cell hN3 1).trans rfl
    have G2 : w3.cell? ⟨q, 2, none⟩ = some (.string ⟨#[]⟩) := (blk_cell hN3 2).trans rfl
    have G3 : w3.cell? ⟨q, 3, none⟩ = some (.int .i64 0) := (blk_cell hN3 3).trans rfl
    have F4 : ∀ j, w3.frozen? ⟨q, j, none⟩ = false := fun j => by simp [World.frozen?, hN3]
    clear hb3 hN3 hmd hed
    go_wp2
    refine bodyPost_ret (results_cell_row rfl _ _ q 38 _ (0, 0) _ rfl (out_cells HN3.out _ _ _ _) Tryz.underlying38 rfl (by kernel_rfl)) rfl ?_
    exact ⟨rfl, out_below HB3.out HQ.out _ _ _ _⟩
end Go.Proofs.YtecgkcgfeghhgaaGreatDoor.PAll
namespace Go.Proofs.YtecgkcgfeghhgaaGreatDoor.PAll
open Go.RowKit Go.Proofs.YtecgkcgfeghhgaaGreatDoorW.PrintWords Go.Proofs.YtecgkcgfeghhgaaGreatDoorW.PrintLast Go.Proofs.YtecgkcgfeghhgaaGreatDoorW.PrintMore
attribute [local go_sem] max2_int min2_int max_two min_two max_three min_three max_four min_four
set_option linter.unusedVariables false
set_option linter.unusedSimpArgs false
def bag_columnOf.l0 : Nat → Int → List (S36) → List (List (S36)) → Int → Int → Option ((List (S36)))
 | 0, _, _, _, _, _ => none
 | k + 1, x1, x5, x11, x12, x13 => if x13 < x12 then (if 0 ≤ x13 then (if x13 < (x11.length : Int) then (if x1 < ((rd_L4 x11 x13).length : Int) then (if 0 ≤ x1 then (if x13 < (x5.length : Int) then (bag_columnOf.l0 k x1 (x5.set (x13 : Int).toNat (⟨(rd_T36 (rd_L4 x11 x13) x1).f0, (rd_T36 (rd_L4 x11 x13) x1).f1, (rd_T36 (rd_L4 x11 x13) x1).f2⟩ : S36)) x11 x12 (wrap64 (x13 + 1))) else (none)) else (none)) else (bag_columnOf.l0 k x1 x5 x11 x12 (wrap64 (x13 + 1)))) else (none)) else (none)) else (some x5)
def bag_columnOf.f (k : Nat) (l0 : List (List (S36))) (a1 : Int) : Option ((List (S36))) := if 0 ≤ (l0.length : Int) then (if ((l0.length : Int) : Int).toNat ≤ 8796093022208 then (bag_columnOf.l0 k a1 (List.replicate ((l0.length : Int) : Int).toNat z36) l0 (l0.length : Int) 0) else (none)) else (none)
theorem bag_columnOf.calls (k : Nat) (A0 : Option Addr) (c0 : Nat) (l0 : List (List (S36))) (a1 : Int) (r : List (S36)) (w : World) (hr0 : Kd.C (Kd.slice 36 k36) w A0 l0.length l0) (hc0 : l0.length ≤ c0) (h : bag_columnOf.f k l0 a1 = some r) :
 Calls Tryz.prog 63 #[.slice A0 l0.length c0, .int .i64 a1] w fun e w' => ∃ v0_ : Value, e = .returned (v0_) ∧ Kd.R k36 36 w' w.heap.size (fun _ => True) v0_ r ∧ Below w.heap.size w w' := by
 have hu36 := Tryz.underlying36
 have HR0 := Aside0.mk hr0
 have HC0 := Aside0.mk hc0
 clear hr0 hc0
 have HB := Aside0.mk (Below.refl w.heap.size w)
 have H : (if 0 ≤ (l0.length : Int) then (if ((l0.length : Int) : Int).toNat ≤ 8796093022208 then (bag_columnOf.l0 k a1 (List.replicate ((l0.length : Int) : Int).toNat z36) l0 (l0.length : Int) 0) else (none)) else (none)) = some r := h
 clear h
 by_cases c3 : 0 ≤ (l0.length : Int)
 · rw [if_pos c3] at H
   have c3b0 := eq_true c3
   have c3b1 : decide (0 ≤ (l0.length : Int)) = true := dT_ c3
   clear c3
   by_cases c4 : ((l0.length : Int) : Int).toNat ≤ 8796093022208
   · rw [if_pos c4] at H
     have c4b0 := eq_true c4
     have c4b1 : decide (((l0.length : Int) : Int).toNat ≤ 8796093022208) = true := dT_ c4
     clear c4
     obtain ⟨y116, hy116⟩ : ∃ y_ : List (S36), y_ = (List.replicate ((l0.length : Int) : Int).toNat z36) := ⟨_, rfl⟩
     replace H : (bag_columnOf.l0 k a1 y116 l0 (l0.length : Int) 0) = some r := by first | (rw [hy116]; with_reducible exact H) | (have H2_ := (Option.bind_some _ _).symm.trans H; rw [hy116]; with_reducible exact H2_) | (have H2_ := (Option.bind_some _ _).symm.trans H; with_reducible exact H2_) | with_reducible exact H | (rw [hy116]; exact H) | exact H
     have Ny116 := Aside0.mk hy116
     clear hy116
     have H' := Aside0.mk H
     clear H
     go_enter Tryz.func63, Tryz.ntmps63
     go_wp2_with (first | ((with_reducible refine gate_dst (N := 10) rfl ?_); refine Kd.R_make k36 _ 36 rfl (N := 10) rfl 33 _ _ rfl (l0.length : Int) rfl rfl Tryz.underlying33 (.agg #[(.int .u8 0), (.int .i64 0), (.string ⟨#[]⟩)]) 32 info36 rfl (by decide) (by omega) z36 (ok := fun _ => True) (okp := fun _ => True) (k36_mkM _ _ _ z36 ) (fun _ hk => hk) trivial (oT_ (by assumption)) (Nat.le_trans (Nat.mul_le_mul_right _ (oT_ (by assumption) : (l0.length : Int).toNat ≤ 8796093022208)) (by omega)) (Below.refl _ _) (Nat.le_refl _) ?_; intro v117 w5 ho6 hb hg_ hnew_; clear hg_ hnew_; (first | rw [← Ny116.out] at ho6 | (simp only [Int.reduceToNat] at ho6; rw [← Ny116.out] at ho6)); have n0_ := Aside0.mk (Kd.R_lower ho6 (below_size (by repeat (first | (with_reducible first | exact HB.out | apply bA_ | apply bN_ | apply b1_) | exact HB.out)))); have n1_ := Aside0.mk (below_step (by repeat (first | (with_reducible first | exact HB.out | apply bA_ | apply bN_ | apply b1_) | exact HB.out)) hb); clear HB; have HO118 := n0_; have HB := n1_; clear n0_ n1_; clear hb ho6))
     go_loopg [13] k (fun kq v13 w' => ∃ (x5_1 : List (S36)) (x13_1 : Int), v13 = .int .i64 x13_1 ∧ Aside0 (bag_columnOf.l0 kq a1 x5_1 l0 (l0.length : Int) x13_1 = some r) ∧ Aside0 (kq ≤ k) ∧ Aside0 (Kd.R k36 36 w' w.heap.size (fun _ => True) v117 x5_1) ∧ Aside0 (Below w.heap.size w w'))
     case atStart => exact ⟨(y116), (0), (by first | rfl | (simp; done) | (simp [*]; done)), H', ⟨Nat.le_refl _⟩, ⟨by (with_reducible repeat (first | apply Kd.R_alloc | apply Kd.R_drewN | apply Kd.R_drew)); exact HO118.out⟩, ⟨by repeat (first | (with_reducible first | exact HB.out | apply bA_ | apply bN_ | apply b1_) | exact HB.out)⟩⟩
     case round =>
      clear H'
      try clear p2
      try clear c3
      try clear c3b0
      try clear c3b1
      try clear c4
      try clear c4b0
      try clear c4b1
      try clear c6
      obtain ⟨x5_1, x13_1, rfl, HA, HK1, HO_5, HB⟩ := hrel
      cases gk with
      | zero => exact absurd HA.out (by simp [bag_columnOf.l0])
      | succ k1 =>
       have H := HA.out
       clear HA
       simp only [bag_columnOf.l0] at H
       by_cases c7 : x13_1 < (l0.length : Int)
       · rw [if_pos c7] at H
         have c7b0 : decide (x13_1 < (l0.length : Int)) = true := dT_ c7
         clear c7
         by_cases c8 : 0 ≤ x13_1
         · rw [if_pos c8] at H
           have c8b0 : decide (0 ≤ x13_1) = true := dT_ c8
           clear c8
           by_cases c9 : x13_1 < (l0.length : Int)
           · rw [if_pos c9] at H
             have c9b0 : decide (x13_1 < (l0.length : Int)) = true := dT_ c9
             clear c9
             by_cases c10 : a1 < ((rd_L4 l0 x13_1).length : Int)
             · rw [if_pos c10] at H
               have c10b0 : decide (a1 < ((rd_L4 l0 x13_1).length : Int)) = true := dT_ c10
               clear c10
               by_cases c11 : 0 ≤ a1
               · rw [if_pos c11] at H
                 have c11b0 : decide (0 ≤ a1) = true := dT_ c11
                 clear c11
                 by_cases c12 : x13_1 < (x5_1.length : Int)
                 · rw [if_pos c12] at H
                   have c12b0 : decide (x13_1 < (x5_1.length : Int)) = true := dT_ c12
                   clear c12
                   obtain ⟨y121, hy121⟩ : ∃ y_ : List (S36), y_ = (x5_1.set (x13_1 : Int).toNat (⟨(rd_T36 (rd_L4 l0 x13_1) a1).f0, (rd_T36 (rd_L4 l0 x13_1) a1).f1, (rd_T36 (rd_L4 l0 x13_1) a1).f2⟩ : S36)) := ⟨_, rfl⟩
                   replace H : (bag_columnOf.l0 k1 a1 y121 l0 (l0.length : Int) (wrap64 (x13_1 + 1))) = some r := by first | (rw [hy121]; with_reducible exact H) | (have H2_ := (Option.bind_some _ _).symm.trans H; rw [hy121]; with_reducible exact H2_) | (have H2_ := (Option.bind_some _ _).symm.trans H; with_reducible exact H2_) | with_reducible exact H | (rw [hy121]; exact H) | exact H
                   have Ny121 := Aside0.mk hy121
                   clear hy121
                   have H' := Aside0.mk H
                   clear H
                   have p119 : 0 ≤ (x13_1 : Int) := oT_ (by assumption)
                   have q119 : x13_1 < (l0.length : Int) := oT_ (by assumption)
                   obtain ⟨ad119, A119_0, c119_0, e119, hx119_0, hl119_0, hi119_0⟩ := at_L4 HR0.out x13_1 p119 q119
                   cases e119
                   replace hx119_0 := (HB.out.cell (bLC_ w _ hx119_0)).trans hx119_0
                   have HR119_0 := Aside0.mk hi119_0
                   have HC119_0 := Aside0.mk hl119_0
                   clear hi119_0 hl119_0
                   replace p119 := eq_true p119
                   replace q119 := eq_true q119
                   have p120 : 0 ≤ (a1 : Int) := oT_ (by assumption)
                   have q120 : a1 < ((rd_L4 l0 x13_1).length : Int) := oT_ (by assumption)
                   obtain ⟨ad120, e120, hx120_0, hx120_1, hx120_2⟩ := at_T36 HR119_0.out a1 p120 q120
                   cases e120
                   replace hx120_0 := (HB.out.cell (bLC_ w _ hx120_0)).trans hx120_0
                   replace hx120_1 := (HB.out.cell (bLC_ w _ hx120_1)).trans hx120_1
                   replace hx120_2 := (HB.out.cell (bLC_ w _ hx120_2)).trans hx120_2
                   replace p120 := eq_true p120
                   replace q120 := eq_true q120
                   have p13 : 0 ≤ (x13_1 : Int) := oT_ (by assumption)
                   have q13 : (x13_1 : Int) < ((x5_1.length : Int) : Int) := oT_ (by assumption)
                   obtain ⟨go13, co13, eo13, gb13, gl13, cl13, HG13⟩ := Kd.R_form HO_5.out (by omega)
                   (first | cases eo13 | (injection eo13 with ea_ en_ ec_; (first | subst ea_ | (injection ea_ with ea_; subst ea_)); subst ec_; clear en_))
                   have GB13 := Aside0.mk gb13
                   have GG13 := Aside0.mk HG13
                   clear gb13 gl13 HG13
                   obtain ⟨ce13, hcl13, hM13, hcc13, hfr13⟩ := Kd.R_elem HO_5.out z36 (x13_1 : Int) p13 q13
                   obtain rfl := k36_openM hM13
                   have hx13_0 : wr.cell? ⟨go13, (x13_1 : Int).toNat * 3, none⟩ = some (.int .u8 ((rd_T36 x5_1 x13_1).f0)) := hcc13 0 _ rfl
                   have hx13_1 : wr.cell? ⟨go13, (x13_1 : Int).toNat * 3 + 1, none⟩ = some (.int .i64 ((rd_T36 x5_1 x13_1).f1)) := hcc13 1 _ rfl
                   have hx13_2 : wr.cell? ⟨go13, (x13_1 : Int).toNat * 3 + 2, none⟩ = some (.string ((rd_T36 x5_1 x13_1).f2)) := hcc13 2 _ rfl
                   have hf13_0 : wr.frozen? ⟨go13, (x13_1 : Int).toNat * 3, none⟩ = false := hfr13 0
                   have hf13_1 : wr.frozen? ⟨go13, (x13_1 : Int).toNat * 3 + 1, none⟩ = false := hfr13 1
                   have hf13_2 : wr.frozen? ⟨go13, (x13_1 : Int).toNat * 3 + 2, none⟩ = false := hfr13 2
                   clear hcl13 hcc13 hfr13 hM13
                   replace p13 := eq_true p13
                   replace q13 := eq_true q13
                   have HX14 := Aside0.mk (show Kd.R k36 36 wr w.heap.size (fun _ => True) (.slice (some ⟨go13, 0, none⟩) x5_1.length co13) x5_1 from (by (with_reducible repeat (first | apply Kd.R_alloc | apply Kd.R_drewN | apply Kd.R_drew)); exact HO_5.out))
                   obtain ⟨ce14, hcl14, hM14, hcc14, hfr14⟩ := Kd.R_elem HX14.out z36 (x13_1 : Int) (oT_ (by assumption)) (by have h_ : (x13_1 : Int) < ((x5_1.length : Int) : Int) := oT_ (by assumption); first | exact h_ | (have e_ := (Kd.R_reads' HO_5.out).1; omega) | simpa using h_)
                   obtain rfl := k36_openM hM14
                   have HP14 := Kd.R_seg HX14.out (x13_1 : Int) (oT_ (by assumption)) (by have h_ : (x13_1 : Int) < ((x5_1.length : Int) : Int) := oT_ (by assumption); first | exact h_ | (have e_ := (Kd.R_reads' HO_5.out).1; omega) | simpa using h_) (seg := [.int .u8 ((rd_T36 (rd_L4 l0 x13_1) a1).f0), .int .i64 ((rd_T36 (rd_L4 l0 x13_1) a1).f1), .string ((rd_T36 (rd_L4 l0 x13_1) a1).f2)]) (j := 0) hcl14 hcc14 (show 3 ≤ 3 from by decide) (x' := (⟨(rd_T36 (rd_L4 l0 x13_1) a1).f0, (rd_T36 (rd_L4 l0 x13_1) a1).f1, (rd_T36 (rd_L4 l0 x13_1) a1).f2⟩ : S36)) (k36_mkM _ _ _ (⟨(rd_T36 (rd_L4 l0 x13_1) a1).f0, (rd_T36 (rd_L4 l0 x13_1) a1).f1, (rd_T36 (rd_L4 l0 x13_1) a1).f2⟩ : S36) ) (fun _ hk => hk)
                   have hx14_0 := hcc14 0 _ rfl
                   (try simp only [show (k36).sz = 3 from rfl, Nat.mul_one, Nat.add_zero] at hx14_0)
                   have hf14_0 := hfr14 0
                   (try simp only [show (k36).sz = 3 from rfl, Nat.mul_one, Nat.add_zero] at hf14_0)
                   have hx14_1 := hcc14 1 _ rfl
                   (try simp only [show (k36).sz = 3 from rfl, Nat.mul_one, Nat.add_zero] at hx14_1)
                   have hf14_1 := hfr14 1
                   (try simp only [show (k36).sz = 3 from rfl, Nat.mul_one, Nat.add_zero] at hf14_1)
                   have hx14_2 := hcc14 2 _ rfl
                   (try simp only [show (k36).sz = 3 from rfl, Nat.mul_one, Nat.add_zero] at hx14_2)
                   have hf14_2 := hfr14 2
                   (try simp only [show (k36).sz = 3 from rfl, Nat.mul_one, Nat.add_zero] at hf14_2)
                   clear hcl14 hcc14 hfr14 hM14
                   go_wp2_with (first | ((with_reducible refine gate_store (t := 36) (p := 28) rfl ?_); refine store_event (t := 36) (p := 28) (v := ?vo_w15) (w1 := (((wr.setCell ⟨go13, (x13_1 : Int).toNat * 3, none⟩ (.int .u8 ((rd_T36 (rd_L4 l0 x13_1) a1).f0))).setCell ⟨go13, (x13_1 : Int).toNat * 3 + 1, none⟩ (.int .i64 ((rd_T36 (rd_L4 l0 x13_1) a1).f1))).setCell ⟨go13, (x13_1 : Int).toNat * 3 + 2, none⟩ (.string ((rd_T36 (rd_L4 l0 x13_1) a1).f2)))) ?hg ?ho ?hn ?hr ?_; (case ho => rfl); (case hg => rfl); (case hn => rfl); (case hr => first | (go_simp; done) | (go_simp; rfl)); intro w15 hw; have hg : wr.grownBy w15 (some go13) := (by rw [hw]; exact HP14.2); have hp_ : Kd.R k36 36 w15 w.heap.size (fun _ => True) (.slice (some ⟨go13, 0, none⟩) x5_1.length co13) y121 := (by rw [hw, Ny121.out]; exact HP14.1); clear HP14; have n0_ := Aside0.mk (hp_); have n1_ := Aside0.mk ((by rw [hw]; exact below_set (below_set (below_set (HB.out) GB13.out) GB13.out) GB13.out : Below w.heap.size w w15)); clear HO_5; clear HB; have HO_5 := n0_; have HB := n1_; clear n0_ n1_; clear hg hw hp_))
                   go_roundg k1
                   case measure => have := HK1.out; omega
                   case rel => exact ⟨(y121), (wrap64 (x13_1 + 1)), (by first | rfl | (simp; done) | (simp [*]; done)), H', ⟨by have := HK1.out; omega⟩, ⟨by (with_reducible repeat (first | apply Kd.R_alloc | apply Kd.R_drewN | apply Kd.R_drew)); exact HO_5.out⟩, ⟨by repeat (first | (with_reducible first | exact HB.out | apply bA_ | apply bN_ | apply b1_) | exact HB.out)⟩⟩
                 · rw [if_neg c12] at H
                   exact absurd H (by simp)
               · rw [if_neg c11] at H
                 exact absurd H (by simp)
             · rw [if_neg c10] at H
               have c10b0 : decide (a1 < ((rd_L4 l0 x13_1).length : Int)) = false := dF_ c10
               clear c10
               have H' := Aside0.mk H
               clear H
               have p119 : 0 ≤ (x13_1 : Int) := oT_ (by assumption)
               have q119 : x13_1 < (l0.length : Int) := oT_ (by assumption)
               obtain ⟨ad119, A119_0, c119_0, e119, hx119_0, hl119_0, hi119_0⟩ := at_L4 HR0.out x13_1 p119 q119
               cases e119
               replace hx119_0 := (HB.out.cell (bLC_ w _ hx119_0)).trans hx119_0
               have HR119_0 := Aside0.mk hi119_0
               have HC119_0 := Aside0.mk hl119_0
               clear hi119_0 hl119_0
               replace p119 := eq_true p119
               replace q119 := eq_true q119
               go_wp2
               go_roundg k1
               case measure => have := HK1.out; omega
               case rel => exact ⟨(x5_1), (wrap64 (x13_1 + 1)), (by first | rfl | (simp; done) | (simp [*]; done)), H', ⟨by have := HK1.out; omega⟩, ⟨by (with_reducible repeat (first | apply Kd.R_alloc | apply Kd.R_drewN | apply Kd.R_drew)); exact HO_5.out⟩, ⟨by repeat (first | (with_reducible first | exact HB.out | apply bA_ | apply bN_ | apply b1_) | exact HB.out)⟩⟩
           · rw [if_neg c9] at H
             exact absurd H (by simp)
         · rw [if_neg c8] at H
           exact absurd H (by simp)
       · rw [if_neg c7] at H
         have c7b0 : decide (x13_1 < (l0.length : Int)) = false := dF_ c7
         clear c7
         obtain rfl := Option.some.inj H
         go_wp2
         go_ret
         exact ⟨_, by first | rfl | (simp [*, errW_none, errW_some] <;> rfl), by (with_reducible repeat (first | apply Kd.R_alloc | apply Kd.R_drewN | apply Kd.R_drew)); exact HO_5.out, by repeat (first | (with_reducible first | exact HB.out | apply bA_ | apply bN_ | apply b1_) | exact HB.out)⟩
   · rw [if_neg c4] at H
     exact absurd H (by simp)
 · rw [if_neg c3] at H
   exact absurd H (by simp)
end Go.Proofs.YtecgkcgfeghhgaaGreatDoor.PAll
set_option linter.unusedVariables false
set_option linter.unusedSimpArgs false
namespace Go.Proofs.YtecgkcgfeghhgaaGreatDoor.PAll
open Go.RowKit Go.Proofs.YtecgkcgfeghhgaaGreatDoorW.PrintWords Go.Proofs.YtecgkcgfeghhgaaGreatDoorW.PrintLast Go.Proofs.YtecgkcgfeghhgaaGreatDoorW.PrintMore
def columnR (l : List (List V)) (n : Int) : List V := l.map (fun r => rd_T36 r n)
theorem columnOf_l0 (l : List (List V)) (n : Int) (h0 : 0 ≤ n) (hn : l.length ≤ 1099511627776) : ∀ (d i : Nat) (xs : List V), i + d = l.length → xs = (l.take i).map (fun r => rd_T36 r n) ++ List.replicate d z36 →
 Ev (fun k => bag_columnOf.l0 k n xs l (l.length : Int) (i : Int)) (columnR l n) := by
 intro d
 induction d with
 | zero =>
  intro i xs hi hx
  refine Ev.step (f := fun _ => some (columnR l n)) (fun k => ?_) (Ev.now _)
  simp only [bag_columnOf.l0]
  rw [if_neg (by omega), hx, List.take_of_length_le (by omega)]
  simp [columnR]
 | succ d ih =>
  intro i xs hi hx
  have hlt : i < l.length := by omega
  have hxl : xs.length = l.length := by rw [hx]; simp; omega
  have hset : xs.set i (rd_T36 l[i] n) = (l.take (i + 1)).map (fun r => rd_T36 r n) ++ List.replicate d z36 := by
   rw [hx, List.replicate_succ, take_snoc _ _ hlt, List.set_append_right _ _ (by simp; omega)]
   simp only [List.length_map, List.length_take, Nat.min_eq_left (Nat.le_of_lt hlt), Nat.sub_self, List.set_cons_zero, List.map_append]
   simp
  by_cases c : n < (l[i].length : Int)
  · refine Ev.step (f := fun k => bag_columnOf.l0 k n (xs.set i (rd_T36 l[i] n)) l (l.length : Int) ((i + 1 : Nat) : Int)) (fun k => ?_) (ih (i + 1) _ (by omega) hset)
    simp only [bag_columnOf.l0]
    rw [if_pos (by omega), if_pos (by omega), if_pos (by omega), rdL_at hlt, if_pos c, if_pos h0, if_pos (by omega), w64 _ (by omega) (by omega), Int.toNat_natCast]
    rfl
  · have hz : rd_T36 l[i] n = z36 := by
     unfold rd_T36
     rw [List.getD_eq_getElem?_getD, List.getElem?_eq_none (by omega)]
     rfl
    have hsame : xs.set i (rd_T36 l[i] n) = xs := by
     rw [hz, hx, List.replicate_succ, List.set_append_right _ _ (by simp; omega)]
     simp [Nat.min_eq_left (Nat.le_of_lt hlt)]
    refine Ev.step (f := fun k => bag_columnOf.l0 k n xs l (l.length : Int) ((i + 1 : Nat) : Int)) (fun k => ?_) (ih (i + 1) _ (by omega) (by rw [← hset, hsame]))
    simp only [bag_columnOf.l0]
    rw [if_pos (by omega), if_pos (by omega), if_pos (by omega), rdL_at hlt, if_neg c, w64 _ (by omega) (by omega)]
    rfl
theorem columnOf_ev (l : List (List V)) (n : Int) (h0 : 0 ≤ n) (hn : l.length ≤ 1099511627776) : Ev (fun k => bag_columnOf.f k l n) (columnR l n) := by
 refine Ev.congr (f := fun k => bag_columnOf.l0 k n (List.replicate l.length z36) l (l.length : Int) ((0 : Nat) : Int)) (fun k => ?_) (columnOf_l0 l n h0 hn l.length 0 _ (by omega) (by simp))
 unfold bag_columnOf.f
 rw [if_pos (by omega), Int.toNat_natCast, if_pos (by omega)]
 rfl
def kindFrom : Int → List V → Option Int
 | k, [] => some k
 | k, v :: vs => if validV v = true ∧ (k = 0 ∨ v.f0 = 0 ∨ v.f0 = k) then kindFrom (if v.f0 = 0 then k else v.f0) vs else none
def allowedB (fn : Int) (d : Bool) (vs : List V) : Bool :=
 if fn > 5 ∨ fn = 0 ∧ d = true then false else match kindFrom 0 vs with
  | none => false
  | some k => decide (k = 0 ∨ k = 1 ∨ fn ≠ 2 ∧ fn ≠ 5)
theorem allowed_l0 (fn : Int) (vs : List V) (hv : ∀ v ∈ vs, VOk v) (hn : vs.length ≤ 1099511627776) : ∀ (d i : Nat) (k0 : Int), i + d = vs.length →
 Ev (fun k => bag_allowed.l0 k fn k0 vs (vs.length : Int) (i : Int)) (match kindFrom k0 (vs.drop i) with
 | none => false
 | some k => decide (k = 0 ∨ k = 1 ∨ fn ≠ 2 ∧ fn ≠ 5)) := by
 intro d
 induction d with
 | zero =>
  intro i k0 hi
  rw [List.drop_eq_nil_of_le (by omega)]
  refine Ev.step (f := fun _ => some (decide (k0 = 0 ∨ k0 = 1 ∨ fn ≠ 2 ∧ fn ≠ 5))) (fun k => ?_) (Ev.now _)
  simp only [bag_allowed.l0]
  rw [if_neg (by omega)]
  by_cases c0 : k0 = 0
  · simp [c0]
  · by_cases c1 : k0 = 1
    · simp [c1]
    · by_cases c2 : fn = 2
      · simp [c0, c1, c2]
      · by_cases c3 : fn = 5 <;> simp [c0, c1, c2, c3]
 | succ d ih =>
  intro i k0 hi
  have hlt : i < vs.length := by omega
  rw [drop_cons vs i hlt]
  have hvv := valid_value vs[i] (hv _ (List.getElem_mem hlt))
  have one : ∀ k, bag_allowed.l0 (k + 1) fn k0 vs (vs.length : Int) (i : Int) = if validV vs[i] = true then (if k0 = 0 then bag_allowed.j2 k fn k0 vs (vs.length : Int) (i : Int) false vs[i].f0 vs[i].f1 vs[i].f2 else if vs[i].f0 = 0 then bag_allowed.j2 k fn k0 vs (vs.length : Int) (i : Int) false vs[i].f0 vs[i].f1 vs[i].f2 else bag_allowed.j2 k fn k0 vs (vs.length : Int) (i : Int) (vs[i].f0 != k0) vs[i].f0 vs[i].f1 vs[i].f2) else bag_allowed.j2 k fn k0 vs (vs.length : Int) (i : Int) true vs[i].f0 vs[i].f1 vs[i].f2 := fun k => by
   simp only [bag_allowed.l0]
   rw [if_pos (by omega), if_pos (by omega), if_pos (by omega), rdV_at hlt, hvv]
   simp only [Option.bind_some]
  have bad : Ev (fun k => bag_allowed.j2 k fn k0 vs (vs.length : Int) (i : Int) true vs[i].f0 vs[i].f1 vs[i].f2) false :=
   Ev.step (f := fun _ => some false) (fun k => by simp [bag_allowed.j2]) (Ev.now _)
  have good : ∀ b, Ev (fun k => bag_allowed.l0 k fn (if vs[i].f0 = 0 then k0 else vs[i].f0) vs (vs.length : Int) ((i + 1 : Nat) : Int)) b → Ev (fun k => bag_allowed.j2 k fn k0 vs (vs.length : Int) (i : Int) false vs[i].f0 vs[i].f1 vs[i].f2) b := fun b hb =>
   Ev.step (fun k => by
    simp only [bag_allowed.j2]
    rw [if_neg (by simp), w64 _ (by omega) (by omega)]
    by_cases c : vs[i].f0 = 0
    · rw [if_pos c, if_pos c]; rfl
    · rw [if_neg c, if_neg c]; rfl) hb
  simp only [kindFrom]
  by_cases c0 : validV vs[i] = true
  · by_cases c1 : k0 = 0 ∨ vs[i].f0 = 0 ∨ vs[i].f0 = k0
    · rw [if_pos ⟨c0, c1⟩]
      refine Ev.step (f := fun k => bag_allowed.j2 k fn k0 vs (vs.length : Int) (i : Int) false vs[i].f0 vs[i].f1 vs[i].f2) (fun k => ?_) (good _ (ih (i + 1) _ (by omega)))
      rw [one, if_pos c0]
      by_cases d1 : k0 = 0
      · rw [if_pos d1]
      · rw [if_neg d1]
        by_cases d2 : vs[i].f0 = 0
        · rw [if_pos d2]
        · rw [if_neg d2, show (vs[i].f0 != k0) = false by simp; omega]
    · rw [if_neg (fun h => c1 h.2)]
      refine Ev.step (f := fun k => bag_allowed.j2 k fn k0 vs (vs.length : Int) (i : Int) true vs[i].f0 vs[i].f1 vs[i].f2) (fun k => ?_) bad
      rw [one, if_pos c0, if_neg (by omega), if_neg (by omega), show (vs[i].f0 != k0) = true by simp; omega]
  · rw [if_neg (fun h => c0 h.1)]
    refine Ev.step (f := fun k => bag_allowed.j2 k fn k0 vs (vs.length : Int) (i : Int) true vs[i].f0 vs[i].f1 vs[i].f2) (fun k => ?_) bad
    rw [one, if_neg c0]
theorem allowed_ev (fn : Int) (d : Bool) (vs : List V) (hv : ∀ v ∈ vs, VOk v) (hn : vs.length ≤ 1099511627776) : Ev (fun k => bag_allowed.f k fn d vs) (allowedB fn d vs) := by
 have bad : Ev (fun k => bag_allowed.j0 k fn vs true) false := Ev.step (f := fun _ => some false) (fun k => by simp [bag_allowed.j0]) (Ev.now _)
 have good := allowed_l0 fn vs hv hn vs.length 0 0 (by omega)
 rw [List.drop_zero] at good
 have good2 : Ev (fun k => bag_allowed.j0 k fn vs false) (match kindFrom 0 vs with
  | none => false
  | some k => decide (k = 0 ∨ k = 1 ∨ fn ≠ 2 ∧ fn ≠ 5)) := Ev.step (fun k => by simp only [bag_allowed.j0]; rw [if_neg (by simp)]; rfl) good
 unfold allowedB
 by_cases c0 : fn > 5
 · rw [if_pos (.inl c0)]
   exact Ev.congr (fun k => by unfold bag_allowed.f; rw [if_pos c0]) bad
 · by_cases c1 : fn = 0
   · cases d with
     | true =>
      rw [if_pos (.inr ⟨c1, rfl⟩)]
      exact Ev.congr (fun k => by unfold bag_allowed.f; rw [if_neg c0, if_pos c1]) bad
     | false =>
      rw [if_neg (by simp; omega)]
      exact Ev.congr (fun k => by unfold bag_allowed.f; rw [if_neg c0, if_pos c1]) good2
   · rw [if_neg (by omega)]
     exact Ev.congr (fun k => by unfold bag_allowed.f; rw [if_neg c0, if_neg c1]) good2
theorem rowStep_kind : ∀ (ks : List Int) (r : List V) (ks' : List Int), rowStep ks r = some ks' → ks'.length = ks.length ∧ (∀ j : Nat, ks.getD j 0 ≠ 0 → ks'.getD j 0 = ks.getD j 0) ∧ ∀ (j : Nat) (h : j < r.length), r[j].f0 = 0 ∨ r[j].f0 = ks'.getD j 0
 | [], [], ks', h => by
  simp [rowStep] at h; subst h; simp
 | [], _ :: _, _, h => by simp [rowStep] at h
 | _ :: _, [], _, h => by simp [rowStep] at h
 | k :: ks, v :: vs, ks', h => by
  simp only [rowStep] at h
  split at h
  · rename_i hv
    cases hr : rowStep ks vs with
    | none => simp [hr] at h
    | some t =>
     simp [hr] at h
     subst h
     obtain ⟨i1, i2, i3⟩ := rowStep_kind ks vs t hr
     refine ⟨by simp [i1], fun j hj => ?_, fun j hj => ?_⟩
     · cases j with
       | zero =>
        simp only [List.getD_cons_zero] at hj ⊢
        rw [if_neg hj]
       | succ j =>
        simp only [List.getD_cons_succ] at hj ⊢
        exact i2 j hj
     · cases j with
       | zero =>
        simp only [List.getElem_cons_zero, List.getD_cons_zero]
        split
        · exact .inr rfl
        · omega
       | succ j =>
        simp only [List.getElem_cons_succ, List.getD_cons_succ]
        exact i3 j (by simpa using hj)
  · cases h
theorem validFrom_kind : ∀ (l : List (List V)) (ks : List Int), validFrom ks l = true → ∃ K : List Int, (∀ j : Nat, ks.getD j 0 ≠ 0 → K.getD j 0 = ks.getD j 0) ∧ ∀ r ∈ l, ∀ (j : Nat) (h : j < r.length), r[j].f0 = 0 ∨ r[j].f0 = K.getD j 0
 | [], ks, _ => ⟨ks, fun _ _ => rfl, by simp⟩
 | r :: rs, ks, h => by
  simp only [validFrom] at h
  cases hr : rowStep ks r with
  | none => simp [hr] at h
  | some t =>
   rw [hr] at h
   obtain ⟨i1, i2, i3⟩ := rowStep_kind ks r t hr
   obtain ⟨K, k1, k2⟩ := validFrom_kind rs t h
   refine ⟨K, fun j hj => ?_, fun u hu j hj => ?_⟩
   · rw [← i2 j hj]
     exact k1 j (by rw [i2 j hj]; exact hj)
   · rcases List.mem_cons.1 hu with rfl | hu
     · rcases i3 j hj with h0 | h0
       · exact .inl h0
       · by_cases hz : t.getD j 0 = 0
         · exact .inl (h0.trans hz)
         · exact .inr (by rw [k1 j hz]; exact h0)
     · exact k2 u hu j hj
theorem kindFrom_some (K : Int) : ∀ (vs : List V) (k : Int), (∀ v ∈ vs, validV v = true ∧ (v.f0 = 0 ∨ v.f0 = K)) → (k = 0 ∨ k = K) → ∃ r, kindFrom k vs = some r ∧ (r = 0 ∨ r = K)
 | [], k, _, hk => ⟨k, rfl, hk⟩
 | v :: vs, k, h, hk => by
  have hv := h v List.mem_cons_self
  simp only [kindFrom]
  rw [if_pos ⟨hv.1, by omega⟩]
  exact kindFrom_some K vs _ (fun u hu => h u (List.mem_cons_of_mem _ hu)) (by split <;> omega)
theorem col_kind {l : List (List V)} (hv : validB l = true) (n : Int) : ∃ K : Int, ∀ row ∈ l, validV (rd_T36 row n) = true ∧ ((rd_T36 row n).f0 = 0 ∨ (rd_T36 row n).f0 = K) := by
 have hz : validV z36 = true := by
  unfold validV noText z36
  simp [ByteArray.toList_eq]
 cases l with
 | nil => exact ⟨0, by simp⟩
 | cons r rs =>
  obtain ⟨K, _, hK⟩ := validFrom_kind (r :: rs) _ hv
  refine ⟨K.getD n.toNat 0, fun row hrow => ?_⟩
  by_cases h : n.toNat < row.length
  · have e : rd_T36 row n = row[n.toNat] := by simp [rd_T36, List.getElem?_eq_getElem h]
    rw [e]
    exact ⟨validB_valid hv row hrow _ (List.getElem_mem h), hK row hrow n.toNat h⟩
  · have e : rd_T36 row n = z36 := by
     unfold rd_T36
     rw [List.getD_eq_getElem?_getD, List.getElem?_eq_none (by omega)]
     rfl
    rw [e]
    exact ⟨hz, .inl rfl⟩
theorem col_allowed {l ls : List (List V)} (hv : validB l = true) (hs : ∀ row ∈ ls, row ∈ l) (n : Int) : allowedB 0 false (columnR ls n) = true := by
 obtain ⟨K, hK⟩ := col_kind hv n
 obtain ⟨r, hr, _⟩ := kindFrom_some K (columnR ls n) 0 (fun v hv => by
  obtain ⟨row, hrow, rfl⟩ := List.mem_map.1 hv
  exact hK row (hs row hrow)) (.inl rfl)
 unfold allowedB
 rw [if_neg (by simp), hr]
 simp
theorem pickV_all : ∀ (vs : List V) (seen : List ByteArray), pickV 0 false seen vs = vs
 | [], _ => rfl
 | v :: vs, seen => by
  rw [pickV, if_neg (by simp), if_neg (by simp), pickV_all vs seen]
noncomputable def bag_Intersect.f (l0 l1 : List (List V)) : Option (List (List V) × Int) := (bag_split.f l0 l1).map fun t => (t.1, t.2.2)
theorem bag_Intersect.calls (A0 : Option Addr) (c0 : Nat) (l0 : List (List V)) (A1 : Option Addr) (c1 : Nat) (l1 : List (List V)) (r1 : List (List V)) (r3 : Int) (w : World) (hr0 : Kd.C kRow w A0 l0.length l0) (hc0 : l0.length ≤ c0) (hr1 : Kd.C kRow w A1 l1.length l1) (hc1 : l1.length ≤ c1) (hT : LaidT w) (h : bag_Intersect.f l0 l1 = some (r1, r3)) :
 Calls Tryz.prog 35 #[.slice A0 l0.length c0, .slice A1 l1.length c1] w fun e w' => ∃ v0_ : Value, e = .returned (.tuple #[v0_, .int .i64 r3]) ∧ Kd.V kRow 53 w' w.heap.size (fun k_ => (w.heap.size ≤ k_)) v0_ r1 ∧ Below w.heap.size w w' := by
 unfold bag_Intersect.f at h
 obtain ⟨⟨x, y, z⟩, h1, h2⟩ := Option.map_eq_some_iff.1 h
 obtain ⟨rfl, rfl⟩ := Prod.mk.inj h2
 exact split_Intersect A0 c0 l0 A1 c1 l1 x y z w hr0 hc0 hr1 hc1 hT h1
noncomputable def bag_Except.f (l0 l1 : List (List V)) : Option (List (List V) × Int) := (bag_split.f l0 l1).map fun t => (t.2.1, t.2.2)
theorem bag_Except.calls (A0 : Option Addr) (c0 : Nat) (l0 : List (List V)) (A1 : Option Addr) (c1 : Nat) (l1 : List (List V)) (r1 : List (List V)) (r3 : Int) (w : World) (hr0 : Kd.C kRow w A0 l0.length l0) (hc0 : l0.length ≤ c0) (hr1 : Kd.C kRow w A1 l1.length l1) (hc1 : l1.length ≤ c1) (hT : LaidT w) (h : bag_Except.f l0 l1 = some (r1, r3)) :
 Calls Tryz.prog 37 #[.slice A0 l0.length c0, .slice A1 l1.length c1] w fun e w' => ∃ v0_ : Value, e = .returned (.tuple #[v0_, .int .i64 r3]) ∧ Kd.V kRow 53 w' w.heap.size (fun k_ => (w.heap.size ≤ k_)) v0_ r1 ∧ Below w.heap.size w w' := by
 unfold bag_Except.f at h
 obtain ⟨⟨x, y, z⟩, h1, h2⟩ := Option.map_eq_some_iff.1 h
 obtain ⟨rfl, rfl⟩ := Prod.mk.inj h2
 exact split_Except A0 c0 l0 A1 c1 l1 x y z w hr0 hc0 hr1 hc1 hT h1
def RowFits (n : Nat) (K : Nat → Int) (r : List V) : Prop := r.length = n ∧ (∀ v ∈ r, validV v = true) ∧ ∀ (j : Nat) (h : j < r.length), r[j].f0 = 0 ∨ r[j].f0 = K j
theorem rowStep_of : ∀ (ks : List Int) (r : List V) (K : Nat → Int), r.length = ks.length → (∀ v ∈ r, validV v = true) → (∀ (j : Nat) (h : j < r.length), r[j].f0 = 0 ∨ r[j].f0 = K j) → (∀ (j : Nat) (h : j < ks.length), ks[j] = 0 ∨ ks[j] = K j) →
 ∃ ks', rowStep ks r = some ks' ∧ ks'.length = ks.length ∧ ∀ (j : Nat) (h : j < ks'.length), ks'[j] = 0 ∨ ks'[j] = K j
 | [], [], _, _, _, _, _ => ⟨[], rfl, rfl, fun j h => by simp at h⟩
 | [], _ :: _, _, h, _, _, _ => by simp at h
 | _ :: _, [], _, h, _, _, _ => by simp at h
 | k :: ks, v :: vs, K, hl, hv, hr, hk => by
  have r0 : v.f0 = 0 ∨ v.f0 = K 0 := hr 0 (by simp)
  have k0 : k = 0 ∨ k = K 0 := hk 0 (by simp)
  obtain ⟨t, ht, htl, htk⟩ := rowStep_of ks vs (fun j => K (j + 1)) (by simpa using hl) (fun u hu => hv u (List.mem_cons_of_mem _ hu)) (fun j h => by have := hr (j + 1) (by simpa using h); simpa using this) (fun j h => by have := hk (j + 1) (by simpa using h); simpa using this)
  refine ⟨(if k = 0 then v.f0 else k) :: t, ?_, by simp [htl], fun j h => ?_⟩
  · simp only [rowStep]
    rw [if_pos ⟨hv v List.mem_cons_self, by omega⟩, ht]
    rfl
  · cases j with
    | zero =>
     simp only [List.getElem_cons_zero]
     split <;> omega
    | succ j =>
     simp only [List.getElem_cons_succ]
     exact htk j (by simpa using h)
theorem validFrom_of (K : Nat → Int) : ∀ (l : List (List V)) (ks : List Int), (∀ r ∈ l, RowFits ks.length K r) → (∀ (j : Nat) (h : j < ks.length), ks[j] = 0 ∨ ks[j] = K j) → validFrom ks l = true
 | [], _, _, _ => rfl
 | r :: rs, ks, h, hk => by
  have hr := h r List.mem_cons_self
  obtain ⟨t, ht, htl, htk⟩ := rowStep_of ks r K hr.1 hr.2.1 hr.2.2 hk
  simp only [validFrom, ht]
  exact validFrom_of K rs t (fun u hu => by rw [htl]; exact h u (List.mem_cons_of_mem _ hu)) htk
theorem validB_of {l : List (List V)} {n : Nat} {K : Nat → Int} (h : ∀ r ∈ l, RowFits n K r) : validB l = true := by
 cases l with
 | nil => rfl
 | cons r rs =>
  have hn : r.length = n := (h r List.mem_cons_self).1
  exact validFrom_of K (r :: rs) (List.replicate r.length 0) (fun u hu => by rw [List.length_replicate, hn]; exact h u hu) (fun j hj => by simp)
theorem validB_fits {l : List (List V)} (h : validB l = true) : ∃ n K, ∀ r ∈ l, RowFits n K r := by
 cases l with
 | nil => exact ⟨0, fun _ => 0, by simp⟩
 | cons r rs =>
  obtain ⟨K, _, hK⟩ := validFrom_kind (r :: rs) _ h
  exact ⟨r.length, fun j => K.getD j 0, fun u hu => ⟨validB_len h u hu, validB_valid h u hu, fun j hj => hK u hu j hj⟩⟩
theorem validB_sub {a b : List (List V)} (h : validB b = true) (hs : ∀ r ∈ a, r ∈ b) : validB a = true := by
 obtain ⟨n, K, hK⟩ := validB_fits h
 exact validB_of (fun r hr => hK r (hs r hr))
theorem RowsOk.app {a b : List (List V)} (ha : RowsOk a) (hb : RowsOk b) (h : a.length + b.length ≤ 1099511627776) : RowsOk (a ++ b) := ⟨fun r hr => (List.mem_append.1 hr).elim (ha.1 r) (hb.1 r), by rw [List.length_append]; exact h⟩
theorem RowsOk.len {a : List (List V)} (h : RowsOk a) : a.length ≤ 1099511627776 ∧ ∀ r ∈ a, r.length ≤ 1099511627776 := ⟨h.2, fun r hr => (h.1 r hr).2.2⟩
theorem inter_ok {a b : List (List V)} (h : RowsOk (a ++ b)) : bag_Intersect.f a b = some (if validB (a ++ b) = true then (sortR [] (splitR (cnt (b.map nameOf)) a).1, 0) else ([], 1)) := by
 have e : bag_split.f a b = _ := if_pos h
 unfold bag_Intersect.f
 rw [e]
 split <;> rfl
theorem except_ok {a b : List (List V)} (h : RowsOk (a ++ b)) : bag_Except.f a b = some (if validB (a ++ b) = true then (sortR [] (splitR (cnt (b.map nameOf)) a).2, 0) else ([], 1)) := by
 have e : bag_split.f a b = _ := if_pos h
 unfold bag_Except.f
 rw [e]
 split <;> rfl
theorem union_ok {a b : List (List V)} (h : RowsV (a ++ b)) : bag_Union.f a b = some (if validB (a ++ b) = true then (sortR [] (a ++ b), 0) else ([], 1)) := if_pos h
theorem met_mem {a b : List (List V)} {r : List V} (h : r ∈ (splitR (cnt (b.map nameOf)) a).1) : r ∈ a := splitR_mem a _ r (.inl h)
theorem left_mem {a b : List (List V)} {r : List V} (h : r ∈ (splitR (cnt (b.map nameOf)) a).2) : r ∈ a := splitR_mem a _ r (.inr h)
end Go.Proofs.YtecgkcgfeghhgaaGreatDoor.PAll
namespace Go.Proofs.YtecgkcgfeghhgaaGreatDoor.PAll
open Go.RowKit Go.Proofs.YtecgkcgfeghhgaaGreatDoorW.PrintWords Go.Proofs.YtecgkcgfeghhgaaGreatDoorW.PrintLast Go.Proofs.YtecgkcgfeghhgaaGreatDoorW.PrintMore
attribute [local go_sem] max2_int min2_int max_two min_two max_three min_three max_four min_four
set_option linter.unusedVariables false
set_option linter.unusedSimpArgs false
def r6_Distinct.l0 : Nat → List (List (S36)) → List (List (S36)) → Int → Option ((List (List (S36))) × Int)
 | 0, _, _, _ => none
 | k + 1, x0, x4, x5 => if x5 < (x0.length : Int) then (if 0 ≤ x5 then ((r6_Count.f k x4 (rd_L4 x0 x5)).bind fun t462 => (if t462 = 0 then (if x4.length < 5864062014805 then (r6_Distinct.l0 k x0 (x4 ++ [rd_L4 x0 x5]) (wrap64 (x5 + 1))) else (none)) else (r6_Distinct.l0 k x0 x4 (wrap64 (x5 + 1))))) else (none)) else ((r6_full.f k x4 ([] : List (S64))).bind fun t467 => (some (t467, 0)))
def r6_Distinct.f (k : Nat) (l0 : List (List (S36))) : Option ((List (List (S36))) × Int) := (r6_Valid.f k l0).bind fun t460 => (if t460 = true then (r6_Distinct.l0 k l0 ([] : List (List (S36))) 0) else (some (([] : List (List (S36))), 1)))
theorem r6_Distinct.calls (k : Nat) (P0_ : Nat → Prop) (A0 : Option Addr) (c0 : Nat) (l0 : List (List (S36))) (r1 : List (List (S36))) (r2 : Int) (w : World) (hs0 : Kd.V (Kd.slice 36 k36) 53 w w.heap.size (fun k_ => P0_ k_) (.slice A0 l0.length c0) l0) (h : r6_Distinct.f k l0 = some (r1, r2)) :
 Calls Tryz.prog 30 #[.slice A0 l0.length c0] w fun e w' => ∃ v0_ : Value, e = .returned (.tuple #[v0_, .int .i64 r2]) ∧ Kd.V (Kd.slice 36 k36) 53 w' w.heap.size (fun k_ => (P0_ k_ ∨ w.heap.size ≤ k_)) v0_ r1 ∧ Below w.heap.size w w' := by
 have HO0 := Aside0.mk (show Kd.V (Kd.slice 36 k36) 53 w w.heap.size (fun k_ => (P0_ k_ ∨ w.heap.size ≤ k_)) (.slice A0 l0.length c0) l0 from Kd.V_mono hs0 (fun k_ hk => .inl hk))
 have HB := Aside0.mk (Below.refl w.heap.size w)
 have H : ((r6_Valid.f k l0).bind fun t460 => (if t460 = true then (r6_Distinct.l0 k l0 ([] : List (List (S36))) 0) else (some (([] : List (List (S36))), 1)))) = some (r1, r2) := h
 clear h
 replace H := Option.bind_eq_some_iff.mp H
 obtain ⟨t460, A20, H⟩ := H
 replace H : (if t460 = true then (r6_Distinct.l0 k l0 ([] : List (List (S36))) 0) else (some (([] : List (List (S36))), 1))) = some (r1, r2) := H
 have A2 := Aside0.mk A20
 clear A20
 by_cases c3 : t460 = true
 · subst c3
   have H1 : (r6_Distinct.l0 k l0 ([] : List (List (S36))) 0) = some (r1, r2) := by rw [if_pos rfl] at H; exact H
   clear H
   have H := H1
   clear H1
   have H' := Aside0.mk H
   clear H
   go_enter Tryz.func30, Tryz.ntmps30
   go_wp2_with (first | ((with_reducible refine gate_callee (f := 11) rfl ?_); refine goesL_ (some 7) rfl rfl Tryz.func11 (by kernel_rfl) rfl #[.slice A0 l0.length c0] rfl (by (try simp only [List.map_toArray, List.map_cons, List.map_nil]); first | done | rfl | (simp only [List.length_drop, List.length_take]; rfl)) ?_; (with_reducible refine (r6_Valid.calls k _ _ l0 true _ ?side1 ?side2 A2.out).mono ?_); (case side1 => repeat (first | exact (Kd.V_reads' HO0.out).2.2 | (with_reducible refine Kd.cA_ ?_ _) | (with_reducible refine Kd.cN_ ?_ _) | (with_reducible refine Kd.cD_ ?_))); (case side2 => exact (Kd.V_reads' HO0.out).2.1); rintro e w4 ⟨rfl, hb⟩; refine ⟨_, rfl, ?_⟩; have n0_ := Aside0.mk (Kd.V_below (by (with_reducible repeat (first | apply Kd.vA_ | apply Kd.vN_ | apply Kd.vD_)); exact HO0.out) hb); have n1_ := Aside0.mk (below_step (by repeat (first | (with_reducible first | exact HB.out | apply bA_ | apply bN_ | apply b1_) | exact HB.out)) hb); clear HO0; clear HB; have HO0 := n0_; have HB := n1_; clear n0_ n1_; (try clear hb); (try clear hb2); (try clear hk); (try clear hi)))
   go_loopg [4, 5] k (fun kq v4 v5 w' => ∃ (x4_1 : List (List (S36))) (x5_1 : Int), v5 = .int .i64 x5_1 ∧ Aside0 (r6_Distinct.l0 kq l0 x4_1 x5_1 = some (r1, r2)) ∧ Aside0 (kq ≤ k) ∧ Aside0 (Kd.V (Kd.slice 36 k36) 53 w' w.heap.size (fun k_ => (P0_ k_ ∨ w.heap.size ≤ k_) ∧ some k_ ≠ (v4 : Value).ownBlock) (.slice A0 l0.length c0) l0) ∧ Aside0 (Kd.N (Kd.slice 36 k36) 53 w' w.heap.size (fun k_ => (P0_ k_ ∨ w.heap.size ≤ k_)) v4 x4_1) ∧ Aside0 (Below w.heap.size w w'))
   case atStart => exact ⟨(([] : List (List (S36)))), (0), (by first | rfl | (simp; done) | (simp [*]; done)), H', ⟨Nat.le_refl _⟩, ⟨by (with_reducible repeat (first | apply Kd.vA_ | apply Kd.vN_ | apply Kd.vD_)); exact Kd.V_mono HO0.out (fun _ hk => ⟨hk, (by simp [Value.ownBlock])⟩)⟩, ⟨by first | exact Kd.S_nil _ _ _ _ _ | exact Kd.N_nil _ _ _ _ _ | exact Kd.V_nil _ _ _ _ _ | exact Kd.Q_nil _ _ _ _ _ | exact Kd.R_nil _ _ _ _ _⟩, ⟨by repeat (first | (with_reducible first | exact HB.out | apply bA_ | apply bN_ | apply b1_) | exact HB.out)⟩⟩
   case round =>
    clear H'
    try clear c1
    try clear p2
    try clear c3
    obtain ⟨x4_1, x5_1, rfl, HA, HK1, HO_0, HO_4, HB⟩ := hrel
    cases gk with
    | zero => exact absurd HA.out (by simp [r6_Distinct.l0])
    | succ k1 =>
     have H := HA.out
     clear HA
     simp only [r6_Distinct.l0] at H
     by_cases c5 : x5_1 < (l0.length : Int)
     · rw [if_pos c5] at H
       have c5b0 : decide (x5_1 < (l0.length : Int)) = true := dT_ c5
       clear c5
       by_cases c6 : 0 ≤ x5_1
       · rw [if_pos c6] at H
         have c6b0 : decide (0 ≤ x5_1) = true := dT_ c6
         clear c6
         replace H := Option.bind_eq_some_iff.mp H
         obtain ⟨t462, A70, H⟩ := H
         replace H : (if t462 = 0 then (if x4_1.length < 5864062014805 then (r6_Distinct.l0 k1 l0 (x4_1 ++ [rd_L4 l0 x5_1]) (wrap64 (x5_1 + 1))) else (none)) else (r6_Distinct.l0 k1 l0 x4_1 (wrap64 (x5_1 + 1)))) = some (r1, r2) := H
         have A7 := Aside0.mk A70
         clear A70
         by_cases c8 : t462 = 0
         · rw [if_pos c8] at H
           have c8b0 : (t462 == 0) = true := beq_iff_eq.mpr c8
           have c8b1 : (t462 != 0) = false := bne_eq_false_iff_eq.mpr c8
           clear c8
           by_cases c9 : x4_1.length < 5864062014805
           · rw [if_pos c9] at H
             have LMc9 := Aside0.mk c9
             clear c9
             obtain ⟨y464, hy464⟩ : ∃ y_ : List (List (S36)), y_ = (x4_1 ++ [rd_L4 l0 x5_1]) := ⟨_, rfl⟩
             replace H : (r6_Distinct.l0 k1 l0 y464 (wrap64 (x5_1 + 1))) = some (r1, r2) := by first | (rw [hy464]; with_reducible exact H) | (have H2_ := (Option.bind_some _ _).symm.trans H; rw [hy464]; with_reducible exact H2_) | (have H2_ := (Option.bind_some _ _).symm.trans H; with_reducible exact H2_) | with_reducible exact H | (rw [hy464]; exact H) | exact H
             have Ny464 := Aside0.mk hy464
             clear hy464
             have H' := Aside0.mk H
             clear H
             have p461 : 0 ≤ (x5_1 : Int) := oT_ (by assumption)
             have q461 : x5_1 < (l0.length : Int) := oT_ (by assumption)
             obtain ⟨ad461, A461_0, c461_0, e461, hx461_0, hl461_0, hi461_0⟩ := at_L4 (Kd.V_reads' HO_0.out).2.2 x5_1 p461 q461
             cases e461
             obtain ⟨ce461, hce461, hMe461, hcc461⟩ := Kd.V_get HO_0.out [] x5_1 p461 (by first | exact q461 | exact oT_ (by assumption) | (have e_ := (Kd.V_reads' HO_0.out).1; omega))
             obtain ⟨ua461_0, uc461_0, rfl, ul461_0, ge461_0⟩ := Kd.FK_slice_open hMe461
             have hv461_0 := hcc461 0 _ rfl
             rw [Nat.add_zero, show ((Kd.slice 36 k36)).sz = 1 from rfl, Nat.mul_one] at hv461_0
             replace hv461_0 := Option.some.inj (hv461_0.symm.trans hx461_0)
             injection hv461_0 with hva_ hvn_ hvc_
             rw [hva_] at ge461_0
             rw [hvc_] at ul461_0
             have HL461_0 := Aside0.mk (show Kd.V k36 36 _ w.heap.size _ _ (rd_L4 l0 x5_1) from Kd.V_mk ul461_0 ge461_0)
             clear hva_ hvn_ hvc_ ge461_0 ul461_0
             clear hcc461 hce461
             have HR461_0 := Aside0.mk hi461_0
             have HC461_0 := Aside0.mk hl461_0
             clear hi461_0 hl461_0
             replace p461 := eq_true p461
             replace q461 := eq_true q461
             obtain ⟨Ao10, co10, eo10⟩ := Kd.N_slice HO_4.out
             subst eo10
             go_wp2_with (first | ((with_reducible refine gate_callee (f := 44) rfl ?_); refine goesL_ (some 20) rfl rfl Tryz.func44 (by kernel_rfl) rfl #[.slice Ao10 x4_1.length co10, .slice A461_0 (rd_L4 l0 x5_1).length c461_0] rfl (by (try simp only [List.map_toArray, List.map_cons, List.map_nil]); first | done | rfl | (simp only [List.length_drop, List.length_take]; rfl)) ?_; (with_reducible refine (r6_Count.calls k1 _ _ x4_1 _ _ (rd_L4 l0 x5_1) t462 _ ?side1 ?side2 ?side3 ?side4 A7.out).mono ?_); (case side1 => repeat (first | exact (Kd.N_reads' HO_4.out).2.2 | (with_reducible refine Kd.cA_ ?_ _) | (with_reducible refine Kd.cN_ ?_ _) | (with_reducible refine Kd.cD_ ?_))); (case side2 => exact (Kd.N_reads' HO_4.out).2.1); (case side3 => repeat (first | exact (by repeat (first | (with_reducible exact HR461_0.out) | (with_reducible refine Kd.cA_ ?_ _) | (with_reducible refine Kd.cN_ ?_ _) | (with_reducible refine Kd.cD_ ?_) | exact HR461_0.out)) | (with_reducible refine Kd.cA_ ?_ _) | (with_reducible refine Kd.cN_ ?_ _) | (with_reducible refine Kd.cD_ ?_))); (case side4 => exact HC461_0.out); rintro e w11 ⟨rfl, hb⟩; refine ⟨_, rfl, ?_⟩; have n0_ := Aside0.mk (Kd.V_below (by (with_reducible repeat (first | apply Kd.vA_ | apply Kd.vN_ | apply Kd.vD_)); exact HO_0.out) hb); have n1_ := Aside0.mk (Kd.N_below (by (with_reducible repeat (first | apply Kd.nA_ | apply Kd.nN_ | apply Kd.nD_)); exact HO_4.out) hb); have n2_ := Aside0.mk (Kd.V_below (by (with_reducible repeat (first | apply Kd.vA_ | apply Kd.vN_ | apply Kd.vD_)); exact HL461_0.out) hb); have n3_ := Aside0.mk (Kd.C_below (by repeat (first | (with_reducible exact HR461_0.out) | (with_reducible refine Kd.cA_ ?_ _) | (with_reducible refine Kd.cN_ ?_ _) | (with_reducible refine Kd.cD_ ?_) | exact HR461_0.out)) hb); have n4_ := Aside0.mk (below_step (by repeat (first | (with_reducible first | exact HB.out | apply bA_ | apply bN_ | apply b1_) | exact HB.out)) hb); clear HO_0; clear HO_4; clear HL461_0; clear HR461_0; clear HB; have HO_0 := n0_; have HO_4 := n1_; have HL461_0 := n2_; have HR461_0 := n3_; have HB := n4_; clear n0_ n1_ n2_ n3_ n4_; (try clear hb); (try clear hb2); (try clear hk); (try clear hi); have p463 : 0 ≤ (x5_1 : Int) := oT_ (by assumption); have q463 : x5_1 < (l0.length : Int) := oT_ (by assumption); obtain ⟨ad463, A463_0, c463_0, e463, hx463_0, hl463_0, hi463_0⟩ := at_L4 (Kd.V_reads' HO_0.out).2.2 x5_1 p463 q463; obtain rfl : ad461 = ad463 := (by injection e463); obtain ⟨ce463, hce463, hMe463, hcc463⟩ := Kd.V_get HO_0.out [] x5_1 p463 (by first | exact q463 | exact oT_ (by assumption) | (have e_ := (Kd.V_reads' HO_0.out).1; omega)); obtain ⟨ua463_0, uc463_0, rfl, ul463_0, ge463_0⟩ := Kd.FK_slice_open hMe463; have hv463_0 := hcc463 0 _ rfl; rw [Nat.add_zero, show ((Kd.slice 36 k36)).sz = 1 from rfl, Nat.mul_one] at hv463_0; replace hv463_0 := Option.some.inj (hv463_0.symm.trans hx463_0); injection hv463_0 with hva_ hvn_ hvc_; rw [hva_] at ge463_0; rw [hvc_] at ul463_0; have HL463_0 := Aside0.mk (show Kd.V k36 36 _ w.heap.size _ _ (rd_L4 l0 x5_1) from Kd.V_mk ul463_0 ge463_0); clear hva_ hvn_ hvc_ ge463_0 ul463_0; clear hcc463 hce463; have HR463_0 := Aside0.mk hi463_0; have HC463_0 := Aside0.mk hl463_0; clear hi463_0 hl463_0; replace p463 := eq_true p463; replace q463 := eq_true q463) | ((with_reducible refine gate_builtin (b := .append) (xs := #[.tmp 22, .tmp 27]) rfl ?_); at_builtin; refine Kd.N_append (Kd.slice 36 k36) (w0 := w) w.heap.size rfl (.tmp 22) (.tmp 27) 22 53 (.slice none 0 0) 24 rfl Tryz.underlying22 info53 rfl (by decide) (by omega) (.slice Ao10 x4_1.length co10) x4_1 (rd_L4 l0 x5_1) [.slice A463_0 (rd_L4 l0 x5_1).length c463_0] (fun k_ => (P0_ k_ ∨ w.heap.size ≤ k_)) (fun k_ => ((fun k_ => (P0_ k_ ∨ w.heap.size ≤ k_))) k_ ∧ some k_ ≠ (.slice Ao10 x4_1.length co10 : Value).ownBlock) rfl rfl ?aP (fun _ hk => hk) ?aF ?aO ?aB ?aS ?aL ?_; (case aP => exact (Kd.FK_slice_mk (Kd.V_reads' (Kd.V_mono (ok' := (fun k_ => ((fun k_ => (P0_ k_ ∨ w.heap.size ≤ k_))) k_ ∧ some k_ ≠ (.slice Ao10 x4_1.length co10 : Value).ownBlock)) (HL463_0.out) (fun k_ hk => ⟨hk.1, hk.2⟩))).2.1 (Kd.V_F (Kd.V_mono (ok' := (fun k_ => ((fun k_ => (P0_ k_ ∨ w.heap.size ≤ k_))) k_ ∧ some k_ ≠ (.slice Ao10 x4_1.length co10 : Value).ownBlock)) (HL463_0.out) (fun k_ hk => ⟨hk.1, hk.2⟩))))); (case aB => exact (by repeat (first | (with_reducible first | exact HB.out | apply bA_ | apply bN_ | apply b1_) | exact HB.out))); (case aF => exact (fun k_ hk => (.inr (Nat.le_trans (below_size (by repeat (first | (with_reducible first | exact HB.out | apply bA_ | apply bN_ | apply b1_) | exact HB.out))) hk)))); (case aO => exact (by (with_reducible repeat (first | apply Kd.nA_ | apply Kd.nN_ | apply Kd.nD_)); exact HO_4.out)); (case aS => exact (below_size (by repeat (first | (with_reducible first | exact HB.out | apply bA_ | apply bN_ | apply b1_) | exact HB.out)))); (case aL => have := LMc9.out; omega); intro v465 w12 ho hb hg hat; rw [← Ny464.out] at ho; have n0_ := Aside0.mk (Kd.V_afterv (ok := (fun k_ => (P0_ k_ ∨ w.heap.size ≤ k_))) (by (with_reducible repeat (first | apply Kd.vA_ | apply Kd.vN_ | apply Kd.vD_)); exact HO_0.out) hg hat); have n1_ := Aside0.mk (Kd.V_afterv (ok := (fun k_ => (P0_ k_ ∨ w.heap.size ≤ k_))) (by (with_reducible repeat (first | apply Kd.vA_ | apply Kd.vN_ | apply Kd.vD_)); exact HL461_0.out) hg hat); have n2_ := Aside0.mk (Kd.V_afterv (ok := (fun k_ => (P0_ k_ ∨ w.heap.size ≤ k_))) (by (with_reducible repeat (first | apply Kd.vA_ | apply Kd.vN_ | apply Kd.vD_)); exact HL463_0.out) hg hat); have n3_ := Aside0.mk (hb); have n4_ := Aside0.mk (ho); clear HO_0; clear HL461_0; clear HL463_0; clear HB; clear HO_4; have HO_0 := n0_; have HL461_0 := n1_; have HL463_0 := n2_; have HB := n3_; have HO466 := n4_; clear n0_ n1_ n2_ n3_ n4_; clear ho hb hg hat))
             go_roundg k1
             case measure => have := HK1.out; omega
             case rel => exact ⟨(y464), (wrap64 (x5_1 + 1)), (by first | rfl | (simp; done) | (simp [*]; done)), H', ⟨by have := HK1.out; omega⟩, ⟨by (with_reducible repeat (first | apply Kd.vA_ | apply Kd.vN_ | apply Kd.vD_)); exact HO_0.out⟩, ⟨by (with_reducible repeat (first | apply Kd.nA_ | apply Kd.nN_ | apply Kd.nD_)); exact HO466.out⟩, ⟨by repeat (first | (with_reducible first | exact HB.out | apply bA_ | apply bN_ | apply b1_) | exact HB.out)⟩⟩
           · rw [if_neg c9] at H
             exact absurd H (by simp)
         · rw [if_neg c8] at H
           have c8b0 : (t462 == 0) = false := beq_eq_false_iff_ne.mpr c8
           have c8b1 : (t462 != 0) = true := bne_iff_ne.mpr c8
           have H' := Aside0.mk H
           clear H
           have p461 : 0 ≤ (x5_1 : Int) := oT_ (by assumption)
           have q461 : x5_1 < (l0.length : Int) := oT_ (by assumption)
           obtain ⟨ad461, A461_0, c461_0, e461, hx461_0, hl461_0, hi461_0⟩ := at_L4 (Kd.V_reads' HO_0.out).2.2 x5_1 p461 q461
           cases e461
           obtain ⟨ce461, hce461, hMe461, hcc461⟩ := Kd.V_get HO_0.out [] x5_1 p461 (by first | exact q461 | exact oT_ (by assumption) | (have e_ := (Kd.V_reads' HO_0.out).1; omega))
           obtain ⟨ua461_0, uc461_0, rfl, ul461_0, ge461_0⟩ := Kd.FK_slice_open hMe461
           have hv461_0 := hcc461 0 _ rfl
           rw [Nat.add_zero, show ((Kd.slice 36 k36)).sz = 1 from rfl, Nat.mul_one] at hv461_0
           replace hv461_0 := Option.some.inj (hv461_0.symm.trans hx461_0)
           injection hv461_0 with hva_ hvn_ hvc_
           rw [hva_] at ge461_0
           rw [hvc_] at ul461_0
           have HL461_0 := Aside0.mk (show Kd.V k36 36 _ w.heap.size _ _ (rd_L4 l0 x5_1) from Kd.V_mk ul461_0 ge461_0)
           clear hva_ hvn_ hvc_ ge461_0 ul461_0
           clear hcc461 hce461
           have HR461_0 := Aside0.mk hi461_0
           have HC461_0 := Aside0.mk hl461_0
           clear hi461_0 hl461_0
           replace p461 := eq_true p461
           replace q461 := eq_true q461
           obtain ⟨Ao13, co13, eo13⟩ := Kd.N_slice HO_4.out
           subst eo13
           go_wp2_with (first | ((with_reducible refine gate_callee (f := 44) rfl ?_); refine goesL_ (some 20) rfl rfl Tryz.func44 (by kernel_rfl) rfl #[.slice Ao13 x4_1.length co13, .slice A461_0 (rd_L4 l0 x5_1).length c461_0] rfl (by (try simp only [List.map_toArray, List.map_cons, List.map_nil]); first | done | rfl | (simp only [List.length_drop, List.length_take]; rfl)) ?_; (with_reducible refine (r6_Count.calls k1 _ _ x4_1 _ _ (rd_L4 l0 x5_1) t462 _ ?side1 ?side2 ?side3 ?side4 A7.out).mono ?_); (case side1 => repeat (first | exact (Kd.N_reads' HO_4.out).2.2 | (with_reducible refine Kd.cA_ ?_ _) | (with_reducible refine Kd.cN_ ?_ _) | (with_reducible refine Kd.cD_ ?_))); (case side2 => exact (Kd.N_reads' HO_4.out).2.1); (case side3 => repeat (first | exact (by repeat (first | (with_reducible exact HR461_0.out) | (with_reducible refine Kd.cA_ ?_ _) | (with_reducible refine Kd.cN_ ?_ _) | (with_reducible refine Kd.cD_ ?_) | exact HR461_0.out)) | (with_reducible refine Kd.cA_ ?_ _) | (with_reducible refine Kd.cN_ ?_ _) | (with_reducible refine Kd.cD_ ?_))); (case side4 => exact HC461_0.out); rintro e w14 ⟨rfl, hb⟩; refine ⟨_, rfl, ?_⟩; have n0_ := Aside0.mk (Kd.V_below (by (with_reducible repeat (first | apply Kd.vA_ | apply Kd.vN_ | apply Kd.vD_)); exact HO_0.out) hb); have n1_ := Aside0.mk (Kd.N_below (by (with_reducible repeat (first | apply Kd.nA_ | apply Kd.nN_ | apply Kd.nD_)); exact HO_4.out) hb); have n2_ := Aside0.mk (Kd.V_below (by (with_reducible repeat (first | apply Kd.vA_ | apply Kd.vN_ | apply Kd.vD_)); exact HL461_0.out) hb); have n3_ := Aside0.mk (Kd.C_below (by repeat (first | (with_reducible exact HR461_0.out) | (with_reducible refine Kd.cA_ ?_ _) | (with_reducible refine Kd.cN_ ?_ _) | (with_reducible refine Kd.cD_ ?_) | exact HR461_0.out)) hb); have n4_ := Aside0.mk (below_step (by repeat (first | (with_reducible first | exact HB.out | apply bA_ | apply bN_ | apply b1_) | exact HB.out)) hb); clear HO_0; clear HO_4; clear HL461_0; clear HR461_0; clear HB; have HO_0 := n0_; have HO_4 := n1_; have HL461_0 := n2_; have HR461_0 := n3_; have HB := n4_; clear n0_ n1_ n2_ n3_ n4_; (try clear hb); (try clear hb2); (try clear hk); (try clear hi)))
           go_roundg k1
           case measure => have := HK1.out; omega
           case rel => exact ⟨(x4_1), (wrap64 (x5_1 + 1)), (by first | rfl | (simp; done) | (simp [*]; done)), H', ⟨by have := HK1.out; omega⟩, ⟨by (with_reducible repeat (first | apply Kd.vA_ | apply Kd.vN_ | apply Kd.vD_)); exact HO_0.out⟩, ⟨by (with_reducible repeat (first | apply Kd.nA_ | apply Kd.nN_ | apply Kd.nD_)); exact HO_4.out⟩, ⟨by repeat (first | (with_reducible first | exact HB.out | apply bA_ | apply bN_ | apply b1_) | exact HB.out)⟩⟩
       · rw [if_neg c6] at H
         exact absurd H (by simp)
     · rw [if_neg c5] at H
       have c5b0 : decide (x5_1 < (l0.length : Int)) = false := dF_ c5
       clear c5
       replace H := Option.bind_eq_some_iff.mp H
       obtain ⟨t467, A150, H⟩ := H
       replace H : (some (t467, 0)) = some (r1, r2) := H
       have A15 := Aside0.mk A150
       clear A150
       simp only [Option.some.injEq, Prod.mk.injEq] at H
       obtain ⟨rfl, rfl⟩ := H
       obtain ⟨Ao16, co16, eo16⟩ := Kd.N_slice HO_4.out
       subst eo16
       go_wp2_with (first | ((with_reducible refine gate_callee (f := 67) rfl ?_); refine goesL_ (some 30) rfl rfl Tryz.func67 (by kernel_rfl) rfl #[.slice Ao16 x4_1.length co16, .slice none 0 0] rfl (by (try simp only [List.map_toArray, List.map_cons, List.map_nil]); first | done | rfl | (simp only [List.length_drop, List.length_take]; rfl)) ?_; (refine (r6_full.calls k1 _ _ x4_1 _ _ ([] : List (S64)) t467 _ ?side1 ?side2 ?side3 ?side4 A15.out).mono ?_); (case side1 => repeat (first | exact (Kd.N_reads' HO_4.out).2.2 | (with_reducible refine Kd.cA_ ?_ _) | (with_reducible refine Kd.cN_ ?_ _) | (with_reducible refine Kd.cD_ ?_))); (case side2 => exact (Kd.N_reads' HO_4.out).2.1); (case side3 => exact Kd.C_nil _ _); (case side4 => exact Nat.le_refl _); rintro e w17 ⟨v468, rfl, ho0, hb⟩; refine ⟨_, rfl, ?_⟩; have n0_ := Aside0.mk (Kd.V_below (by (with_reducible repeat (first | apply Kd.vA_ | apply Kd.vN_ | apply Kd.vD_)); exact HO_0.out) hb); have n1_ := Aside0.mk (Kd.N_below (by (with_reducible repeat (first | apply Kd.nA_ | apply Kd.nN_ | apply Kd.nD_)); exact HO_4.out) hb); have n2_ := Aside0.mk (Kd.V_lower (Kd.V_mono (ok' := fun k_ => (P0_ k_ ∨ w.heap.size ≤ k_) ∧ some k_ ≠ (.slice Ao16 x4_1.length co16 : Value).ownBlock) ho0 (fun k_ hk_ => ⟨(.inr (Nat.le_trans (below_size (by repeat (first | (with_reducible first | exact HB.out | apply bA_ | apply bN_ | apply b1_) | exact HB.out))) hk_)), (Kd.fresh' (Kd.N_lt (by (with_reducible repeat (first | apply Kd.nA_ | apply Kd.nN_ | apply Kd.nD_)); exact HO_4.out)) k_ hk_)⟩)) (below_size (by repeat (first | (with_reducible first | exact HB.out | apply bA_ | apply bN_ | apply b1_) | exact HB.out)))); have n3_ := Aside0.mk (below_step (by repeat (first | (with_reducible first | exact HB.out | apply bA_ | apply bN_ | apply b1_) | exact HB.out)) hb); clear HO_0; clear HO_4; clear HB; have HO_0 := n0_; have HO_4 := n1_; have HO469 := n2_; have HB := n3_; clear n0_ n1_ n2_ n3_; (try clear hb); (try clear hb2); (try clear hk); (try clear hi); (try clear ho0)))
       go_ret2
       exact ⟨_, by first | rfl | (simp [*, errW_none, errW_some] <;> rfl), by (with_reducible repeat (first | apply Kd.vA_ | apply Kd.vN_ | apply Kd.vD_)); exact Kd.V_mono HO469.out (fun _ hk => hk.1), by repeat (first | (with_reducible first | exact HB.out | apply bA_ | apply bN_ | apply b1_) | exact HB.out)⟩
 · replace c3 := Bool.eq_false_iff.mpr c3
   subst c3
   have H1 : (some (([] : List (List (S36))), 1)) = some (r1, r2) := by rw [if_neg (show ¬ (false = true) by decide)] at H; exact H
   clear H
   have H := H1
   clear H1
   simp only [Option.some.injEq, Prod.mk.injEq] at H
   obtain ⟨rfl, rfl⟩ := H
   go_enter Tryz.func30, Tryz.ntmps30
   go_wp2_with (first | ((with_reducible refine gate_callee (f := 11) rfl ?_); refine goesL_ (some 7) rfl rfl Tryz.func11 (by kernel_rfl) rfl #[.slice A0 l0.length c0] rfl (by (try simp only [List.map_toArray, List.map_cons, List.map_nil]); first | done | rfl | (simp only [List.length_drop, List.length_take]; rfl)) ?_; (with_reducible refine (r6_Valid.calls k _ _ l0 false _ ?side1 ?side2 A2.out).mono ?_); (case side1 => repeat (first | exact (Kd.V_reads' HO0.out).2.2 | (with_reducible refine Kd.cA_ ?_ _) | (with_reducible refine Kd.cN_ ?_ _) | (with_reducible refine Kd.cD_ ?_))); (case side2 => exact (Kd.V_reads' HO0.out).2.1); rintro e w18 ⟨rfl, hb⟩; refine ⟨_, rfl, ?_⟩; have n0_ := Aside0.mk (Kd.V_below (by (with_reducible repeat (first | apply Kd.vA_ | apply Kd.vN_ | apply Kd.vD_)); exact HO0.out) hb); have n1_ := Aside0.mk (below_step (by repeat (first | (with_reducible first | exact HB.out | apply bA_ | apply bN_ | apply b1_) | exact HB.out)) hb); clear HO0; clear HB; have HO0 := n0_; have HB := n1_; clear n0_ n1_; (try clear hb); (try clear hb2); (try clear hk); (try clear hi)))
   go_ret2
   exact ⟨.slice none 0 0, by first | rfl | (simp [*, errW_none, errW_some] <;> rfl), Kd.V_nil _ _ _ _ _, by repeat (first | (with_reducible first | exact HB.out | apply bA_ | apply bN_ | apply b1_) | exact HB.out)⟩
mutual
def r6_together.l0 : Nat → List (List (S36)) → List (List (S36)) → List (List (S36)) → Int → Option ((List (List (S36))))
 | 0, _, _, _, _ => none
 | k + 1, x0, x1, x5, x6 => if x6 < (x0.length : Int) then (if 0 ≤ x6 then (if x5.length < 5864062014805 then (r6_together.l0 k x0 x1 (x5 ++ [rd_L4 x0 x6]) (wrap64 (x6 + 1))) else (none)) else (none)) else (r6_together.l1 k x1 x5 0)
def r6_together.l1 : Nat → List (List (S36)) → List (List (S36)) → Int → Option ((List (List (S36))))
 | 0, _, _, _ => none
 | k + 1, x1, x5, x7 => if x7 < (x1.length : Int) then (if 0 ≤ x7 then (if x5.length < 5864062014805 then (r6_together.l1 k x1 (x5 ++ [rd_L4 x1 x7]) (wrap64 (x7 + 1))) else (none)) else (none)) else (some x5)
end
def r6_together.f (k : Nat) (l0 : List (List (S36))) (l1 : List (List (S36))) : Option ((List (List (S36)))) := r6_together.l0 k l0 l1 ([] : List (List (S36))) 0
theorem r6_together.calls (k : Nat) (P0_ : Nat → Prop) (A0 : Option Addr) (c0 : Nat) (l0 : List (List (S36))) (P1_ : Nat → Prop) (A1 : Option Addr) (c1 : Nat) (l1 : List (List (S36))) (r : List (List (S36))) (w : World) (hs0 : Kd.V (Kd.slice 36 k36) 53 w w.heap.size (fun k_ => P0_ k_) (.slice A0 l0.length c0) l0) (hs1 : Kd.V (Kd.slice 36 k36) 53 w w.heap.size (fun k_ => P1_ k_) (.slice A1 l1.length c1) l1) (h : r6_together.f k l0 l1 = some r) :
 Calls Tryz.prog 70 #[.slice A0 l0.length c0, .slice A1 l1.length c1] w fun e w' => ∃ v0_ : Value, e = .returned (v0_) ∧ Kd.N (Kd.slice 36 k36) 53 w' w.heap.size (fun k_ => ((P0_ k_ ∨ P1_ k_) ∨ w.heap.size ≤ k_)) v0_ r ∧ Below w.heap.size w w' := by
 have HO0 := Aside0.mk (show Kd.V (Kd.slice 36 k36) 53 w w.heap.size (fun k_ => ((P0_ k_ ∨ P1_ k_) ∨ w.heap.size ≤ k_)) (.slice A0 l0.length c0) l0 from Kd.V_mono hs0 (fun k_ hk => .inl (.inl hk)))
 have HO1 := Aside0.mk (show Kd.V (Kd.slice 36 k36) 53 w w.heap.size (fun k_ => ((P0_ k_ ∨ P1_ k_) ∨ w.heap.size ≤ k_)) (.slice A1 l1.length c1) l1 from Kd.V_mono hs1 (fun k_ hk => .inl (.inr hk)))
 have HB := Aside0.mk (Below.refl w.heap.size w)
 have H : (r6_together.l0 k l0 l1 ([] : List (List (S36))) 0) = some r := h
 clear h
 have H' := Aside0.mk H
 clear H
 go_enter Tryz.func70, Tryz.ntmps70
 go_wp2
 go_loopg [5, 6] k (fun kq v5 v6 w' => ∃ (x5_1 : List (List (S36))) (x6_1 : Int), v6 = .int .i64 x6_1 ∧ Aside0 (r6_together.l0 kq l0 l1 x5_1 x6_1 = some r) ∧ Aside0 (kq ≤ k) ∧ Aside0 (Kd.V (Kd.slice 36 k36) 53 w' w.heap.size (fun k_ => ((P0_ k_ ∨ P1_ k_) ∨ w.heap.size ≤ k_) ∧ some k_ ≠ (v5 : Value).ownBlock) (.slice A0 l0.length c0) l0) ∧ Aside0 (Kd.V (Kd.slice 36 k36) 53 w' w.heap.size (fun k_ => ((P0_ k_ ∨ P1_ k_) ∨ w.heap.size ≤ k_) ∧ some k_ ≠ (v5 : Value).ownBlock) (.slice A1 l1.length c1) l1) ∧ Aside0 (Kd.N (Kd.slice 36 k36) 53 w' w.heap.size (fun k_ => ((P0_ k_ ∨ P1_ k_) ∨ w.heap.size ≤ k_)) v5 x5_1) ∧ Aside0 (Below w.heap.size w w'))
 case atStart => exact ⟨(([] : List (List (S36)))), (0), (by first | rfl | (simp; done) | (simp [*]; done)), H', ⟨Nat.le_refl _⟩, ⟨by (with_reducible repeat (first | apply Kd.vA_ | apply Kd.vN_ | apply Kd.vD_)); exact Kd.V_mono HO0.out (fun _ hk => ⟨hk, (by simp [Value.ownBlock])⟩)⟩, ⟨by (with_reducible repeat (first | apply Kd.vA_ | apply Kd.vN_ | apply Kd.vD_)); exact Kd.V_mono HO1.out (fun _ hk => ⟨hk, (by simp [Value.ownBlock])⟩)⟩, ⟨by first | exact Kd.S_nil _ _ _ _ _ | exact Kd.N_nil _ _ _ _ _ | exact Kd.V_nil _ _ _ _ _ | exact Kd.Q_nil _ _ _ _ _ | exact Kd.R_nil _ _ _ _ _⟩, ⟨by repeat (first | (with_reducible first | exact HB.out | apply bA_ | apply bN_ | apply b1_) | exact HB.out)⟩⟩
 case round =>
  clear H'
  try clear c1
  try clear p2
  obtain ⟨x5_1, x6_1, rfl, HA, HK1, HO_0, HO_1, HO_5, HB⟩ := hrel
  cases gk with
  | zero => exact absurd HA.out (by simp [r6_together.l0])
  | succ k1 =>
   have H := HA.out
   clear HA
   simp only [r6_together.l0] at H
   by_cases c3 : x6_1 < (l0.length : Int)
   · rw [if_pos c3] at H
     have c3b0 : decide (x6_1 < (l0.length : Int)) = true := dT_ c3
     clear c3
     by_cases c4 : 0 ≤ x6_1
     · rw [if_pos c4] at H
       have c4b0 : decide (0 ≤ x6_1) = true := dT_ c4
       clear c4
       by_cases c5 : x5_1.length < 5864062014805
       · rw [if_pos c5] at H
         have LMc5 := Aside0.mk c5
         clear c5
         obtain ⟨y471, hy471⟩ : ∃ y_ : List (List (S36)), y_ = (x5_1 ++ [rd_L4 l0 x6_1]) := ⟨_, rfl⟩
         replace H : (r6_together.l0 k1 l0 l1 y471 (wrap64 (x6_1 + 1))) = some r := by first | (rw [hy471]; with_reducible exact H) | (have H2_ := (Option.bind_some _ _).symm.trans H; rw [hy471]; with_reducible exact H2_) | (have H2_ := (Option.bind_some _ _).symm.trans H; with_reducible exact H2_) | with_reducible exact H | (rw [hy471]; exact H) | exact H
         have Ny471 := Aside0.mk hy471
         clear hy471
         have H' := Aside0.mk H
         clear H
         have p470 : 0 ≤ (x6_1 : Int) := oT_ (by assumption)
         have q470 : x6_1 < (l0.length : Int) := oT_ (by assumption)
         obtain ⟨ad470, A470_0, c470_0, e470, hx470_0, hl470_0, hi470_0⟩ := at_L4 (Kd.V_reads' HO_0.out).2.2 x6_1 p470 q470
         cases e470
         obtain ⟨ce470, hce470, hMe470, hcc470⟩ := Kd.V_get HO_0.out [] x6_1 p470 (by first | exact q470 | exact oT_ (by assumption) | (have e_ := (Kd.V_reads' HO_0.out).1; omega))
         obtain ⟨ua470_0, uc470_0, rfl, ul470_0, ge470_0⟩ := Kd.FK_slice_open hMe470
         have hv470_0 := hcc470 0 _ rfl
         rw [Nat.add_zero, show ((Kd.slice 36 k36)).sz = 1 from rfl, Nat.mul_one] at hv470_0
         replace hv470_0 := Option.some.inj (hv470_0.symm.trans hx470_0)
         injection hv470_0 with hva_ hvn_ hvc_
         rw [hva_] at ge470_0
         rw [hvc_] at ul470_0
         have HL470_0 := Aside0.mk (show Kd.V k36 36 _ w.heap.size _ _ (rd_L4 l0 x6_1) from Kd.V_mk ul470_0 ge470_0)
         clear hva_ hvn_ hvc_ ge470_0 ul470_0
         clear hcc470 hce470
         have HR470_0 := Aside0.mk hi470_0
         have HC470_0 := Aside0.mk hl470_0
         clear hi470_0 hl470_0
         replace p470 := eq_true p470
         replace q470 := eq_true q470
         go_wp2_with (first | ((with_reducible refine gate_builtin (b := .append) (xs := #[.tmp 14, .tmp 19]) rfl ?_); at_builtin; refine Kd.N_append (Kd.slice 36 k36) (w0 := w) w.heap.size rfl (.tmp 14) (.tmp 19) 22 53 (.slice none 0 0) 24 rfl Tryz.underlying22 info53 rfl (by decide) (by omega) u5 x5_1 (rd_L4 l0 x6_1) [.slice A470_0 (rd_L4 l0 x6_1).length c470_0] (fun k_ => ((P0_ k_ ∨ P1_ k_) ∨ w.heap.size ≤ k_)) (fun k_ => ((fun k_ => ((P0_ k_ ∨ P1_ k_) ∨ w.heap.size ≤ k_))) k_ ∧ some k_ ≠ (u5 : Value).ownBlock) rfl rfl ?aP (fun _ hk => hk) ?aF ?aO ?aB ?aS ?aL ?_; (case aP => exact (Kd.FK_slice_mk (Kd.V_reads' (Kd.V_mono (ok' := (fun k_ => ((fun k_ => ((P0_ k_ ∨ P1_ k_) ∨ w.heap.size ≤ k_))) k_ ∧ some k_ ≠ (u5 : Value).ownBlock)) (HL470_0.out) (fun k_ hk => ⟨hk.1, hk.2⟩))).2.1 (Kd.V_F (Kd.V_mono (ok' := (fun k_ => ((fun k_ => ((P0_ k_ ∨ P1_ k_) ∨ w.heap.size ≤ k_))) k_ ∧ some k_ ≠ (u5 : Value).ownBlock)) (HL470_0.out) (fun k_ hk => ⟨hk.1, hk.2⟩))))); (case aB => exact (by repeat (first | (with_reducible first | exact HB.out | apply bA_ | apply bN_ | apply b1_) | exact HB.out))); (case aF => exact (fun k_ hk => (.inr (Nat.le_trans (below_size (by repeat (first | (with_reducible first | exact HB.out | apply bA_ | apply bN_ | apply b1_) | exact HB.out))) hk)))); (case aO => exact (by (with_reducible repeat (first | apply Kd.nA_ | apply Kd.nN_ | apply Kd.nD_)); exact HO_5.out)); (case aS => exact (below_size (by repeat (first | (with_reducible first | exact HB.out | apply bA_ | apply bN_ | apply b1_) | exact HB.out)))); (case aL => have := LMc5.out; omega); intro v472 w6 ho hb hg hat; rw [← Ny471.out] at ho; have n0_ := Aside0.mk (Kd.V_afterv (ok := (fun k_ => ((P0_ k_ ∨ P1_ k_) ∨ w.heap.size ≤ k_))) (by (with_reducible repeat (first | apply Kd.vA_ | apply Kd.vN_ | apply Kd.vD_)); exact HO_0.out) hg hat); have n1_ := Aside0.mk (Kd.V_afterv (ok := (fun k_ => ((P0_ k_ ∨ P1_ k_) ∨ w.heap.size ≤ k_))) (by (with_reducible repeat (first | apply Kd.vA_ | apply Kd.vN_ | apply Kd.vD_)); exact HO_1.out) hg hat); have n2_ := Aside0.mk (Kd.V_afterv (ok := (fun k_ => ((P0_ k_ ∨ P1_ k_) ∨ w.heap.size ≤ k_))) (by (with_reducible repeat (first | apply Kd.vA_ | apply Kd.vN_ | apply Kd.vD_)); exact HL470_0.out) hg hat); have n3_ := Aside0.mk (hb); have n4_ := Aside0.mk (ho); clear HO_0; clear HO_1; clear HL470_0; clear HB; clear HO_5; have HO_0 := n0_; have HO_1 := n1_; have HL470_0 := n2_; have HB := n3_; have HO473 := n4_; clear n0_ n1_ n2_ n3_ n4_; clear ho hb hg hat))
         go_roundg k1
         case measure => have := HK1.out; omega
         case rel => exact ⟨(y471), (wrap64 (x6_1 + 1)), (by first | rfl | (simp; done) | (simp [*]; done)), H', ⟨by have := HK1.out; omega⟩, ⟨by (with_reducible repeat (first | apply Kd.vA_ | apply Kd.vN_ | apply Kd.vD_)); exact HO_0.out⟩, ⟨by (with_reducible repeat (first | apply Kd.vA_ | apply Kd.vN_ | apply Kd.vD_)); exact HO_1.out⟩, ⟨by (with_reducible repeat (first | apply Kd.nA_ | apply Kd.nN_ | apply Kd.nD_)); exact HO473.out⟩, ⟨by repeat (first | (with_reducible first | exact HB.out | apply bA_ | apply bN_ | apply b1_) | exact HB.out)⟩⟩
       · rw [if_neg c5] at H
         exact absurd H (by simp)
     · rw [if_neg c4] at H
       exact absurd H (by simp)
   · rw [if_neg c3] at H
     have c3b0 : decide (x6_1 < (l0.length : Int)) = false := dF_ c3
     clear c3
     have H' := Aside0.mk H
     clear H
     go_wp2
     go_loopg [5, 7] k1 (fun kq v5 v7 w' => ∃ (x5_2 : List (List (S36))) (x7_2 : Int), v7 = .int .i64 x7_2 ∧ Aside0 (r6_together.l1 kq l1 x5_2 x7_2 = some r) ∧ Aside0 (kq ≤ k1) ∧ Aside0 (Kd.V (Kd.slice 36 k36) 53 w' w.heap.size (fun k_ => ((P0_ k_ ∨ P1_ k_) ∨ w.heap.size ≤ k_) ∧ some k_ ≠ (v5 : Value).ownBlock) (.slice A1 l1.length c1) l1) ∧ Aside0 (Kd.N (Kd.slice 36 k36) 53 w' w.heap.size (fun k_ => ((P0_ k_ ∨ P1_ k_) ∨ w.heap.size ≤ k_)) v5 x5_2) ∧ Aside0 (Below w.heap.size w w'))
     case atStart => exact ⟨(x5_1), (0), (by first | rfl | (simp; done) | (simp [*]; done)), H', ⟨Nat.le_refl _⟩, ⟨by (with_reducible repeat (first | apply Kd.vA_ | apply Kd.vN_ | apply Kd.vD_)); exact HO_1.out⟩, ⟨by (with_reducible repeat (first | apply Kd.nA_ | apply Kd.nN_ | apply Kd.nD_)); exact HO_5.out⟩, ⟨by repeat (first | (with_reducible first | exact HB.out | apply bA_ | apply bN_ | apply b1_) | exact HB.out)⟩⟩
     case round =>
      clear H'
      try clear c1
      try clear p2
      try clear c3
      try clear c3b0
      try clear c4
      try clear c4b0
      try clear p4
      try clear q4
      try clear hx4
      try clear c5
      try clear p6
      try clear hx470_0
      try clear p2
      try clear p470
      try clear q470
      obtain ⟨x5_2, x7_2, rfl, HA, HK2, HO_1, HO_5, HB⟩ := hrel
      cases gk with
      | zero => exact absurd HA.out (by simp [r6_together.l1])
      | succ k2 =>
       have H := HA.out
       clear HA
       simp only [r6_together.l1] at H
       by_cases c7 : x7_2 < (l1.length : Int)
       · rw [if_pos c7] at H
         have c7b0 : decide (x7_2 < (l1.length : Int)) = true := dT_ c7
         clear c7
         by_cases c8 : 0 ≤ x7_2
         · rw [if_pos c8] at H
           have c8b0 : decide (0 ≤ x7_2) = true := dT_ c8
           clear c8
           by_cases c9 : x5_2.length < 5864062014805
           · rw [if_pos c9] at H
             have LMc9 := Aside0.mk c9
             clear c9
             obtain ⟨y475, hy475⟩ : ∃ y_ : List (List (S36)), y_ = (x5_2 ++ [rd_L4 l1 x7_2]) := ⟨_, rfl⟩
             replace H : (r6_together.l1 k2 l1 y475 (wrap64 (x7_2 + 1))) = some r := by first | (rw [hy475]; with_reducible exact H) | (have H2_ := (Option.bind_some _ _).symm.trans H; rw [hy475]; with_reducible exact H2_) | (have H2_ := (Option.bind_some _ _).symm.trans H; with_reducible exact H2_) | with_reducible exact H | (rw [hy475]; exact H) | exact H
             have Ny475 := Aside0.mk hy475
             clear hy475
             have H' := Aside0.mk H
             clear H
             have p474 : 0 ≤ (x7_2 : Int) := oT_ (by assumption)
             have q474 : x7_2 < (l1.length : Int) := oT_ (by assumption)
             obtain ⟨ad474, A474_0, c474_0, e474, hx474_0, hl474_0, hi474_0⟩ := at_L4 (Kd.V_reads' HO_1.out).2.2 x7_2 p474 q474
             cases e474
             obtain ⟨ce474, hce474, hMe474, hcc474⟩ := Kd.V_get HO_1.out [] x7_2 p474 (by first | exact q474 | exact oT_ (by assumption) | (have e_ := (Kd.V_reads' HO_1.out).1; omega))
             obtain ⟨ua474_0, uc474_0, rfl, ul474_0, ge474_0⟩ := Kd.FK_slice_open hMe474
             have hv474_0 := hcc474 0 _ rfl
             rw [Nat.add_zero, show ((Kd.slice 36 k36)).sz = 1 from rfl, Nat.mul_one] at hv474_0
             replace hv474_0 := Option.some.inj (hv474_0.symm.trans hx474_0)
             injection hv474_0 with hva_ hvn_ hvc_
             rw [hva_] at ge474_0
             rw [hvc_] at ul474_0
             have HL474_0 := Aside0.mk (show Kd.V k36 36 _ w.heap.size _ _ (rd_L4 l1 x7_2) from Kd.V_mk ul474_0 ge474_0)
             clear hva_ hvn_ hvc_ ge474_0 ul474_0
             clear hcc474 hce474
             have HR474_0 := Aside0.mk hi474_0
             have HC474_0 := Aside0.mk hl474_0
             clear hi474_0 hl474_0
             replace p474 := eq_true p474
             replace q474 := eq_true q474
             go_wp2_with (first | ((with_reducible refine gate_builtin (b := .append) (xs := #[.tmp 27, .tmp 32]) rfl ?_); at_builtin; refine Kd.N_append (Kd.slice 36 k36) (w0 := w) w.heap.size rfl (.tmp 27) (.tmp 32) 22 53 (.slice none 0 0) 24 rfl Tryz.underlying22 info53 rfl (by decide) (by omega) u5 x5_2 (rd_L4 l1 x7_2) [.slice A474_0 (rd_L4 l1 x7_2).length c474_0] (fun k_ => ((P0_ k_ ∨ P1_ k_) ∨ w.heap.size ≤ k_)) (fun k_ => ((fun k_ => ((P0_ k_ ∨ P1_ k_) ∨ w.heap.size ≤ k_))) k_ ∧ some k_ ≠ (u5 : Value).ownBlock) rfl rfl ?aP (fun _ hk => hk) ?aF ?aO ?aB ?aS ?aL ?_; (case aP => exact (Kd.FK_slice_mk (Kd.V_reads' (Kd.V_mono (ok' := (fun k_ => ((fun k_ => ((P0_ k_ ∨ P1_ k_) ∨ w.heap.size ≤ k_))) k_ ∧ some k_ ≠ (u5 : Value).ownBlock)) (HL474_0.out) (fun k_ hk => ⟨hk.1, hk.2⟩))).2.1 (Kd.V_F (Kd.V_mono (ok' := (fun k_ => ((fun k_ => ((P0_ k_ ∨ P1_ k_) ∨ w.heap.size ≤ k_))) k_ ∧ some k_ ≠ (u5 : Value).ownBlock)) (HL474_0.out) (fun k_ hk => ⟨hk.1, hk.2⟩))))); (case aB => exact (by repeat (first | (with_reducible first | exact HB.out | apply bA_ | apply bN_ | apply b1_) | exact HB.out))); (case aF => exact (fun k_ hk => (.inr (Nat.le_trans (below_size (by repeat (first | (with_reducible first | exact HB.out | apply bA_ | apply bN_ | apply b1_) | exact HB.out))) hk)))); (case aO => exact (by (with_reducible repeat (first | apply Kd.nA_ | apply Kd.nN_ | apply Kd.nD_)); exact HO_5.out)); (case aS => exact (below_size (by repeat (first | (with_reducible first | exact HB.out | apply bA_ | apply bN_ | apply b1_) | exact HB.out)))); (case aL => have := LMc9.out; omega); intro v476 w10 ho hb hg hat; rw [← Ny475.out] at ho; have n0_ := Aside0.mk (Kd.V_afterv (ok := (fun k_ => ((P0_ k_ ∨ P1_ k_) ∨ w.heap.size ≤ k_))) (by (with_reducible repeat (first | apply Kd.vA_ | apply Kd.vN_ | apply Kd.vD_)); exact HO_1.out) hg hat); have n1_ := Aside0.mk (Kd.V_afterv (ok := (fun k_ => ((P0_ k_ ∨ P1_ k_) ∨ w.heap.size ≤ k_))) (by (with_reducible repeat (first | apply Kd.vA_ | apply Kd.vN_ | apply Kd.vD_)); exact HL474_0.out) hg hat); have n2_ := Aside0.mk (hb); have n3_ := Aside0.mk (ho); clear HO_1; clear HL474_0; clear HB; clear HO_5; have HO_1 := n0_; have HL474_0 := n1_; have HB := n2_; have HO477 := n3_; clear n0_ n1_ n2_ n3_; clear ho hb hg hat))
             go_roundg k2
             case measure => have := HK1.out; have := HK2.out; omega
             case rel => exact ⟨(y475), (wrap64 (x7_2 + 1)), (by first | rfl | (simp; done) | (simp [*]; done)), H', ⟨by have := HK1.out; have := HK2.out; omega⟩, ⟨by (with_reducible repeat (first | apply Kd.vA_ | apply Kd.vN_ | apply Kd.vD_)); exact HO_1.out⟩, ⟨by (with_reducible repeat (first | apply Kd.nA_ | apply Kd.nN_ | apply Kd.nD_)); exact HO477.out⟩, ⟨by repeat (first | (with_reducible first | exact HB.out | apply bA_ | apply bN_ | apply b1_) | exact HB.out)⟩⟩
           · rw [if_neg c9] at H
             exact absurd H (by simp)
         · rw [if_neg c8] at H
           exact absurd H (by simp)
       · rw [if_neg c7] at H
         have c7b0 : decide (x7_2 < (l1.length : Int)) = false := dF_ c7
         clear c7
         obtain rfl := Option.some.inj H
         go_wp2
         go_ret
         exact ⟨_, by first | rfl | (simp [*, errW_none, errW_some] <;> rfl), by (with_reducible repeat (first | apply Kd.nA_ | apply Kd.nN_ | apply Kd.nD_)); exact HO_5.out, by repeat (first | (with_reducible first | exact HB.out | apply bA_ | apply bN_ | apply b1_) | exact HB.out)⟩
def r6_Union.f (k : Nat) (l0 : List (List (S36))) (l1 : List (List (S36))) : Option ((List (List (S36))) × Int) := (r6_together.f k l0 l1).bind fun t478 => ((r6_Valid.f k t478).bind fun t481 => (if t481 = true then ((r6_full.f k t478 ([] : List (S64))).bind fun t482 => (some (t482, 0))) else (some (([] : List (List (S36))), 1))))
theorem r6_Union.calls (k : Nat) (P0_ : Nat → Prop) (A0 : Option Addr) (c0 : Nat) (l0 : List (List (S36))) (P1_ : Nat → Prop) (A1 : Option Addr) (c1 : Nat) (l1 : List (List (S36))) (r1 : List (List (S36))) (r2 : Int) (w : World) (hs0 : Kd.V (Kd.slice 36 k36) 53 w w.heap.size (fun k_ => P0_ k_) (.slice A0 l0.length c0) l0) (hs1 : Kd.V (Kd.slice 36 k36) 53 w w.heap.size (fun k_ => P1_ k_) (.slice A1 l1.length c1) l1) (h : r6_Union.f k l0 l1 = some (r1, r2)) :
 Calls Tryz.prog 32 #[.slice A0 l0.length c0, .slice A1 l1.length c1] w fun e w' => ∃ v0_ : Value, e = .returned (.tuple #[v0_, .int .i64 r2]) ∧ Kd.V (Kd.slice 36 k36) 53 w' w.heap.size (fun k_ => ((P0_ k_ ∨ P1_ k_) ∨ w.heap.size ≤ k_)) v0_ r1 ∧ Below w.heap.size w w' := by
 have HO0 := Aside0.mk (show Kd.V (Kd.slice 36 k36) 53 w w.heap.size (fun k_ => ((P0_ k_ ∨ P1_ k_) ∨ w.heap.size ≤ k_)) (.slice A0 l0.length c0) l0 from Kd.V_mono hs0 (fun k_ hk => .inl (.inl hk)))
 have HO1 := Aside0.mk (show Kd.V (Kd.slice 36 k36) 53 w w.heap.size (fun k_ => ((P0_ k_ ∨ P1_ k_) ∨ w.heap.size ≤ k_)) (.slice A1 l1.length c1) l1 from Kd.V_mono hs1 (fun k_ hk => .inl (.inr hk)))
 have HB := Aside0.mk (Below.refl w.heap.size w)
 have H : ((r6_together.f k l0 l1).bind fun t478 => ((r6_Valid.f k t478).bind fun t481 => (if t481 = true then ((r6_full.f k t478 ([] : List (S64))).bind fun t482 => (some (t482, 0))) else (some (([] : List (List (S36))), 1))))) = some (r1, r2) := h
 clear h
 replace H := Option.bind_eq_some_iff.mp H
 obtain ⟨t478, A30, H⟩ := H
 replace H : ((r6_Valid.f k t478).bind fun t481 => (if t481 = true then ((r6_full.f k t478 ([] : List (S64))).bind fun t482 => (some (t482, 0))) else (some (([] : List (List (S36))), 1)))) = some (r1, r2) := H
 have A3 := Aside0.mk A30
 clear A30
 replace H := Option.bind_eq_some_iff.mp H
 obtain ⟨t481, A40, H⟩ := H
 replace H : (if t481 = true then ((r6_full.f k t478 ([] : List (S64))).bind fun t482 => (some (t482, 0))) else (some (([] : List (List (S36))), 1))) = some (r1, r2) := H
 have A4 := Aside0.mk A40
 clear A40
 by_cases c5 : t481 = true
 · subst c5
   have H1 : ((r6_full.f k t478 ([] : List (S64))).bind fun t482 => (some (t482, 0))) = some (r1, r2) := by rw [if_pos rfl] at H; exact H
   clear H
   have H := H1
   clear H1
   replace H := Option.bind_eq_some_iff.mp H
   obtain ⟨t482, A60, H⟩ := H
   replace H : (some (t482, 0)) = some (r1, r2) := H
   have A6 := Aside0.mk A60
   clear A60
   simp only [Option.some.injEq, Prod.mk.injEq] at H
   obtain ⟨rfl, rfl⟩ := H
   go_enter Tryz.func32, Tryz.ntmps32
   go_wp2_with (first | ((with_reducible refine gate_callee (f := 70) rfl ?_); refine goesL_ (some 9) rfl rfl Tryz.func70 (by kernel_rfl) rfl #[.slice A0 l0.length c0, .slice A1 l1.length c1] rfl (by (try simp only [List.map_toArray, List.map_cons, List.map_nil]); first | done | rfl | (simp only [List.length_drop, List.length_take]; rfl)) ?_; (with_reducible refine (r6_together.calls k (fun k_ => ((P0_ k_ ∨ P1_ k_) ∨ w.heap.size ≤ k_)) _ _ l0 (fun k_ => ((P0_ k_ ∨ P1_ k_) ∨ w.heap.size ≤ k_)) _ _ l1 t478 _ ?side1 ?side2 A3.out).mono ?_); (case side1 => exact HO0.out); (case side2 => exact HO1.out); rintro e w7 ⟨v479, rfl, ho0, hb⟩; refine ⟨_, rfl, ?_⟩; have n0_ := Aside0.mk (Kd.V_elder' (by (with_reducible repeat (first | apply Kd.vA_ | apply Kd.vN_ | apply Kd.vD_)); exact HO0.out) (Kd.N_base ho0) hb); have n1_ := Aside0.mk (Kd.V_elder' (by (with_reducible repeat (first | apply Kd.vA_ | apply Kd.vN_ | apply Kd.vD_)); exact HO1.out) (Kd.N_base ho0) hb); have n2_ := Aside0.mk (Kd.N_lower (Kd.N_mono (ok' := fun k_ => ((P0_ k_ ∨ P1_ k_) ∨ w.heap.size ≤ k_)) ho0 (fun k_ hk_ => Or.elim hk_ (fun hs_ => Or.elim hs_ (fun hs_ => hs_) (fun hs_ => hs_)) (fun hn_ => (.inr (Nat.le_trans (below_size (by repeat (first | (with_reducible first | exact HB.out | apply bA_ | apply bN_ | apply b1_) | exact HB.out))) hn_))))) (below_size (by repeat (first | (with_reducible first | exact HB.out | apply bA_ | apply bN_ | apply b1_) | exact HB.out)))); have n3_ := Aside0.mk (below_step (by repeat (first | (with_reducible first | exact HB.out | apply bA_ | apply bN_ | apply b1_) | exact HB.out)) hb); clear HO0; clear HO1; clear HB; have HO0 := n0_; have HO1 := n1_; have HO480 := n2_; have HB := n3_; clear n0_ n1_ n2_ n3_; (try clear hb); (try clear hb2); (try clear hk); (try clear hi); (try clear ho0); obtain ⟨Ao8, co8, eo8⟩ := Kd.N_slice HO480.out; subst eo8) | ((with_reducible refine gate_callee (f := 11) rfl ?_); refine goesL_ (some 11) rfl rfl Tryz.func11 (by kernel_rfl) rfl #[.slice Ao8 t478.length co8] rfl (by (try simp only [List.map_toArray, List.map_cons, List.map_nil]); first | done | rfl | (simp only [List.length_drop, List.length_take]; rfl)) ?_; (with_reducible refine (r6_Valid.calls k _ _ t478 true _ ?side1 ?side2 A4.out).mono ?_); (case side1 => repeat (first | exact (Kd.N_reads' HO480.out).2.2 | (with_reducible refine Kd.cA_ ?_ _) | (with_reducible refine Kd.cN_ ?_ _) | (with_reducible refine Kd.cD_ ?_))); (case side2 => exact (Kd.N_reads' HO480.out).2.1); rintro e w9 ⟨rfl, hb⟩; refine ⟨_, rfl, ?_⟩; have n0_ := Aside0.mk (Kd.V_below (by (with_reducible repeat (first | apply Kd.vA_ | apply Kd.vN_ | apply Kd.vD_)); exact HO0.out) hb); have n1_ := Aside0.mk (Kd.V_below (by (with_reducible repeat (first | apply Kd.vA_ | apply Kd.vN_ | apply Kd.vD_)); exact HO1.out) hb); have n2_ := Aside0.mk (Kd.N_below (by (with_reducible repeat (first | apply Kd.nA_ | apply Kd.nN_ | apply Kd.nD_)); exact HO480.out) hb); have n3_ := Aside0.mk (below_step (by repeat (first | (with_reducible first | exact HB.out | apply bA_ | apply bN_ | apply b1_) | exact HB.out)) hb); clear HO0; clear HO1; clear HO480; clear HB; have HO0 := n0_; have HO1 := n1_; have HO480 := n2_; have HB := n3_; clear n0_ n1_ n2_ n3_; (try clear hb); (try clear hb2); (try clear hk); (try clear hi)) | ((with_reducible refine gate_callee (f := 67) rfl ?_); refine goesL_ (some 14) rfl rfl Tryz.func67 (by kernel_rfl) rfl #[.slice Ao8 t478.length co8, .slice none 0 0] rfl (by (try simp only [List.map_toArray, List.map_cons, List.map_nil]); first | done | rfl | (simp only [List.length_drop, List.length_take]; rfl)) ?_; (refine (r6_full.calls k _ _ t478 _ _ ([] : List (S64)) t482 _ ?side1 ?side2 ?side3 ?side4 A6.out).mono ?_); (case side1 => repeat (first | exact (Kd.N_reads' HO480.out).2.2 | (with_reducible refine Kd.cA_ ?_ _) | (with_reducible refine Kd.cN_ ?_ _) | (with_reducible refine Kd.cD_ ?_))); (case side2 => exact (Kd.N_reads' HO480.out).2.1); (case side3 => exact Kd.C_nil _ _); (case side4 => exact Nat.le_refl _); rintro e w10 ⟨v483, rfl, ho0, hb⟩; refine ⟨_, rfl, ?_⟩; have n0_ := Aside0.mk (Kd.V_below (by (with_reducible repeat (first | apply Kd.vA_ | apply Kd.vN_ | apply Kd.vD_)); exact HO0.out) hb); have n1_ := Aside0.mk (Kd.V_below (by (with_reducible repeat (first | apply Kd.vA_ | apply Kd.vN_ | apply Kd.vD_)); exact HO1.out) hb); have n2_ := Aside0.mk (Kd.N_below (by (with_reducible repeat (first | apply Kd.nA_ | apply Kd.nN_ | apply Kd.nD_)); exact HO480.out) hb); have n3_ := Aside0.mk (Kd.V_lower (Kd.V_mono (ok' := fun k_ => ((P0_ k_ ∨ P1_ k_) ∨ w.heap.size ≤ k_) ∧ some k_ ≠ (.slice Ao8 t478.length co8 : Value).ownBlock) ho0 (fun k_ hk_ => ⟨(.inr (Nat.le_trans (below_size (by repeat (first | (with_reducible first | exact HB.out | apply bA_ | apply bN_ | apply b1_) | exact HB.out))) hk_)), (Kd.fresh' (Kd.N_lt (by (with_reducible repeat (first | apply Kd.nA_ | apply Kd.nN_ | apply Kd.nD_)); exact HO480.out)) k_ hk_)⟩)) (below_size (by repeat (first | (with_reducible first | exact HB.out | apply bA_ | apply bN_ | apply b1_) | exact HB.out)))); have n4_ := Aside0.mk (below_step (by repeat (first | (with_reducible first | exact HB.out | apply bA_ | apply bN_ | apply b1_) | exact HB.out)) hb); clear HO0; clear HO1; clear HO480; clear HB; have HO0 := n0_; have HO1 := n1_; have HO480 := n2_; have HO484 := n3_; have HB := n4_; clear n0_ n1_ n2_ n3_ n4_; (try clear hb); (try clear hb2); (try clear hk); (try clear hi); (try clear ho0)))
   go_ret2
   exact ⟨_, by first | rfl | (simp [*, errW_none, errW_some] <;> rfl), by (with_reducible repeat (first | apply Kd.vA_ | apply Kd.vN_ | apply Kd.vD_)); exact Kd.V_mono HO484.out (fun _ hk => hk.1), by repeat (first | (with_reducible first | exact HB.out | apply bA_ | apply bN_ | apply b1_) | exact HB.out)⟩
 · replace c5 := Bool.eq_false_iff.mpr c5
   subst c5
   have H1 : (some (([] : List (List (S36))), 1)) = some (r1, r2) := by rw [if_neg (show ¬ (false = true) by decide)] at H; exact H
   clear H
   have H := H1
   clear H1
   simp only [Option.some.injEq, Prod.mk.injEq] at H
   obtain ⟨rfl, rfl⟩ := H
   go_enter Tryz.func32, Tryz.ntmps32
   go_wp2_with (first | ((with_reducible refine gate_callee (f := 70) rfl ?_); refine goesL_ (some 9) rfl rfl Tryz.func70 (by kernel_rfl) rfl #[.slice A0 l0.length c0, .slice A1 l1.length c1] rfl (by (try simp only [List.map_toArray, List.map_cons, List.map_nil]); first | done | rfl | (simp only [List.length_drop, List.length_take]; rfl)) ?_; (with_reducible refine (r6_together.calls k (fun k_ => ((P0_ k_ ∨ P1_ k_) ∨ w.heap.size ≤ k_)) _ _ l0 (fun k_ => ((P0_ k_ ∨ P1_ k_) ∨ w.heap.size ≤ k_)) _ _ l1 t478 _ ?side1 ?side2 A3.out).mono ?_); (case side1 => exact HO0.out); (case side2 => exact HO1.out); rintro e w11 ⟨v479, rfl, ho0, hb⟩; refine ⟨_, rfl, ?_⟩; have n0_ := Aside0.mk (Kd.V_elder' (by (with_reducible repeat (first | apply Kd.vA_ | apply Kd.vN_ | apply Kd.vD_)); exact HO0.out) (Kd.N_base ho0) hb); have n1_ := Aside0.mk (Kd.V_elder' (by (with_reducible repeat (first | apply Kd.vA_ | apply Kd.vN_ | apply Kd.vD_)); exact HO1.out) (Kd.N_base ho0) hb); have n2_ := Aside0.mk (Kd.N_lower (Kd.N_mono (ok' := fun k_ => ((P0_ k_ ∨ P1_ k_) ∨ w.heap.size ≤ k_)) ho0 (fun k_ hk_ => Or.elim hk_ (fun hs_ => Or.elim hs_ (fun hs_ => hs_) (fun hs_ => hs_)) (fun hn_ => (.inr (Nat.le_trans (below_size (by repeat (first | (with_reducible first | exact HB.out | apply bA_ | apply bN_ | apply b1_) | exact HB.out))) hn_))))) (below_size (by repeat (first | (with_reducible first | exact HB.out | apply bA_ | apply bN_ | apply b1_) | exact HB.out)))); have n3_ := Aside0.mk (below_step (by repeat (first | (with_reducible first | exact HB.out | apply bA_ | apply bN_ | apply b1_) | exact HB.out)) hb); clear HO0; clear HO1; clear HB; have HO0 := n0_; have HO1 := n1_; have HO480 := n2_; have HB := n3_; clear n0_ n1_ n2_ n3_; (try clear hb); (try clear hb2); (try clear hk); (try clear hi); (try clear ho0); obtain ⟨Ao12, co12, eo12⟩ := Kd.N_slice HO480.out; subst eo12) | ((with_reducible refine gate_callee (f := 11) rfl ?_); refine goesL_ (some 11) rfl rfl Tryz.func11 (by kernel_rfl) rfl #[.slice Ao12 t478.length co12] rfl (by (try simp only [List.map_toArray, List.map_cons, List.map_nil]); first | done | rfl | (simp only [List.length_drop, List.length_take]; rfl)) ?_; (with_reducible refine (r6_Valid.calls k _ _ t478 false _ ?side1 ?side2 A4.out).mono ?_); (case side1 => repeat (first | exact (Kd.N_reads' HO480.out).2.2 | (with_reducible refine Kd.cA_ ?_ _) | (with_reducible refine Kd.cN_ ?_ _) | (with_reducible refine Kd.cD_ ?_))); (case side2 => exact (Kd.N_reads' HO480.out).2.1); rintro e w13 ⟨rfl, hb⟩; refine ⟨_, rfl, ?_⟩; have n0_ := Aside0.mk (Kd.V_below (by (with_reducible repeat (first | apply Kd.vA_ | apply Kd.vN_ | apply Kd.vD_)); exact HO0.out) hb); have n1_ := Aside0.mk (Kd.V_below (by (with_reducible repeat (first | apply Kd.vA_ | apply Kd.vN_ | apply Kd.vD_)); exact HO1.out) hb); have n2_ := Aside0.mk (Kd.N_below (by (with_reducible repeat (first | apply Kd.nA_ | apply Kd.nN_ | apply Kd.nD_)); exact HO480.out) hb); have n3_ := Aside0.mk (below_step (by repeat (first | (with_reducible first | exact HB.out | apply bA_ | apply bN_ | apply b1_) | exact HB.out)) hb); clear HO0; clear HO1; clear HO480; clear HB; have HO0 := n0_; have HO1 := n1_; have HO480 := n2_; have HB := n3_; clear n0_ n1_ n2_ n3_; (try clear hb); (try clear hb2); (try clear hk); (try clear hi)))
   go_ret2
   exact ⟨.slice none 0 0, by first | rfl | (simp [*, errW_none, errW_some] <;> rfl), Kd.V_nil _ _ _ _ _, by repeat (first | (with_reducible first | exact HB.out | apply bA_ | apply bN_ | apply b1_) | exact HB.out)⟩
def r6_Intersect.l0 : Nat → List (List (S36)) → List (List (S36)) → List (List (S36)) → Int → Option ((List (List (S36))) × Int)
 | 0, _, _, _, _ => none
 | k + 1, x0, x1, x6, x7 => if x7 < (x0.length : Int) then (if 0 ≤ x7 then ((r6_Count.f k x6 (rd_L4 x0 x7)).bind fun t493 => ((r6_Count.f k x1 (rd_L4 x0 x7)).bind fun t495 => (if t493 < t495 then (if x6.length < 5864062014805 then (r6_Intersect.l0 k x0 x1 (x6 ++ [rd_L4 x0 x7]) (wrap64 (x7 + 1))) else (none)) else (r6_Intersect.l0 k x0 x1 x6 (wrap64 (x7 + 1)))))) else (none)) else ((r6_full.f k x6 ([] : List (S64))).bind fun t489 => (some (t489, 0)))
def r6_Intersect.f (k : Nat) (l0 : List (List (S36))) (l1 : List (List (S36))) : Option ((List (List (S36))) × Int) := (r6_together.f k l0 l1).bind fun t485 => ((r6_Valid.f k t485).bind fun t488 => (if t488 = true then (r6_Intersect.l0 k l0 l1 ([] : List (List (S36))) 0) else (some (([] : List (List (S36))), 1))))
def r6_Intersect.T7 : Bool × List (List Nat × List Nat) := (true, [([], []), ([], []), ([], []), ([1, 2], [1, 2]), ([3], [3]), ([0, 4], [0, 4]), ([], []), ([], []), ([], []), ([7, 8], [7, 8]), ([9], [9]), ([6, 10, 5], [6, 10]), ([5, 11], [5, 11])])
def r6_Intersect.B7 : List Nat := [0, 0, 0, 6, 14, 31, 0, 0, 0, 384, 896, 2047, 4095]
theorem r6_Intersect.tab7 : rtab .any (opsOf Tryz.f34 7) = r6_Intersect.T7 := by kernel_rfl
theorem r6_Intersect.bits7 : waitsOk r6_Intersect.T7.2 r6_Intersect.B7 = true := by kernel_rfl
theorem r6_Intersect.calls (k : Nat) (P0_ : Nat → Prop) (A0 : Option Addr) (c0 : Nat) (l0 : List (List (S36))) (P1_ : Nat → Prop) (A1 : Option Addr) (c1 : Nat) (l1 : List (List (S36))) (r1 : List (List (S36))) (r2 : Int) (w : World) (hs0 : Kd.V (Kd.slice 36 k36) 53 w w.heap.size (fun k_ => P0_ k_) (.slice A0 l0.length c0) l0) (hs1 : Kd.V (Kd.slice 36 k36) 53 w w.heap.size (fun k_ => P1_ k_) (.slice A1 l1.length c1) l1) (h : r6_Intersect.f k l0 l1 = some (r1, r2)) :
 Calls Tryz.prog 34 #[.slice A0 l0.length c0, .slice A1 l1.length c1] w fun e w' => ∃ v0_ : Value, e = .returned (.tuple #[v0_, .int .i64 r2]) ∧ Kd.V (Kd.slice 36 k36) 53 w' w.heap.size (fun k_ => ((P0_ k_ ∨ P1_ k_) ∨ w.heap.size ≤ k_)) v0_ r1 ∧ Below w.heap.size w w' := by
 have HO0 := Aside0.mk (show Kd.V (Kd.slice 36 k36) 53 w w.heap.size (fun k_ => ((P0_ k_ ∨ P1_ k_) ∨ w.heap.size ≤ k_)) (.slice A0 l0.length c0) l0 from Kd.V_mono hs0 (fun k_ hk => .inl (.inl hk)))
 have HO1 := Aside0.mk (show Kd.V (Kd.slice 36 k36) 53 w w.heap.size (fun k_ => ((P0_ k_ ∨ P1_ k_) ∨ w.heap.size ≤ k_)) (.slice A1 l1.length c1) l1 from Kd.V_mono hs1 (fun k_ hk => .inl (.inr hk)))
 have HB := Aside0.mk (Below.refl w.heap.size w)
 have H : ((r6_together.f k l0 l1).bind fun t485 => ((r6_Valid.f k t485).bind fun t488 => (if t488 = true then (r6_Intersect.l0 k l0 l1 ([] : List (List (S36))) 0) else (some (([] : List (List (S36))), 1))))) = some (r1, r2) := h
 clear h
 replace H := Option.bind_eq_some_iff.mp H
 obtain ⟨t485, A30, H⟩ := H
 replace H : ((r6_Valid.f k t485).bind fun t488 => (if t488 = true then (r6_Intersect.l0 k l0 l1 ([] : List (List (S36))) 0) else (some (([] : List (List (S36))), 1)))) = some (r1, r2) := H
 have A3 := Aside0.mk A30
 clear A30
 replace H := Option.bind_eq_some_iff.mp H
 obtain ⟨t488, A40, H⟩ := H
 replace H : (if t488 = true then (r6_Intersect.l0 k l0 l1 ([] : List (List (S36))) 0) else (some (([] : List (List (S36))), 1))) = some (r1, r2) := H
 have A4 := Aside0.mk A40
 clear A40
 by_cases c5 : t488 = true
 · subst c5
   have H1 : (r6_Intersect.l0 k l0 l1 ([] : List (List (S36))) 0) = some (r1, r2) := by rw [if_pos rfl] at H; exact H
   clear H
   have H := H1
   clear H1
   have H' := Aside0.mk H
   clear H
   go_enter Tryz.func34, Tryz.ntmps34
   go_wp2_with (first | ((with_reducible refine gate_callee (f := 70) rfl ?_); refine goesL_ (some 10) rfl rfl Tryz.func70 (by kernel_rfl) rfl #[.slice A0 l0.length c0, .slice A1 l1.length c1] rfl (by (try simp only [List.map_toArray, List.map_cons, List.map_nil]); first | done | rfl | (simp only [List.length_drop, List.length_take]; rfl)) ?_; (with_reducible refine (r6_together.calls k (fun k_ => ((P0_ k_ ∨ P1_ k_) ∨ w.heap.size ≤ k_)) _ _ l0 (fun k_ => ((P0_ k_ ∨ P1_ k_) ∨ w.heap.size ≤ k_)) _ _ l1 t485 _ ?side1 ?side2 A3.out).mono ?_); (case side1 => exact HO0.out); (case side2 => exact HO1.out); rintro e w6 ⟨v486, rfl, ho0, hb⟩; refine ⟨_, rfl, ?_⟩; have n0_ := Aside0.mk (Kd.V_elder' (by (with_reducible repeat (first | apply Kd.vA_ | apply Kd.vN_ | apply Kd.vD_)); exact HO0.out) (Kd.N_base ho0) hb); have n1_ := Aside0.mk (Kd.V_elder' (by (with_reducible repeat (first | apply Kd.vA_ | apply Kd.vN_ | apply Kd.vD_)); exact HO1.out) (Kd.N_base ho0) hb); have n2_ := Aside0.mk (Kd.N_lower (Kd.N_mono (ok' := fun k_ => ((P0_ k_ ∨ P1_ k_) ∨ w.heap.size ≤ k_)) ho0 (fun k_ hk_ => Or.elim hk_ (fun hs_ => Or.elim hs_ (fun hs_ => hs_) (fun hs_ => hs_)) (fun hn_ => (.inr (Nat.le_trans (below_size (by repeat (first | (with_reducible first | exact HB.out | apply bA_ | apply bN_ | apply b1_) | exact HB.out))) hn_))))) (below_size (by repeat (first | (with_reducible first | exact HB.out | apply bA_ | apply bN_ | apply b1_) | exact HB.out)))); have n3_ := Aside0.mk (below_step (by repeat (first | (with_reducible first | exact HB.out | apply bA_ | apply bN_ | apply b1_) | exact HB.out)) hb); clear HO0; clear HO1; clear HB; have HO0 := n0_; have HO1 := n1_; have HO487 := n2_; have HB := n3_; clear n0_ n1_ n2_ n3_; (try clear hb); (try clear hb2); (try clear hk); (try clear hi); (try clear ho0); obtain ⟨Ao7, co7, eo7⟩ := Kd.N_slice HO487.out; subst eo7) | ((with_reducible refine gate_callee (f := 11) rfl ?_); refine goesL_ (some 11) rfl rfl Tryz.func11 (by kernel_rfl) rfl #[.slice Ao7 t485.length co7] rfl (by (try simp only [List.map_toArray, List.map_cons, List.map_nil]); first | done | rfl | (simp only [List.length_drop, List.length_take]; rfl)) ?_; (with_reducible refine (r6_Valid.calls k _ _ t485 true _ ?side1 ?side2 A4.out).mono ?_); (case side1 => repeat (first | exact (Kd.N_reads' HO487.out).2.2 | (with_reducible refine Kd.cA_ ?_ _) | (with_reducible refine Kd.cN_ ?_ _) | (with_reducible refine Kd.cD_ ?_))); (case side2 => exact (Kd.N_reads' HO487.out).2.1); rintro e w8 ⟨rfl, hb⟩; refine ⟨_, rfl, ?_⟩; have n0_ := Aside0.mk (Kd.V_below (by (with_reducible repeat (first | apply Kd.vA_ | apply Kd.vN_ | apply Kd.vD_)); exact HO0.out) hb); have n1_ := Aside0.mk (Kd.V_below (by (with_reducible repeat (first | apply Kd.vA_ | apply Kd.vN_ | apply Kd.vD_)); exact HO1.out) hb); have n2_ := Aside0.mk (Kd.N_below (by (with_reducible repeat (first | apply Kd.nA_ | apply Kd.nN_ | apply Kd.nD_)); exact HO487.out) hb); have n3_ := Aside0.mk (below_step (by repeat (first | (with_reducible first | exact HB.out | apply bA_ | apply bN_ | apply b1_) | exact HB.out)) hb); clear HO0; clear HO1; clear HO487; clear HB; have HO0 := n0_; have HO1 := n1_; have HO487 := n2_; have HB := n3_; clear n0_ n1_ n2_ n3_; (try clear hb); (try clear hb2); (try clear hk); (try clear hi)))
   go_loopg [6, 7] k (fun kq v6 v7 w' => ∃ (x6_1 : List (List (S36))) (x7_1 : Int), v7 = .int .i64 x7_1 ∧ Aside0 (r6_Intersect.l0 kq l0 l1 x6_1 x7_1 = some (r1, r2)) ∧ Aside0 (kq ≤ k) ∧ Aside0 (Kd.V (Kd.slice 36 k36) 53 w' w.heap.size (fun k_ => ((P0_ k_ ∨ P1_ k_) ∨ w.heap.size ≤ k_) ∧ some k_ ≠ (v6 : Value).ownBlock) (.slice A0 l0.length c0) l0) ∧ Aside0 (Kd.V (Kd.slice 36 k36) 53 w' w.heap.size (fun k_ => ((P0_ k_ ∨ P1_ k_) ∨ w.heap.size ≤ k_) ∧ some k_ ≠ (v6 : Value).ownBlock) (.slice A1 l1.length c1) l1) ∧ Aside0 (Kd.N (Kd.slice 36 k36) 53 w' w.heap.size (fun k_ => ((P0_ k_ ∨ P1_ k_) ∨ w.heap.size ≤ k_)) v6 x6_1) ∧ Aside0 (Below w.heap.size w w'))
   case atStart => exact ⟨(([] : List (List (S36)))), (0), (by first | rfl | (simp; done) | (simp [*]; done)), H', ⟨Nat.le_refl _⟩, ⟨by (with_reducible repeat (first | apply Kd.vA_ | apply Kd.vN_ | apply Kd.vD_)); exact Kd.V_mono HO0.out (fun _ hk => ⟨hk.1, (by simp [Value.ownBlock])⟩)⟩, ⟨by (with_reducible repeat (first | apply Kd.vA_ | apply Kd.vN_ | apply Kd.vD_)); exact Kd.V_mono HO1.out (fun _ hk => ⟨hk.1, (by simp [Value.ownBlock])⟩)⟩, ⟨by first | exact Kd.S_nil _ _ _ _ _ | exact Kd.N_nil _ _ _ _ _ | exact Kd.V_nil _ _ _ _ _ | exact Kd.Q_nil _ _ _ _ _ | exact Kd.R_nil _ _ _ _ _⟩, ⟨by repeat (first | (with_reducible first | exact HB.out | apply bA_ | apply bN_ | apply b1_) | exact HB.out)⟩⟩
   case round =>
    clear H'
    try clear c1
    try clear p2
    try clear c3
    try clear c5
    try clear c7
    obtain ⟨x6_1, x7_1, rfl, HA, HK1, HO_0, HO_1, HO_6, HB⟩ := hrel
    cases gk with
    | zero => exact absurd HA.out (by simp [r6_Intersect.l0])
    | succ k1 =>
     have H := HA.out
     clear HA
     simp only [r6_Intersect.l0] at H
     by_cases c9 : x7_1 < (l0.length : Int)
     · rw [if_pos c9] at H
       have c9b0 : decide (x7_1 < (l0.length : Int)) = true := dT_ c9
       clear c9
       by_cases c10 : 0 ≤ x7_1
       · rw [if_pos c10] at H
         have c10b0 : decide (0 ≤ x7_1) = true := dT_ c10
         clear c10
         replace H := Option.bind_eq_some_iff.mp H
         obtain ⟨t493, A110, H⟩ := H
         replace H : ((r6_Count.f k1 l1 (rd_L4 l0 x7_1)).bind fun t495 => (if t493 < t495 then (if x6_1.length < 5864062014805 then (r6_Intersect.l0 k1 l0 l1 (x6_1 ++ [rd_L4 l0 x7_1]) (wrap64 (x7_1 + 1))) else (none)) else (r6_Intersect.l0 k1 l0 l1 x6_1 (wrap64 (x7_1 + 1))))) = some (r1, r2) := H
         have A11 := Aside0.mk A110
         clear A110
         replace H := Option.bind_eq_some_iff.mp H
         obtain ⟨t495, A120, H⟩ := H
         replace H : (if t493 < t495 then (if x6_1.length < 5864062014805 then (r6_Intersect.l0 k1 l0 l1 (x6_1 ++ [rd_L4 l0 x7_1]) (wrap64 (x7_1 + 1))) else (none)) else (r6_Intersect.l0 k1 l0 l1 x6_1 (wrap64 (x7_1 + 1)))) = some (r1, r2) := H
         have A12 := Aside0.mk A120
         clear A120
         by_cases c13 : t493 < t495
         · rw [if_pos c13] at H
           have c13b0 : decide (t493 < t495) = true := dT_ c13
           clear c13
           by_cases c14 : x6_1.length < 5864062014805
           · rw [if_pos c14] at H
             have LMc14 := Aside0.mk c14
             clear c14
             obtain ⟨y497, hy497⟩ : ∃ y_ : List (List (S36)), y_ = (x6_1 ++ [rd_L4 l0 x7_1]) := ⟨_, rfl⟩
             replace H : (r6_Intersect.l0 k1 l0 l1 y497 (wrap64 (x7_1 + 1))) = some (r1, r2) := by first | (rw [hy497]; with_reducible exact H) | (have H2_ := (Option.bind_some _ _).symm.trans H; rw [hy497]; with_reducible exact H2_) | (have H2_ := (Option.bind_some _ _).symm.trans H; with_reducible exact H2_) | with_reducible exact H | (rw [hy497]; exact H) | exact H
             have Ny497 := Aside0.mk hy497
             clear hy497
             have H' := Aside0.mk H
             clear H
             try go_wp2
             have n0_ := Aside0.mk (Kd.vD_ HO_0.out)
             have n1_ := Aside0.mk (Kd.vD_ HO_1.out)
             have n2_ := Aside0.mk (Kd.nD_ HO_6.out)
             have n3_ := Aside0.mk (b1_ HB.out)
             clear HO_0
             clear HO_1
             clear HO_6
             clear HB
             have HO_0 := n0_
             have HO_1 := n1_
             have HO_6 := n2_
             have HB := n3_
             clear n0_ n1_ n2_ n3_
             have p492 : 0 ≤ (x7_1 : Int) := oT_ (by assumption)
             have q492 : x7_1 < (l0.length : Int) := oT_ (by assumption)
             obtain ⟨ad492, A492_0, c492_0, e492, hx492_0, hl492_0, hi492_0⟩ := at_L4 (Kd.V_reads' HO_0.out).2.2 x7_1 p492 q492
             cases e492
             obtain ⟨ce492, hce492, hMe492, hcc492⟩ := Kd.V_get HO_0.out [] x7_1 p492 (by first | exact q492 | exact oT_ (by assumption) | (have e_ := (Kd.V_reads' HO_0.out).1; omega))
             obtain ⟨ua492_0, uc492_0, rfl, ul492_0, ge492_0⟩ := Kd.FK_slice_open hMe492
             have hv492_0 := hcc492 0 _ rfl
             rw [Nat.add_zero, show ((Kd.slice 36 k36)).sz = 1 from rfl, Nat.mul_one] at hv492_0
             replace hv492_0 := Option.some.inj (hv492_0.symm.trans hx492_0)
             injection hv492_0 with hva_ hvn_ hvc_
             rw [hva_] at ge492_0
             rw [hvc_] at ul492_0
             have HL492_0 := Aside0.mk (show Kd.V k36 36 _ w.heap.size _ _ (rd_L4 l0 x7_1) from Kd.V_mk ul492_0 ge492_0)
             clear hva_ hvn_ hvc_ ge492_0 ul492_0
             clear hcc492 hce492
             have HR492_0 := Aside0.mk hi492_0
             have HC492_0 := Aside0.mk hl492_0
             clear hi492_0 hl492_0
             replace p492 := eq_true p492
             replace q492 := eq_true q492
             have p494 : 0 ≤ (x7_1 : Int) := oT_ (by assumption)
             have q494 : x7_1 < (l0.length : Int) := oT_ (by assumption)
             obtain ⟨ad494, A494_0, c494_0, e494, hx494_0, hl494_0, hi494_0⟩ := at_L4 (Kd.V_reads' HO_0.out).2.2 x7_1 p494 q494
             obtain rfl : ad492 = ad494 := (by injection e494)
             obtain ⟨ce494, hce494, hMe494, hcc494⟩ := Kd.V_get HO_0.out [] x7_1 p494 (by first | exact q494 | exact oT_ (by assumption) | (have e_ := (Kd.V_reads' HO_0.out).1; omega))
             obtain ⟨ua494_0, uc494_0, rfl, ul494_0, ge494_0⟩ := Kd.FK_slice_open hMe494
             have hv494_0 := hcc494 0 _ rfl
             rw [Nat.add_zero, show ((Kd.slice 36 k36)).sz = 1 from rfl, Nat.mul_one] at hv494_0
             replace hv494_0 := Option.some.inj (hv494_0.symm.trans hx494_0)
             injection hv494_0 with hva_ hvn_ hvc_
             rw [hva_] at ge494_0
             rw [hvc_] at ul494_0
             have HL494_0 := Aside0.mk (show Kd.V k36 36 _ w.heap.size _ _ (rd_L4 l0 x7_1) from Kd.V_mk ul494_0 ge494_0)
             clear hva_ hvn_ hvc_ ge494_0 ul494_0
             clear hcc494 hce494
             have HR494_0 := Aside0.mk hi494_0
             have HC494_0 := Aside0.mk hl494_0
             clear hi494_0 hl494_0
             replace p494 := eq_true p494
             replace q494 := eq_true q494
             have ea_ := Option.some.inj (hx492_0.symm.trans hx494_0)
             injection ea_ with ea_ en_ ec_
             subst ea_
             subst ec_
             clear en_
             obtain ⟨Ao16, co16, eo16⟩ := Kd.N_slice HO_6.out
             (first | subst eo16 | (injection eo16 with f1_ f2_ f3_; have f4_ := f1_.symm; have f5_ := f3_.symm; clear f1_ f2_ f3_; subst f4_; subst f5_))
             refine start_ (n := 13) (S := fun w' => w'.cell? (ad492.add (x7_1).toNat) = some (.slice A492_0 (rd_L4 l0 x7_1).length c492_0) ∧ w'.cell? (ad492.add (x7_1).toNat) = some (.slice A492_0 (rd_L4 l0 x7_1).length c492_0)) (ds := []) #[X_,X_,X_,X_,X_,X_,X_,X_,X_,X_,X_,X_,X_] (by kernel_rfl) rfl rfl ⟨hx492_0, hx494_0⟩ (fun hHeld => ?_); refine with_tabW r6_Intersect.tab7 r6_Intersect.bits7 (fun HT_ HW_ => ?_)
             generalize wr.drew = w15 at HO_0 HO_1 HO_6 HB HL492_0 HL494_0 HR492_0 HR494_0 hx492_0 hx494_0 hHeld ⊢
             refine pure_ (i := 0) (N := some 19) (v := ?_) (a' := ?_) #[Y_,X_,X_,X_,X_,X_,X_,X_,X_,X_,X_,X_,X_] rfl rfl (any_of HT_.out (by kernel_rfl)) (fun _ _ _ h => h) (Or.inl ⟨by rfl, ?_⟩) ?_ ?_
             rotate_left
             · intro w'
               go_simp
               with_reducible rfl
             rotate_left
             · simp only [Act.put, sTA_, sCZ_, sCS_, i64_w, i32_w]
               rfl
             refine pure_ (i := 1) (N := some 20) (v := ?_) (a' := ?_) #[Y_,Y_,X_,X_,X_,X_,X_,X_,X_,X_,X_,X_,X_] rfl rfl (any_of HT_.out (by kernel_rfl)) (fun _ _ _ h => h) (Or.inl ⟨by rfl, ?_⟩) ?_ ?_
             rotate_left
             · intro w'
               go_simp
               with_reducible rfl
             rotate_left
             · simp only [Act.put, sTA_, sCZ_, sCS_, i64_w, i32_w]
               rfl
             refine pure_ (i := 2) (N := some 21) (v := ?_) (a' := ?_) #[Y_,Y_,Y_,X_,X_,X_,X_,X_,X_,X_,X_,X_,X_] rfl rfl (any_of HT_.out (by kernel_rfl)) (fun _ _ _ h => h) (Or.inl ⟨by rfl, ?_⟩) ?_ ?_
             rotate_left
             · intro w'
               go_simp
               with_reducible rfl
             rotate_left
             · simp only [Act.put, sTA_, sCZ_, sCS_, i64_w, i32_w]
               rfl
             refine pure_ (i := 3) (N := some 22) (v := ?_) (a' := ?_) #[Y_,Y_,Y_,Y_,X_,X_,X_,X_,X_,X_,X_,X_,X_] rfl rfl (any_of HT_.out (by kernel_rfl)) (fun _ _ _ h => h) (Or.inl ⟨by rfl, ?_⟩) ?_ ?_
             rotate_left
             · intro w'
               go_simp
               with_reducible rfl
             rotate_left
             · simp only [Act.put, sTA_, sCZ_, sCS_, i64_w, i32_w]
               rfl
             refine pure_ (i := 6) (N := some 25) (v := ?_) (a' := ?_) #[Y_,Y_,Y_,Y_,X_,X_,Y_,X_,X_,X_,X_,X_,X_] rfl rfl (any_of HT_.out (by kernel_rfl)) (fun _ _ _ h => h) (Or.inl ⟨by rfl, ?_⟩) ?_ ?_
             rotate_left
             · intro w'
               go_simp
               with_reducible rfl
             rotate_left
             · simp only [Act.put, sTA_, sCZ_, sCS_, i64_w, i32_w]
               rfl
             refine pure_ (i := 7) (N := some 26) (v := ?_) (a' := ?_) #[Y_,Y_,Y_,Y_,X_,X_,Y_,Y_,X_,X_,X_,X_,X_] rfl rfl (any_of HT_.out (by kernel_rfl)) (fun _ _ _ h => h) (Or.inl ⟨by rfl, ?_⟩) ?_ ?_
             rotate_left
             · intro w'
               go_simp
               with_reducible rfl
             rotate_left
             · simp only [Act.put, sTA_, sCZ_, sCS_, i64_w, i32_w]
               rfl
             refine pure_ (i := 8) (N := some 27) (v := ?_) (a' := ?_) #[Y_,Y_,Y_,Y_,X_,X_,Y_,Y_,Y_,X_,X_,X_,X_] rfl rfl (any_of HT_.out (by kernel_rfl)) (fun _ _ _ h => h) (Or.inl ⟨by rfl, ?_⟩) ?_ ?_
             rotate_left
             · intro w'
               go_simp
               with_reducible rfl
             rotate_left
             · simp only [Act.put, sTA_, sCZ_, sCS_, i64_w, i32_w]
               rfl
             refine pure_ (i := 9) (N := some 28) (v := ?_) (a' := ?_) #[Y_,Y_,Y_,Y_,X_,X_,Y_,Y_,Y_,Y_,X_,X_,X_] rfl rfl (any_of HT_.out (by kernel_rfl)) (fun _ _ _ h => h) (Or.inl ⟨by rfl, ?_⟩) ?_ ?_
             rotate_left
             · intro w'
               go_simp
               with_reducible rfl
             rotate_left
             · simp only [Act.put, sTA_, sCZ_, sCS_, i64_w, i32_w]
               rfl
             refine take_ (i := 4) (N := some 23) (v := ?_) (a' := ?_) #[Y_,Y_,Y_,Y_,Y_,X_,Y_,Y_,Y_,Y_,X_,X_,X_] rfl rfl (take_ofW HT_.out HW_.out (by kernel_rfl)) (fun _ _ _ h => h) (Or.inl ⟨by rfl, ?_⟩) hHeld ?_ ?_
             rotate_left
             · rintro w' ⟨s0, s1⟩
               go_simp
               with_reducible rfl
             rotate_left
             · simp only [Act.put, sTA_, sCZ_, sCS_, i64_w, i32_w]
               rfl
             refine take_ (i := 10) (N := some 29) (v := ?_) (a' := ?_) #[Y_,Y_,Y_,Y_,Y_,X_,Y_,Y_,Y_,Y_,Y_,X_,X_] rfl rfl (take_ofW HT_.out HW_.out (by kernel_rfl)) (fun _ _ _ h => h) (Or.inl ⟨by rfl, ?_⟩) hHeld ?_ ?_
             rotate_left
             · rintro w' ⟨s0, s1⟩
               go_simp
               with_reducible rfl
             rotate_left
             · simp only [Act.put, sTA_, sCZ_, sCS_, i64_w, i32_w]
               rfl
             refine one_ (i := 5) (N := some 24) #[Y_,Y_,Y_,Y_,Y_,Y_,Y_,Y_,Y_,Y_,Y_,X_,X_] rfl rfl (one_of HT_.out (by kernel_rfl)) (by decide) (fun K hK => ?_)
             refine goes_ Tryz.func44 (by kernel_rfl) rfl #[.slice Ao16 x6_1.length co16, .slice A492_0 (rd_L4 l0 x7_1).length c492_0] (by rfl) rfl rfl (by (try simp only [List.map_toArray, List.map_cons, List.map_nil]); first | done | rfl | (simp only [List.length_drop, List.length_take]; rfl)) ?_
             with_reducible refine (r6_Count.calls k1 _ _ x6_1 _ _ (rd_L4 l0 x7_1) t493 _ ?side1 ?side2 ?side3 ?side4 A11.out).mono ?_
             (case side1 => repeat (first | exact (Kd.N_reads' HO_6.out).2.2 | (with_reducible refine Kd.cA_ ?_ _) | (with_reducible refine Kd.cN_ ?_ _) | (with_reducible refine Kd.cD_ ?_)))
             (case side2 => exact (Kd.N_reads' HO_6.out).2.1)
             (case side3 => repeat (first | exact (by repeat (first | (with_reducible exact HR492_0.out) | (with_reducible refine Kd.cA_ ?_ _) | (with_reducible refine Kd.cN_ ?_ _) | (with_reducible refine Kd.cD_ ?_) | exact HR492_0.out)) | (with_reducible refine Kd.cA_ ?_ _) | (with_reducible refine Kd.cN_ ?_ _) | (with_reducible refine Kd.cD_ ?_)))
             (case side4 => exact HC492_0.out)
             rintro e w17 ⟨rfl, hb⟩
             have HS0_ := (hb.cell (bLC_ _ _ (hHeld.1))).trans (hHeld.1)
             have HS1_ := (hb.cell (bLC_ _ _ (hHeld.2))).trans (hHeld.2)
             refine ⟨_, rfl, ?_⟩
             have n0_ := Aside0.mk (Kd.V_below (by (with_reducible repeat (first | apply Kd.vA_ | apply Kd.vN_ | apply Kd.vD_)); exact HO_0.out) hb)
             have n1_ := Aside0.mk (Kd.V_below (by (with_reducible repeat (first | apply Kd.vA_ | apply Kd.vN_ | apply Kd.vD_)); exact HO_1.out) hb)
             have n2_ := Aside0.mk (Kd.N_below (by (with_reducible repeat (first | apply Kd.nA_ | apply Kd.nN_ | apply Kd.nD_)); exact HO_6.out) hb)
             have n3_ := Aside0.mk (Kd.V_below (by (with_reducible repeat (first | apply Kd.vA_ | apply Kd.vN_ | apply Kd.vD_)); exact HL492_0.out) hb)
             have n4_ := Aside0.mk (Kd.V_below (by (with_reducible repeat (first | apply Kd.vA_ | apply Kd.vN_ | apply Kd.vD_)); exact HL494_0.out) hb)
             have n5_ := Aside0.mk (Kd.C_below (by repeat (first | (with_reducible exact HR492_0.out) | (with_reducible refine Kd.cA_ ?_ _) | (with_reducible refine Kd.cN_ ?_ _) | (with_reducible refine Kd.cD_ ?_) | exact HR492_0.out)) hb)
             have n6_ := Aside0.mk (Kd.C_below (by repeat (first | (with_reducible exact HR494_0.out) | (with_reducible refine Kd.cA_ ?_ _) | (with_reducible refine Kd.cN_ ?_ _) | (with_reducible refine Kd.cD_ ?_) | exact HR494_0.out)) hb)
             have n7_ := Aside0.mk (below_step (by repeat (first | (with_reducible first | exact HB.out | apply bA_ | apply bN_ | apply b1_) | exact HB.out)) hb)
             clear HO_0
             clear HO_1
             clear HO_6
             clear HL492_0
             clear HL494_0
             clear HR492_0
             clear HR494_0
             clear HB
             have HO_0 := n0_
             have HO_1 := n1_
             have HO_6 := n2_
             have HL492_0 := n3_
             have HL494_0 := n4_
             have HR492_0 := n5_
             have HR494_0 := n6_
             have HB := n7_
             clear n0_ n1_ n2_ n3_ n4_ n5_ n6_ n7_
             (try clear hb)
             (try clear hb2)
             (try clear hk)
             (try clear hi)
             refine hK.out _ _ ⟨HS0_, HS1_⟩ (fun hHeld => ?_)
             clear hK K
             refine norm_ (a' := ?_) ?_ ?_
             rotate_left
             · show Act.put _ (some 24) _ = _
               simp only [Act.put, sTA_, sCZ_, sCS_, i64_w, i32_w]
               rfl
             refine one_ (i := 11) (N := some 30) #[Y_,Y_,Y_,Y_,Y_,Y_,Y_,Y_,Y_,Y_,Y_,Y_,X_] rfl rfl (one_of HT_.out (by kernel_rfl)) (by decide) (fun K hK => ?_)
             refine goes_ Tryz.func44 (by kernel_rfl) rfl #[.slice A1 l1.length c1, .slice A492_0 (rd_L4 l0 x7_1).length c492_0] (by rfl) rfl rfl (by (try simp only [List.map_toArray, List.map_cons, List.map_nil]); first | done | rfl | (simp only [List.length_drop, List.length_take]; rfl)) ?_
             with_reducible refine (r6_Count.calls k1 _ _ l1 _ _ (rd_L4 l0 x7_1) t495 _ ?side1 ?side2 ?side3 ?side4 A12.out).mono ?_
             (case side1 => repeat (first | exact (Kd.V_reads' HO_1.out).2.2 | (with_reducible refine Kd.cA_ ?_ _) | (with_reducible refine Kd.cN_ ?_ _) | (with_reducible refine Kd.cD_ ?_)))
             (case side2 => exact (Kd.V_reads' HO_1.out).2.1)
             (case side3 => repeat (first | exact (by repeat (first | (with_reducible exact HR494_0.out) | (with_reducible refine Kd.cA_ ?_ _) | (with_reducible refine Kd.cN_ ?_ _) | (with_reducible refine Kd.cD_ ?_) | exact HR494_0.out)) | (with_reducible refine Kd.cA_ ?_ _) | (with_reducible refine Kd.cN_ ?_ _) | (with_reducible refine Kd.cD_ ?_)))
             (case side4 => exact HC494_0.out)
             rintro e w18 ⟨rfl, hb⟩
             have HS0_ := (hb.cell (bLC_ _ _ (hHeld.1))).trans (hHeld.1)
             have HS1_ := (hb.cell (bLC_ _ _ (hHeld.2))).trans (hHeld.2)
             refine ⟨_, rfl, ?_⟩
             have n0_ := Aside0.mk (Kd.V_below (by (with_reducible repeat (first | apply Kd.vA_ | apply Kd.vN_ | apply Kd.vD_)); exact HO_0.out) hb)
             have n1_ := Aside0.mk (Kd.V_below (by (with_reducible repeat (first | apply Kd.vA_ | apply Kd.vN_ | apply Kd.vD_)); exact HO_1.out) hb)
             have n2_ := Aside0.mk (Kd.N_below (by (with_reducible repeat (first | apply Kd.nA_ | apply Kd.nN_ | apply Kd.nD_)); exact HO_6.out) hb)
             have n3_ := Aside0.mk (Kd.V_below (by (with_reducible repeat (first | apply Kd.vA_ | apply Kd.vN_ | apply Kd.vD_)); exact HL492_0.out) hb)
             have n4_ := Aside0.mk (Kd.V_below (by (with_reducible repeat (first | apply Kd.vA_ | apply Kd.vN_ | apply Kd.vD_)); exact HL494_0.out) hb)
             have n5_ := Aside0.mk (Kd.C_below (by repeat (first | (with_reducible exact HR492_0.out) | (with_reducible refine Kd.cA_ ?_ _) | (with_reducible refine Kd.cN_ ?_ _) | (with_reducible refine Kd.cD_ ?_) | exact HR492_0.out)) hb)
             have n6_ := Aside0.mk (Kd.C_below (by repeat (first | (with_reducible exact HR494_0.out) | (with_reducible refine Kd.cA_ ?_ _) | (with_reducible refine Kd.cN_ ?_ _) | (with_reducible refine Kd.cD_ ?_) | exact HR494_0.out)) hb)
             have n7_ := Aside0.mk (below_step (by repeat (first | (with_reducible first | exact HB.out | apply bA_ | apply bN_ | apply b1_) | exact HB.out)) hb)
             clear HO_0
             clear HO_1
             clear HO_6
             clear HL492_0
             clear HL494_0
             clear HR492_0
             clear HR494_0
             clear HB
             have HO_0 := n0_
             have HO_1 := n1_
             have HO_6 := n2_
             have HL492_0 := n3_
             have HL494_0 := n4_
             have HR492_0 := n5_
             have HR494_0 := n6_
             have HB := n7_
             clear n0_ n1_ n2_ n3_ n4_ n5_ n6_ n7_
             (try clear hb)
             (try clear hb2)
             (try clear hk)
             (try clear hi)
             refine hK.out _ _ ⟨HS0_, HS1_⟩ (fun hHeld => ?_)
             clear hK K
             refine norm_ (a' := ?_) ?_ ?_
             rotate_left
             · show Act.put _ (some 30) _ = _
               simp only [Act.put, sTA_, sCZ_, sCS_, i64_w, i32_w]
               rfl
             refine pure_ (i := 12) (N := some 31) (v := ?_) (a' := ?_) #[Y_,Y_,Y_,Y_,Y_,Y_,Y_,Y_,Y_,Y_,Y_,Y_,Y_] rfl rfl (any_of HT_.out (by kernel_rfl)) (fun _ _ _ h => h) (Or.inl ⟨by rfl, ?_⟩) ?_ ?_
             rotate_left
             · intro w'
               go_simp
               with_reducible rfl
             rotate_left
             · simp only [Act.put, sTA_, sCZ_, sCS_, i64_w, i32_w]
               rfl
             refine done_ (done_of HT_.out (by kernel_rfl)) ?_
             have p496 : 0 ≤ (x7_1 : Int) := oT_ (by assumption)
             have q496 : x7_1 < (l0.length : Int) := oT_ (by assumption)
             obtain ⟨ad496, A496_0, c496_0, e496, hx496_0, hl496_0, hi496_0⟩ := at_L4 (Kd.V_reads' HO_0.out).2.2 x7_1 p496 q496
             obtain rfl : ad492 = ad496 := (by injection e496)
             obtain ⟨ce496, hce496, hMe496, hcc496⟩ := Kd.V_get HO_0.out [] x7_1 p496 (by first | exact q496 | exact oT_ (by assumption) | (have e_ := (Kd.V_reads' HO_0.out).1; omega))
             obtain ⟨ua496_0, uc496_0, rfl, ul496_0, ge496_0⟩ := Kd.FK_slice_open hMe496
             have hv496_0 := hcc496 0 _ rfl
             rw [Nat.add_zero, show ((Kd.slice 36 k36)).sz = 1 from rfl, Nat.mul_one] at hv496_0
             replace hv496_0 := Option.some.inj (hv496_0.symm.trans hx496_0)
             injection hv496_0 with hva_ hvn_ hvc_
             rw [hva_] at ge496_0
             rw [hvc_] at ul496_0
             have HL496_0 := Aside0.mk (show Kd.V k36 36 _ w.heap.size _ _ (rd_L4 l0 x7_1) from Kd.V_mk ul496_0 ge496_0)
             clear hva_ hvn_ hvc_ ge496_0 ul496_0
             clear hcc496 hce496
             have HR496_0 := Aside0.mk hi496_0
             have HC496_0 := Aside0.mk hl496_0
             clear hi496_0 hl496_0
             replace p496 := eq_true p496
             replace q496 := eq_true q496
             try clear hHeld
             try clear HS3_
             try clear HS2_
             try clear HS1_
             try clear HS0_
             try go_wp2_with (first | ((with_reducible refine gate_builtin (b := .append) (xs := #[.tmp 32, .tmp 37]) rfl ?_); at_builtin; refine Kd.N_append (Kd.slice 36 k36) (w0 := w) w.heap.size rfl (.tmp 32) (.tmp 37) 22 53 (.slice none 0 0) 24 rfl Tryz.underlying22 info53 rfl (by decide) (by omega) (.slice Ao16 x6_1.length co16) x6_1 (rd_L4 l0 x7_1) [.slice A496_0 (rd_L4 l0 x7_1).length c496_0] (fun k_ => ((P0_ k_ ∨ P1_ k_) ∨ w.heap.size ≤ k_)) (fun k_ => ((fun k_ => ((P0_ k_ ∨ P1_ k_) ∨ w.heap.size ≤ k_))) k_ ∧ some k_ ≠ (.slice Ao16 x6_1.length co16 : Value).ownBlock) rfl rfl ?aP (fun _ hk => hk) ?aF ?aO ?aB ?aS ?aL ?_; (case aP => exact (Kd.FK_slice_mk (Kd.V_reads' (Kd.V_mono (ok' := (fun k_ => ((fun k_ => ((P0_ k_ ∨ P1_ k_) ∨ w.heap.size ≤ k_))) k_ ∧ some k_ ≠ (.slice Ao16 x6_1.length co16 : Value).ownBlock)) (HL496_0.out) (fun k_ hk => ⟨hk.1, hk.2⟩))).2.1 (Kd.V_F (Kd.V_mono (ok' := (fun k_ => ((fun k_ => ((P0_ k_ ∨ P1_ k_) ∨ w.heap.size ≤ k_))) k_ ∧ some k_ ≠ (.slice Ao16 x6_1.length co16 : Value).ownBlock)) (HL496_0.out) (fun k_ hk => ⟨hk.1, hk.2⟩))))); (case aB => exact (by repeat (first | (with_reducible first | exact HB.out | apply bA_ | apply bN_ | apply b1_) | exact HB.out))); (case aF => exact (fun k_ hk => (.inr (Nat.le_trans (below_size (by repeat (first | (with_reducible first | exact HB.out | apply bA_ | apply bN_ | apply b1_) | exact HB.out))) hk)))); (case aO => exact (by (with_reducible repeat (first | apply Kd.nA_ | apply Kd.nN_ | apply Kd.nD_)); exact HO_6.out)); (case aS => exact (below_size (by repeat (first | (with_reducible first | exact HB.out | apply bA_ | apply bN_ | apply b1_) | exact HB.out)))); (case aL => have := LMc14.out; omega); intro v498 w19 ho hb hg hat; rw [← Ny497.out] at ho; have n0_ := Aside0.mk (Kd.V_afterv (ok := (fun k_ => ((P0_ k_ ∨ P1_ k_) ∨ w.heap.size ≤ k_))) (by (with_reducible repeat (first | apply Kd.vA_ | apply Kd.vN_ | apply Kd.vD_)); exact HO_0.out) hg hat); have n1_ := Aside0.mk (Kd.V_afterv (ok := (fun k_ => ((P0_ k_ ∨ P1_ k_) ∨ w.heap.size ≤ k_))) (by (with_reducible repeat (first | apply Kd.vA_ | apply Kd.vN_ | apply Kd.vD_)); exact HO_1.out) hg hat); have n2_ := Aside0.mk (Kd.V_afterv (ok := (fun k_ => ((P0_ k_ ∨ P1_ k_) ∨ w.heap.size ≤ k_))) (by (with_reducible repeat (first | apply Kd.vA_ | apply Kd.vN_ | apply Kd.vD_)); exact HL492_0.out) hg hat); have n3_ := Aside0.mk (Kd.V_afterv (ok := (fun k_ => ((P0_ k_ ∨ P1_ k_) ∨ w.heap.size ≤ k_))) (by (with_reducible repeat (first | apply Kd.vA_ | apply Kd.vN_ | apply Kd.vD_)); exact HL494_0.out) hg hat); have n4_ := Aside0.mk (Kd.V_afterv (ok := (fun k_ => ((P0_ k_ ∨ P1_ k_) ∨ w.heap.size ≤ k_))) (by (with_reducible repeat (first | apply Kd.vA_ | apply Kd.vN_ | apply Kd.vD_)); exact HL496_0.out) hg hat); have n5_ := Aside0.mk (hb); have n6_ := Aside0.mk (ho); clear HO_0; clear HO_1; clear HL492_0; clear HL494_0; clear HL496_0; clear HB; clear HO_6; have HO_0 := n0_; have HO_1 := n1_; have HL492_0 := n2_; have HL494_0 := n3_; have HL496_0 := n4_; have HB := n5_; have HO499 := n6_; clear n0_ n1_ n2_ n3_ n4_ n5_ n6_; clear ho hb hg hat))
             go_roundg k1
             case measure => have := HK1.out; omega
             case rel => exact ⟨(y497), (wrap64 (x7_1 + 1)), (by first | rfl | (simp; done) | (simp [*]; done)), H', ⟨by have := HK1.out; omega⟩, ⟨by (with_reducible repeat (first | apply Kd.vA_ | apply Kd.vN_ | apply Kd.vD_)); exact HO_0.out⟩, ⟨by (with_reducible repeat (first | apply Kd.vA_ | apply Kd.vN_ | apply Kd.vD_)); exact HO_1.out⟩, ⟨by (with_reducible repeat (first | apply Kd.nA_ | apply Kd.nN_ | apply Kd.nD_)); exact HO499.out⟩, ⟨by repeat (first | (with_reducible first | exact HB.out | apply bA_ | apply bN_ | apply b1_) | exact HB.out)⟩⟩
           · rw [if_neg c14] at H
             exact absurd H (by simp)
         · rw [if_neg c13] at H
           have c13b0 : decide (t493 < t495) = false := dF_ c13
           clear c13
           have H' := Aside0.mk H
           clear H
           try go_wp2
           have n0_ := Aside0.mk (Kd.vD_ HO_0.out)
           have n1_ := Aside0.mk (Kd.vD_ HO_1.out)
           have n2_ := Aside0.mk (Kd.nD_ HO_6.out)
           have n3_ := Aside0.mk (b1_ HB.out)
           clear HO_0
           clear HO_1
           clear HO_6
           clear HB
           have HO_0 := n0_
           have HO_1 := n1_
           have HO_6 := n2_
           have HB := n3_
           clear n0_ n1_ n2_ n3_
           have p492 : 0 ≤ (x7_1 : Int) := oT_ (by assumption)
           have q492 : x7_1 < (l0.length : Int) := oT_ (by assumption)
           obtain ⟨ad492, A492_0, c492_0, e492, hx492_0, hl492_0, hi492_0⟩ := at_L4 (Kd.V_reads' HO_0.out).2.2 x7_1 p492 q492
           cases e492
           obtain ⟨ce492, hce492, hMe492, hcc492⟩ := Kd.V_get HO_0.out [] x7_1 p492 (by first | exact q492 | exact oT_ (by assumption) | (have e_ := (Kd.V_reads' HO_0.out).1; omega))
           obtain ⟨ua492_0, uc492_0, rfl, ul492_0, ge492_0⟩ := Kd.FK_slice_open hMe492
           have hv492_0 := hcc492 0 _ rfl
           rw [Nat.add_zero, show ((Kd.slice 36 k36)).sz = 1 from rfl, Nat.mul_one] at hv492_0
           replace hv492_0 := Option.some.inj (hv492_0.symm.trans hx492_0)
           injection hv492_0 with hva_ hvn_ hvc_
           rw [hva_] at ge492_0
           rw [hvc_] at ul492_0
           have HL492_0 := Aside0.mk (show Kd.V k36 36 _ w.heap.size _ _ (rd_L4 l0 x7_1) from Kd.V_mk ul492_0 ge492_0)
           clear hva_ hvn_ hvc_ ge492_0 ul492_0
           clear hcc492 hce492
           have HR492_0 := Aside0.mk hi492_0
           have HC492_0 := Aside0.mk hl492_0
           clear hi492_0 hl492_0
           replace p492 := eq_true p492
           replace q492 := eq_true q492
           have p494 : 0 ≤ (x7_1 : Int) := oT_ (by assumption)
           have q494 : x7_1 < (l0.length : Int) := oT_ (by assumption)
           obtain ⟨ad494, A494_0, c494_0, e494, hx494_0, hl494_0, hi494_0⟩ := at_L4 (Kd.V_reads' HO_0.out).2.2 x7_1 p494 q494
           obtain rfl : ad492 = ad494 := (by injection e494)
           obtain ⟨ce494, hce494, hMe494, hcc494⟩ := Kd.V_get HO_0.out [] x7_1 p494 (by first | exact q494 | exact oT_ (by assumption) | (have e_ := (Kd.V_reads' HO_0.out).1; omega))
           obtain ⟨ua494_0, uc494_0, rfl, ul494_0, ge494_0⟩ := Kd.FK_slice_open hMe494
           have hv494_0 := hcc494 0 _ rfl
           rw [Nat.add_zero, show ((Kd.slice 36 k36)).sz = 1 from rfl, Nat.mul_one] at hv494_0
           replace hv494_0 := Option.some.inj (hv494_0.symm.trans hx494_0)
           injection hv494_0 with hva_ hvn_ hvc_
           rw [hva_] at ge494_0
           rw [hvc_] at ul494_0
           have HL494_0 := Aside0.mk (show Kd.V k36 36 _ w.heap.size _ _ (rd_L4 l0 x7_1) from Kd.V_mk ul494_0 ge494_0)
           clear hva_ hvn_ hvc_ ge494_0 ul494_0
           clear hcc494 hce494
           have HR494_0 := Aside0.mk hi494_0
           have HC494_0 := Aside0.mk hl494_0
           clear hi494_0 hl494_0
           replace p494 := eq_true p494
           replace q494 := eq_true q494
           have ea_ := Option.some.inj (hx492_0.symm.trans hx494_0)
           injection ea_ with ea_ en_ ec_
           subst ea_
           subst ec_
           clear en_
           obtain ⟨Ao21, co21, eo21⟩ := Kd.N_slice HO_6.out
           (first | subst eo21 | (injection eo21 with f1_ f2_ f3_; have f4_ := f1_.symm; have f5_ := f3_.symm; clear f1_ f2_ f3_; subst f4_; subst f5_))
           refine start_ (n := 13) (S := fun w' => w'.cell? (ad492.add (x7_1).toNat) = some (.slice A492_0 (rd_L4 l0 x7_1).length c492_0) ∧ w'.cell? (ad492.add (x7_1).toNat) = some (.slice A492_0 (rd_L4 l0 x7_1).length c492_0)) (ds := []) #[X_,X_,X_,X_,X_,X_,X_,X_,X_,X_,X_,X_,X_] (by kernel_rfl) rfl rfl ⟨hx492_0, hx494_0⟩ (fun hHeld => ?_); refine with_tabW r6_Intersect.tab7 r6_Intersect.bits7 (fun HT_ HW_ => ?_)
           generalize wr.drew = w20 at HO_0 HO_1 HO_6 HB HL492_0 HL494_0 HR492_0 HR494_0 hx492_0 hx494_0 hHeld ⊢
           refine pure_ (i := 0) (N := some 19) (v := ?_) (a' := ?_) #[Y_,X_,X_,X_,X_,X_,X_,X_,X_,X_,X_,X_,X_] rfl rfl (any_of HT_.out (by kernel_rfl)) (fun _ _ _ h => h) (Or.inl ⟨by rfl, ?_⟩) ?_ ?_
           rotate_left
           · intro w'
             go_simp
             with_reducible rfl
           rotate_left
           · simp only [Act.put, sTA_, sCZ_, sCS_, i64_w, i32_w]
             rfl
           refine pure_ (i := 1) (N := some 20) (v := ?_) (a' := ?_) #[Y_,Y_,X_,X_,X_,X_,X_,X_,X_,X_,X_,X_,X_] rfl rfl (any_of HT_.out (by kernel_rfl)) (fun _ _ _ h => h) (Or.inl ⟨by rfl, ?_⟩) ?_ ?_
           rotate_left
           · intro w'
             go_simp
             with_reducible rfl
           rotate_left
           · simp only [Act.put, sTA_, sCZ_, sCS_, i64_w, i32_w]
             rfl
           refine pure_ (i := 2) (N := some 21) (v := ?_) (a' := ?_) #[Y_,Y_,Y_,X_,X_,X_,X_,X_,X_,X_,X_,X_,X_] rfl rfl (any_of HT_.out (by kernel_rfl)) (fun _ _ _ h => h) (Or.inl ⟨by rfl, ?_⟩) ?_ ?_
           rotate_left
           · intro w'
             go_simp
             with_reducible rfl
           rotate_left
           · simp only [Act.put, sTA_, sCZ_, sCS_, i64_w, i32_w]
             rfl
           refine pure_ (i := 3) (N := some 22) (v := ?_) (a' := ?_) #[Y_,Y_,Y_,Y_,X_,X_,X_,X_,X_,X_,X_,X_,X_] rfl rfl (any_of HT_.out (by kernel_rfl)) (fun _ _ _ h => h) (Or.inl ⟨by rfl, ?_⟩) ?_ ?_
           rotate_left
           · intro w'
             go_simp
             with_reducible rfl
           rotate_left
           · simp only [Act.put, sTA_, sCZ_, sCS_, i64_w, i32_w]
             rfl
           refine pure_ (i := 6) (N := some 25) (v := ?_) (a' := ?_) #[Y_,Y_,Y_,Y_,X_,X_,Y_,X_,X_,X_,X_,X_,X_] rfl rfl (any_of HT_.out (by kernel_rfl)) (fun _ _ _ h => h) (Or.inl ⟨by rfl, ?_⟩) ?_ ?_
           rotate_left
           · intro w'
             go_simp
             with_reducible rfl
           rotate_left
           · simp only [Act.put, sTA_, sCZ_, sCS_, i64_w, i32_w]
             rfl
           refine pure_ (i := 7) (N := some 26) (v := ?_) (a' := ?_) #[Y_,Y_,Y_,Y_,X_,X_,Y_,Y_,X_,X_,X_,X_,X_] rfl rfl (any_of HT_.out (by kernel_rfl)) (fun _ _ _ h => h) (Or.inl ⟨by rfl, ?_⟩) ?_ ?_
           rotate_left
           · intro w'
             go_simp
             with_reducible rfl
           rotate_left
           · simp only [Act.put, sTA_, sCZ_, sCS_, i64_w, i32_w]
             rfl
           refine pure_ (i := 8) (N := some 27) (v := ?_) (a' := ?_) #[Y_,Y_,Y_,Y_,X_,X_,Y_,Y_,Y_,X_,X_,X_,X_] rfl rfl (any_of HT_.out (by kernel_rfl)) (fun _ _ _ h => h) (Or.inl ⟨by rfl, ?_⟩) ?_ ?_
           rotate_left
           · intro w'
             go_simp
             with_reducible rfl
           rotate_left
           · simp only [Act.put, sTA_, sCZ_, sCS_, i64_w, i32_w]
             rfl
           refine pure_ (i := 9) (N := some 28) (v := ?_) (a' := ?_) #[Y_,Y_,Y_,Y_,X_,X_,Y_,Y_,Y_,Y_,X_,X_,X_] rfl rfl (any_of HT_.out (by kernel_rfl)) (fun _ _ _ h => h) (Or.inl ⟨by rfl, ?_⟩) ?_ ?_
           rotate_left
           · intro w'
             go_simp
             with_reducible rfl
           rotate_left
           · simp only [Act.put, sTA_, sCZ_, sCS_, i64_w, i32_w]
             rfl
           refine take_ (i := 4) (N := some 23) (v := ?_) (a' := ?_) #[Y_,Y_,Y_,Y_,Y_,X_,Y_,Y_,Y_,Y_,X_,X_,X_] rfl rfl (take_ofW HT_.out HW_.out (by kernel_rfl)) (fun _ _ _ h => h) (Or.inl ⟨by rfl, ?_⟩) hHeld ?_ ?_
           rotate_left
           · rintro w' ⟨s0, s1⟩
             go_simp
             with_reducible rfl
           rotate_left
           · simp only [Act.put, sTA_, sCZ_, sCS_, i64_w, i32_w]
             rfl
           refine take_ (i := 10) (N := some 29) (v := ?_) (a' := ?_) #[Y_,Y_,Y_,Y_,Y_,X_,Y_,Y_,Y_,Y_,Y_,X_,X_] rfl rfl (take_ofW HT_.out HW_.out (by kernel_rfl)) (fun _ _ _ h => h) (Or.inl ⟨by rfl, ?_⟩) hHeld ?_ ?_
           rotate_left
           · rintro w' ⟨s0, s1⟩
             go_simp
             with_reducible rfl
           rotate_left
           · simp only [Act.put, sTA_, sCZ_, sCS_, i64_w, i32_w]
             rfl
           refine one_ (i := 5) (N := some 24) #[Y_,Y_,Y_,Y_,Y_,Y_,Y_,Y_,Y_,Y_,Y_,X_,X_] rfl rfl (one_of HT_.out (by kernel_rfl)) (by decide) (fun K hK => ?_)
           refine goes_ Tryz.func44 (by kernel_rfl) rfl #[.slice Ao21 x6_1.length co21, .slice A492_0 (rd_L4 l0 x7_1).length c492_0] (by rfl) rfl rfl (by (try simp only [List.map_toArray, List.map_cons, List.map_nil]); first | done | rfl | (simp only [List.length_drop, List.length_take]; rfl)) ?_
           with_reducible refine (r6_Count.calls k1 _ _ x6_1 _ _ (rd_L4 l0 x7_1) t493 _ ?side1 ?side2 ?side3 ?side4 A11.out).mono ?_
           (case side1 => repeat (first | exact (Kd.N_reads' HO_6.out).2.2 | (with_reducible refine Kd.cA_ ?_ _) | (with_reducible refine Kd.cN_ ?_ _) | (with_reducible refine Kd.cD_ ?_)))
           (case side2 => exact (Kd.N_reads' HO_6.out).2.1)
           (case side3 => repeat (first | exact (by repeat (first | (with_reducible exact HR492_0.out) | (with_reducible refine Kd.cA_ ?_ _) | (with_reducible refine Kd.cN_ ?_ _) | (with_reducible refine Kd.cD_ ?_) | exact HR492_0.out)) | (with_reducible refine Kd.cA_ ?_ _) | (with_reducible refine Kd.cN_ ?_ _) | (with_reducible refine Kd.cD_ ?_)))
           (case side4 => exact HC492_0.out)
           rintro e w22 ⟨rfl, hb⟩
           have HS0_ := (hb.cell (bLC_ _ _ (hHeld.1))).trans (hHeld.1)
           have HS1_ := (hb.cell (bLC_ _ _ (hHeld.2))).trans (hHeld.2)
           refine ⟨_, rfl, ?_⟩
           have n0_ := Aside0.mk (Kd.V_below (by (with_reducible repeat (first | apply Kd.vA_ | apply Kd.vN_ | apply Kd.vD_)); exact HO_0.out) hb)
           have n1_ := Aside0.mk (Kd.V_below (by (with_reducible repeat (first | apply Kd.vA_ | apply Kd.vN_ | apply Kd.vD_)); exact HO_1.out) hb)
           have n2_ := Aside0.mk (Kd.N_below (by (with_reducible repeat (first | apply Kd.nA_ | apply Kd.nN_ | apply Kd.nD_)); exact HO_6.out) hb)
           have n3_ := Aside0.mk (Kd.V_below (by (with_reducible repeat (first | apply Kd.vA_ | apply Kd.vN_ | apply Kd.vD_)); exact HL492_0.out) hb)
           have n4_ := Aside0.mk (Kd.V_below (by (with_reducible repeat (first | apply Kd.vA_ | apply Kd.vN_ | apply Kd.vD_)); exact HL494_0.out) hb)
           have n5_ := Aside0.mk (Kd.C_below (by repeat (first | (with_reducible exact HR492_0.out) | (with_reducible refine Kd.cA_ ?_ _) | (with_reducible refine Kd.cN_ ?_ _) | (with_reducible refine Kd.cD_ ?_) | exact HR492_0.out)) hb)
           have n6_ := Aside0.mk (Kd.C_below (by repeat (first | (with_reducible exact HR494_0.out) | (with_reducible refine Kd.cA_ ?_ _) | (with_reducible refine Kd.cN_ ?_ _) | (with_reducible refine Kd.cD_ ?_) | exact HR494_0.out)) hb)
           have n7_ := Aside0.mk (below_step (by repeat (first | (with_reducible first | exact HB.out | apply bA_ | apply bN_ | apply b1_) | exact HB.out)) hb)
           clear HO_0
           clear HO_1
           clear HO_6
           clear HL492_0
           clear HL494_0
           clear HR492_0
           clear HR494_0
           clear HB
           have HO_0 := n0_
           have HO_1 := n1_
           have HO_6 := n2_
           have HL492_0 := n3_
           have HL494_0 := n4_
           have HR492_0 := n5_
           have HR494_0 := n6_
           have HB := n7_
           clear n0_ n1_ n2_ n3_ n4_ n5_ n6_ n7_
           (try clear hb)
           (try clear hb2)
           (try clear hk)
           (try clear hi)
           refine hK.out _ _ ⟨HS0_, HS1_⟩ (fun hHeld => ?_)
           clear hK K
           refine norm_ (a' := ?_) ?_ ?_
           rotate_left
           · show Act.put _ (some 24) _ = _
             simp only [Act.put, sTA_, sCZ_, sCS_, i64_w, i32_w]
             rfl
           refine one_ (i := 11) (N := some 30) #[Y_,Y_,Y_,Y_,Y_,Y_,Y_,Y_,Y_,Y_,Y_,Y_,X_] rfl rfl (one_of HT_.out (by kernel_rfl)) (by decide) (fun K hK => ?_)
           refine goes_ Tryz.func44 (by kernel_rfl) rfl #[.slice A1 l1.length c1, .slice A492_0 (rd_L4 l0 x7_1).length c492_0] (by rfl) rfl rfl (by (try simp only [List.map_toArray, List.map_cons, List.map_nil]); first | done | rfl | (simp only [List.length_drop, List.length_take]; rfl)) ?_
           with_reducible refine (r6_Count.calls k1 _ _ l1 _ _ (rd_L4 l0 x7_1) t495 _ ?side1 ?side2 ?side3 ?side4 A12.out).mono ?_
           (case side1 => repeat (first | exact (Kd.V_reads' HO_1.out).2.2 | (with_reducible refine Kd.cA_ ?_ _) | (with_reducible refine Kd.cN_ ?_ _) | (with_reducible refine Kd.cD_ ?_)))
           (case side2 => exact (Kd.V_reads' HO_1.out).2.1)
           (case side3 => repeat (first | exact (by repeat (first | (with_reducible exact HR494_0.out) | (with_reducible refine Kd.cA_ ?_ _) | (with_reducible refine Kd.cN_ ?_ _) | (with_reducible refine Kd.cD_ ?_) | exact HR494_0.out)) | (with_reducible refine Kd.cA_ ?_ _) | (with_reducible refine Kd.cN_ ?_ _) | (with_reducible refine Kd.cD_ ?_)))
           (case side4 => exact HC494_0.out)
           rintro e w23 ⟨rfl, hb⟩
           have HS0_ := (hb.cell (bLC_ _ _ (hHeld.1))).trans (hHeld.1)
           have HS1_ := (hb.cell (bLC_ _ _ (hHeld.2))).trans (hHeld.2)
           refine ⟨_, rfl, ?_⟩
           have n0_ := Aside0.mk (Kd.V_below (by (with_reducible repeat (first | apply Kd.vA_ | apply Kd.vN_ | apply Kd.vD_)); exact HO_0.out) hb)
           have n1_ := Aside0.mk (Kd.V_below (by (with_reducible repeat (first | apply Kd.vA_ | apply Kd.vN_ | apply Kd.vD_)); exact HO_1.out) hb)
           have n2_ := Aside0.mk (Kd.N_below (by (with_reducible repeat (first | apply Kd.nA_ | apply Kd.nN_ | apply Kd.nD_)); exact HO_6.out) hb)
           have n3_ := Aside0.mk (Kd.V_below (by (with_reducible repeat (first | apply Kd.vA_ | apply Kd.vN_ | apply Kd.vD_)); exact HL492_0.out) hb)
           have n4_ := Aside0.mk (Kd.V_below (by (with_reducible repeat (first | apply Kd.vA_ | apply Kd.vN_ | apply Kd.vD_)); exact HL494_0.out) hb)
           have n5_ := Aside0.mk (Kd.C_below (by repeat (first | (with_reducible exact HR492_0.out) | (with_reducible refine Kd.cA_ ?_ _) | (with_reducible refine Kd.cN_ ?_ _) | (with_reducible refine Kd.cD_ ?_) | exact HR492_0.out)) hb)
           have n6_ := Aside0.mk (Kd.C_below (by repeat (first | (with_reducible exact HR494_0.out) | (with_reducible refine Kd.cA_ ?_ _) | (with_reducible refine Kd.cN_ ?_ _) | (with_reducible refine Kd.cD_ ?_) | exact HR494_0.out)) hb)
           have n7_ := Aside0.mk (below_step (by repeat (first | (with_reducible first | exact HB.out | apply bA_ | apply bN_ | apply b1_) | exact HB.out)) hb)
           clear HO_0
           clear HO_1
           clear HO_6
           clear HL492_0
           clear HL494_0
           clear HR492_0
           clear HR494_0
           clear HB
           have HO_0 := n0_
           have HO_1 := n1_
           have HO_6 := n2_
           have HL492_0 := n3_
           have HL494_0 := n4_
           have HR492_0 := n5_
           have HR494_0 := n6_
           have HB := n7_
           clear n0_ n1_ n2_ n3_ n4_ n5_ n6_ n7_
           (try clear hb)
           (try clear hb2)
           (try clear hk)
           (try clear hi)
           refine hK.out _ _ ⟨HS0_, HS1_⟩ (fun hHeld => ?_)
           clear hK K
           refine norm_ (a' := ?_) ?_ ?_
           rotate_left
           · show Act.put _ (some 30) _ = _
             simp only [Act.put, sTA_, sCZ_, sCS_, i64_w, i32_w]
             rfl
           refine pure_ (i := 12) (N := some 31) (v := ?_) (a' := ?_) #[Y_,Y_,Y_,Y_,Y_,Y_,Y_,Y_,Y_,Y_,Y_,Y_,Y_] rfl rfl (any_of HT_.out (by kernel_rfl)) (fun _ _ _ h => h) (Or.inl ⟨by rfl, ?_⟩) ?_ ?_
           rotate_left
           · intro w'
             go_simp
             with_reducible rfl
           rotate_left
           · simp only [Act.put, sTA_, sCZ_, sCS_, i64_w, i32_w]
             rfl
           refine done_ (done_of HT_.out (by kernel_rfl)) ?_
           try go_wp2
           go_roundg k1
           case measure => have := HK1.out; omega
           case rel => exact ⟨(x6_1), (wrap64 (x7_1 + 1)), (by first | rfl | (simp; done) | (simp [*]; done)), H', ⟨by have := HK1.out; omega⟩, ⟨by (with_reducible repeat (first | apply Kd.vA_ | apply Kd.vN_ | apply Kd.vD_)); exact HO_0.out⟩, ⟨by (with_reducible repeat (first | apply Kd.vA_ | apply Kd.vN_ | apply Kd.vD_)); exact HO_1.out⟩, ⟨by (with_reducible repeat (first | apply Kd.nA_ | apply Kd.nN_ | apply Kd.nD_)); exact HO_6.out⟩, ⟨by repeat (first | (with_reducible first | exact HB.out | apply bA_ | apply bN_ | apply b1_) | exact HB.out)⟩⟩
       · rw [if_neg c10] at H
         exact absurd H (by simp)
     · rw [if_neg c9] at H
       have c9b0 : decide (x7_1 < (l0.length : Int)) = false := dF_ c9
       clear c9
       replace H := Option.bind_eq_some_iff.mp H
       obtain ⟨t489, A240, H⟩ := H
       replace H : (some (t489, 0)) = some (r1, r2) := H
       have A24 := Aside0.mk A240
       clear A240
       simp only [Option.some.injEq, Prod.mk.injEq] at H
       obtain ⟨rfl, rfl⟩ := H
       obtain ⟨Ao25, co25, eo25⟩ := Kd.N_slice HO_6.out
       subst eo25
       go_wp2_with (first | ((with_reducible refine gate_callee (f := 67) rfl ?_); refine goesL_ (some 40) rfl rfl Tryz.func67 (by kernel_rfl) rfl #[.slice Ao25 x6_1.length co25, .slice none 0 0] rfl (by (try simp only [List.map_toArray, List.map_cons, List.map_nil]); first | done | rfl | (simp only [List.length_drop, List.length_take]; rfl)) ?_; (refine (r6_full.calls k1 _ _ x6_1 _ _ ([] : List (S64)) t489 _ ?side1 ?side2 ?side3 ?side4 A24.out).mono ?_); (case side1 => repeat (first | exact (Kd.N_reads' HO_6.out).2.2 | (with_reducible refine Kd.cA_ ?_ _) | (with_reducible refine Kd.cN_ ?_ _) | (with_reducible refine Kd.cD_ ?_))); (case side2 => exact (Kd.N_reads' HO_6.out).2.1); (case side3 => exact Kd.C_nil _ _); (case side4 => exact Nat.le_refl _); rintro e w26 ⟨v490, rfl, ho0, hb⟩; refine ⟨_, rfl, ?_⟩; have n0_ := Aside0.mk (Kd.V_below (by (with_reducible repeat (first | apply Kd.vA_ | apply Kd.vN_ | apply Kd.vD_)); exact HO_0.out) hb); have n1_ := Aside0.mk (Kd.V_below (by (with_reducible repeat (first | apply Kd.vA_ | apply Kd.vN_ | apply Kd.vD_)); exact HO_1.out) hb); have n2_ := Aside0.mk (Kd.N_below (by (with_reducible repeat (first | apply Kd.nA_ | apply Kd.nN_ | apply Kd.nD_)); exact HO_6.out) hb); have n3_ := Aside0.mk (Kd.V_lower (Kd.V_mono (ok' := fun k_ => ((P0_ k_ ∨ P1_ k_) ∨ w.heap.size ≤ k_) ∧ some k_ ≠ (.slice Ao25 x6_1.length co25 : Value).ownBlock) ho0 (fun k_ hk_ => ⟨(.inr (Nat.le_trans (below_size (by repeat (first | (with_reducible first | exact HB.out | apply bA_ | apply bN_ | apply b1_) | exact HB.out))) hk_)), (Kd.fresh' (Kd.N_lt (by (with_reducible repeat (first | apply Kd.nA_ | apply Kd.nN_ | apply Kd.nD_)); exact HO_6.out)) k_ hk_)⟩)) (below_size (by repeat (first | (with_reducible first | exact HB.out | apply bA_ | apply bN_ | apply b1_) | exact HB.out)))); have n4_ := Aside0.mk (below_step (by repeat (first | (with_reducible first | exact HB.out | apply bA_ | apply bN_ | apply b1_) | exact HB.out)) hb); clear HO_0; clear HO_1; clear HO_6; clear HB; have HO_0 := n0_; have HO_1 := n1_; have HO_6 := n2_; have HO491 := n3_; have HB := n4_; clear n0_ n1_ n2_ n3_ n4_; (try clear hb); (try clear hb2); (try clear hk); (try clear hi); (try clear ho0)))
       go_ret2
       exact ⟨_, by first | rfl | (simp [*, errW_none, errW_some] <;> rfl), by (with_reducible repeat (first | apply Kd.vA_ | apply Kd.vN_ | apply Kd.vD_)); exact Kd.V_mono HO491.out (fun _ hk => hk.1), by repeat (first | (with_reducible first | exact HB.out | apply bA_ | apply bN_ | apply b1_) | exact HB.out)⟩
 · replace c5 := Bool.eq_false_iff.mpr c5
   subst c5
   have H1 : (some (([] : List (List (S36))), 1)) = some (r1, r2) := by rw [if_neg (show ¬ (false = true) by decide)] at H; exact H
   clear H
   have H := H1
   clear H1
   simp only [Option.some.injEq, Prod.mk.injEq] at H
   obtain ⟨rfl, rfl⟩ := H
   go_enter Tryz.func34, Tryz.ntmps34
   go_wp2_with (first | ((with_reducible refine gate_callee (f := 70) rfl ?_); refine goesL_ (some 10) rfl rfl Tryz.func70 (by kernel_rfl) rfl #[.slice A0 l0.length c0, .slice A1 l1.length c1] rfl (by (try simp only [List.map_toArray, List.map_cons, List.map_nil]); first | done | rfl | (simp only [List.length_drop, List.length_take]; rfl)) ?_; (with_reducible refine (r6_together.calls k (fun k_ => ((P0_ k_ ∨ P1_ k_) ∨ w.heap.size ≤ k_)) _ _ l0 (fun k_ => ((P0_ k_ ∨ P1_ k_) ∨ w.heap.size ≤ k_)) _ _ l1 t485 _ ?side1 ?side2 A3.out).mono ?_); (case side1 => exact HO0.out); (case side2 => exact HO1.out); rintro e w27 ⟨v486, rfl, ho0, hb⟩; refine ⟨_, rfl, ?_⟩; have n0_ := Aside0.mk (Kd.V_elder' (by (with_reducible repeat (first | apply Kd.vA_ | apply Kd.vN_ | apply Kd.vD_)); exact HO0.out) (Kd.N_base ho0) hb); have n1_ := Aside0.mk (Kd.V_elder' (by (with_reducible repeat (first | apply Kd.vA_ | apply Kd.vN_ | apply Kd.vD_)); exact HO1.out) (Kd.N_base ho0) hb); have n2_ := Aside0.mk (Kd.N_lower (Kd.N_mono (ok' := fun k_ => ((P0_ k_ ∨ P1_ k_) ∨ w.heap.size ≤ k_)) ho0 (fun k_ hk_ => Or.elim hk_ (fun hs_ => Or.elim hs_ (fun hs_ => hs_) (fun hs_ => hs_)) (fun hn_ => (.inr (Nat.le_trans (below_size (by repeat (first | (with_reducible first | exact HB.out | apply bA_ | apply bN_ | apply b1_) | exact HB.out))) hn_))))) (below_size (by repeat (first | (with_reducible first | exact HB.out | apply bA_ | apply bN_ | apply b1_) | exact HB.out)))); have n3_ := Aside0.mk (below_step (by repeat (first | (with_reducible first | exact HB.out | apply bA_ | apply bN_ | apply b1_) | exact HB.out)) hb); clear HO0; clear HO1; clear HB; have HO0 := n0_; have HO1 := n1_; have HO487 := n2_; have HB := n3_; clear n0_ n1_ n2_ n3_; (try clear hb); (try clear hb2); (try clear hk); (try clear hi); (try clear ho0); obtain ⟨Ao28, co28, eo28⟩ := Kd.N_slice HO487.out; subst eo28) | ((with_reducible refine gate_callee (f := 11) rfl ?_); refine goesL_ (some 11) rfl rfl Tryz.func11 (by kernel_rfl) rfl #[.slice Ao28 t485.length co28] rfl (by (try simp only [List.map_toArray, List.map_cons, List.map_nil]); first | done | rfl | (simp only [List.length_drop, List.length_take]; rfl)) ?_; (with_reducible refine (r6_Valid.calls k _ _ t485 false _ ?side1 ?side2 A4.out).mono ?_); (case side1 => repeat (first | exact (Kd.N_reads' HO487.out).2.2 | (with_reducible refine Kd.cA_ ?_ _) | (with_reducible refine Kd.cN_ ?_ _) | (with_reducible refine Kd.cD_ ?_))); (case side2 => exact (Kd.N_reads' HO487.out).2.1); rintro e w29 ⟨rfl, hb⟩; refine ⟨_, rfl, ?_⟩; have n0_ := Aside0.mk (Kd.V_below (by (with_reducible repeat (first | apply Kd.vA_ | apply Kd.vN_ | apply Kd.vD_)); exact HO0.out) hb); have n1_ := Aside0.mk (Kd.V_below (by (with_reducible repeat (first | apply Kd.vA_ | apply Kd.vN_ | apply Kd.vD_)); exact HO1.out) hb); have n2_ := Aside0.mk (Kd.N_below (by (with_reducible repeat (first | apply Kd.nA_ | apply Kd.nN_ | apply Kd.nD_)); exact HO487.out) hb); have n3_ := Aside0.mk (below_step (by repeat (first | (with_reducible first | exact HB.out | apply bA_ | apply bN_ | apply b1_) | exact HB.out)) hb); clear HO0; clear HO1; clear HO487; clear HB; have HO0 := n0_; have HO1 := n1_; have HO487 := n2_; have HB := n3_; clear n0_ n1_ n2_ n3_; (try clear hb); (try clear hb2); (try clear hk); (try clear hi)))
   go_ret2
   exact ⟨.slice none 0 0, by first | rfl | (simp [*, errW_none, errW_some] <;> rfl), Kd.V_nil _ _ _ _ _, by repeat (first | (with_reducible first | exact HB.out | apply bA_ | apply bN_ | apply b1_) | exact HB.out)⟩
end Go.Proofs.YtecgkcgfeghhgaaGreatDoor.PAll
