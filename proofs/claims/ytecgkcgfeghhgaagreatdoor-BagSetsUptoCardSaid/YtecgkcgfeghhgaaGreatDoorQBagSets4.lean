/- What the last of these texts proves is told there. Joined by a program of this session out of its texts. -/
import Derived.Test.YtecgkcgfeghhgaaGreatDoorQBagSets3
import Derived.Below
import Derived.Deep.Draws
import Derived.Deep.AppendLies
import Derived.Maps.AppendAt
import Derived.OwnWalk
import Derived.Laws.BytesArg
import Derived.Laws.MakeOwn
import Derived.Laws.OwnMore
import Derived.Deep.OwnRows
import Derived.Tactics
import Derived.Lib.ConvBytes
import Derived.Laws.Slices
import Derived.WalkKit
import Derived.KernelRfl
import Derived.RowKit3
import Derived.Deep.LoopGhost
import Derived.Deep.QuietTactic
import Derived.BigQuiet
import Derived.WideLaws
import Derived.Deep.DeepCutAuto
import Derived.Deep.CutBlock
import Derived.Deep.RegionHeld3
import Derived.Laws.Rows
import Derived.Lib.AppendStr
import Derived.ArgAppend
import Derived.Laws.IdiomCopy
import Derived.RowKit
import Derived.OrdersHeld
import Derived.Laws.BitsLemmas
import Derived.Laws.StructEq
import Derived.Shelf.Strings.BuilderK
import Derived.Shelf.Spec.SlicesGrow
import Derived.Shelf.SlGeneric
import Derived.Ground.Names8Prog
import Derived.Shelf.SlSortCmp.NoneTotal
import Derived.Ground.SlsfProg
import Derived.Ground.NamesProg
import Derived.Shelf.Spec.BitsCarry
import Derived.Ground.Names7Prog
import Derived.Shelf.Strings.Builder1
import Derived.Shelf.Small.Bits
import Derived.Shelf.Small.Strs
import Derived.Shelf.Strings.BuilderF
import Derived.Shelf.Strconv.Itoa0
import Derived.Shelf.Strconv.Itoa1
import Derived.Shelf.LaysM
import Derived.Shelf.Strconv.Itoa2
import Derived.Shelf.Strconv.Itoa3
import Derived.Shelf.Strconv.Itoa4
import Derived.Shelf.Strings.BuilderCap
import Derived.Maps.OwnOps
import Derived.ChangeArms
import Derived.Deep.Slices
import Derived.Deep.Strs
import Derived.Lib.ItoaLen
import Derived.Sort.Statements
import Derived.WalkSpells
import Derived.WalkMore
import Derived.BigRegion
import Derived.RegionTactic
set_option maxHeartbeats 8000000
set_option maxRecDepth 100000
namespace Go.Proofs.YtecgkcgfeghhgaaGreatDoor.PAll
open Go.RowKit Go.Proofs.YtecgkcgfeghhgaaGreatDoorW.PrintWords Go.Proofs.YtecgkcgfeghhgaaGreatDoorW.PrintLast Go.Proofs.YtecgkcgfeghhgaaGreatDoorW.PrintMore
attribute [local go_sem] max2_int min2_int max_two min_two max_three min_three max_four min_four
set_option linter.unusedVariables false
set_option linter.unusedSimpArgs false
mutual
def r6_CompareBy.l0 : Nat → List (S36) → List (S36) → List (S64) → Int → Option (Int)
 | 0, _, _, _, _ => none
 | k + 1, x0, x1, x2, x7 => if x7 < (x2.length : Int) then (if 0 ≤ x7 then (if ((rd_T64 x2 x7).f0) < 0 then (r6_CompareBy.j1 k x0 x1 x2 x7 ((rd_T64 x2 x7).f0) true) else (if ((rd_T64 x2 x7).f0) ≥ (x0.length : Int) then (r6_CompareBy.j1 k x0 x1 x2 x7 ((rd_T64 x2 x7).f0) true) else (r6_CompareBy.j1 k x0 x1 x2 x7 ((rd_T64 x2 x7).f0) (decide (((rd_T64 x2 x7).f0) ≥ (x1.length : Int)))))) else (none)) else (some 0)
def r6_CompareBy.j1 : Nat → List (S36) → List (S36) → List (S64) → Int → Int → Bool → Option (Int)
 | 0, _, _, _, _, _, _ => none
 | k + 1, x0, x1, x2, x7, x8, x34 => if x34 = true then (some 0) else (if 0 ≤ x8 then (if x8 < (x0.length : Int) then (if x8 < (x1.length : Int) then ((r1_Compare.f k ((rd_T36 x0 x8).f0) ((rd_T36 x0 x8).f1) ((rd_T36 x0 x8).f2) ((rd_T36 x1 x8).f0) ((rd_T36 x1 x8).f1) ((rd_T36 x1 x8).f2)).bind fun t190 => (if t190 = 0 then (r6_CompareBy.j2 k x0 x1 x2 x7 t190 false) else (if 0 ≤ x7 then (if x7 < (x2.length : Int) then (r6_CompareBy.j2 k x0 x1 x2 x7 t190 ((rd_T64 x2 x7).f1)) else (none)) else (none)))) else (none)) else (none)) else (none))
def r6_CompareBy.j2 : Nat → List (S36) → List (S36) → List (S64) → Int → Int → Bool → Option (Int)
 | 0, _, _, _, _, _, _ => none
 | k + 1, x0, x1, x2, x7, x9, x52 => if x52 = true then (some (wrap64 (-x9))) else (if x9 = 0 then (r6_CompareBy.l0 k x0 x1 x2 (wrap64 (x7 + 1))) else (some x9))
end
def r6_CompareBy.f (k : Nat) (l0 : List (S36)) (l1 : List (S36)) (l2 : List (S64)) : Option (Int) := r6_CompareBy.l0 k l0 l1 l2 0
def r6_CompareBy.T7 : Bool × List (List Nat × List Nat) := (true, [([], []), ([], []), ([0, 1], [0, 1]), ([2], [2]), ([], []), ([], []), ([4, 5], [4, 5]), ([6], [6]), ([3, 7], [3, 7]), ([8, 8, 0, 1, 2, 3, 4, 5, 6, 7, 8], [8])])
def r6_CompareBy.B7 : List Nat := [0, 0, 3, 7, 0, 0, 48, 112, 255, 511]
theorem r6_CompareBy.tab7 : rtab .any (opsOf Tryz.f66 7) = r6_CompareBy.T7 := by kernel_rfl
theorem r6_CompareBy.bits7 : waitsOk r6_CompareBy.T7.2 r6_CompareBy.B7 = true := by kernel_rfl
theorem r6_CompareBy.calls (k : Nat) (A0 : Option Addr) (c0 : Nat) (l0 : List (S36)) (A1 : Option Addr) (c1 : Nat) (l1 : List (S36)) (A2 : Option Addr) (c2 : Nat) (l2 : List (S64)) (r : Int) (w : World) (hr0 : Kd.C k36 w A0 l0.length l0) (hc0 : l0.length ≤ c0) (hr1 : Kd.C k36 w A1 l1.length l1) (hc1 : l1.length ≤ c1) (hr2 : Kd.C k64 w A2 l2.length l2) (hc2 : l2.length ≤ c2) (h : r6_CompareBy.f k l0 l1 l2 = some r) :
 Calls Tryz.prog 66 #[.slice A0 l0.length c0, .slice A1 l1.length c1, .slice A2 l2.length c2] w fun e w' => e = .returned (.int .i64 r) ∧ Below w.heap.size w w' := by
 have hu36 := Tryz.underlying36
 have HR0 := Aside0.mk hr0
 have HC0 := Aside0.mk hc0
 clear hr0 hc0
 have HR1 := Aside0.mk hr1
 have HC1 := Aside0.mk hc1
 clear hr1 hc1
 have HR2 := Aside0.mk hr2
 have HC2 := Aside0.mk hc2
 clear hr2 hc2
 have HB := Aside0.mk (Below.refl w.heap.size w)
 have H : (r6_CompareBy.l0 k l0 l1 l2 0) = some r := h
 clear h
 have H' := Aside0.mk H
 clear H
 go_enter Tryz.func66, Tryz.ntmps66
 go_wp2
 go_loopg [7] k (fun kq v7 w' => ∃ (x7_1 : Int), v7 = .int .i64 x7_1 ∧ Aside0 (r6_CompareBy.l0 kq l0 l1 l2 x7_1 = some r) ∧ Aside0 (kq ≤ k) ∧ Aside0 (Below w.heap.size w w'))
 case atStart => exact ⟨(0), (by first | rfl | (simp; done) | (simp [*]; done)), H', ⟨Nat.le_refl _⟩, ⟨by repeat (first | (with_reducible first | exact HB.out | apply bA_ | apply bN_ | apply b1_) | exact HB.out)⟩⟩
 case round =>
  clear H'
  try clear c1
  try clear c2
  try clear p2
  obtain ⟨x7_1, rfl, HA, HK1, HB⟩ := hrel
  cases gk with
  | zero => exact absurd HA.out (by simp [r6_CompareBy.l0])
  | succ k1 =>
   have H := HA.out
   clear HA
   simp only [r6_CompareBy.l0] at H
   by_cases c4 : x7_1 < (l2.length : Int)
   · rw [if_pos c4] at H
     have c4b0 : decide (x7_1 < (l2.length : Int)) = true := dT_ c4
     clear c4
     by_cases c5 : 0 ≤ x7_1
     · rw [if_pos c5] at H
       have c5b0 : decide (0 ≤ x7_1) = true := dT_ c5
       clear c5
       have HC6 := Aside0.mk H
       clear H
       have p187 : 0 ≤ (x7_1 : Int) := oT_ (by assumption)
       have q187 : x7_1 < (l2.length : Int) := oT_ (by assumption)
       obtain ⟨ad187, e187, hx187_0, hx187_1⟩ := at_T64 HR2.out x7_1 p187 q187
       cases e187
       replace hx187_0 := (HB.out.cell (bLC_ w _ hx187_0)).trans hx187_0
       replace hx187_1 := (HB.out.cell (bLC_ w _ hx187_1)).trans hx187_1
       replace p187 := eq_true p187
       replace q187 := eq_true q187
       go_upto_region 5 with (fail)
       go_cut [34] (fun v34 wc => ∃ (kq : Nat) (x34_5 : Bool), v34 = .bool x34_5 ∧ Aside0 (r6_CompareBy.j1 kq l0 l1 l2 x7_1 ((rd_T64 l2 x7_1).f0) x34_5 = some r) ∧ Aside0 (kq ≤ k1) ∧ Aside0 (Below w.heap.size w wc))
       case first =>
        have H := HC6.out
        clear HC6
        by_cases c7 : ((rd_T64 l2 x7_1).f0) < 0
        · rw [if_pos c7] at H
          have c7b0 : decide (((rd_T64 l2 x7_1).f0) < 0) = true := dT_ c7
          clear c7
          (first | rw [c7b0] | (simp only [i64_w, i32_w]; rw [c7b0]) | skip)
          have H' := Aside0.mk H
          clear H
          go_wp2
          go_meet
          case rel => exact ⟨_, (true), (by first | rfl | (simp; done) | (simp [*]; done)), H', ⟨by have := HK1.out; first | omega | exact Nat.le_refl _⟩, ⟨by repeat (first | (with_reducible first | exact HB.out | apply bA_ | apply bN_ | apply b1_) | exact HB.out)⟩⟩
        · rw [if_neg c7] at H
          have c7b0 : decide (((rd_T64 l2 x7_1).f0) < 0) = false := dF_ c7
          clear c7
          (first | rw [c7b0] | (simp only [i64_w, i32_w]; rw [c7b0]) | skip)
          by_cases c8 : ((rd_T64 l2 x7_1).f0) ≥ (l0.length : Int)
          · rw [if_pos c8] at H
            have c8b0 : decide ((l0.length : Int) ≤ ((rd_T64 l2 x7_1).f0)) = true := dT_ c8
            clear c8
            have H' := Aside0.mk H
            clear H
            go_wp2
            go_meet
            case rel => exact ⟨_, (true), (by first | rfl | (simp; done) | (simp [*]; done)), H', ⟨by have := HK1.out; first | omega | exact Nat.le_refl _⟩, ⟨by repeat (first | (with_reducible first | exact HB.out | apply bA_ | apply bN_ | apply b1_) | exact HB.out)⟩⟩
          · rw [if_neg c8] at H
            have c8b0 : decide ((l0.length : Int) ≤ ((rd_T64 l2 x7_1).f0)) = false := dF_ c8
            clear c8
            have H' := Aside0.mk H
            clear H
            go_wp2
            go_meet
            case rel => exact ⟨_, (decide (((rd_T64 l2 x7_1).f0) ≥ (l1.length : Int))), (by first | rfl | (simp; done) | (simp [*]; done)), H', ⟨by have := HK1.out; first | omega | exact Nat.le_refl _⟩, ⟨by repeat (first | (with_reducible first | exact HB.out | apply bA_ | apply bN_ | apply b1_) | exact HB.out)⟩⟩
       case rest =>
        clear HC6
        try clear c1
        try clear p1
        try clear q1
        try clear hx1
        try clear c2
        try clear p2
        try clear c4
        try clear c4b0
        try clear c5
        try clear c5b0
        try clear c6
        try clear c7
        try clear c7b0
        try clear c8
        try clear c8b0
        try clear hx187_0
        try clear hx187_1
        try clear p187
        try clear p2
        try clear q187
        obtain ⟨kq, x34_5, rfl, HA, HJ5, HB⟩ := hcut
        cases kq with
        | zero => exact absurd HA.out (by simp [r6_CompareBy.j1])
        | succ kj5 =>
         have H := HA.out
         clear HA
         simp only [r6_CompareBy.j1] at H
         by_cases c9 : x34_5 = true
         · subst c9
           have H1 : (some 0) = some r := by rw [if_pos rfl] at H; exact H
           clear H
           have H := H1
           clear H1
           obtain rfl := Option.some.inj H
           go_wp2
           go_ret
           exact ⟨by first | rfl | (simp [*, errW_none, errW_some] <;> rfl), by repeat (first | (with_reducible first | exact HB.out | apply bA_ | apply bN_ | apply b1_) | exact HB.out)⟩
         · replace c9 := Bool.eq_false_iff.mpr c9
           subst c9
           have H1 : (if 0 ≤ ((rd_T64 l2 x7_1).f0) then (if ((rd_T64 l2 x7_1).f0) < (l0.length : Int) then (if ((rd_T64 l2 x7_1).f0) < (l1.length : Int) then ((r1_Compare.f kj5 ((rd_T36 l0 ((rd_T64 l2 x7_1).f0)).f0) ((rd_T36 l0 ((rd_T64 l2 x7_1).f0)).f1) ((rd_T36 l0 ((rd_T64 l2 x7_1).f0)).f2) ((rd_T36 l1 ((rd_T64 l2 x7_1).f0)).f0) ((rd_T36 l1 ((rd_T64 l2 x7_1).f0)).f1) ((rd_T36 l1 ((rd_T64 l2 x7_1).f0)).f2)).bind fun t190 => (if t190 = 0 then (r6_CompareBy.j2 kj5 l0 l1 l2 x7_1 t190 false) else (if 0 ≤ x7_1 then (if x7_1 < (l2.length : Int) then (r6_CompareBy.j2 kj5 l0 l1 l2 x7_1 t190 ((rd_T64 l2 x7_1).f1)) else (none)) else (none)))) else (none)) else (none)) else (none)) = some r := by rw [if_neg (show ¬ (false = true) by decide)] at H; exact H
           clear H
           have H := H1
           clear H1
           by_cases c10 : 0 ≤ ((rd_T64 l2 x7_1).f0)
           · rw [if_pos c10] at H
             have c10b0 : decide (0 ≤ ((rd_T64 l2 x7_1).f0)) = true := dT_ c10
             clear c10
             by_cases c11 : ((rd_T64 l2 x7_1).f0) < (l0.length : Int)
             · rw [if_pos c11] at H
               have c11b0 : decide (((rd_T64 l2 x7_1).f0) < (l0.length : Int)) = true := dT_ c11
               clear c11
               by_cases c12 : ((rd_T64 l2 x7_1).f0) < (l1.length : Int)
               · rw [if_pos c12] at H
                 have c12b0 : decide (((rd_T64 l2 x7_1).f0) < (l1.length : Int)) = true := dT_ c12
                 clear c12
                 replace H := Option.bind_eq_some_iff.mp H
                 obtain ⟨t190, A130, H⟩ := H
                 replace H : (if t190 = 0 then (r6_CompareBy.j2 kj5 l0 l1 l2 x7_1 t190 false) else (if 0 ≤ x7_1 then (if x7_1 < (l2.length : Int) then (r6_CompareBy.j2 kj5 l0 l1 l2 x7_1 t190 ((rd_T64 l2 x7_1).f1)) else (none)) else (none))) = some r := H
                 have A13 := Aside0.mk A130
                 clear A130
                 have HC14 := Aside0.mk H
                 clear H
                 try go_wp2
                 have n0_ := Aside0.mk (b1_ HB.out)
                 clear HB
                 have HB := n0_
                 clear n0_
                 have p188 : 0 ≤ (((rd_T64 l2 x7_1).f0) : Int) := oT_ (by assumption)
                 have q188 : ((rd_T64 l2 x7_1).f0) < (l0.length : Int) := oT_ (by assumption)
                 obtain ⟨ad188, e188, hx188_0, hx188_1, hx188_2⟩ := at_T36 HR0.out ((rd_T64 l2 x7_1).f0) p188 q188
                 have hw188_2 := hx188_2
                 have hw188_1 := hx188_1
                 have hw188_0 := hx188_0
                 cases e188
                 replace hx188_0 := (HB.out.cell (bLC_ w _ hx188_0)).trans hx188_0
                 replace hx188_1 := (HB.out.cell (bLC_ w _ hx188_1)).trans hx188_1
                 replace hx188_2 := (HB.out.cell (bLC_ w _ hx188_2)).trans hx188_2
                 replace p188 := eq_true p188
                 replace q188 := eq_true q188
                 have p189 : 0 ≤ (((rd_T64 l2 x7_1).f0) : Int) := oT_ (by assumption)
                 have q189 : ((rd_T64 l2 x7_1).f0) < (l1.length : Int) := oT_ (by assumption)
                 obtain ⟨ad189, e189, hx189_0, hx189_1, hx189_2⟩ := at_T36 HR1.out ((rd_T64 l2 x7_1).f0) p189 q189
                 have hw189_2 := hx189_2
                 have hw189_1 := hx189_1
                 have hw189_0 := hx189_0
                 cases e189
                 replace hx189_0 := (HB.out.cell (bLC_ w _ hx189_0)).trans hx189_0
                 replace hx189_1 := (HB.out.cell (bLC_ w _ hx189_1)).trans hx189_1
                 replace hx189_2 := (HB.out.cell (bLC_ w _ hx189_2)).trans hx189_2
                 replace p189 := eq_true p189
                 replace q189 := eq_true q189
                 refine start_ (n := 10) (S := fun w' => w'.cell? (ad188.add ((((rd_T64 l2 x7_1).f0)).toNat * 3)) = some (.int .u8 ((rd_T36 l0 ((rd_T64 l2 x7_1).f0)).f0)) ∧ w'.cell? ⟨(ad188.add ((((rd_T64 l2 x7_1).f0)).toNat * 3)).block, (ad188.add ((((rd_T64 l2 x7_1).f0)).toNat * 3)).off + 1, none⟩ = some (.int .i64 ((rd_T36 l0 ((rd_T64 l2 x7_1).f0)).f1)) ∧ w'.cell? ⟨(ad188.add ((((rd_T64 l2 x7_1).f0)).toNat * 3)).block, (ad188.add ((((rd_T64 l2 x7_1).f0)).toNat * 3)).off + 2, none⟩ = some (.string ((rd_T36 l0 ((rd_T64 l2 x7_1).f0)).f2)) ∧ w'.cell? (ad189.add ((((rd_T64 l2 x7_1).f0)).toNat * 3)) = some (.int .u8 ((rd_T36 l1 ((rd_T64 l2 x7_1).f0)).f0)) ∧ w'.cell? ⟨(ad189.add ((((rd_T64 l2 x7_1).f0)).toNat * 3)).block, (ad189.add ((((rd_T64 l2 x7_1).f0)).toNat * 3)).off + 1, none⟩ = some (.int .i64 ((rd_T36 l1 ((rd_T64 l2 x7_1).f0)).f1)) ∧ w'.cell? ⟨(ad189.add ((((rd_T64 l2 x7_1).f0)).toNat * 3)).block, (ad189.add ((((rd_T64 l2 x7_1).f0)).toNat * 3)).off + 2, none⟩ = some (.string ((rd_T36 l1 ((rd_T64 l2 x7_1).f0)).f2))) (ds := []) #[X_,X_,X_,X_,X_,X_,X_,X_,X_,X_] (by kernel_rfl) rfl rfl ⟨((HB.out.cell (bLC_ w _ hw188_0)).trans hw188_0), ((HB.out.cell (bLC_ w _ hw188_1)).trans hw188_1), ((HB.out.cell (bLC_ w _ hw188_2)).trans hw188_2), ((HB.out.cell (bLC_ w _ hw189_0)).trans hw189_0), ((HB.out.cell (bLC_ w _ hw189_1)).trans hw189_1), ((HB.out.cell (bLC_ w _ hw189_2)).trans hw189_2)⟩ (fun hHeld => ?_); refine with_tabW r6_CompareBy.tab7 r6_CompareBy.bits7 (fun HT_ HW_ => ?_)
                 generalize wc.drew = w15 at HB hx188_0 hx188_1 hx188_2 hx189_0 hx189_1 hx189_2 hHeld ⊢
                 refine pure_ (i := 0) (N := some 35) (v := ?_) (a' := ?_) #[Y_,X_,X_,X_,X_,X_,X_,X_,X_,X_] rfl rfl (any_of HT_.out (by kernel_rfl)) (fun _ _ _ h => h) (Or.inl ⟨by rfl, ?_⟩) ?_ ?_
                 rotate_left
                 · intro w'
                   go_simp
                   with_reducible rfl
                 rotate_left
                 · simp only [Act.put, sTA_, sCZ_, sCS_, i64_w, i32_w]
                   rfl
                 refine pure_ (i := 1) (N := some 36) (v := ?_) (a' := ?_) #[Y_,Y_,X_,X_,X_,X_,X_,X_,X_,X_] rfl rfl (any_of HT_.out (by kernel_rfl)) (fun _ _ _ h => h) (Or.inl ⟨by rfl, ?_⟩) ?_ ?_
                 rotate_left
                 · intro w'
                   go_simp
                   with_reducible rfl
                 rotate_left
                 · simp only [Act.put, sTA_, sCZ_, sCS_, i64_w, i32_w]
                   rfl
                 refine pure_ (i := 2) (N := some 37) (v := ?_) (a' := ?_) #[Y_,Y_,Y_,X_,X_,X_,X_,X_,X_,X_] rfl rfl (any_of HT_.out (by kernel_rfl)) (fun _ _ _ h => h) (Or.inl ⟨by rfl, ?_⟩) ?_ ?_
                 rotate_left
                 · intro w'
                   go_simp
                   with_reducible rfl
                 rotate_left
                 · simp only [Act.put, sTA_, sCZ_, sCS_, i64_w, i32_w]
                   rfl
                 refine pure_ (i := 4) (N := some 39) (v := ?_) (a' := ?_) #[Y_,Y_,Y_,X_,Y_,X_,X_,X_,X_,X_] rfl rfl (any_of HT_.out (by kernel_rfl)) (fun _ _ _ h => h) (Or.inl ⟨by rfl, ?_⟩) ?_ ?_
                 rotate_left
                 · intro w'
                   go_simp
                   with_reducible rfl
                 rotate_left
                 · simp only [Act.put, sTA_, sCZ_, sCS_, i64_w, i32_w]
                   rfl
                 refine pure_ (i := 5) (N := some 40) (v := ?_) (a' := ?_) #[Y_,Y_,Y_,X_,Y_,Y_,X_,X_,X_,X_] rfl rfl (any_of HT_.out (by kernel_rfl)) (fun _ _ _ h => h) (Or.inl ⟨by rfl, ?_⟩) ?_ ?_
                 rotate_left
                 · intro w'
                   go_simp
                   with_reducible rfl
                 rotate_left
                 · simp only [Act.put, sTA_, sCZ_, sCS_, i64_w, i32_w]
                   rfl
                 refine pure_ (i := 6) (N := some 41) (v := ?_) (a' := ?_) #[Y_,Y_,Y_,X_,Y_,Y_,Y_,X_,X_,X_] rfl rfl (any_of HT_.out (by kernel_rfl)) (fun _ _ _ h => h) (Or.inl ⟨by rfl, ?_⟩) ?_ ?_
                 rotate_left
                 · intro w'
                   go_simp
                   with_reducible rfl
                 rotate_left
                 · simp only [Act.put, sTA_, sCZ_, sCS_, i64_w, i32_w]
                   rfl
                 refine take_ (i := 3) (N := some 38) (v := ?_) (a' := ?_) #[Y_,Y_,Y_,Y_,Y_,Y_,Y_,X_,X_,X_] rfl rfl (take_ofW HT_.out HW_.out (by kernel_rfl)) (fun _ _ _ h => h) (Or.inl ⟨by rfl, ?_⟩) hHeld ?_ ?_
                 rotate_left
                 · rintro w' ⟨s0, s1, s2, s3, s4, s5⟩
                   go_simp
                   with_reducible rfl
                 rotate_left
                 · simp only [Act.put, sTA_, sCZ_, sCS_, i64_w, i32_w]
                   rfl
                 refine take_ (i := 7) (N := some 42) (v := ?_) (a' := ?_) #[Y_,Y_,Y_,Y_,Y_,Y_,Y_,Y_,X_,X_] rfl rfl (take_ofW HT_.out HW_.out (by kernel_rfl)) (fun _ _ _ h => h) (Or.inl ⟨by rfl, ?_⟩) hHeld ?_ ?_
                 rotate_left
                 · rintro w' ⟨s0, s1, s2, s3, s4, s5⟩
                   go_simp
                   with_reducible rfl
                 rotate_left
                 · simp only [Act.put, sTA_, sCZ_, sCS_, i64_w, i32_w]
                   rfl
                 refine one_ (i := 8) (N := some 43) #[Y_,Y_,Y_,Y_,Y_,Y_,Y_,Y_,Y_,X_] rfl rfl (one_of HT_.out (by kernel_rfl)) (by decide) (fun K hK => ?_)
                 refine goes_ Tryz.func85 (by kernel_rfl) rfl #[.agg #[.int .u8 ((rd_T36 l0 ((rd_T64 l2 x7_1).f0)).f0), .int .i64 ((rd_T36 l0 ((rd_T64 l2 x7_1).f0)).f1), .string ((rd_T36 l0 ((rd_T64 l2 x7_1).f0)).f2)], .agg #[.int .u8 ((rd_T36 l1 ((rd_T64 l2 x7_1).f0)).f0), .int .i64 ((rd_T36 l1 ((rd_T64 l2 x7_1).f0)).f1), .string ((rd_T36 l1 ((rd_T64 l2 x7_1).f0)).f2)]] (by rfl) rfl rfl (by (try simp only [List.map_toArray, List.map_cons, List.map_nil]); first | done | rfl | (simp only [List.length_drop, List.length_take]; rfl)) ?_
                 with_reducible refine (r1_Compare.calls kj5 ((rd_T36 l0 ((rd_T64 l2 x7_1).f0)).f0) ((rd_T36 l0 ((rd_T64 l2 x7_1).f0)).f1) ((rd_T36 l0 ((rd_T64 l2 x7_1).f0)).f2) ((rd_T36 l1 ((rd_T64 l2 x7_1).f0)).f0) ((rd_T36 l1 ((rd_T64 l2 x7_1).f0)).f1) ((rd_T36 l1 ((rd_T64 l2 x7_1).f0)).f2) t190 _ A13.out).mono ?_
                 rintro e w16 ⟨rfl, hb⟩
                 refine ⟨_, rfl, ?_⟩
                 have n0_ := Aside0.mk (below_step (by repeat (first | (with_reducible first | exact HB.out | apply bA_ | apply bN_ | apply b1_) | exact HB.out)) hb)
                 clear HB
                 have HB := n0_
                 clear n0_
                 (try clear hb)
                 (try clear hb2)
                 (try clear hk)
                 (try clear hi)
                 refine hK.out _ _ ⟨((HB.out.cell (bLC_ w _ hw188_0)).trans hw188_0), ((HB.out.cell (bLC_ w _ hw188_1)).trans hw188_1), ((HB.out.cell (bLC_ w _ hw188_2)).trans hw188_2), ((HB.out.cell (bLC_ w _ hw189_0)).trans hw189_0), ((HB.out.cell (bLC_ w _ hw189_1)).trans hw189_1), ((HB.out.cell (bLC_ w _ hw189_2)).trans hw189_2)⟩ (fun hHeld => ?_)
                 clear hK K
                 refine norm_ (a' := ?_) ?_ ?_
                 rotate_left
                 · show Act.put _ (some 43) _ = _
                   simp only [Act.put, sTA_, sCZ_, sCS_, i64_w, i32_w]
                   rfl
                 refine pure_ (i := 9) (N := some 9) (v := ?_) (a' := ?_) #[Y_,Y_,Y_,Y_,Y_,Y_,Y_,Y_,Y_,Y_] rfl rfl (any_of HT_.out (by kernel_rfl)) (fun _ _ _ h => h) (Or.inl ⟨by rfl, ?_⟩) ?_ ?_
                 rotate_left
                 · intro w'
                   go_simp
                   with_reducible rfl
                 rotate_left
                 · simp only [Act.put, sTA_, sCZ_, sCS_, i64_w, i32_w]
                   rfl
                 refine done_ (done_of HT_.out (by kernel_rfl)) ?_
                 go_upto_region 8 with (fail)
                 go_cut [52] (fun v52 wc => ∃ (kq : Nat) (x52_13 : Bool), v52 = .bool x52_13 ∧ Aside0 (r6_CompareBy.j2 kq l0 l1 l2 x7_1 t190 x52_13 = some r) ∧ Aside0 (kq ≤ kj5) ∧ Aside0 (Below w.heap.size w wc))
                 case first =>
                  have H := HC14.out
                  clear HC14
                  by_cases c17 : t190 = 0
                  · rw [if_pos c17] at H
                    have c17b0 : (t190 == 0) = true := beq_iff_eq.mpr c17
                    have c17b1 : (t190 != 0) = false := bne_eq_false_iff_eq.mpr c17
                    clear c17
                    (first | rw [c17b0] | (simp only [i64_w, i32_w]; rw [c17b0]) | skip)
                    have H' := Aside0.mk H
                    clear H
                    go_wp2
                    go_meet
                    case rel => exact ⟨_, (false), (by first | rfl | (simp; done) | (simp [*]; done)), H', ⟨by have := HK1.out; have := HJ5.out; first | omega | exact Nat.le_refl _⟩, ⟨by repeat (first | (with_reducible first | exact HB.out | apply bA_ | apply bN_ | apply b1_) | exact HB.out)⟩⟩
                  · rw [if_neg c17] at H
                    have c17b0 : (t190 == 0) = false := beq_eq_false_iff_ne.mpr c17
                    have c17b1 : (t190 != 0) = true := bne_iff_ne.mpr c17
                    (first | rw [c17b0] | (simp only [i64_w, i32_w]; rw [c17b0]) | skip)
                    by_cases c18 : 0 ≤ x7_1
                    · rw [if_pos c18] at H
                      have c18b0 : decide (0 ≤ x7_1) = true := dT_ c18
                      clear c18
                      by_cases c19 : x7_1 < (l2.length : Int)
                      · rw [if_pos c19] at H
                        have c19b0 : decide (x7_1 < (l2.length : Int)) = true := dT_ c19
                        clear c19
                        have H' := Aside0.mk H
                        clear H
                        have p191 : 0 ≤ (x7_1 : Int) := oT_ (by assumption)
                        have q191 : x7_1 < (l2.length : Int) := oT_ (by assumption)
                        obtain ⟨ad191, e191, hx191_0, hx191_1⟩ := at_T64 HR2.out x7_1 p191 q191
                        obtain rfl : ad187 = ad191 := (by injection e191)
                        replace hx191_0 := (HB.out.cell (bLC_ w _ hx191_0)).trans hx191_0
                        replace hx191_1 := (HB.out.cell (bLC_ w _ hx191_1)).trans hx191_1
                        replace p191 := eq_true p191
                        replace q191 := eq_true q191
                        go_wp2
                        go_meet
                        case rel => exact ⟨_, ((rd_T64 l2 x7_1).f1), (by first | rfl | (simp; done) | (simp [*]; done)), H', ⟨by have := HK1.out; have := HJ5.out; first | omega | exact Nat.le_refl _⟩, ⟨by repeat (first | (with_reducible first | exact HB.out | apply bA_ | apply bN_ | apply b1_) | exact HB.out)⟩⟩
                      · rw [if_neg c19] at H
                        exact absurd H (by simp)
                    · rw [if_neg c18] at H
                      exact absurd H (by simp)
                 case rest =>
                  clear HC14
                  try clear c1
                  try clear p1
                  try clear q1
                  try clear hx1
                  try clear c2
                  try clear p2
                  try clear c4
                  try clear c4b0
                  try clear c5
                  try clear c5b0
                  try clear c6
                  try clear c7
                  try clear c7b0
                  try clear c8
                  try clear c8b0
                  try clear c9
                  try clear c10
                  try clear c10b0
                  try clear c11
                  try clear c11b0
                  try clear c12
                  try clear c12b0
                  try clear c17
                  try clear c17b0
                  try clear c17b1
                  try clear c18
                  try clear c18b0
                  try clear p18
                  try clear q18
                  try clear hx18
                  try clear c19
                  try clear c19b0
                  try clear p19
                  try clear q19
                  try clear hx19
                  try clear hx187_0
                  try clear hx187_1
                  try clear hx188_0
                  try clear hx188_1
                  try clear hx188_2
                  try clear hx189_0
                  try clear hx189_1
                  try clear hx189_2
                  try clear hx191_0
                  try clear hx191_1
                  try clear p1
                  try clear p187
                  try clear p188
                  try clear p189
                  try clear p191
                  try clear p2
                  try clear q1
                  try clear q187
                  try clear q188
                  try clear q189
                  try clear q191
                  obtain ⟨kq, x52_13, rfl, HA, HJ13, HB⟩ := hcut
                  cases kq with
                  | zero => exact absurd HA.out (by simp [r6_CompareBy.j2])
                  | succ kj13 =>
                   have H := HA.out
                   clear HA
                   simp only [r6_CompareBy.j2] at H
                   by_cases c20 : x52_13 = true
                   · subst c20
                     have H1 : (some (wrap64 (-t190))) = some r := by rw [if_pos rfl] at H; exact H
                     clear H
                     have H := H1
                     clear H1
                     obtain rfl := Option.some.inj H
                     go_wp2
                     go_ret
                     exact ⟨by first | rfl | (simp [*, errW_none, errW_some] <;> rfl), by repeat (first | (with_reducible first | exact HB.out | apply bA_ | apply bN_ | apply b1_) | exact HB.out)⟩
                   · replace c20 := Bool.eq_false_iff.mpr c20
                     subst c20
                     have H1 : (if t190 = 0 then (r6_CompareBy.l0 kj13 l0 l1 l2 (wrap64 (x7_1 + 1))) else (some t190)) = some r := by rw [if_neg (show ¬ (false = true) by decide)] at H; exact H
                     clear H
                     have H := H1
                     clear H1
                     by_cases c21 : t190 = 0
                     · rw [if_pos c21] at H
                       have c21b0 : (t190 == 0) = true := beq_iff_eq.mpr c21
                       have c21b1 : (t190 != 0) = false := bne_eq_false_iff_eq.mpr c21
                       clear c21
                       have H' := Aside0.mk H
                       clear H
                       go_wp2
                       go_roundg kj13
                       case measure => have := HK1.out; have := HJ5.out; have := HJ13.out; omega
                       case rel => exact ⟨(wrap64 (x7_1 + 1)), (by first | rfl | (simp; done) | (simp [*]; done)), H', ⟨by have := HK1.out; have := HJ5.out; have := HJ13.out; omega⟩, ⟨by repeat (first | (with_reducible first | exact HB.out | apply bA_ | apply bN_ | apply b1_) | exact HB.out)⟩⟩
                     · rw [if_neg c21] at H
                       have c21b0 : (t190 == 0) = false := beq_eq_false_iff_ne.mpr c21
                       have c21b1 : (t190 != 0) = true := bne_iff_ne.mpr c21
                       obtain rfl := Option.some.inj H
                       go_wp2
                       go_ret
                       exact ⟨by first | rfl | (simp [*, errW_none, errW_some] <;> rfl), by repeat (first | (with_reducible first | exact HB.out | apply bA_ | apply bN_ | apply b1_) | exact HB.out)⟩
               · rw [if_neg c12] at H
                 exact absurd H (by simp)
             · rw [if_neg c11] at H
               exact absurd H (by simp)
           · rw [if_neg c10] at H
             exact absurd H (by simp)
     · rw [if_neg c5] at H
       exact absurd H (by simp)
   · rw [if_neg c4] at H
     have c4b0 : decide (x7_1 < (l2.length : Int)) = false := dF_ c4
     clear c4
     obtain rfl := Option.some.inj H
     go_wp2
     go_ret
     exact ⟨by first | rfl | (simp [*, errW_none, errW_some] <;> rfl), by repeat (first | (with_reducible first | exact HB.out | apply bA_ | apply bN_ | apply b1_) | exact HB.out)⟩
mutual
def r1_CompareRows.l0 : Nat → List (S36) → List (S36) → Int → Option (Int)
 | 0, _, _, _ => none
 | k + 1, x0, x1, x5 => if x5 < (x0.length : Int) then (r1_CompareRows.j1 k x0 x1 x5 (decide (x5 < (x1.length : Int)))) else (r1_CompareRows.j1 k x0 x1 x5 false)
def r1_CompareRows.j1 : Nat → List (S36) → List (S36) → Int → Bool → Option (Int)
 | 0, _, _, _, _ => none
 | k + 1, x0, x1, x5, x16 => if x16 = true then (if 0 ≤ x5 then (if x5 < (x0.length : Int) then (if x5 < (x1.length : Int) then ((r1_Compare.f k ((rd_T36 x0 x5).f0) ((rd_T36 x0 x5).f1) ((rd_T36 x0 x5).f2) ((rd_T36 x1 x5).f0) ((rd_T36 x1 x5).f1) ((rd_T36 x1 x5).f2)).bind fun t194 => (if t194 = 0 then (r1_CompareRows.l0 k x0 x1 (wrap64 (x5 + 1))) else (some t194))) else (none)) else (none)) else (none)) else ((r1_ints.f (x0.length : Int) (x1.length : Int)).bind fun t195 => (some t195))
end
def r1_CompareRows.f (k : Nat) (l0 : List (S36)) (l1 : List (S36)) : Option (Int) := r1_CompareRows.l0 k l0 l1 0
def r1_CompareRows.T4 : Bool × List (List Nat × List Nat) := (true, [([], []), ([], []), ([0, 1], [0, 1]), ([2], [2]), ([], []), ([], []), ([4, 5], [4, 5]), ([6], [6]), ([3, 7], [3, 7]), ([8, 8, 0, 1, 2, 3, 4, 5, 6, 7, 8], [8])])
def r1_CompareRows.B4 : List Nat := [0, 0, 3, 7, 0, 0, 48, 112, 255, 511]
theorem r1_CompareRows.tab4 : rtab .any (opsOf Tryz.f123 4) = r1_CompareRows.T4 := by kernel_rfl
theorem r1_CompareRows.bits4 : waitsOk r1_CompareRows.T4.2 r1_CompareRows.B4 = true := by kernel_rfl
theorem r1_CompareRows.calls (k : Nat) (A0 : Option Addr) (c0 : Nat) (l0 : List (S36)) (A1 : Option Addr) (c1 : Nat) (l1 : List (S36)) (r : Int) (w : World) (hr0 : Kd.C k36 w A0 l0.length l0) (hc0 : l0.length ≤ c0) (hr1 : Kd.C k36 w A1 l1.length l1) (hc1 : l1.length ≤ c1) (h : r1_CompareRows.f k l0 l1 = some r) :
 Calls Tryz.prog 123 #[.slice A0 l0.length c0, .slice A1 l1.length c1] w fun e w' => e = .returned (.int .i64 r) ∧ Below w.heap.size w w' := by
 have hu36 := Tryz.underlying36
 have HR0 := Aside0.mk hr0
 have HC0 := Aside0.mk hc0
 clear hr0 hc0
 have HR1 := Aside0.mk hr1
 have HC1 := Aside0.mk hc1
 clear hr1 hc1
 have HB := Aside0.mk (Below.refl w.heap.size w)
 have H : (r1_CompareRows.l0 k l0 l1 0) = some r := h
 clear h
 have H' := Aside0.mk H
 clear H
 go_enter Tryz.func123, Tryz.ntmps123
 go_wp2
 go_loopg [5] k (fun kq v5 w' => ∃ (x5_1 : Int), v5 = .int .i64 x5_1 ∧ Aside0 (r1_CompareRows.l0 kq l0 l1 x5_1 = some r) ∧ Aside0 (kq ≤ k) ∧ Aside0 (Below w.heap.size w w'))
 case atStart => exact ⟨(0), (by first | rfl | (simp; done) | (simp [*]; done)), H', ⟨Nat.le_refl _⟩, ⟨by repeat (first | (with_reducible first | exact HB.out | apply bA_ | apply bN_ | apply b1_) | exact HB.out)⟩⟩
 case round =>
  clear H'
  try clear c1
  try clear p2
  obtain ⟨x5_1, rfl, HA, HK1, HB⟩ := hrel
  cases gk with
  | zero => exact absurd HA.out (by simp [r1_CompareRows.l0])
  | succ k1 =>
   have H := HA.out
   clear HA
   simp only [r1_CompareRows.l0] at H
   have HC3 := Aside0.mk H
   clear H
   go_upto_region 2 with (fail)
   go_cut [16] (fun v16 wc => ∃ (kq : Nat) (x16_2 : Bool), v16 = .bool x16_2 ∧ Aside0 (r1_CompareRows.j1 kq l0 l1 x5_1 x16_2 = some r) ∧ Aside0 (kq ≤ k1) ∧ Aside0 (Below w.heap.size w wc))
   case first =>
    have H := HC3.out
    clear HC3
    by_cases c4 : x5_1 < (l0.length : Int)
    · rw [if_pos c4] at H
      have c4b0 : decide (x5_1 < (l0.length : Int)) = true := dT_ c4
      clear c4
      (first | rw [c4b0] | (simp only [i64_w, i32_w]; rw [c4b0]) | skip)
      have H' := Aside0.mk H
      clear H
      go_wp2
      go_meet
      case rel => exact ⟨_, (decide (x5_1 < (l1.length : Int))), (by first | rfl | (simp; done) | (simp [*]; done)), H', ⟨by have := HK1.out; first | omega | exact Nat.le_refl _⟩, ⟨by repeat (first | (with_reducible first | exact HB.out | apply bA_ | apply bN_ | apply b1_) | exact HB.out)⟩⟩
    · rw [if_neg c4] at H
      have c4b0 : decide (x5_1 < (l0.length : Int)) = false := dF_ c4
      clear c4
      (first | rw [c4b0] | (simp only [i64_w, i32_w]; rw [c4b0]) | skip)
      have H' := Aside0.mk H
      clear H
      go_wp2
      go_meet
      case rel => exact ⟨_, (false), (by first | rfl | (simp; done) | (simp [*]; done)), H', ⟨by have := HK1.out; first | omega | exact Nat.le_refl _⟩, ⟨by repeat (first | (with_reducible first | exact HB.out | apply bA_ | apply bN_ | apply b1_) | exact HB.out)⟩⟩
   case rest =>
    clear HC3
    try clear c1
    try clear p2
    try clear c4
    try clear c4b0
    try clear p2
    obtain ⟨kq, x16_2, rfl, HA, HJ2, HB⟩ := hcut
    cases kq with
    | zero => exact absurd HA.out (by simp [r1_CompareRows.j1])
    | succ kj2 =>
     have H := HA.out
     clear HA
     simp only [r1_CompareRows.j1] at H
     by_cases c5 : x16_2 = true
     · subst c5
       have H1 : (if 0 ≤ x5_1 then (if x5_1 < (l0.length : Int) then (if x5_1 < (l1.length : Int) then ((r1_Compare.f kj2 ((rd_T36 l0 x5_1).f0) ((rd_T36 l0 x5_1).f1) ((rd_T36 l0 x5_1).f2) ((rd_T36 l1 x5_1).f0) ((rd_T36 l1 x5_1).f1) ((rd_T36 l1 x5_1).f2)).bind fun t194 => (if t194 = 0 then (r1_CompareRows.l0 kj2 l0 l1 (wrap64 (x5_1 + 1))) else (some t194))) else (none)) else (none)) else (none)) = some r := by rw [if_pos rfl] at H; exact H
       clear H
       have H := H1
       clear H1
       by_cases c6 : 0 ≤ x5_1
       · rw [if_pos c6] at H
         have c6b0 : decide (0 ≤ x5_1) = true := dT_ c6
         clear c6
         by_cases c7 : x5_1 < (l0.length : Int)
         · rw [if_pos c7] at H
           have c7b0 : decide (x5_1 < (l0.length : Int)) = true := dT_ c7
           clear c7
           by_cases c8 : x5_1 < (l1.length : Int)
           · rw [if_pos c8] at H
             have c8b0 : decide (x5_1 < (l1.length : Int)) = true := dT_ c8
             clear c8
             replace H := Option.bind_eq_some_iff.mp H
             obtain ⟨t194, A90, H⟩ := H
             replace H : (if t194 = 0 then (r1_CompareRows.l0 kj2 l0 l1 (wrap64 (x5_1 + 1))) else (some t194)) = some r := H
             have A9 := Aside0.mk A90
             clear A90
             by_cases c10 : t194 = 0
             · rw [if_pos c10] at H
               have c10b0 : (t194 == 0) = true := beq_iff_eq.mpr c10
               have c10b1 : (t194 != 0) = false := bne_eq_false_iff_eq.mpr c10
               clear c10
               have H' := Aside0.mk H
               clear H
               try go_wp2
               have n0_ := Aside0.mk (b1_ HB.out)
               clear HB
               have HB := n0_
               clear n0_
               have p192 : 0 ≤ (x5_1 : Int) := oT_ (by assumption)
               have q192 : x5_1 < (l0.length : Int) := oT_ (by assumption)
               obtain ⟨ad192, e192, hx192_0, hx192_1, hx192_2⟩ := at_T36 HR0.out x5_1 p192 q192
               have hw192_2 := hx192_2
               have hw192_1 := hx192_1
               have hw192_0 := hx192_0
               cases e192
               replace hx192_0 := (HB.out.cell (bLC_ w _ hx192_0)).trans hx192_0
               replace hx192_1 := (HB.out.cell (bLC_ w _ hx192_1)).trans hx192_1
               replace hx192_2 := (HB.out.cell (bLC_ w _ hx192_2)).trans hx192_2
               replace p192 := eq_true p192
               replace q192 := eq_true q192
               have p193 : 0 ≤ (x5_1 : Int) := oT_ (by assumption)
               have q193 : x5_1 < (l1.length : Int) := oT_ (by assumption)
               obtain ⟨ad193, e193, hx193_0, hx193_1, hx193_2⟩ := at_T36 HR1.out x5_1 p193 q193
               have hw193_2 := hx193_2
               have hw193_1 := hx193_1
               have hw193_0 := hx193_0
               cases e193
               replace hx193_0 := (HB.out.cell (bLC_ w _ hx193_0)).trans hx193_0
               replace hx193_1 := (HB.out.cell (bLC_ w _ hx193_1)).trans hx193_1
               replace hx193_2 := (HB.out.cell (bLC_ w _ hx193_2)).trans hx193_2
               replace p193 := eq_true p193
               replace q193 := eq_true q193
               refine start_ (n := 10) (S := fun w' => w'.cell? (ad192.add ((x5_1).toNat * 3)) = some (.int .u8 ((rd_T36 l0 x5_1).f0)) ∧ w'.cell? ⟨(ad192.add ((x5_1).toNat * 3)).block, (ad192.add ((x5_1).toNat * 3)).off + 1, none⟩ = some (.int .i64 ((rd_T36 l0 x5_1).f1)) ∧ w'.cell? ⟨(ad192.add ((x5_1).toNat * 3)).block, (ad192.add ((x5_1).toNat * 3)).off + 2, none⟩ = some (.string ((rd_T36 l0 x5_1).f2)) ∧ w'.cell? (ad193.add ((x5_1).toNat * 3)) = some (.int .u8 ((rd_T36 l1 x5_1).f0)) ∧ w'.cell? ⟨(ad193.add ((x5_1).toNat * 3)).block, (ad193.add ((x5_1).toNat * 3)).off + 1, none⟩ = some (.int .i64 ((rd_T36 l1 x5_1).f1)) ∧ w'.cell? ⟨(ad193.add ((x5_1).toNat * 3)).block, (ad193.add ((x5_1).toNat * 3)).off + 2, none⟩ = some (.string ((rd_T36 l1 x5_1).f2))) (ds := []) #[X_,X_,X_,X_,X_,X_,X_,X_,X_,X_] (by kernel_rfl) rfl rfl ⟨((HB.out.cell (bLC_ w _ hw192_0)).trans hw192_0), ((HB.out.cell (bLC_ w _ hw192_1)).trans hw192_1), ((HB.out.cell (bLC_ w _ hw192_2)).trans hw192_2), ((HB.out.cell (bLC_ w _ hw193_0)).trans hw193_0), ((HB.out.cell (bLC_ w _ hw193_1)).trans hw193_1), ((HB.out.cell (bLC_ w _ hw193_2)).trans hw193_2)⟩ (fun hHeld => ?_); refine with_tabW r1_CompareRows.tab4 r1_CompareRows.bits4 (fun HT_ HW_ => ?_)
               generalize wc.drew = w11 at HB hx192_0 hx192_1 hx192_2 hx193_0 hx193_1 hx193_2 hHeld ⊢
               refine pure_ (i := 0) (N := some 19) (v := ?_) (a' := ?_) #[Y_,X_,X_,X_,X_,X_,X_,X_,X_,X_] rfl rfl (any_of HT_.out (by kernel_rfl)) (fun _ _ _ h => h) (Or.inl ⟨by rfl, ?_⟩) ?_ ?_
               rotate_left
               · intro w'
                 go_simp
                 with_reducible rfl
               rotate_left
               · simp only [Act.put, sTA_, sCZ_, sCS_, i64_w, i32_w]
                 rfl
               refine pure_ (i := 1) (N := some 20) (v := ?_) (a' := ?_) #[Y_,Y_,X_,X_,X_,X_,X_,X_,X_,X_] rfl rfl (any_of HT_.out (by kernel_rfl)) (fun _ _ _ h => h) (Or.inl ⟨by rfl, ?_⟩) ?_ ?_
               rotate_left
               · intro w'
                 go_simp
                 with_reducible rfl
               rotate_left
               · simp only [Act.put, sTA_, sCZ_, sCS_, i64_w, i32_w]
                 rfl
               refine pure_ (i := 2) (N := some 21) (v := ?_) (a' := ?_) #[Y_,Y_,Y_,X_,X_,X_,X_,X_,X_,X_] rfl rfl (any_of HT_.out (by kernel_rfl)) (fun _ _ _ h => h) (Or.inl ⟨by rfl, ?_⟩) ?_ ?_
               rotate_left
               · intro w'
                 go_simp
                 with_reducible rfl
               rotate_left
               · simp only [Act.put, sTA_, sCZ_, sCS_, i64_w, i32_w]
                 rfl
               refine pure_ (i := 4) (N := some 23) (v := ?_) (a' := ?_) #[Y_,Y_,Y_,X_,Y_,X_,X_,X_,X_,X_] rfl rfl (any_of HT_.out (by kernel_rfl)) (fun _ _ _ h => h) (Or.inl ⟨by rfl, ?_⟩) ?_ ?_
               rotate_left
               · intro w'
                 go_simp
                 with_reducible rfl
               rotate_left
               · simp only [Act.put, sTA_, sCZ_, sCS_, i64_w, i32_w]
                 rfl
               refine pure_ (i := 5) (N := some 24) (v := ?_) (a' := ?_) #[Y_,Y_,Y_,X_,Y_,Y_,X_,X_,X_,X_] rfl rfl (any_of HT_.out (by kernel_rfl)) (fun _ _ _ h => h) (Or.inl ⟨by rfl, ?_⟩) ?_ ?_
               rotate_left
               · intro w'
                 go_simp
                 with_reducible rfl
               rotate_left
               · simp only [Act.put, sTA_, sCZ_, sCS_, i64_w, i32_w]
                 rfl
               refine pure_ (i := 6) (N := some 25) (v := ?_) (a' := ?_) #[Y_,Y_,Y_,X_,Y_,Y_,Y_,X_,X_,X_] rfl rfl (any_of HT_.out (by kernel_rfl)) (fun _ _ _ h => h) (Or.inl ⟨by rfl, ?_⟩) ?_ ?_
               rotate_left
               · intro w'
                 go_simp
                 with_reducible rfl
               rotate_left
               · simp only [Act.put, sTA_, sCZ_, sCS_, i64_w, i32_w]
                 rfl
               refine take_ (i := 3) (N := some 22) (v := ?_) (a' := ?_) #[Y_,Y_,Y_,Y_,Y_,Y_,Y_,X_,X_,X_] rfl rfl (take_ofW HT_.out HW_.out (by kernel_rfl)) (fun _ _ _ h => h) (Or.inl ⟨by rfl, ?_⟩) hHeld ?_ ?_
               rotate_left
               · rintro w' ⟨s0, s1, s2, s3, s4, s5⟩
                 go_simp
                 with_reducible rfl
               rotate_left
               · simp only [Act.put, sTA_, sCZ_, sCS_, i64_w, i32_w]
                 rfl
               refine take_ (i := 7) (N := some 26) (v := ?_) (a' := ?_) #[Y_,Y_,Y_,Y_,Y_,Y_,Y_,Y_,X_,X_] rfl rfl (take_ofW HT_.out HW_.out (by kernel_rfl)) (fun _ _ _ h => h) (Or.inl ⟨by rfl, ?_⟩) hHeld ?_ ?_
               rotate_left
               · rintro w' ⟨s0, s1, s2, s3, s4, s5⟩
                 go_simp
                 with_reducible rfl
               rotate_left
               · simp only [Act.put, sTA_, sCZ_, sCS_, i64_w, i32_w]
                 rfl
               refine one_ (i := 8) (N := some 27) #[Y_,Y_,Y_,Y_,Y_,Y_,Y_,Y_,Y_,X_] rfl rfl (one_of HT_.out (by kernel_rfl)) (by decide) (fun K hK => ?_)
               refine goes_ Tryz.func85 (by kernel_rfl) rfl #[.agg #[.int .u8 ((rd_T36 l0 x5_1).f0), .int .i64 ((rd_T36 l0 x5_1).f1), .string ((rd_T36 l0 x5_1).f2)], .agg #[.int .u8 ((rd_T36 l1 x5_1).f0), .int .i64 ((rd_T36 l1 x5_1).f1), .string ((rd_T36 l1 x5_1).f2)]] (by rfl) rfl rfl (by (try simp only [List.map_toArray, List.map_cons, List.map_nil]); first | done | rfl | (simp only [List.length_drop, List.length_take]; rfl)) ?_
               with_reducible refine (r1_Compare.calls kj2 ((rd_T36 l0 x5_1).f0) ((rd_T36 l0 x5_1).f1) ((rd_T36 l0 x5_1).f2) ((rd_T36 l1 x5_1).f0) ((rd_T36 l1 x5_1).f1) ((rd_T36 l1 x5_1).f2) t194 _ A9.out).mono ?_
               rintro e w12 ⟨rfl, hb⟩
               refine ⟨_, rfl, ?_⟩
               have n0_ := Aside0.mk (below_step (by repeat (first | (with_reducible first | exact HB.out | apply bA_ | apply bN_ | apply b1_) | exact HB.out)) hb)
               clear HB
               have HB := n0_
               clear n0_
               (try clear hb)
               (try clear hb2)
               (try clear hk)
               (try clear hi)
               refine hK.out _ _ ⟨((HB.out.cell (bLC_ w _ hw192_0)).trans hw192_0), ((HB.out.cell (bLC_ w _ hw192_1)).trans hw192_1), ((HB.out.cell (bLC_ w _ hw192_2)).trans hw192_2), ((HB.out.cell (bLC_ w _ hw193_0)).trans hw193_0), ((HB.out.cell (bLC_ w _ hw193_1)).trans hw193_1), ((HB.out.cell (bLC_ w _ hw193_2)).trans hw193_2)⟩ (fun hHeld => ?_)
               clear hK K
               refine norm_ (a' := ?_) ?_ ?_
               rotate_left
               · show Act.put _ (some 27) _ = _
                 simp only [Act.put, sTA_, sCZ_, sCS_, i64_w, i32_w]
                 rfl
               refine pure_ (i := 9) (N := some 6) (v := ?_) (a' := ?_) #[Y_,Y_,Y_,Y_,Y_,Y_,Y_,Y_,Y_,Y_] rfl rfl (any_of HT_.out (by kernel_rfl)) (fun _ _ _ h => h) (Or.inl ⟨by rfl, ?_⟩) ?_ ?_
               rotate_left
               · intro w'
                 go_simp
                 with_reducible rfl
               rotate_left
               · simp only [Act.put, sTA_, sCZ_, sCS_, i64_w, i32_w]
                 rfl
               refine done_ (done_of HT_.out (by kernel_rfl)) ?_
               try go_wp2
               go_roundg kj2
               case measure => have := HK1.out; have := HJ2.out; omega
               case rel => exact ⟨(wrap64 (x5_1 + 1)), (by first | rfl | (simp; done) | (simp [*]; done)), H', ⟨by have := HK1.out; have := HJ2.out; omega⟩, ⟨by repeat (first | (with_reducible first | exact HB.out | apply bA_ | apply bN_ | apply b1_) | exact HB.out)⟩⟩
             · rw [if_neg c10] at H
               have c10b0 : (t194 == 0) = false := beq_eq_false_iff_ne.mpr c10
               have c10b1 : (t194 != 0) = true := bne_iff_ne.mpr c10
               obtain rfl := Option.some.inj H
               try go_wp2
               have n0_ := Aside0.mk (b1_ HB.out)
               clear HB
               have HB := n0_
               clear n0_
               have p192 : 0 ≤ (x5_1 : Int) := oT_ (by assumption)
               have q192 : x5_1 < (l0.length : Int) := oT_ (by assumption)
               obtain ⟨ad192, e192, hx192_0, hx192_1, hx192_2⟩ := at_T36 HR0.out x5_1 p192 q192
               have hw192_2 := hx192_2
               have hw192_1 := hx192_1
               have hw192_0 := hx192_0
               cases e192
               replace hx192_0 := (HB.out.cell (bLC_ w _ hx192_0)).trans hx192_0
               replace hx192_1 := (HB.out.cell (bLC_ w _ hx192_1)).trans hx192_1
               replace hx192_2 := (HB.out.cell (bLC_ w _ hx192_2)).trans hx192_2
               replace p192 := eq_true p192
               replace q192 := eq_true q192
               have p193 : 0 ≤ (x5_1 : Int) := oT_ (by assumption)
               have q193 : x5_1 < (l1.length : Int) := oT_ (by assumption)
               obtain ⟨ad193, e193, hx193_0, hx193_1, hx193_2⟩ := at_T36 HR1.out x5_1 p193 q193
               have hw193_2 := hx193_2
               have hw193_1 := hx193_1
               have hw193_0 := hx193_0
               cases e193
               replace hx193_0 := (HB.out.cell (bLC_ w _ hx193_0)).trans hx193_0
               replace hx193_1 := (HB.out.cell (bLC_ w _ hx193_1)).trans hx193_1
               replace hx193_2 := (HB.out.cell (bLC_ w _ hx193_2)).trans hx193_2
               replace p193 := eq_true p193
               replace q193 := eq_true q193
               refine start_ (n := 10) (S := fun w' => w'.cell? (ad192.add ((x5_1).toNat * 3)) = some (.int .u8 ((rd_T36 l0 x5_1).f0)) ∧ w'.cell? ⟨(ad192.add ((x5_1).toNat * 3)).block, (ad192.add ((x5_1).toNat * 3)).off + 1, none⟩ = some (.int .i64 ((rd_T36 l0 x5_1).f1)) ∧ w'.cell? ⟨(ad192.add ((x5_1).toNat * 3)).block, (ad192.add ((x5_1).toNat * 3)).off + 2, none⟩ = some (.string ((rd_T36 l0 x5_1).f2)) ∧ w'.cell? (ad193.add ((x5_1).toNat * 3)) = some (.int .u8 ((rd_T36 l1 x5_1).f0)) ∧ w'.cell? ⟨(ad193.add ((x5_1).toNat * 3)).block, (ad193.add ((x5_1).toNat * 3)).off + 1, none⟩ = some (.int .i64 ((rd_T36 l1 x5_1).f1)) ∧ w'.cell? ⟨(ad193.add ((x5_1).toNat * 3)).block, (ad193.add ((x5_1).toNat * 3)).off + 2, none⟩ = some (.string ((rd_T36 l1 x5_1).f2))) (ds := []) #[X_,X_,X_,X_,X_,X_,X_,X_,X_,X_] (by kernel_rfl) rfl rfl ⟨((HB.out.cell (bLC_ w _ hw192_0)).trans hw192_0), ((HB.out.cell (bLC_ w _ hw192_1)).trans hw192_1), ((HB.out.cell (bLC_ w _ hw192_2)).trans hw192_2), ((HB.out.cell (bLC_ w _ hw193_0)).trans hw193_0), ((HB.out.cell (bLC_ w _ hw193_1)).trans hw193_1), ((HB.out.cell (bLC_ w _ hw193_2)).trans hw193_2)⟩ (fun hHeld => ?_); refine with_tabW r1_CompareRows.tab4 r1_CompareRows.bits4 (fun HT_ HW_ => ?_)
               generalize wc.drew = w13 at HB hx192_0 hx192_1 hx192_2 hx193_0 hx193_1 hx193_2 hHeld ⊢
               refine pure_ (i := 0) (N := some 19) (v := ?_) (a' := ?_) #[Y_,X_,X_,X_,X_,X_,X_,X_,X_,X_] rfl rfl (any_of HT_.out (by kernel_rfl)) (fun _ _ _ h => h) (Or.inl ⟨by rfl, ?_⟩) ?_ ?_
               rotate_left
               · intro w'
                 go_simp
                 with_reducible rfl
               rotate_left
               · simp only [Act.put, sTA_, sCZ_, sCS_, i64_w, i32_w]
                 rfl
               refine pure_ (i := 1) (N := some 20) (v := ?_) (a' := ?_) #[Y_,Y_,X_,X_,X_,X_,X_,X_,X_,X_] rfl rfl (any_of HT_.out (by kernel_rfl)) (fun _ _ _ h => h) (Or.inl ⟨by rfl, ?_⟩) ?_ ?_
               rotate_left
               · intro w'
                 go_simp
                 with_reducible rfl
               rotate_left
               · simp only [Act.put, sTA_, sCZ_, sCS_, i64_w, i32_w]
                 rfl
               refine pure_ (i := 2) (N := some 21) (v := ?_) (a' := ?_) #[Y_,Y_,Y_,X_,X_,X_,X_,X_,X_,X_] rfl rfl (any_of HT_.out (by kernel_rfl)) (fun _ _ _ h => h) (Or.inl ⟨by rfl, ?_⟩) ?_ ?_
               rotate_left
               · intro w'
                 go_simp
                 with_reducible rfl
               rotate_left
               · simp only [Act.put, sTA_, sCZ_, sCS_, i64_w, i32_w]
                 rfl
               refine pure_ (i := 4) (N := some 23) (v := ?_) (a' := ?_) #[Y_,Y_,Y_,X_,Y_,X_,X_,X_,X_,X_] rfl rfl (any_of HT_.out (by kernel_rfl)) (fun _ _ _ h => h) (Or.inl ⟨by rfl, ?_⟩) ?_ ?_
               rotate_left
               · intro w'
                 go_simp
                 with_reducible rfl
               rotate_left
               · simp only [Act.put, sTA_, sCZ_, sCS_, i64_w, i32_w]
                 rfl
               refine pure_ (i := 5) (N := some 24) (v := ?_) (a' := ?_) #[Y_,Y_,Y_,X_,Y_,Y_,X_,X_,X_,X_] rfl rfl (any_of HT_.out (by kernel_rfl)) (fun _ _ _ h => h) (Or.inl ⟨by rfl, ?_⟩) ?_ ?_
               rotate_left
               · intro w'
                 go_simp
                 with_reducible rfl
               rotate_left
               · simp only [Act.put, sTA_, sCZ_, sCS_, i64_w, i32_w]
                 rfl
               refine pure_ (i := 6) (N := some 25) (v := ?_) (a' := ?_) #[Y_,Y_,Y_,X_,Y_,Y_,Y_,X_,X_,X_] rfl rfl (any_of HT_.out (by kernel_rfl)) (fun _ _ _ h => h) (Or.inl ⟨by rfl, ?_⟩) ?_ ?_
               rotate_left
               · intro w'
                 go_simp
                 with_reducible rfl
               rotate_left
               · simp only [Act.put, sTA_, sCZ_, sCS_, i64_w, i32_w]
                 rfl
               refine take_ (i := 3) (N := some 22) (v := ?_) (a' := ?_) #[Y_,Y_,Y_,Y_,Y_,Y_,Y_,X_,X_,X_] rfl rfl (take_ofW HT_.out HW_.out (by kernel_rfl)) (fun _ _ _ h => h) (Or.inl ⟨by rfl, ?_⟩) hHeld ?_ ?_
               rotate_left
               · rintro w' ⟨s0, s1, s2, s3, s4, s5⟩
                 go_simp
                 with_reducible rfl
               rotate_left
               · simp only [Act.put, sTA_, sCZ_, sCS_, i64_w, i32_w]
                 rfl
               refine take_ (i := 7) (N := some 26) (v := ?_) (a' := ?_) #[Y_,Y_,Y_,Y_,Y_,Y_,Y_,Y_,X_,X_] rfl rfl (take_ofW HT_.out HW_.out (by kernel_rfl)) (fun _ _ _ h => h) (Or.inl ⟨by rfl, ?_⟩) hHeld ?_ ?_
               rotate_left
               · rintro w' ⟨s0, s1, s2, s3, s4, s5⟩
                 go_simp
                 with_reducible rfl
               rotate_left
               · simp only [Act.put, sTA_, sCZ_, sCS_, i64_w, i32_w]
                 rfl
               refine one_ (i := 8) (N := some 27) #[Y_,Y_,Y_,Y_,Y_,Y_,Y_,Y_,Y_,X_] rfl rfl (one_of HT_.out (by kernel_rfl)) (by decide) (fun K hK => ?_)
               refine goes_ Tryz.func85 (by kernel_rfl) rfl #[.agg #[.int .u8 ((rd_T36 l0 x5_1).f0), .int .i64 ((rd_T36 l0 x5_1).f1), .string ((rd_T36 l0 x5_1).f2)], .agg #[.int .u8 ((rd_T36 l1 x5_1).f0), .int .i64 ((rd_T36 l1 x5_1).f1), .string ((rd_T36 l1 x5_1).f2)]] (by rfl) rfl rfl (by (try simp only [List.map_toArray, List.map_cons, List.map_nil]); first | done | rfl | (simp only [List.length_drop, List.length_take]; rfl)) ?_
               with_reducible refine (r1_Compare.calls kj2 ((rd_T36 l0 x5_1).f0) ((rd_T36 l0 x5_1).f1) ((rd_T36 l0 x5_1).f2) ((rd_T36 l1 x5_1).f0) ((rd_T36 l1 x5_1).f1) ((rd_T36 l1 x5_1).f2) t194 _ A9.out).mono ?_
               rintro e w14 ⟨rfl, hb⟩
               refine ⟨_, rfl, ?_⟩
               have n0_ := Aside0.mk (below_step (by repeat (first | (with_reducible first | exact HB.out | apply bA_ | apply bN_ | apply b1_) | exact HB.out)) hb)
               clear HB
               have HB := n0_
               clear n0_
               (try clear hb)
               (try clear hb2)
               (try clear hk)
               (try clear hi)
               refine hK.out _ _ ⟨((HB.out.cell (bLC_ w _ hw192_0)).trans hw192_0), ((HB.out.cell (bLC_ w _ hw192_1)).trans hw192_1), ((HB.out.cell (bLC_ w _ hw192_2)).trans hw192_2), ((HB.out.cell (bLC_ w _ hw193_0)).trans hw193_0), ((HB.out.cell (bLC_ w _ hw193_1)).trans hw193_1), ((HB.out.cell (bLC_ w _ hw193_2)).trans hw193_2)⟩ (fun hHeld => ?_)
               clear hK K
               refine norm_ (a' := ?_) ?_ ?_
               rotate_left
               · show Act.put _ (some 27) _ = _
                 simp only [Act.put, sTA_, sCZ_, sCS_, i64_w, i32_w]
                 rfl
               refine pure_ (i := 9) (N := some 6) (v := ?_) (a' := ?_) #[Y_,Y_,Y_,Y_,Y_,Y_,Y_,Y_,Y_,Y_] rfl rfl (any_of HT_.out (by kernel_rfl)) (fun _ _ _ h => h) (Or.inl ⟨by rfl, ?_⟩) ?_ ?_
               rotate_left
               · intro w'
                 go_simp
                 with_reducible rfl
               rotate_left
               · simp only [Act.put, sTA_, sCZ_, sCS_, i64_w, i32_w]
                 rfl
               refine done_ (done_of HT_.out (by kernel_rfl)) ?_
               try go_wp2
               go_ret
               exact ⟨by first | rfl | (simp [*, errW_none, errW_some] <;> rfl), by repeat (first | (with_reducible first | exact HB.out | apply bA_ | apply bN_ | apply b1_) | exact HB.out)⟩
           · rw [if_neg c8] at H
             exact absurd H (by simp)
         · rw [if_neg c7] at H
           exact absurd H (by simp)
       · rw [if_neg c6] at H
         exact absurd H (by simp)
     · replace c5 := Bool.eq_false_iff.mpr c5
       subst c5
       have H1 : ((r1_ints.f (l0.length : Int) (l1.length : Int)).bind fun t195 => (some t195)) = some r := by rw [if_neg (show ¬ (false = true) by decide)] at H; exact H
       clear H
       have H := H1
       clear H1
       replace H := Option.bind_eq_some_iff.mp H
       obtain ⟨t195, A150, H⟩ := H
       replace H : (some t195) = some r := H
       have A15 := Aside0.mk A150
       clear A150
       obtain rfl := Option.some.inj H
       go_wp2_with (first | ((with_reducible refine gate_callee (f := 100) rfl ?_); refine goesL_ (some 35) rfl rfl Tryz.func100 (by kernel_rfl) rfl #[.int .i64 (l0.length : Int), .int .i64 (l1.length : Int)] rfl (by (try simp only [List.map_toArray, List.map_cons, List.map_nil]); first | done | rfl | (simp only [List.length_drop, List.length_take]; rfl)) ?_; (with_reducible refine (r1_ints.calls (l0.length : Int) (l1.length : Int) t195 _ A15.out).mono ?_); rintro e w' ⟨rfl, ⟨nd, rfl⟩⟩; refine ⟨_, rfl, ?_⟩))
       go_ret
       exact ⟨by first | rfl | (simp [*, errW_none, errW_some] <;> rfl), by repeat (first | (with_reducible first | exact HB.out | apply bA_ | apply bN_ | apply b1_) | exact HB.out)⟩
def r6_before.f (k : Nat) (l0 : List (S36)) (l1 : List (S36)) (l2 : List (S64)) : Option (Bool) := (r6_CompareBy.f k l0 l1 l2).bind fun t196 => (if t196 = 0 then ((r1_CompareRows.f k l0 l1).bind fun t197 => (some (decide (t197 < 0)))) else (some (decide (t196 < 0))))
theorem r6_before.calls (k : Nat) (A0 : Option Addr) (c0 : Nat) (l0 : List (S36)) (A1 : Option Addr) (c1 : Nat) (l1 : List (S36)) (A2 : Option Addr) (c2 : Nat) (l2 : List (S64)) (r : Bool) (w : World) (hr0 : Kd.C k36 w A0 l0.length l0) (hc0 : l0.length ≤ c0) (hr1 : Kd.C k36 w A1 l1.length l1) (hc1 : l1.length ≤ c1) (hr2 : Kd.C k64 w A2 l2.length l2) (hc2 : l2.length ≤ c2) (h : r6_before.f k l0 l1 l2 = some r) :
 Calls Tryz.prog 102 #[.slice A0 l0.length c0, .slice A1 l1.length c1, .slice A2 l2.length c2] w fun e w' => e = .returned (.bool r) ∧ Below w.heap.size w w' := by
 have HR0 := Aside0.mk hr0
 have HC0 := Aside0.mk hc0
 clear hr0 hc0
 have HR1 := Aside0.mk hr1
 have HC1 := Aside0.mk hc1
 clear hr1 hc1
 have HR2 := Aside0.mk hr2
 have HC2 := Aside0.mk hc2
 clear hr2 hc2
 have HB := Aside0.mk (Below.refl w.heap.size w)
 have H : ((r6_CompareBy.f k l0 l1 l2).bind fun t196 => (if t196 = 0 then ((r1_CompareRows.f k l0 l1).bind fun t197 => (some (decide (t197 < 0)))) else (some (decide (t196 < 0))))) = some r := h
 clear h
 replace H := Option.bind_eq_some_iff.mp H
 obtain ⟨t196, A40, H⟩ := H
 replace H : (if t196 = 0 then ((r1_CompareRows.f k l0 l1).bind fun t197 => (some (decide (t197 < 0)))) else (some (decide (t196 < 0)))) = some r := H
 have A4 := Aside0.mk A40
 clear A40
 by_cases c5 : t196 = 0
 · rw [if_pos c5] at H
   have c5b0 : (t196 == 0) = true := beq_iff_eq.mpr c5
   have c5b1 : (t196 != 0) = false := bne_eq_false_iff_eq.mpr c5
   clear c5
   replace H := Option.bind_eq_some_iff.mp H
   obtain ⟨t197, A60, H⟩ := H
   replace H : (some (decide (t197 < 0))) = some r := H
   have A6 := Aside0.mk A60
   clear A60
   obtain rfl := Option.some.inj H
   go_enter Tryz.func102, Tryz.ntmps102
   go_wp2_with (first | ((with_reducible refine gate_callee (f := 66) rfl ?_); refine goesL_ (some 11) rfl rfl Tryz.func66 (by kernel_rfl) rfl #[.slice A0 l0.length c0, .slice A1 l1.length c1, .slice A2 l2.length c2] rfl (by (try simp only [List.map_toArray, List.map_cons, List.map_nil]); first | done | rfl | (simp only [List.length_drop, List.length_take]; rfl)) ?_; (with_reducible refine (r6_CompareBy.calls k _ _ l0 _ _ l1 _ _ l2 t196 _ ?side1 ?side2 ?side3 ?side4 ?side5 ?side6 A4.out).mono ?_); (case side1 => repeat (first | exact HR0.out | (with_reducible refine Kd.cA_ ?_ _) | (with_reducible refine Kd.cN_ ?_ _) | (with_reducible refine Kd.cD_ ?_))); (case side2 => exact HC0.out); (case side3 => repeat (first | exact HR1.out | (with_reducible refine Kd.cA_ ?_ _) | (with_reducible refine Kd.cN_ ?_ _) | (with_reducible refine Kd.cD_ ?_))); (case side4 => exact HC1.out); (case side5 => repeat (first | exact HR2.out | (with_reducible refine Kd.cA_ ?_ _) | (with_reducible refine Kd.cN_ ?_ _) | (with_reducible refine Kd.cD_ ?_))); (case side6 => exact HC2.out); rintro e w7 ⟨rfl, hb⟩; refine ⟨_, rfl, ?_⟩; have n0_ := Aside0.mk (below_step (by repeat (first | (with_reducible first | exact HB.out | apply bA_ | apply bN_ | apply b1_) | exact HB.out)) hb); clear HB; have HB := n0_; clear n0_; (try clear hb); (try clear hb2); (try clear hk); (try clear hi)) | ((with_reducible refine gate_callee (f := 123) rfl ?_); refine goesL_ (some 18) rfl rfl Tryz.func123 (by kernel_rfl) rfl #[.slice A0 l0.length c0, .slice A1 l1.length c1] rfl (by (try simp only [List.map_toArray, List.map_cons, List.map_nil]); first | done | rfl | (simp only [List.length_drop, List.length_take]; rfl)) ?_; (with_reducible refine (r1_CompareRows.calls k _ _ l0 _ _ l1 t197 _ ?side1 ?side2 ?side3 ?side4 A6.out).mono ?_); (case side1 => repeat (first | exact (Kd.C_below HR0.out HB.out) | (with_reducible refine Kd.cA_ ?_ _) | (with_reducible refine Kd.cN_ ?_ _) | (with_reducible refine Kd.cD_ ?_))); (case side2 => exact HC0.out); (case side3 => repeat (first | exact (Kd.C_below HR1.out HB.out) | (with_reducible refine Kd.cA_ ?_ _) | (with_reducible refine Kd.cN_ ?_ _) | (with_reducible refine Kd.cD_ ?_))); (case side4 => exact HC1.out); rintro e w8 ⟨rfl, hb⟩; refine ⟨_, rfl, ?_⟩; have n0_ := Aside0.mk (below_step (by repeat (first | (with_reducible first | exact HB.out | apply bA_ | apply bN_ | apply b1_) | exact HB.out)) hb); clear HB; have HB := n0_; clear n0_; (try clear hb); (try clear hb2); (try clear hk); (try clear hi)))
   go_ret
   exact ⟨by first | rfl | (simp [*, errW_none, errW_some] <;> rfl), by repeat (first | (with_reducible first | exact HB.out | apply bA_ | apply bN_ | apply b1_) | exact HB.out)⟩
 · rw [if_neg c5] at H
   have c5b0 : (t196 == 0) = false := beq_eq_false_iff_ne.mpr c5
   have c5b1 : (t196 != 0) = true := bne_iff_ne.mpr c5
   obtain rfl := Option.some.inj H
   go_enter Tryz.func102, Tryz.ntmps102
   go_wp2_with (first | ((with_reducible refine gate_callee (f := 66) rfl ?_); refine goesL_ (some 11) rfl rfl Tryz.func66 (by kernel_rfl) rfl #[.slice A0 l0.length c0, .slice A1 l1.length c1, .slice A2 l2.length c2] rfl (by (try simp only [List.map_toArray, List.map_cons, List.map_nil]); first | done | rfl | (simp only [List.length_drop, List.length_take]; rfl)) ?_; (with_reducible refine (r6_CompareBy.calls k _ _ l0 _ _ l1 _ _ l2 t196 _ ?side1 ?side2 ?side3 ?side4 ?side5 ?side6 A4.out).mono ?_); (case side1 => repeat (first | exact HR0.out | (with_reducible refine Kd.cA_ ?_ _) | (with_reducible refine Kd.cN_ ?_ _) | (with_reducible refine Kd.cD_ ?_))); (case side2 => exact HC0.out); (case side3 => repeat (first | exact HR1.out | (with_reducible refine Kd.cA_ ?_ _) | (with_reducible refine Kd.cN_ ?_ _) | (with_reducible refine Kd.cD_ ?_))); (case side4 => exact HC1.out); (case side5 => repeat (first | exact HR2.out | (with_reducible refine Kd.cA_ ?_ _) | (with_reducible refine Kd.cN_ ?_ _) | (with_reducible refine Kd.cD_ ?_))); (case side6 => exact HC2.out); rintro e w9 ⟨rfl, hb⟩; refine ⟨_, rfl, ?_⟩; have n0_ := Aside0.mk (below_step (by repeat (first | (with_reducible first | exact HB.out | apply bA_ | apply bN_ | apply b1_) | exact HB.out)) hb); clear HB; have HB := n0_; clear n0_; (try clear hb); (try clear hb2); (try clear hk); (try clear hi)))
   go_ret
   exact ⟨by first | rfl | (simp [*, errW_none, errW_some] <;> rfl), by repeat (first | (with_reducible first | exact HB.out | apply bA_ | apply bN_ | apply b1_) | exact HB.out)⟩
mutual
def r6_merge.l0 : Nat → List (List (S36)) → List (List (S36)) → List (S64) → List (List (S36)) → Int → Int → Option ((List (List (S36))))
 | 0, _, _, _, _, _, _ => none
 | k + 1, x0, x1, x2, x7, x8, x9 => if x8 < (x0.length : Int) then (r6_merge.j1 k x0 x1 x2 x7 x8 x9 true) else (r6_merge.j1 k x0 x1 x2 x7 x8 x9 (decide (x9 < (x1.length : Int))))
def r6_merge.j1 : Nat → List (List (S36)) → List (List (S36)) → List (S64) → List (List (S36)) → Int → Int → Bool → Option ((List (List (S36))))
 | 0, _, _, _, _, _, _, _ => none
 | k + 1, x0, x1, x2, x7, x8, x9, x19 => if x19 = true then (if x9 ≥ (x1.length : Int) then (if 0 ≤ x8 then (if x8 < (x0.length : Int) then (if x7.length < 5864062014805 then (r6_merge.l0 k x0 x1 x2 (x7 ++ [rd_L4 x0 x8]) (wrap64 (x8 + 1)) x9) else (none)) else (none)) else (none)) else (if x8 < (x0.length : Int) then (if 0 ≤ x9 then (if x9 < (x1.length : Int) then (if 0 ≤ x8 then ((r6_before.f k (rd_L4 x1 x9) (rd_L4 x0 x8) x2).bind fun t204 => (if t204 = true then (if x7.length < 5864062014805 then (r6_merge.l0 k x0 x1 x2 (x7 ++ [rd_L4 x1 x9]) x8 (wrap64 (x9 + 1))) else (none)) else (if x7.length < 5864062014805 then (r6_merge.l0 k x0 x1 x2 (x7 ++ [rd_L4 x0 x8]) (wrap64 (x8 + 1)) x9) else (none)))) else (none)) else (none)) else (none)) else (if 0 ≤ x9 then (if x9 < (x1.length : Int) then (if x7.length < 5864062014805 then (r6_merge.l0 k x0 x1 x2 (x7 ++ [rd_L4 x1 x9]) x8 (wrap64 (x9 + 1))) else (none)) else (none)) else (none)))) else (some x7)
end
def r6_merge.f (k : Nat) (l0 : List (List (S36))) (l1 : List (List (S36))) (l2 : List (S64)) : Option ((List (List (S36)))) := r6_merge.l0 k l0 l1 l2 ([] : List (List (S36))) 0 0
def r6_merge.T4 : Bool × List (List Nat × List Nat) := (true, [([], []), ([], []), ([1], [1]), ([0, 2], [0, 2]), ([3], [3]), ([4], [4]), ([4], [4]), ([6, 4], [4, 6]), ([5, 7, 4], [4, 5, 7]), ([8, 4, 4], [4, 8]), ([9], [9]), ([9], [9]), ([10, 11, 9], [9, 10, 11]), ([12, 9], [9, 12]), ([9], [9]), ([9], [9]), ([14, 15, 9], [9, 14, 15]), ([16, 9], [9, 16]), ([9], [9]), ([13, 17, 18, 9, 9], [9, 13, 17, 18]), ([19, 9], [9, 19]), ([9, 20, 4], [4, 9, 20]), ([4, 21], [4, 21])])
def r6_merge.B4 : List Nat := [0, 0, 2, 7, 15, 31, 31, 95, 255, 511, 1023, 1023, 4095, 8191, 1023, 1023, 50175, 115711, 1023, 524287, 1048575, 2097151, 4194303]
theorem r6_merge.tab4 : rtab .any (opsOf Tryz.f89 4) = r6_merge.T4 := by kernel_rfl
theorem r6_merge.bits4 : waitsOk r6_merge.T4.2 r6_merge.B4 = true := by kernel_rfl
theorem r6_merge.calls (k : Nat) (P0_ : Nat → Prop) (A0 : Option Addr) (c0 : Nat) (l0 : List (List (S36))) (P1_ : Nat → Prop) (A1 : Option Addr) (c1 : Nat) (l1 : List (List (S36))) (A2 : Option Addr) (c2 : Nat) (l2 : List (S64)) (r : List (List (S36))) (w : World) (hs0 : Kd.V (Kd.slice 36 k36) 53 w w.heap.size (fun k_ => P0_ k_) (.slice A0 l0.length c0) l0) (hs1 : Kd.V (Kd.slice 36 k36) 53 w w.heap.size (fun k_ => P1_ k_) (.slice A1 l1.length c1) l1) (hr2 : Kd.C k64 w A2 l2.length l2) (hc2 : l2.length ≤ c2) (h : r6_merge.f k l0 l1 l2 = some r) :
 Calls Tryz.prog 89 #[.slice A0 l0.length c0, .slice A1 l1.length c1, .slice A2 l2.length c2] w fun e w' => ∃ v0_ : Value, e = .returned (v0_) ∧ Kd.N (Kd.slice 36 k36) 53 w' w.heap.size (fun k_ => ((P0_ k_ ∨ P1_ k_) ∨ w.heap.size ≤ k_)) v0_ r ∧ Below w.heap.size w w' := by
 have HO0 := Aside0.mk (show Kd.V (Kd.slice 36 k36) 53 w w.heap.size (fun k_ => ((P0_ k_ ∨ P1_ k_) ∨ w.heap.size ≤ k_)) (.slice A0 l0.length c0) l0 from Kd.V_mono hs0 (fun k_ hk => .inl (.inl hk)))
 have HO1 := Aside0.mk (show Kd.V (Kd.slice 36 k36) 53 w w.heap.size (fun k_ => ((P0_ k_ ∨ P1_ k_) ∨ w.heap.size ≤ k_)) (.slice A1 l1.length c1) l1 from Kd.V_mono hs1 (fun k_ hk => .inl (.inr hk)))
 have HR2 := Aside0.mk hr2
 have HC2 := Aside0.mk hc2
 clear hr2 hc2
 have HB := Aside0.mk (Below.refl w.heap.size w)
 have H : (r6_merge.l0 k l0 l1 l2 ([] : List (List (S36))) 0 0) = some r := h
 clear h
 have H' := Aside0.mk H
 clear H
 go_enter Tryz.func89, Tryz.ntmps89
 go_wp2
 go_loopg [7, 8, 9] k (fun kq v7 v8 v9 w' => ∃ (x7_1 : List (List (S36))) (x8_1 : Int) (x9_1 : Int), v8 = .int .i64 x8_1 ∧ v9 = .int .i64 x9_1 ∧ Aside0 (r6_merge.l0 kq l0 l1 l2 x7_1 x8_1 x9_1 = some r) ∧ Aside0 (kq ≤ k) ∧ Aside0 (Kd.V (Kd.slice 36 k36) 53 w' w.heap.size (fun k_ => ((P0_ k_ ∨ P1_ k_) ∨ w.heap.size ≤ k_) ∧ some k_ ≠ (v7 : Value).ownBlock) (.slice A0 l0.length c0) l0) ∧ Aside0 (Kd.V (Kd.slice 36 k36) 53 w' w.heap.size (fun k_ => ((P0_ k_ ∨ P1_ k_) ∨ w.heap.size ≤ k_) ∧ some k_ ≠ (v7 : Value).ownBlock) (.slice A1 l1.length c1) l1) ∧ Aside0 (Kd.N (Kd.slice 36 k36) 53 w' w.heap.size (fun k_ => ((P0_ k_ ∨ P1_ k_) ∨ w.heap.size ≤ k_)) v7 x7_1) ∧ Aside0 (Below w.heap.size w w'))
 case atStart => exact ⟨(([] : List (List (S36)))), (0), (0), (by first | rfl | (simp; done) | (simp [*]; done)), (by first | rfl | (simp; done) | (simp [*]; done)), H', ⟨Nat.le_refl _⟩, ⟨by (with_reducible repeat (first | apply Kd.vA_ | apply Kd.vN_ | apply Kd.vD_)); exact Kd.V_mono HO0.out (fun _ hk => ⟨hk, (by simp [Value.ownBlock])⟩)⟩, ⟨by (with_reducible repeat (first | apply Kd.vA_ | apply Kd.vN_ | apply Kd.vD_)); exact Kd.V_mono HO1.out (fun _ hk => ⟨hk, (by simp [Value.ownBlock])⟩)⟩, ⟨by first | exact Kd.S_nil _ _ _ _ _ | exact Kd.N_nil _ _ _ _ _ | exact Kd.V_nil _ _ _ _ _ | exact Kd.Q_nil _ _ _ _ _ | exact Kd.R_nil _ _ _ _ _⟩, ⟨by repeat (first | (with_reducible first | exact HB.out | apply bA_ | apply bN_ | apply b1_) | exact HB.out)⟩⟩
 case round =>
  clear H'
  try clear c1
  try clear c2
  try clear p2
  obtain ⟨x7_1, x8_1, x9_1, rfl, rfl, HA, HK1, HO_0, HO_1, HO_7, HB⟩ := hrel
  cases gk with
  | zero => exact absurd HA.out (by simp [r6_merge.l0])
  | succ k1 =>
   have H := HA.out
   clear HA
   simp only [r6_merge.l0] at H
   have HC4 := Aside0.mk H
   clear H
   go_upto_region 3 with (fail)
   go_cut [19] (fun v19 wc => ∃ (kq : Nat) (x19_3 : Bool), v19 = .bool x19_3 ∧ Aside0 (r6_merge.j1 kq l0 l1 l2 x7_1 x8_1 x9_1 x19_3 = some r) ∧ Aside0 (kq ≤ k1) ∧ Aside0 (Kd.V (Kd.slice 36 k36) 53 wc w.heap.size (fun k_ => ((P0_ k_ ∨ P1_ k_) ∨ w.heap.size ≤ k_) ∧ some k_ ≠ (u7 : Value).ownBlock) (.slice A0 l0.length c0) l0) ∧ Aside0 (Kd.V (Kd.slice 36 k36) 53 wc w.heap.size (fun k_ => ((P0_ k_ ∨ P1_ k_) ∨ w.heap.size ≤ k_) ∧ some k_ ≠ (u7 : Value).ownBlock) (.slice A1 l1.length c1) l1) ∧ Aside0 (Kd.N (Kd.slice 36 k36) 53 wc w.heap.size (fun k_ => ((P0_ k_ ∨ P1_ k_) ∨ w.heap.size ≤ k_)) u7 x7_1) ∧ Aside0 (Below w.heap.size w wc))
   case first =>
    have H := HC4.out
    clear HC4
    by_cases c5 : x8_1 < (l0.length : Int)
    · rw [if_pos c5] at H
      have c5b0 : decide (x8_1 < (l0.length : Int)) = true := dT_ c5
      clear c5
      (first | rw [c5b0] | (simp only [i64_w, i32_w]; rw [c5b0]) | skip)
      have H' := Aside0.mk H
      clear H
      go_wp2
      go_meet
      case rel => exact ⟨_, (true), (by first | rfl | (simp; done) | (simp [*]; done)), H', ⟨by have := HK1.out; first | omega | exact Nat.le_refl _⟩, ⟨by (with_reducible repeat (first | apply Kd.vA_ | apply Kd.vN_ | apply Kd.vD_)); exact HO_0.out⟩, ⟨by (with_reducible repeat (first | apply Kd.vA_ | apply Kd.vN_ | apply Kd.vD_)); exact HO_1.out⟩, ⟨by (with_reducible repeat (first | apply Kd.nA_ | apply Kd.nN_ | apply Kd.nD_)); exact HO_7.out⟩, ⟨by repeat (first | (with_reducible first | exact HB.out | apply bA_ | apply bN_ | apply b1_) | exact HB.out)⟩⟩
    · rw [if_neg c5] at H
      have c5b0 : decide (x8_1 < (l0.length : Int)) = false := dF_ c5
      clear c5
      (first | rw [c5b0] | (simp only [i64_w, i32_w]; rw [c5b0]) | skip)
      have H' := Aside0.mk H
      clear H
      go_wp2
      go_meet
      case rel => exact ⟨_, (decide (x9_1 < (l1.length : Int))), (by first | rfl | (simp; done) | (simp [*]; done)), H', ⟨by have := HK1.out; first | omega | exact Nat.le_refl _⟩, ⟨by (with_reducible repeat (first | apply Kd.vA_ | apply Kd.vN_ | apply Kd.vD_)); exact HO_0.out⟩, ⟨by (with_reducible repeat (first | apply Kd.vA_ | apply Kd.vN_ | apply Kd.vD_)); exact HO_1.out⟩, ⟨by (with_reducible repeat (first | apply Kd.nA_ | apply Kd.nN_ | apply Kd.nD_)); exact HO_7.out⟩, ⟨by repeat (first | (with_reducible first | exact HB.out | apply bA_ | apply bN_ | apply b1_) | exact HB.out)⟩⟩
   case rest =>
    clear HC4
    try clear c1
    try clear c2
    try clear p2
    try clear c5
    try clear c5b0
    try clear p2
    obtain ⟨kq, x19_3, rfl, HA, HJ3, HO_0, HO_1, HO_7, HB⟩ := hcut
    cases kq with
    | zero => exact absurd HA.out (by simp [r6_merge.j1])
    | succ kj3 =>
     have H := HA.out
     clear HA
     simp only [r6_merge.j1] at H
     by_cases c6 : x19_3 = true
     · subst c6
       have H1 : (if x9_1 ≥ (l1.length : Int) then (if 0 ≤ x8_1 then (if x8_1 < (l0.length : Int) then (if x7_1.length < 5864062014805 then (r6_merge.l0 kj3 l0 l1 l2 (x7_1 ++ [rd_L4 l0 x8_1]) (wrap64 (x8_1 + 1)) x9_1) else (none)) else (none)) else (none)) else (if x8_1 < (l0.length : Int) then (if 0 ≤ x9_1 then (if x9_1 < (l1.length : Int) then (if 0 ≤ x8_1 then ((r6_before.f kj3 (rd_L4 l1 x9_1) (rd_L4 l0 x8_1) l2).bind fun t204 => (if t204 = true then (if x7_1.length < 5864062014805 then (r6_merge.l0 kj3 l0 l1 l2 (x7_1 ++ [rd_L4 l1 x9_1]) x8_1 (wrap64 (x9_1 + 1))) else (none)) else (if x7_1.length < 5864062014805 then (r6_merge.l0 kj3 l0 l1 l2 (x7_1 ++ [rd_L4 l0 x8_1]) (wrap64 (x8_1 + 1)) x9_1) else (none)))) else (none)) else (none)) else (none)) else (if 0 ≤ x9_1 then (if x9_1 < (l1.length : Int) then (if x7_1.length < 5864062014805 then (r6_merge.l0 kj3 l0 l1 l2 (x7_1 ++ [rd_L4 l1 x9_1]) x8_1 (wrap64 (x9_1 + 1))) else (none)) else (none)) else (none)))) = some r := by rw [if_pos rfl] at H; exact H
       clear H
       have H := H1
       clear H1
       by_cases c7 : x9_1 ≥ (l1.length : Int)
       · rw [if_pos c7] at H
         have c7b0 : decide ((l1.length : Int) ≤ x9_1) = true := dT_ c7
         clear c7
         by_cases c8 : 0 ≤ x8_1
         · rw [if_pos c8] at H
           have c8b0 : decide (0 ≤ x8_1) = true := dT_ c8
           clear c8
           by_cases c9 : x8_1 < (l0.length : Int)
           · rw [if_pos c9] at H
             have c9b0 : decide (x8_1 < (l0.length : Int)) = true := dT_ c9
             clear c9
             by_cases c10 : x7_1.length < 5864062014805
             · rw [if_pos c10] at H
               have LMc10 := Aside0.mk c10
               clear c10
               obtain ⟨y199, hy199⟩ : ∃ y_ : List (List (S36)), y_ = (x7_1 ++ [rd_L4 l0 x8_1]) := ⟨_, rfl⟩
               replace H : (r6_merge.l0 kj3 l0 l1 l2 y199 (wrap64 (x8_1 + 1)) x9_1) = some r := by first | (rw [hy199]; with_reducible exact H) | (have H2_ := (Option.bind_some _ _).symm.trans H; rw [hy199]; with_reducible exact H2_) | (have H2_ := (Option.bind_some _ _).symm.trans H; with_reducible exact H2_) | with_reducible exact H | (rw [hy199]; exact H) | exact H
               have Ny199 := Aside0.mk hy199
               clear hy199
               have H' := Aside0.mk H
               clear H
               try go_wp2
               have n0_ := Aside0.mk (Kd.vD_ HO_0.out)
               have n1_ := Aside0.mk (Kd.vD_ HO_1.out)
               have n2_ := Aside0.mk (Kd.nD_ HO_7.out)
               have n3_ := Aside0.mk (b1_ HB.out)
               clear HO_0
               clear HO_1
               clear HO_7
               clear HB
               have HO_0 := n0_
               have HO_1 := n1_
               have HO_7 := n2_
               have HB := n3_
               clear n0_ n1_ n2_ n3_
               refine start_ (n := 23) (S := fun w' => True) (ds := []) #[X_,X_,X_,X_,X_,X_,X_,X_,X_,X_,X_,X_,X_,X_,X_,X_,X_,X_,X_,X_,X_,X_,X_] (by kernel_rfl) rfl rfl trivial (fun hHeld => ?_); refine with_tabW r6_merge.tab4 r6_merge.bits4 (fun HT_ HW_ => ?_)
               generalize wc.drew = w11 at HO_0 HO_1 HO_7 HB hHeld ⊢
               refine pure_ (i := 0) (N := some 20) (v := ?_) (a' := ?_) #[Y_,X_,X_,X_,X_,X_,X_,X_,X_,X_,X_,X_,X_,X_,X_,X_,X_,X_,X_,X_,X_,X_,X_] rfl rfl (any_of HT_.out (by kernel_rfl)) (fun _ _ _ h => h) (Or.inl ⟨by rfl, ?_⟩) ?_ ?_
               rotate_left
               · intro w'
                 go_simp
                 with_reducible rfl
               rotate_left
               · simp only [Act.put, sTA_, sCZ_, sCS_, i64_w, i32_w]
                 rfl
               refine pure_ (i := 1) (N := some 21) (v := ?_) (a' := ?_) #[Y_,Y_,X_,X_,X_,X_,X_,X_,X_,X_,X_,X_,X_,X_,X_,X_,X_,X_,X_,X_,X_,X_,X_] rfl rfl (any_of HT_.out (by kernel_rfl)) (fun _ _ _ h => h) (Or.inl ⟨by rfl, ?_⟩) ?_ ?_
               rotate_left
               · intro w'
                 go_simp
                 with_reducible rfl
               rotate_left
               · simp only [Act.put, sTA_, sCZ_, sCS_, i64_w, i32_w]
                 rfl
               refine pure_ (i := 2) (N := some 22) (v := ?_) (a' := ?_) #[Y_,Y_,Y_,X_,X_,X_,X_,X_,X_,X_,X_,X_,X_,X_,X_,X_,X_,X_,X_,X_,X_,X_,X_] rfl rfl (any_of HT_.out (by kernel_rfl)) (fun _ _ _ h => h) (Or.inl ⟨by rfl, ?_⟩) ?_ ?_
               rotate_left
               · intro w'
                 go_simp
                 with_reducible rfl
               rotate_left
               · simp only [Act.put, sTA_, sCZ_, sCS_, i64_w, i32_w]
                 rfl
               refine pure_ (i := 3) (N := some 23) (v := ?_) (a' := ?_) #[Y_,Y_,Y_,Y_,X_,X_,X_,X_,X_,X_,X_,X_,X_,X_,X_,X_,X_,X_,X_,X_,X_,X_,X_] rfl rfl (any_of HT_.out (by kernel_rfl)) (fun _ _ _ h => h) (Or.inl ⟨by rfl, ?_⟩) ?_ ?_
               rotate_left
               · intro w'
                 go_simp
                 with_reducible rfl
               rotate_left
               · simp only [Act.put, sTA_, sCZ_, sCS_, i64_w, i32_w]
                 rfl
               refine pure_ (i := 4) (N := some 24) (v := ?_) (a' := ?_) #[Y_,Y_,Y_,Y_,Y_,X_,X_,X_,X_,X_,X_,X_,X_,X_,X_,X_,X_,X_,X_,X_,X_,X_,X_] rfl rfl (any_of HT_.out (by kernel_rfl)) (fun _ _ _ h => h) (Or.inl ⟨by rfl, ?_⟩) ?_ ?_
               rotate_left
               · intro w'
                 go_simp
                 with_reducible rfl
               rotate_left
               · simp only [Act.put, sTA_, sCZ_, sCS_, i64_w, i32_w]
                 rfl
               refine pure_ (i := 5) (N := some 25) (v := undef) (a' := ?_) #[Y_,Y_,Y_,Y_,Y_,Y_,X_,X_,X_,X_,X_,X_,X_,X_,X_,X_,X_,X_,X_,X_,X_,X_,X_] rfl rfl (any_of HT_.out (by kernel_rfl)) (fun _ _ _ h => h) (Or.inr ⟨by rfl, rfl⟩) ?_ ?_
               rotate_left
               · simp only [Act.put, sTA_, sCZ_, sCS_, i64_w, i32_w]
                 rfl
               refine pure_ (i := 6) (N := some 26) (v := undef) (a' := ?_) #[Y_,Y_,Y_,Y_,Y_,Y_,Y_,X_,X_,X_,X_,X_,X_,X_,X_,X_,X_,X_,X_,X_,X_,X_,X_] rfl rfl (any_of HT_.out (by kernel_rfl)) (fun _ _ _ h => h) (Or.inr ⟨by rfl, rfl⟩) ?_ ?_
               rotate_left
               · simp only [Act.put, sTA_, sCZ_, sCS_, i64_w, i32_w]
                 rfl
               refine pure_ (i := 7) (N := some 27) (v := undef) (a' := ?_) #[Y_,Y_,Y_,Y_,Y_,Y_,Y_,Y_,X_,X_,X_,X_,X_,X_,X_,X_,X_,X_,X_,X_,X_,X_,X_] rfl rfl (any_of HT_.out (by kernel_rfl)) (fun _ _ _ h => h) (Or.inr ⟨by rfl, rfl⟩) ?_ ?_
               rotate_left
               · simp only [Act.put, sTA_, sCZ_, sCS_, i64_w, i32_w]
                 rfl
               refine pure_ (i := 8) (N := some 28) (v := undef) (a' := ?_) #[Y_,Y_,Y_,Y_,Y_,Y_,Y_,Y_,Y_,X_,X_,X_,X_,X_,X_,X_,X_,X_,X_,X_,X_,X_,X_] rfl rfl (any_of HT_.out (by kernel_rfl)) (fun _ _ _ h => h) (Or.inr ⟨by rfl, rfl⟩) ?_ ?_
               rotate_left
               · simp only [Act.put, sTA_, sCZ_, sCS_, i64_w, i32_w]
                 rfl
               refine pure_ (i := 9) (N := some 29) (v := undef) (a' := ?_) #[Y_,Y_,Y_,Y_,Y_,Y_,Y_,Y_,Y_,Y_,X_,X_,X_,X_,X_,X_,X_,X_,X_,X_,X_,X_,X_] rfl rfl (any_of HT_.out (by kernel_rfl)) (fun _ _ _ h => h) (Or.inr ⟨by rfl, rfl⟩) ?_ ?_
               rotate_left
               · simp only [Act.put, sTA_, sCZ_, sCS_, i64_w, i32_w]
                 rfl
               refine pure_ (i := 10) (N := some 30) (v := undef) (a' := ?_) #[Y_,Y_,Y_,Y_,Y_,Y_,Y_,Y_,Y_,Y_,Y_,X_,X_,X_,X_,X_,X_,X_,X_,X_,X_,X_,X_] rfl rfl (any_of HT_.out (by kernel_rfl)) (fun _ _ _ h => h) (Or.inr ⟨by rfl, rfl⟩) ?_ ?_
               rotate_left
               · simp only [Act.put, sTA_, sCZ_, sCS_, i64_w, i32_w]
                 rfl
               refine pure_ (i := 11) (N := some 31) (v := undef) (a' := ?_) #[Y_,Y_,Y_,Y_,Y_,Y_,Y_,Y_,Y_,Y_,Y_,Y_,X_,X_,X_,X_,X_,X_,X_,X_,X_,X_,X_] rfl rfl (any_of HT_.out (by kernel_rfl)) (fun _ _ _ h => h) (Or.inr ⟨by rfl, rfl⟩) ?_ ?_
               rotate_left
               · simp only [Act.put, sTA_, sCZ_, sCS_, i64_w, i32_w]
                 rfl
               refine pure_ (i := 12) (N := some 32) (v := undef) (a' := ?_) #[Y_,Y_,Y_,Y_,Y_,Y_,Y_,Y_,Y_,Y_,Y_,Y_,Y_,X_,X_,X_,X_,X_,X_,X_,X_,X_,X_] rfl rfl (any_of HT_.out (by kernel_rfl)) (fun _ _ _ h => h) (Or.inr ⟨by rfl, rfl⟩) ?_ ?_
               rotate_left
               · simp only [Act.put, sTA_, sCZ_, sCS_, i64_w, i32_w]
                 rfl
               refine pure_ (i := 13) (N := some 33) (v := undef) (a' := ?_) #[Y_,Y_,Y_,Y_,Y_,Y_,Y_,Y_,Y_,Y_,Y_,Y_,Y_,Y_,X_,X_,X_,X_,X_,X_,X_,X_,X_] rfl rfl (any_of HT_.out (by kernel_rfl)) (fun _ _ _ h => h) (Or.inr ⟨by rfl, rfl⟩) ?_ ?_
               rotate_left
               · simp only [Act.put, sTA_, sCZ_, sCS_, i64_w, i32_w]
                 rfl
               refine pure_ (i := 14) (N := some 34) (v := undef) (a' := ?_) #[Y_,Y_,Y_,Y_,Y_,Y_,Y_,Y_,Y_,Y_,Y_,Y_,Y_,Y_,Y_,X_,X_,X_,X_,X_,X_,X_,X_] rfl rfl (any_of HT_.out (by kernel_rfl)) (fun _ _ _ h => h) (Or.inr ⟨by rfl, rfl⟩) ?_ ?_
               rotate_left
               · simp only [Act.put, sTA_, sCZ_, sCS_, i64_w, i32_w]
                 rfl
               refine pure_ (i := 15) (N := some 35) (v := undef) (a' := ?_) #[Y_,Y_,Y_,Y_,Y_,Y_,Y_,Y_,Y_,Y_,Y_,Y_,Y_,Y_,Y_,Y_,X_,X_,X_,X_,X_,X_,X_] rfl rfl (any_of HT_.out (by kernel_rfl)) (fun _ _ _ h => h) (Or.inr ⟨by rfl, rfl⟩) ?_ ?_
               rotate_left
               · simp only [Act.put, sTA_, sCZ_, sCS_, i64_w, i32_w]
                 rfl
               refine pure_ (i := 16) (N := some 36) (v := undef) (a' := ?_) #[Y_,Y_,Y_,Y_,Y_,Y_,Y_,Y_,Y_,Y_,Y_,Y_,Y_,Y_,Y_,Y_,Y_,X_,X_,X_,X_,X_,X_] rfl rfl (any_of HT_.out (by kernel_rfl)) (fun _ _ _ h => h) (Or.inr ⟨by rfl, rfl⟩) ?_ ?_
               rotate_left
               · simp only [Act.put, sTA_, sCZ_, sCS_, i64_w, i32_w]
                 rfl
               refine pure_ (i := 17) (N := some 37) (v := undef) (a' := ?_) #[Y_,Y_,Y_,Y_,Y_,Y_,Y_,Y_,Y_,Y_,Y_,Y_,Y_,Y_,Y_,Y_,Y_,Y_,X_,X_,X_,X_,X_] rfl rfl (any_of HT_.out (by kernel_rfl)) (fun _ _ _ h => h) (Or.inr ⟨by rfl, rfl⟩) ?_ ?_
               rotate_left
               · simp only [Act.put, sTA_, sCZ_, sCS_, i64_w, i32_w]
                 rfl
               refine pure_ (i := 18) (N := some 38) (v := undef) (a' := ?_) #[Y_,Y_,Y_,Y_,Y_,Y_,Y_,Y_,Y_,Y_,Y_,Y_,Y_,Y_,Y_,Y_,Y_,Y_,Y_,X_,X_,X_,X_] rfl rfl (any_of HT_.out (by kernel_rfl)) (fun _ _ _ h => h) (Or.inr ⟨by rfl, rfl⟩) ?_ ?_
               rotate_left
               · simp only [Act.put, sTA_, sCZ_, sCS_, i64_w, i32_w]
                 rfl
               refine pure_ (i := 19) (N := some 39) (v := undef) (a' := ?_) #[Y_,Y_,Y_,Y_,Y_,Y_,Y_,Y_,Y_,Y_,Y_,Y_,Y_,Y_,Y_,Y_,Y_,Y_,Y_,Y_,X_,X_,X_] rfl rfl (any_of HT_.out (by kernel_rfl)) (fun _ _ _ h => h) (Or.inr ⟨by rfl, rfl⟩) ?_ ?_
               rotate_left
               · simp only [Act.put, sTA_, sCZ_, sCS_, i64_w, i32_w]
                 rfl
               refine pure_ (i := 20) (N := some 40) (v := undef) (a' := ?_) #[Y_,Y_,Y_,Y_,Y_,Y_,Y_,Y_,Y_,Y_,Y_,Y_,Y_,Y_,Y_,Y_,Y_,Y_,Y_,Y_,Y_,X_,X_] rfl rfl (any_of HT_.out (by kernel_rfl)) (fun _ _ _ h => h) (Or.inr ⟨by rfl, rfl⟩) ?_ ?_
               rotate_left
               · simp only [Act.put, sTA_, sCZ_, sCS_, i64_w, i32_w]
                 rfl
               refine pure_ (i := 21) (N := some 41) (v := undef) (a' := ?_) #[Y_,Y_,Y_,Y_,Y_,Y_,Y_,Y_,Y_,Y_,Y_,Y_,Y_,Y_,Y_,Y_,Y_,Y_,Y_,Y_,Y_,Y_,X_] rfl rfl (any_of HT_.out (by kernel_rfl)) (fun _ _ _ h => h) (Or.inr ⟨by rfl, rfl⟩) ?_ ?_
               rotate_left
               · simp only [Act.put, sTA_, sCZ_, sCS_, i64_w, i32_w]
                 rfl
               refine pure_ (i := 22) (N := some 42) (v := ?_) (a' := ?_) #[Y_,Y_,Y_,Y_,Y_,Y_,Y_,Y_,Y_,Y_,Y_,Y_,Y_,Y_,Y_,Y_,Y_,Y_,Y_,Y_,Y_,Y_,Y_] rfl rfl (any_of HT_.out (by kernel_rfl)) (fun _ _ _ h => h) (Or.inl ⟨by rfl, ?_⟩) ?_ ?_
               rotate_left
               · intro w'
                 go_simp
                 with_reducible rfl
               rotate_left
               · simp only [Act.put, sTA_, sCZ_, sCS_, i64_w, i32_w]
                 rfl
               refine done_ (done_of HT_.out (by kernel_rfl)) ?_
               have p198 : 0 ≤ (x8_1 : Int) := oT_ (by assumption)
               have q198 : x8_1 < (l0.length : Int) := oT_ (by assumption)
               obtain ⟨ad198, A198_0, c198_0, e198, hx198_0, hl198_0, hi198_0⟩ := at_L4 (Kd.V_reads' HO_0.out).2.2 x8_1 p198 q198
               cases e198
               obtain ⟨ce198, hce198, hMe198, hcc198⟩ := Kd.V_get HO_0.out [] x8_1 p198 (by first | exact q198 | exact oT_ (by assumption) | (have e_ := (Kd.V_reads' HO_0.out).1; omega))
               obtain ⟨ua198_0, uc198_0, rfl, ul198_0, ge198_0⟩ := Kd.FK_slice_open hMe198
               have hv198_0 := hcc198 0 _ rfl
               rw [Nat.add_zero, show ((Kd.slice 36 k36)).sz = 1 from rfl, Nat.mul_one] at hv198_0
               replace hv198_0 := Option.some.inj (hv198_0.symm.trans hx198_0)
               injection hv198_0 with hva_ hvn_ hvc_
               rw [hva_] at ge198_0
               rw [hvc_] at ul198_0
               have HL198_0 := Aside0.mk (show Kd.V k36 36 _ w.heap.size _ _ (rd_L4 l0 x8_1) from Kd.V_mk ul198_0 ge198_0)
               clear hva_ hvn_ hvc_ ge198_0 ul198_0
               clear hcc198 hce198
               have HR198_0 := Aside0.mk hi198_0
               have HC198_0 := Aside0.mk hl198_0
               clear hi198_0 hl198_0
               replace p198 := eq_true p198
               replace q198 := eq_true q198
               try go_wp2_with (first | ((with_reducible refine gate_builtin (b := .append) (xs := #[.tmp 43, .tmp 48]) rfl ?_); (try (refine gate_guard (by rfl) ?_; dsimp only)); at_builtin; refine Kd.N_append (Kd.slice 36 k36) (w0 := w) w.heap.size rfl (.tmp 43) (.tmp 48) 22 53 (.slice none 0 0) 24 rfl Tryz.underlying22 info53 rfl (by decide) (by omega) u7 x7_1 (rd_L4 l0 x8_1) [.slice A198_0 (rd_L4 l0 x8_1).length c198_0] (fun k_ => ((P0_ k_ ∨ P1_ k_) ∨ w.heap.size ≤ k_)) (fun k_ => ((fun k_ => ((P0_ k_ ∨ P1_ k_) ∨ w.heap.size ≤ k_))) k_ ∧ some k_ ≠ (u7 : Value).ownBlock) rfl rfl ?aP (fun _ hk => hk) ?aF ?aO ?aB ?aS ?aL ?_; (case aP => exact (Kd.FK_slice_mk (Kd.V_reads' (Kd.V_mono (ok' := (fun k_ => ((fun k_ => ((P0_ k_ ∨ P1_ k_) ∨ w.heap.size ≤ k_))) k_ ∧ some k_ ≠ (u7 : Value).ownBlock)) (HL198_0.out) (fun k_ hk => ⟨hk.1, hk.2⟩))).2.1 (Kd.V_F (Kd.V_mono (ok' := (fun k_ => ((fun k_ => ((P0_ k_ ∨ P1_ k_) ∨ w.heap.size ≤ k_))) k_ ∧ some k_ ≠ (u7 : Value).ownBlock)) (HL198_0.out) (fun k_ hk => ⟨hk.1, hk.2⟩))))); (case aB => exact (by repeat (first | (with_reducible first | exact HB.out | apply bA_ | apply bN_ | apply b1_) | exact HB.out))); (case aF => exact (fun k_ hk => (.inr (Nat.le_trans (below_size (by repeat (first | (with_reducible first | exact HB.out | apply bA_ | apply bN_ | apply b1_) | exact HB.out))) hk)))); (case aO => exact (by (with_reducible repeat (first | apply Kd.nA_ | apply Kd.nN_ | apply Kd.nD_)); exact HO_7.out)); (case aS => exact (below_size (by repeat (first | (with_reducible first | exact HB.out | apply bA_ | apply bN_ | apply b1_) | exact HB.out)))); (case aL => have := LMc10.out; omega); intro v200 w12 ho hb hg hat; rw [← Ny199.out] at ho; have n0_ := Aside0.mk (Kd.V_afterv (ok := (fun k_ => ((P0_ k_ ∨ P1_ k_) ∨ w.heap.size ≤ k_))) (by (with_reducible repeat (first | apply Kd.vA_ | apply Kd.vN_ | apply Kd.vD_)); exact HO_0.out) hg hat); have n1_ := Aside0.mk (Kd.V_afterv (ok := (fun k_ => ((P0_ k_ ∨ P1_ k_) ∨ w.heap.size ≤ k_))) (by (with_reducible repeat (first | apply Kd.vA_ | apply Kd.vN_ | apply Kd.vD_)); exact HO_1.out) hg hat); have n2_ := Aside0.mk (Kd.V_afterv (ok := (fun k_ => ((P0_ k_ ∨ P1_ k_) ∨ w.heap.size ≤ k_))) (by (with_reducible repeat (first | apply Kd.vA_ | apply Kd.vN_ | apply Kd.vD_)); exact HL198_0.out) hg hat); have n3_ := Aside0.mk (hb); have n4_ := Aside0.mk (ho); clear HO_0; clear HO_1; clear HL198_0; clear HB; clear HO_7; have HO_0 := n0_; have HO_1 := n1_; have HL198_0 := n2_; have HB := n3_; have HO201 := n4_; clear n0_ n1_ n2_ n3_ n4_; clear ho hb hg hat))
               go_roundg kj3
               case measure => have := HK1.out; have := HJ3.out; omega
               case rel => exact ⟨(y199), (wrap64 (x8_1 + 1)), (x9_1), (by first | rfl | (simp; done) | (simp [*]; done)), (by first | rfl | (simp; done) | (simp [*]; done)), H', ⟨by have := HK1.out; have := HJ3.out; omega⟩, ⟨by (with_reducible repeat (first | apply Kd.vA_ | apply Kd.vN_ | apply Kd.vD_)); exact HO_0.out⟩, ⟨by (with_reducible repeat (first | apply Kd.vA_ | apply Kd.vN_ | apply Kd.vD_)); exact HO_1.out⟩, ⟨by (with_reducible repeat (first | apply Kd.nA_ | apply Kd.nN_ | apply Kd.nD_)); exact HO201.out⟩, ⟨by repeat (first | (with_reducible first | exact HB.out | apply bA_ | apply bN_ | apply b1_) | exact HB.out)⟩⟩
             · rw [if_neg c10] at H
               exact absurd H (by simp)
           · rw [if_neg c9] at H
             exact absurd H (by simp)
         · rw [if_neg c8] at H
           exact absurd H (by simp)
       · rw [if_neg c7] at H
         have c7b0 : decide ((l1.length : Int) ≤ x9_1) = false := dF_ c7
         clear c7
         by_cases c13 : x8_1 < (l0.length : Int)
         · rw [if_pos c13] at H
           have c13b0 : decide (x8_1 < (l0.length : Int)) = true := dT_ c13
           clear c13
           by_cases c14 : 0 ≤ x9_1
           · rw [if_pos c14] at H
             have c14b0 : decide (0 ≤ x9_1) = true := dT_ c14
             clear c14
             by_cases c15 : x9_1 < (l1.length : Int)
             · rw [if_pos c15] at H
               have c15b0 : decide (x9_1 < (l1.length : Int)) = true := dT_ c15
               clear c15
               by_cases c16 : 0 ≤ x8_1
               · rw [if_pos c16] at H
                 have c16b0 : decide (0 ≤ x8_1) = true := dT_ c16
                 clear c16
                 replace H := Option.bind_eq_some_iff.mp H
                 obtain ⟨t204, A170, H⟩ := H
                 replace H : (if t204 = true then (if x7_1.length < 5864062014805 then (r6_merge.l0 kj3 l0 l1 l2 (x7_1 ++ [rd_L4 l1 x9_1]) x8_1 (wrap64 (x9_1 + 1))) else (none)) else (if x7_1.length < 5864062014805 then (r6_merge.l0 kj3 l0 l1 l2 (x7_1 ++ [rd_L4 l0 x8_1]) (wrap64 (x8_1 + 1)) x9_1) else (none))) = some r := H
                 have A17 := Aside0.mk A170
                 clear A170
                 by_cases c18 : t204 = true
                 · subst c18
                   have H1 : (if x7_1.length < 5864062014805 then (r6_merge.l0 kj3 l0 l1 l2 (x7_1 ++ [rd_L4 l1 x9_1]) x8_1 (wrap64 (x9_1 + 1))) else (none)) = some r := by rw [if_pos rfl] at H; exact H
                   clear H
                   have H := H1
                   clear H1
                   by_cases c19 : x7_1.length < 5864062014805
                   · rw [if_pos c19] at H
                     have LMc19 := Aside0.mk c19
                     clear c19
                     obtain ⟨y206, hy206⟩ : ∃ y_ : List (List (S36)), y_ = (x7_1 ++ [rd_L4 l1 x9_1]) := ⟨_, rfl⟩
                     replace H : (r6_merge.l0 kj3 l0 l1 l2 y206 x8_1 (wrap64 (x9_1 + 1))) = some r := by first | (rw [hy206]; with_reducible exact H) | (have H2_ := (Option.bind_some _ _).symm.trans H; rw [hy206]; with_reducible exact H2_) | (have H2_ := (Option.bind_some _ _).symm.trans H; with_reducible exact H2_) | with_reducible exact H | (rw [hy206]; exact H) | exact H
                     have Ny206 := Aside0.mk hy206
                     clear hy206
                     have H' := Aside0.mk H
                     clear H
                     try go_wp2
                     have n0_ := Aside0.mk (Kd.vD_ HO_0.out)
                     have n1_ := Aside0.mk (Kd.vD_ HO_1.out)
                     have n2_ := Aside0.mk (Kd.nD_ HO_7.out)
                     have n3_ := Aside0.mk (b1_ HB.out)
                     clear HO_0
                     clear HO_1
                     clear HO_7
                     clear HB
                     have HO_0 := n0_
                     have HO_1 := n1_
                     have HO_7 := n2_
                     have HB := n3_
                     clear n0_ n1_ n2_ n3_
                     have p202 : 0 ≤ (x9_1 : Int) := oT_ (by assumption)
                     have q202 : x9_1 < (l1.length : Int) := oT_ (by assumption)
                     obtain ⟨ad202, A202_0, c202_0, e202, hx202_0, hl202_0, hi202_0⟩ := at_L4 (Kd.V_reads' HO_1.out).2.2 x9_1 p202 q202
                     cases e202
                     obtain ⟨ce202, hce202, hMe202, hcc202⟩ := Kd.V_get HO_1.out [] x9_1 p202 (by first | exact q202 | exact oT_ (by assumption) | (have e_ := (Kd.V_reads' HO_1.out).1; omega))
                     obtain ⟨ua202_0, uc202_0, rfl, ul202_0, ge202_0⟩ := Kd.FK_slice_open hMe202
                     have hv202_0 := hcc202 0 _ rfl
                     rw [Nat.add_zero, show ((Kd.slice 36 k36)).sz = 1 from rfl, Nat.mul_one] at hv202_0
                     replace hv202_0 := Option.some.inj (hv202_0.symm.trans hx202_0)
                     injection hv202_0 with hva_ hvn_ hvc_
                     rw [hva_] at ge202_0
                     rw [hvc_] at ul202_0
                     have HL202_0 := Aside0.mk (show Kd.V k36 36 _ w.heap.size _ _ (rd_L4 l1 x9_1) from Kd.V_mk ul202_0 ge202_0)
                     clear hva_ hvn_ hvc_ ge202_0 ul202_0
                     clear hcc202 hce202
                     have HR202_0 := Aside0.mk hi202_0
                     have HC202_0 := Aside0.mk hl202_0
                     clear hi202_0 hl202_0
                     replace p202 := eq_true p202
                     replace q202 := eq_true q202
                     have p203 : 0 ≤ (x8_1 : Int) := oT_ (by assumption)
                     have q203 : x8_1 < (l0.length : Int) := oT_ (by assumption)
                     obtain ⟨ad203, A203_0, c203_0, e203, hx203_0, hl203_0, hi203_0⟩ := at_L4 (Kd.V_reads' HO_0.out).2.2 x8_1 p203 q203
                     cases e203
                     obtain ⟨ce203, hce203, hMe203, hcc203⟩ := Kd.V_get HO_0.out [] x8_1 p203 (by first | exact q203 | exact oT_ (by assumption) | (have e_ := (Kd.V_reads' HO_0.out).1; omega))
                     obtain ⟨ua203_0, uc203_0, rfl, ul203_0, ge203_0⟩ := Kd.FK_slice_open hMe203
                     have hv203_0 := hcc203 0 _ rfl
                     rw [Nat.add_zero, show ((Kd.slice 36 k36)).sz = 1 from rfl, Nat.mul_one] at hv203_0
                     replace hv203_0 := Option.some.inj (hv203_0.symm.trans hx203_0)
                     injection hv203_0 with hva_ hvn_ hvc_
                     rw [hva_] at ge203_0
                     rw [hvc_] at ul203_0
                     have HL203_0 := Aside0.mk (show Kd.V k36 36 _ w.heap.size _ _ (rd_L4 l0 x8_1) from Kd.V_mk ul203_0 ge203_0)
                     clear hva_ hvn_ hvc_ ge203_0 ul203_0
                     clear hcc203 hce203
                     have HR203_0 := Aside0.mk hi203_0
                     have HC203_0 := Aside0.mk hl203_0
                     clear hi203_0 hl203_0
                     replace p203 := eq_true p203
                     replace q203 := eq_true q203
                     refine start_ (n := 23) (S := fun w' => w'.cell? (ad202.add (x9_1).toNat) = some (.slice A202_0 (rd_L4 l1 x9_1).length c202_0) ∧ w'.cell? (ad203.add (x8_1).toNat) = some (.slice A203_0 (rd_L4 l0 x8_1).length c203_0)) (ds := []) #[X_,X_,X_,X_,X_,X_,X_,X_,X_,X_,X_,X_,X_,X_,X_,X_,X_,X_,X_,X_,X_,X_,X_] (by kernel_rfl) rfl rfl ⟨hx202_0, hx203_0⟩ (fun hHeld => ?_); refine with_tabW r6_merge.tab4 r6_merge.bits4 (fun HT_ HW_ => ?_)
                     generalize wc.drew = w20 at HO_0 HO_1 HO_7 HB HL202_0 HL203_0 HR202_0 HR203_0 hx202_0 hx203_0 hHeld ⊢
                     refine pure_ (i := 0) (N := some 20) (v := ?_) (a' := ?_) #[Y_,X_,X_,X_,X_,X_,X_,X_,X_,X_,X_,X_,X_,X_,X_,X_,X_,X_,X_,X_,X_,X_,X_] rfl rfl (any_of HT_.out (by kernel_rfl)) (fun _ _ _ h => h) (Or.inl ⟨by rfl, ?_⟩) ?_ ?_
                     rotate_left
                     · intro w'
                       go_simp
                       with_reducible rfl
                     rotate_left
                     · simp only [Act.put, sTA_, sCZ_, sCS_, i64_w, i32_w]
                       rfl
                     refine pure_ (i := 1) (N := some 21) (v := ?_) (a' := ?_) #[Y_,Y_,X_,X_,X_,X_,X_,X_,X_,X_,X_,X_,X_,X_,X_,X_,X_,X_,X_,X_,X_,X_,X_] rfl rfl (any_of HT_.out (by kernel_rfl)) (fun _ _ _ h => h) (Or.inl ⟨by rfl, ?_⟩) ?_ ?_
                     rotate_left
                     · intro w'
                       go_simp
                       with_reducible rfl
                     rotate_left
                     · simp only [Act.put, sTA_, sCZ_, sCS_, i64_w, i32_w]
                       rfl
                     refine pure_ (i := 2) (N := some 22) (v := ?_) (a' := ?_) #[Y_,Y_,Y_,X_,X_,X_,X_,X_,X_,X_,X_,X_,X_,X_,X_,X_,X_,X_,X_,X_,X_,X_,X_] rfl rfl (any_of HT_.out (by kernel_rfl)) (fun _ _ _ h => h) (Or.inl ⟨by rfl, ?_⟩) ?_ ?_
                     rotate_left
                     · intro w'
                       go_simp
                       with_reducible rfl
                     rotate_left
                     · simp only [Act.put, sTA_, sCZ_, sCS_, i64_w, i32_w]
                       rfl
                     refine pure_ (i := 3) (N := some 23) (v := ?_) (a' := ?_) #[Y_,Y_,Y_,Y_,X_,X_,X_,X_,X_,X_,X_,X_,X_,X_,X_,X_,X_,X_,X_,X_,X_,X_,X_] rfl rfl (any_of HT_.out (by kernel_rfl)) (fun _ _ _ h => h) (Or.inl ⟨by rfl, ?_⟩) ?_ ?_
                     rotate_left
                     · intro w'
                       go_simp
                       with_reducible rfl
                     rotate_left
                     · simp only [Act.put, sTA_, sCZ_, sCS_, i64_w, i32_w]
                       rfl
                     refine pure_ (i := 4) (N := some 24) (v := ?_) (a' := ?_) #[Y_,Y_,Y_,Y_,Y_,X_,X_,X_,X_,X_,X_,X_,X_,X_,X_,X_,X_,X_,X_,X_,X_,X_,X_] rfl rfl (any_of HT_.out (by kernel_rfl)) (fun _ _ _ h => h) (Or.inl ⟨by rfl, ?_⟩) ?_ ?_
                     rotate_left
                     · intro w'
                       go_simp
                       with_reducible rfl
                     rotate_left
                     · simp only [Act.put, sTA_, sCZ_, sCS_, i64_w, i32_w]
                       rfl
                     refine pure_ (i := 5) (N := some 25) (v := ?_) (a' := ?_) #[Y_,Y_,Y_,Y_,Y_,Y_,X_,X_,X_,X_,X_,X_,X_,X_,X_,X_,X_,X_,X_,X_,X_,X_,X_] rfl rfl (any_of HT_.out (by kernel_rfl)) (fun _ _ _ h => h) (Or.inl ⟨by rfl, ?_⟩) ?_ ?_
                     rotate_left
                     · intro w'
                       go_simp
                       with_reducible rfl
                     rotate_left
                     · simp only [Act.put, sTA_, sCZ_, sCS_, i64_w, i32_w]
                       rfl
                     refine pure_ (i := 6) (N := some 26) (v := ?_) (a' := ?_) #[Y_,Y_,Y_,Y_,Y_,Y_,Y_,X_,X_,X_,X_,X_,X_,X_,X_,X_,X_,X_,X_,X_,X_,X_,X_] rfl rfl (any_of HT_.out (by kernel_rfl)) (fun _ _ _ h => h) (Or.inl ⟨by rfl, ?_⟩) ?_ ?_
                     rotate_left
                     · intro w'
                       go_simp
                       with_reducible rfl
                     rotate_left
                     · simp only [Act.put, sTA_, sCZ_, sCS_, i64_w, i32_w]
                       rfl
                     refine pure_ (i := 7) (N := some 27) (v := ?_) (a' := ?_) #[Y_,Y_,Y_,Y_,Y_,Y_,Y_,Y_,X_,X_,X_,X_,X_,X_,X_,X_,X_,X_,X_,X_,X_,X_,X_] rfl rfl (any_of HT_.out (by kernel_rfl)) (fun _ _ _ h => h) (Or.inl ⟨by rfl, ?_⟩) ?_ ?_
                     rotate_left
                     · intro w'
                       go_simp
                       with_reducible rfl
                     rotate_left
                     · simp only [Act.put, sTA_, sCZ_, sCS_, i64_w, i32_w]
                       rfl
                     refine pure_ (i := 8) (N := some 28) (v := ?_) (a' := ?_) #[Y_,Y_,Y_,Y_,Y_,Y_,Y_,Y_,Y_,X_,X_,X_,X_,X_,X_,X_,X_,X_,X_,X_,X_,X_,X_] rfl rfl (any_of HT_.out (by kernel_rfl)) (fun _ _ _ h => h) (Or.inl ⟨by rfl, ?_⟩) ?_ ?_
                     rotate_left
                     · intro w'
                       go_simp
                       with_reducible rfl
                     rotate_left
                     · simp only [Act.put, sTA_, sCZ_, sCS_, i64_w, i32_w]
                       rfl
                     refine pure_ (i := 9) (N := some 29) (v := ?_) (a' := ?_) #[Y_,Y_,Y_,Y_,Y_,Y_,Y_,Y_,Y_,Y_,X_,X_,X_,X_,X_,X_,X_,X_,X_,X_,X_,X_,X_] rfl rfl (any_of HT_.out (by kernel_rfl)) (fun _ _ _ h => h) (Or.inl ⟨by rfl, ?_⟩) ?_ ?_
                     rotate_left
                     · intro w'
                       go_simp
                       with_reducible rfl
                     rotate_left
                     · simp only [Act.put, sTA_, sCZ_, sCS_, i64_w, i32_w]
                       rfl
                     refine pure_ (i := 10) (N := some 30) (v := ?_) (a' := ?_) #[Y_,Y_,Y_,Y_,Y_,Y_,Y_,Y_,Y_,Y_,Y_,X_,X_,X_,X_,X_,X_,X_,X_,X_,X_,X_,X_] rfl rfl (any_of HT_.out (by kernel_rfl)) (fun _ _ _ h => h) (Or.inl ⟨by rfl, ?_⟩) ?_ ?_
                     rotate_left
                     · intro w'
                       go_simp
                       with_reducible rfl
                     rotate_left
                     · simp only [Act.put, sTA_, sCZ_, sCS_, i64_w, i32_w]
                       rfl
                     refine pure_ (i := 11) (N := some 31) (v := ?_) (a' := ?_) #[Y_,Y_,Y_,Y_,Y_,Y_,Y_,Y_,Y_,Y_,Y_,Y_,X_,X_,X_,X_,X_,X_,X_,X_,X_,X_,X_] rfl rfl (any_of HT_.out (by kernel_rfl)) (fun _ _ _ h => h) (Or.inl ⟨by rfl, ?_⟩) ?_ ?_
                     rotate_left
                     · intro w'
                       go_simp
                       with_reducible rfl
                     rotate_left
                     · simp only [Act.put, sTA_, sCZ_, sCS_, i64_w, i32_w]
                       rfl
                     refine pure_ (i := 12) (N := some 32) (v := ?_) (a' := ?_) #[Y_,Y_,Y_,Y_,Y_,Y_,Y_,Y_,Y_,Y_,Y_,Y_,Y_,X_,X_,X_,X_,X_,X_,X_,X_,X_,X_] rfl rfl (any_of HT_.out (by kernel_rfl)) (fun _ _ _ h => h) (Or.inl ⟨by rfl, ?_⟩) ?_ ?_
                     rotate_left
                     · intro w'
                       go_simp
                       with_reducible rfl
                     rotate_left
                     · simp only [Act.put, sTA_, sCZ_, sCS_, i64_w, i32_w]
                       rfl
                     refine pure_ (i := 14) (N := some 34) (v := ?_) (a' := ?_) #[Y_,Y_,Y_,Y_,Y_,Y_,Y_,Y_,Y_,Y_,Y_,Y_,Y_,X_,Y_,X_,X_,X_,X_,X_,X_,X_,X_] rfl rfl (any_of HT_.out (by kernel_rfl)) (fun _ _ _ h => h) (Or.inl ⟨by rfl, ?_⟩) ?_ ?_
                     rotate_left
                     · intro w'
                       go_simp
                       with_reducible rfl
                     rotate_left
                     · simp only [Act.put, sTA_, sCZ_, sCS_, i64_w, i32_w]
                       rfl
                     refine pure_ (i := 15) (N := some 35) (v := ?_) (a' := ?_) #[Y_,Y_,Y_,Y_,Y_,Y_,Y_,Y_,Y_,Y_,Y_,Y_,Y_,X_,Y_,Y_,X_,X_,X_,X_,X_,X_,X_] rfl rfl (any_of HT_.out (by kernel_rfl)) (fun _ _ _ h => h) (Or.inl ⟨by rfl, ?_⟩) ?_ ?_
                     rotate_left
                     · intro w'
                       go_simp
                       with_reducible rfl
                     rotate_left
                     · simp only [Act.put, sTA_, sCZ_, sCS_, i64_w, i32_w]
                       rfl
                     refine pure_ (i := 16) (N := some 36) (v := ?_) (a' := ?_) #[Y_,Y_,Y_,Y_,Y_,Y_,Y_,Y_,Y_,Y_,Y_,Y_,Y_,X_,Y_,Y_,Y_,X_,X_,X_,X_,X_,X_] rfl rfl (any_of HT_.out (by kernel_rfl)) (fun _ _ _ h => h) (Or.inl ⟨by rfl, ?_⟩) ?_ ?_
                     rotate_left
                     · intro w'
                       go_simp
                       with_reducible rfl
                     rotate_left
                     · simp only [Act.put, sTA_, sCZ_, sCS_, i64_w, i32_w]
                       rfl
                     refine pure_ (i := 18) (N := some 38) (v := ?_) (a' := ?_) #[Y_,Y_,Y_,Y_,Y_,Y_,Y_,Y_,Y_,Y_,Y_,Y_,Y_,X_,Y_,Y_,Y_,X_,Y_,X_,X_,X_,X_] rfl rfl (any_of HT_.out (by kernel_rfl)) (fun _ _ _ h => h) (Or.inl ⟨by rfl, ?_⟩) ?_ ?_
                     rotate_left
                     · intro w'
                       go_simp
                       with_reducible rfl
                     rotate_left
                     · simp only [Act.put, sTA_, sCZ_, sCS_, i64_w, i32_w]
                       rfl
                     refine take_ (i := 13) (N := some 33) (v := ?_) (a' := ?_) #[Y_,Y_,Y_,Y_,Y_,Y_,Y_,Y_,Y_,Y_,Y_,Y_,Y_,Y_,Y_,Y_,Y_,X_,Y_,X_,X_,X_,X_] rfl rfl (take_ofW HT_.out HW_.out (by kernel_rfl)) (fun _ _ _ h => h) (Or.inl ⟨by rfl, ?_⟩) hHeld ?_ ?_
                     rotate_left
                     · rintro w' ⟨s0, s1⟩
                       go_simp
                       with_reducible rfl
                     rotate_left
                     · simp only [Act.put, sTA_, sCZ_, sCS_, i64_w, i32_w]
                       rfl
                     refine take_ (i := 17) (N := some 37) (v := ?_) (a' := ?_) #[Y_,Y_,Y_,Y_,Y_,Y_,Y_,Y_,Y_,Y_,Y_,Y_,Y_,Y_,Y_,Y_,Y_,Y_,Y_,X_,X_,X_,X_] rfl rfl (take_ofW HT_.out HW_.out (by kernel_rfl)) (fun _ _ _ h => h) (Or.inl ⟨by rfl, ?_⟩) hHeld ?_ ?_
                     rotate_left
                     · rintro w' ⟨s0, s1⟩
                       go_simp
                       with_reducible rfl
                     rotate_left
                     · simp only [Act.put, sTA_, sCZ_, sCS_, i64_w, i32_w]
                       rfl
                     refine one_ (i := 19) (N := some 39) #[Y_,Y_,Y_,Y_,Y_,Y_,Y_,Y_,Y_,Y_,Y_,Y_,Y_,Y_,Y_,Y_,Y_,Y_,Y_,Y_,X_,X_,X_] rfl rfl (one_of HT_.out (by kernel_rfl)) (by decide) (fun K hK => ?_)
                     refine goes_ Tryz.func102 (by kernel_rfl) rfl #[.slice A202_0 (rd_L4 l1 x9_1).length c202_0, .slice A203_0 (rd_L4 l0 x8_1).length c203_0, .slice A2 l2.length c2] (by rfl) rfl rfl (by (try simp only [List.map_toArray, List.map_cons, List.map_nil]); first | done | rfl | (simp only [List.length_drop, List.length_take]; rfl)) ?_
                     with_reducible refine (r6_before.calls kj3 _ _ (rd_L4 l1 x9_1) _ _ (rd_L4 l0 x8_1) _ _ l2 true _ ?side1 ?side2 ?side3 ?side4 ?side5 ?side6 A17.out).mono ?_
                     (case side1 => repeat (first | exact (by repeat (first | (with_reducible exact HR202_0.out) | (with_reducible refine Kd.cA_ ?_ _) | (with_reducible refine Kd.cN_ ?_ _) | (with_reducible refine Kd.cD_ ?_) | exact HR202_0.out)) | (with_reducible refine Kd.cA_ ?_ _) | (with_reducible refine Kd.cN_ ?_ _) | (with_reducible refine Kd.cD_ ?_)))
                     (case side2 => exact HC202_0.out)
                     (case side3 => repeat (first | exact (by repeat (first | (with_reducible exact HR203_0.out) | (with_reducible refine Kd.cA_ ?_ _) | (with_reducible refine Kd.cN_ ?_ _) | (with_reducible refine Kd.cD_ ?_) | exact HR203_0.out)) | (with_reducible refine Kd.cA_ ?_ _) | (with_reducible refine Kd.cN_ ?_ _) | (with_reducible refine Kd.cD_ ?_)))
                     (case side4 => exact HC203_0.out)
                     (case side5 => repeat (first | exact (Kd.C_below HR2.out HB.out) | (with_reducible refine Kd.cA_ ?_ _) | (with_reducible refine Kd.cN_ ?_ _) | (with_reducible refine Kd.cD_ ?_)))
                     (case side6 => exact HC2.out)
                     rintro e w21 ⟨rfl, hb⟩
                     have HS0_ := (hb.cell (bLC_ _ _ (hHeld.1))).trans (hHeld.1)
                     have HS1_ := (hb.cell (bLC_ _ _ (hHeld.2))).trans (hHeld.2)
                     refine ⟨_, rfl, ?_⟩
                     have n0_ := Aside0.mk (Kd.V_below (by (with_reducible repeat (first | apply Kd.vA_ | apply Kd.vN_ | apply Kd.vD_)); exact HO_0.out) hb)
                     have n1_ := Aside0.mk (Kd.V_below (by (with_reducible repeat (first | apply Kd.vA_ | apply Kd.vN_ | apply Kd.vD_)); exact HO_1.out) hb)
                     have n2_ := Aside0.mk (Kd.N_below (by (with_reducible repeat (first | apply Kd.nA_ | apply Kd.nN_ | apply Kd.nD_)); exact HO_7.out) hb)
                     have n3_ := Aside0.mk (Kd.V_below (by (with_reducible repeat (first | apply Kd.vA_ | apply Kd.vN_ | apply Kd.vD_)); exact HL202_0.out) hb)
                     have n4_ := Aside0.mk (Kd.V_below (by (with_reducible repeat (first | apply Kd.vA_ | apply Kd.vN_ | apply Kd.vD_)); exact HL203_0.out) hb)
                     have n5_ := Aside0.mk (Kd.C_below (by repeat (first | (with_reducible exact HR202_0.out) | (with_reducible refine Kd.cA_ ?_ _) | (with_reducible refine Kd.cN_ ?_ _) | (with_reducible refine Kd.cD_ ?_) | exact HR202_0.out)) hb)
                     have n6_ := Aside0.mk (Kd.C_below (by repeat (first | (with_reducible exact HR203_0.out) | (with_reducible refine Kd.cA_ ?_ _) | (with_reducible refine Kd.cN_ ?_ _) | (with_reducible refine Kd.cD_ ?_) | exact HR203_0.out)) hb)
                     have n7_ := Aside0.mk (below_step (by repeat (first | (with_reducible first | exact HB.out | apply bA_ | apply bN_ | apply b1_) | exact HB.out)) hb)
                     clear HO_0
                     clear HO_1
                     clear HO_7
                     clear HL202_0
                     clear HL203_0
                     clear HR202_0
                     clear HR203_0
                     clear HB
                     have HO_0 := n0_
                     have HO_1 := n1_
                     have HO_7 := n2_
                     have HL202_0 := n3_
                     have HL203_0 := n4_
                     have HR202_0 := n5_
                     have HR203_0 := n6_
                     have HB := n7_
                     clear n0_ n1_ n2_ n3_ n4_ n5_ n6_ n7_
                     (try clear hb)
                     (try clear hb2)
                     (try clear hk)
                     (try clear hi)
                     refine hK.out _ _ ⟨HS0_, HS1_⟩ (fun hHeld => ?_)
                     clear hK K
                     refine norm_ (a' := ?_) ?_ ?_
                     rotate_left
                     · show Act.put _ (some 39) _ = _
                       simp only [Act.put, sTA_, sCZ_, sCS_, i64_w, i32_w]
                       rfl
                     refine pure_ (i := 20) (N := some 40) (v := ?_) (a' := ?_) #[Y_,Y_,Y_,Y_,Y_,Y_,Y_,Y_,Y_,Y_,Y_,Y_,Y_,Y_,Y_,Y_,Y_,Y_,Y_,Y_,Y_,X_,X_] rfl rfl (any_of HT_.out (by kernel_rfl)) (fun _ _ _ h => h) (Or.inl ⟨by rfl, ?_⟩) ?_ ?_
                     rotate_left
                     · intro w'
                       go_simp
                       with_reducible rfl
                     rotate_left
                     · simp only [Act.put, sTA_, sCZ_, sCS_, i64_w, i32_w]
                       rfl
                     refine pure_ (i := 21) (N := some 41) (v := ?_) (a' := ?_) #[Y_,Y_,Y_,Y_,Y_,Y_,Y_,Y_,Y_,Y_,Y_,Y_,Y_,Y_,Y_,Y_,Y_,Y_,Y_,Y_,Y_,Y_,X_] rfl rfl (any_of HT_.out (by kernel_rfl)) (fun _ _ _ h => h) (Or.inl ⟨by rfl, ?_⟩) ?_ ?_
                     rotate_left
                     · intro w'
                       go_simp
                       with_reducible rfl
                     rotate_left
                     · simp only [Act.put, sTA_, sCZ_, sCS_, i64_w, i32_w]
                       rfl
                     refine pure_ (i := 22) (N := some 42) (v := ?_) (a' := ?_) #[Y_,Y_,Y_,Y_,Y_,Y_,Y_,Y_,Y_,Y_,Y_,Y_,Y_,Y_,Y_,Y_,Y_,Y_,Y_,Y_,Y_,Y_,Y_] rfl rfl (any_of HT_.out (by kernel_rfl)) (fun _ _ _ h => h) (Or.inl ⟨by rfl, ?_⟩) ?_ ?_
                     rotate_left
                     · intro w'
                       go_simp
                       with_reducible rfl
                     rotate_left
                     · simp only [Act.put, sTA_, sCZ_, sCS_, i64_w, i32_w]
                       rfl
                     refine done_ (done_of HT_.out (by kernel_rfl)) ?_
                     have p205 : 0 ≤ (x9_1 : Int) := oT_ (by assumption)
                     have q205 : x9_1 < (l1.length : Int) := oT_ (by assumption)
                     obtain ⟨ad205, A205_0, c205_0, e205, hx205_0, hl205_0, hi205_0⟩ := at_L4 (Kd.V_reads' HO_1.out).2.2 x9_1 p205 q205
                     obtain rfl : ad202 = ad205 := (by injection e205)
                     obtain ⟨ce205, hce205, hMe205, hcc205⟩ := Kd.V_get HO_1.out [] x9_1 p205 (by first | exact q205 | exact oT_ (by assumption) | (have e_ := (Kd.V_reads' HO_1.out).1; omega))
                     obtain ⟨ua205_0, uc205_0, rfl, ul205_0, ge205_0⟩ := Kd.FK_slice_open hMe205
                     have hv205_0 := hcc205 0 _ rfl
                     rw [Nat.add_zero, show ((Kd.slice 36 k36)).sz = 1 from rfl, Nat.mul_one] at hv205_0
                     replace hv205_0 := Option.some.inj (hv205_0.symm.trans hx205_0)
                     injection hv205_0 with hva_ hvn_ hvc_
                     rw [hva_] at ge205_0
                     rw [hvc_] at ul205_0
                     have HL205_0 := Aside0.mk (show Kd.V k36 36 _ w.heap.size _ _ (rd_L4 l1 x9_1) from Kd.V_mk ul205_0 ge205_0)
                     clear hva_ hvn_ hvc_ ge205_0 ul205_0
                     clear hcc205 hce205
                     have HR205_0 := Aside0.mk hi205_0
                     have HC205_0 := Aside0.mk hl205_0
                     clear hi205_0 hl205_0
                     replace p205 := eq_true p205
                     replace q205 := eq_true q205
                     clear HS0_ HS1_ hHeld
                     try go_wp2_with (first | ((with_reducible refine gate_builtin (b := .append) (xs := #[.tmp 52, .tmp 57]) rfl ?_); (try (refine gate_guard (by rfl) ?_; dsimp only)); at_builtin; refine Kd.N_append (Kd.slice 36 k36) (w0 := w) w.heap.size rfl (.tmp 52) (.tmp 57) 22 53 (.slice none 0 0) 24 rfl Tryz.underlying22 info53 rfl (by decide) (by omega) u7 x7_1 (rd_L4 l1 x9_1) [.slice A205_0 (rd_L4 l1 x9_1).length c205_0] (fun k_ => ((P0_ k_ ∨ P1_ k_) ∨ w.heap.size ≤ k_)) (fun k_ => ((fun k_ => ((P0_ k_ ∨ P1_ k_) ∨ w.heap.size ≤ k_))) k_ ∧ some k_ ≠ (u7 : Value).ownBlock) rfl rfl ?aP (fun _ hk => hk) ?aF ?aO ?aB ?aS ?aL ?_; (case aP => exact (Kd.FK_slice_mk (Kd.V_reads' (Kd.V_mono (ok' := (fun k_ => ((fun k_ => ((P0_ k_ ∨ P1_ k_) ∨ w.heap.size ≤ k_))) k_ ∧ some k_ ≠ (u7 : Value).ownBlock)) (HL205_0.out) (fun k_ hk => ⟨hk.1, hk.2⟩))).2.1 (Kd.V_F (Kd.V_mono (ok' := (fun k_ => ((fun k_ => ((P0_ k_ ∨ P1_ k_) ∨ w.heap.size ≤ k_))) k_ ∧ some k_ ≠ (u7 : Value).ownBlock)) (HL205_0.out) (fun k_ hk => ⟨hk.1, hk.2⟩))))); (case aB => exact (by repeat (first | (with_reducible first | exact HB.out | apply bA_ | apply bN_ | apply b1_) | exact HB.out))); (case aF => exact (fun k_ hk => (.inr (Nat.le_trans (below_size (by repeat (first | (with_reducible first | exact HB.out | apply bA_ | apply bN_ | apply b1_) | exact HB.out))) hk)))); (case aO => exact (by (with_reducible repeat (first | apply Kd.nA_ | apply Kd.nN_ | apply Kd.nD_)); exact HO_7.out)); (case aS => exact (below_size (by repeat (first | (with_reducible first | exact HB.out | apply bA_ | apply bN_ | apply b1_) | exact HB.out)))); (case aL => have := LMc19.out; omega); intro v207 w22 ho hb hg hat; rw [← Ny206.out] at ho; have n0_ := Aside0.mk (Kd.V_afterv (ok := (fun k_ => ((P0_ k_ ∨ P1_ k_) ∨ w.heap.size ≤ k_))) (by (with_reducible repeat (first | apply Kd.vA_ | apply Kd.vN_ | apply Kd.vD_)); exact HO_0.out) hg hat); have n1_ := Aside0.mk (Kd.V_afterv (ok := (fun k_ => ((P0_ k_ ∨ P1_ k_) ∨ w.heap.size ≤ k_))) (by (with_reducible repeat (first | apply Kd.vA_ | apply Kd.vN_ | apply Kd.vD_)); exact HO_1.out) hg hat); have n2_ := Aside0.mk (Kd.V_afterv (ok := (fun k_ => ((P0_ k_ ∨ P1_ k_) ∨ w.heap.size ≤ k_))) (by (with_reducible repeat (first | apply Kd.vA_ | apply Kd.vN_ | apply Kd.vD_)); exact HL202_0.out) hg hat); have n3_ := Aside0.mk (Kd.V_afterv (ok := (fun k_ => ((P0_ k_ ∨ P1_ k_) ∨ w.heap.size ≤ k_))) (by (with_reducible repeat (first | apply Kd.vA_ | apply Kd.vN_ | apply Kd.vD_)); exact HL203_0.out) hg hat); have n4_ := Aside0.mk (Kd.V_afterv (ok := (fun k_ => ((P0_ k_ ∨ P1_ k_) ∨ w.heap.size ≤ k_))) (by (with_reducible repeat (first | apply Kd.vA_ | apply Kd.vN_ | apply Kd.vD_)); exact HL205_0.out) hg hat); have n5_ := Aside0.mk (hb); have n6_ := Aside0.mk (ho); clear HO_0; clear HO_1; clear HL202_0; clear HL203_0; clear HL205_0; clear HB; clear HO_7; have HO_0 := n0_; have HO_1 := n1_; have HL202_0 := n2_; have HL203_0 := n3_; have HL205_0 := n4_; have HB := n5_; have HO208 := n6_; clear n0_ n1_ n2_ n3_ n4_ n5_ n6_; clear ho hb hg hat))
                     go_roundg kj3
                     case measure => have := HK1.out; have := HJ3.out; omega
                     case rel => exact ⟨(y206), (x8_1), (wrap64 (x9_1 + 1)), (by first | rfl | (simp; done) | (simp [*]; done)), (by first | rfl | (simp; done) | (simp [*]; done)), H', ⟨by have := HK1.out; have := HJ3.out; omega⟩, ⟨by (with_reducible repeat (first | apply Kd.vA_ | apply Kd.vN_ | apply Kd.vD_)); exact HO_0.out⟩, ⟨by (with_reducible repeat (first | apply Kd.vA_ | apply Kd.vN_ | apply Kd.vD_)); exact HO_1.out⟩, ⟨by (with_reducible repeat (first | apply Kd.nA_ | apply Kd.nN_ | apply Kd.nD_)); exact HO208.out⟩, ⟨by repeat (first | (with_reducible first | exact HB.out | apply bA_ | apply bN_ | apply b1_) | exact HB.out)⟩⟩
                   · rw [if_neg c19] at H
                     exact absurd H (by simp)
                 · replace c18 := Bool.eq_false_iff.mpr c18
                   subst c18
                   have H1 : (if x7_1.length < 5864062014805 then (r6_merge.l0 kj3 l0 l1 l2 (x7_1 ++ [rd_L4 l0 x8_1]) (wrap64 (x8_1 + 1)) x9_1) else (none)) = some r := by rw [if_neg (show ¬ (false = true) by decide)] at H; exact H
                   clear H
                   have H := H1
                   clear H1
                   by_cases c23 : x7_1.length < 5864062014805
                   · rw [if_pos c23] at H
                     have LMc23 := Aside0.mk c23
                     clear c23
                     obtain ⟨y210, hy210⟩ : ∃ y_ : List (List (S36)), y_ = (x7_1 ++ [rd_L4 l0 x8_1]) := ⟨_, rfl⟩
                     replace H : (r6_merge.l0 kj3 l0 l1 l2 y210 (wrap64 (x8_1 + 1)) x9_1) = some r := by first | (rw [hy210]; with_reducible exact H) | (have H2_ := (Option.bind_some _ _).symm.trans H; rw [hy210]; with_reducible exact H2_) | (have H2_ := (Option.bind_some _ _).symm.trans H; with_reducible exact H2_) | with_reducible exact H | (rw [hy210]; exact H) | exact H
                     have Ny210 := Aside0.mk hy210
                     clear hy210
                     have H' := Aside0.mk H
                     clear H
                     try go_wp2
                     have n0_ := Aside0.mk (Kd.vD_ HO_0.out)
                     have n1_ := Aside0.mk (Kd.vD_ HO_1.out)
                     have n2_ := Aside0.mk (Kd.nD_ HO_7.out)
                     have n3_ := Aside0.mk (b1_ HB.out)
                     clear HO_0
                     clear HO_1
                     clear HO_7
                     clear HB
                     have HO_0 := n0_
                     have HO_1 := n1_
                     have HO_7 := n2_
                     have HB := n3_
                     clear n0_ n1_ n2_ n3_
                     have p202 : 0 ≤ (x9_1 : Int) := oT_ (by assumption)
                     have q202 : x9_1 < (l1.length : Int) := oT_ (by assumption)
                     obtain ⟨ad202, A202_0, c202_0, e202, hx202_0, hl202_0, hi202_0⟩ := at_L4 (Kd.V_reads' HO_1.out).2.2 x9_1 p202 q202
                     cases e202
                     obtain ⟨ce202, hce202, hMe202, hcc202⟩ := Kd.V_get HO_1.out [] x9_1 p202 (by first | exact q202 | exact oT_ (by assumption) | (have e_ := (Kd.V_reads' HO_1.out).1; omega))
                     obtain ⟨ua202_0, uc202_0, rfl, ul202_0, ge202_0⟩ := Kd.FK_slice_open hMe202
                     have hv202_0 := hcc202 0 _ rfl
                     rw [Nat.add_zero, show ((Kd.slice 36 k36)).sz = 1 from rfl, Nat.mul_one] at hv202_0
                     replace hv202_0 := Option.some.inj (hv202_0.symm.trans hx202_0)
                     injection hv202_0 with hva_ hvn_ hvc_
                     rw [hva_] at ge202_0
                     rw [hvc_] at ul202_0
                     have HL202_0 := Aside0.mk (show Kd.V k36 36 _ w.heap.size _ _ (rd_L4 l1 x9_1) from Kd.V_mk ul202_0 ge202_0)
                     clear hva_ hvn_ hvc_ ge202_0 ul202_0
                     clear hcc202 hce202
                     have HR202_0 := Aside0.mk hi202_0
                     have HC202_0 := Aside0.mk hl202_0
                     clear hi202_0 hl202_0
                     replace p202 := eq_true p202
                     replace q202 := eq_true q202
                     have p203 : 0 ≤ (x8_1 : Int) := oT_ (by assumption)
                     have q203 : x8_1 < (l0.length : Int) := oT_ (by assumption)
                     obtain ⟨ad203, A203_0, c203_0, e203, hx203_0, hl203_0, hi203_0⟩ := at_L4 (Kd.V_reads' HO_0.out).2.2 x8_1 p203 q203
                     cases e203
                     obtain ⟨ce203, hce203, hMe203, hcc203⟩ := Kd.V_get HO_0.out [] x8_1 p203 (by first | exact q203 | exact oT_ (by assumption) | (have e_ := (Kd.V_reads' HO_0.out).1; omega))
                     obtain ⟨ua203_0, uc203_0, rfl, ul203_0, ge203_0⟩ := Kd.FK_slice_open hMe203
                     have hv203_0 := hcc203 0 _ rfl
                     rw [Nat.add_zero, show ((Kd.slice 36 k36)).sz = 1 from rfl, Nat.mul_one] at hv203_0
                     replace hv203_0 := Option.some.inj (hv203_0.symm.trans hx203_0)
                     injection hv203_0 with hva_ hvn_ hvc_
                     rw [hva_] at ge203_0
                     rw [hvc_] at ul203_0
                     have HL203_0 := Aside0.mk (show Kd.V k36 36 _ w.heap.size _ _ (rd_L4 l0 x8_1) from Kd.V_mk ul203_0 ge203_0)
                     clear hva_ hvn_ hvc_ ge203_0 ul203_0
                     clear hcc203 hce203
                     have HR203_0 := Aside0.mk hi203_0
                     have HC203_0 := Aside0.mk hl203_0
                     clear hi203_0 hl203_0
                     replace p203 := eq_true p203
                     replace q203 := eq_true q203
                     refine start_ (n := 23) (S := fun w' => w'.cell? (ad202.add (x9_1).toNat) = some (.slice A202_0 (rd_L4 l1 x9_1).length c202_0) ∧ w'.cell? (ad203.add (x8_1).toNat) = some (.slice A203_0 (rd_L4 l0 x8_1).length c203_0)) (ds := []) #[X_,X_,X_,X_,X_,X_,X_,X_,X_,X_,X_,X_,X_,X_,X_,X_,X_,X_,X_,X_,X_,X_,X_] (by kernel_rfl) rfl rfl ⟨hx202_0, hx203_0⟩ (fun hHeld => ?_); refine with_tabW r6_merge.tab4 r6_merge.bits4 (fun HT_ HW_ => ?_)
                     generalize wc.drew = w24 at HO_0 HO_1 HO_7 HB HL202_0 HL203_0 HR202_0 HR203_0 hx202_0 hx203_0 hHeld ⊢
                     refine pure_ (i := 0) (N := some 20) (v := ?_) (a' := ?_) #[Y_,X_,X_,X_,X_,X_,X_,X_,X_,X_,X_,X_,X_,X_,X_,X_,X_,X_,X_,X_,X_,X_,X_] rfl rfl (any_of HT_.out (by kernel_rfl)) (fun _ _ _ h => h) (Or.inl ⟨by rfl, ?_⟩) ?_ ?_
                     rotate_left
                     · intro w'
                       go_simp
                       with_reducible rfl
                     rotate_left
                     · simp only [Act.put, sTA_, sCZ_, sCS_, i64_w, i32_w]
                       rfl
                     refine pure_ (i := 1) (N := some 21) (v := ?_) (a' := ?_) #[Y_,Y_,X_,X_,X_,X_,X_,X_,X_,X_,X_,X_,X_,X_,X_,X_,X_,X_,X_,X_,X_,X_,X_] rfl rfl (any_of HT_.out (by kernel_rfl)) (fun _ _ _ h => h) (Or.inl ⟨by rfl, ?_⟩) ?_ ?_
                     rotate_left
                     · intro w'
                       go_simp
                       with_reducible rfl
                     rotate_left
                     · simp only [Act.put, sTA_, sCZ_, sCS_, i64_w, i32_w]
                       rfl
                     refine pure_ (i := 2) (N := some 22) (v := ?_) (a' := ?_) #[Y_,Y_,Y_,X_,X_,X_,X_,X_,X_,X_,X_,X_,X_,X_,X_,X_,X_,X_,X_,X_,X_,X_,X_] rfl rfl (any_of HT_.out (by kernel_rfl)) (fun _ _ _ h => h) (Or.inl ⟨by rfl, ?_⟩) ?_ ?_
                     rotate_left
                     · intro w'
                       go_simp
                       with_reducible rfl
                     rotate_left
                     · simp only [Act.put, sTA_, sCZ_, sCS_, i64_w, i32_w]
                       rfl
                     refine pure_ (i := 3) (N := some 23) (v := ?_) (a' := ?_) #[Y_,Y_,Y_,Y_,X_,X_,X_,X_,X_,X_,X_,X_,X_,X_,X_,X_,X_,X_,X_,X_,X_,X_,X_] rfl rfl (any_of HT_.out (by kernel_rfl)) (fun _ _ _ h => h) (Or.inl ⟨by rfl, ?_⟩) ?_ ?_
                     rotate_left
                     · intro w'
                       go_simp
                       with_reducible rfl
                     rotate_left
                     · simp only [Act.put, sTA_, sCZ_, sCS_, i64_w, i32_w]
                       rfl
                     refine pure_ (i := 4) (N := some 24) (v := ?_) (a' := ?_) #[Y_,Y_,Y_,Y_,Y_,X_,X_,X_,X_,X_,X_,X_,X_,X_,X_,X_,X_,X_,X_,X_,X_,X_,X_] rfl rfl (any_of HT_.out (by kernel_rfl)) (fun _ _ _ h => h) (Or.inl ⟨by rfl, ?_⟩) ?_ ?_
                     rotate_left
                     · intro w'
                       go_simp
                       with_reducible rfl
                     rotate_left
                     · simp only [Act.put, sTA_, sCZ_, sCS_, i64_w, i32_w]
                       rfl
                     refine pure_ (i := 5) (N := some 25) (v := ?_) (a' := ?_) #[Y_,Y_,Y_,Y_,Y_,Y_,X_,X_,X_,X_,X_,X_,X_,X_,X_,X_,X_,X_,X_,X_,X_,X_,X_] rfl rfl (any_of HT_.out (by kernel_rfl)) (fun _ _ _ h => h) (Or.inl ⟨by rfl, ?_⟩) ?_ ?_
                     rotate_left
                     · intro w'
                       go_simp
                       with_reducible rfl
                     rotate_left
                     · simp only [Act.put, sTA_, sCZ_, sCS_, i64_w, i32_w]
                       rfl
                     refine pure_ (i := 6) (N := some 26) (v := ?_) (a' := ?_) #[Y_,Y_,Y_,Y_,Y_,Y_,Y_,X_,X_,X_,X_,X_,X_,X_,X_,X_,X_,X_,X_,X_,X_,X_,X_] rfl rfl (any_of HT_.out (by kernel_rfl)) (fun _ _ _ h => h) (Or.inl ⟨by rfl, ?_⟩) ?_ ?_
                     rotate_left
                     · intro w'
                       go_simp
                       with_reducible rfl
                     rotate_left
                     · simp only [Act.put, sTA_, sCZ_, sCS_, i64_w, i32_w]
                       rfl
                     refine pure_ (i := 7) (N := some 27) (v := ?_) (a' := ?_) #[Y_,Y_,Y_,Y_,Y_,Y_,Y_,Y_,X_,X_,X_,X_,X_,X_,X_,X_,X_,X_,X_,X_,X_,X_,X_] rfl rfl (any_of HT_.out (by kernel_rfl)) (fun _ _ _ h => h) (Or.inl ⟨by rfl, ?_⟩) ?_ ?_
                     rotate_left
                     · intro w'
                       go_simp
                       with_reducible rfl
                     rotate_left
                     · simp only [Act.put, sTA_, sCZ_, sCS_, i64_w, i32_w]
                       rfl
                     refine pure_ (i := 8) (N := some 28) (v := ?_) (a' := ?_) #[Y_,Y_,Y_,Y_,Y_,Y_,Y_,Y_,Y_,X_,X_,X_,X_,X_,X_,X_,X_,X_,X_,X_,X_,X_,X_] rfl rfl (any_of HT_.out (by kernel_rfl)) (fun _ _ _ h => h) (Or.inl ⟨by rfl, ?_⟩) ?_ ?_
                     rotate_left
                     · intro w'
                       go_simp
                       with_reducible rfl
                     rotate_left
                     · simp only [Act.put, sTA_, sCZ_, sCS_, i64_w, i32_w]
                       rfl
                     refine pure_ (i := 9) (N := some 29) (v := ?_) (a' := ?_) #[Y_,Y_,Y_,Y_,Y_,Y_,Y_,Y_,Y_,Y_,X_,X_,X_,X_,X_,X_,X_,X_,X_,X_,X_,X_,X_] rfl rfl (any_of HT_.out (by kernel_rfl)) (fun _ _ _ h => h) (Or.inl ⟨by rfl, ?_⟩) ?_ ?_
                     rotate_left
                     · intro w'
                       go_simp
                       with_reducible rfl
                     rotate_left
                     · simp only [Act.put, sTA_, sCZ_, sCS_, i64_w, i32_w]
                       rfl
                     refine pure_ (i := 10) (N := some 30) (v := ?_) (a' := ?_) #[Y_,Y_,Y_,Y_,Y_,Y_,Y_,Y_,Y_,Y_,Y_,X_,X_,X_,X_,X_,X_,X_,X_,X_,X_,X_,X_] rfl rfl (any_of HT_.out (by kernel_rfl)) (fun _ _ _ h => h) (Or.inl ⟨by rfl, ?_⟩) ?_ ?_
                     rotate_left
                     · intro w'
                       go_simp
                       with_reducible rfl
                     rotate_left
                     · simp only [Act.put, sTA_, sCZ_, sCS_, i64_w, i32_w]
                       rfl
                     refine pure_ (i := 11) (N := some 31) (v := ?_) (a' := ?_) #[Y_,Y_,Y_,Y_,Y_,Y_,Y_,Y_,Y_,Y_,Y_,Y_,X_,X_,X_,X_,X_,X_,X_,X_,X_,X_,X_] rfl rfl (any_of HT_.out (by kernel_rfl)) (fun _ _ _ h => h) (Or.inl ⟨by rfl, ?_⟩) ?_ ?_
                     rotate_left
                     · intro w'
                       go_simp
                       with_reducible rfl
                     rotate_left
                     · simp only [Act.put, sTA_, sCZ_, sCS_, i64_w, i32_w]
                       rfl
                     refine pure_ (i := 12) (N := some 32) (v := ?_) (a' := ?_) #[Y_,Y_,Y_,Y_,Y_,Y_,Y_,Y_,Y_,Y_,Y_,Y_,Y_,X_,X_,X_,X_,X_,X_,X_,X_,X_,X_] rfl rfl (any_of HT_.out (by kernel_rfl)) (fun _ _ _ h => h) (Or.inl ⟨by rfl, ?_⟩) ?_ ?_
                     rotate_left
                     · intro w'
                       go_simp
                       with_reducible rfl
                     rotate_left
                     · simp only [Act.put, sTA_, sCZ_, sCS_, i64_w, i32_w]
                       rfl
                     refine pure_ (i := 14) (N := some 34) (v := ?_) (a' := ?_) #[Y_,Y_,Y_,Y_,Y_,Y_,Y_,Y_,Y_,Y_,Y_,Y_,Y_,X_,Y_,X_,X_,X_,X_,X_,X_,X_,X_] rfl rfl (any_of HT_.out (by kernel_rfl)) (fun _ _ _ h => h) (Or.inl ⟨by rfl, ?_⟩) ?_ ?_
                     rotate_left
                     · intro w'
                       go_simp
                       with_reducible rfl
                     rotate_left
                     · simp only [Act.put, sTA_, sCZ_, sCS_, i64_w, i32_w]
                       rfl
                     refine pure_ (i := 15) (N := some 35) (v := ?_) (a' := ?_) #[Y_,Y_,Y_,Y_,Y_,Y_,Y_,Y_,Y_,Y_,Y_,Y_,Y_,X_,Y_,Y_,X_,X_,X_,X_,X_,X_,X_] rfl rfl (any_of HT_.out (by kernel_rfl)) (fun _ _ _ h => h) (Or.inl ⟨by rfl, ?_⟩) ?_ ?_
                     rotate_left
                     · intro w'
                       go_simp
                       with_reducible rfl
                     rotate_left
                     · simp only [Act.put, sTA_, sCZ_, sCS_, i64_w, i32_w]
                       rfl
                     refine pure_ (i := 16) (N := some 36) (v := ?_) (a' := ?_) #[Y_,Y_,Y_,Y_,Y_,Y_,Y_,Y_,Y_,Y_,Y_,Y_,Y_,X_,Y_,Y_,Y_,X_,X_,X_,X_,X_,X_] rfl rfl (any_of HT_.out (by kernel_rfl)) (fun _ _ _ h => h) (Or.inl ⟨by rfl, ?_⟩) ?_ ?_
                     rotate_left
                     · intro w'
                       go_simp
                       with_reducible rfl
                     rotate_left
                     · simp only [Act.put, sTA_, sCZ_, sCS_, i64_w, i32_w]
                       rfl
                     refine pure_ (i := 18) (N := some 38) (v := ?_) (a' := ?_) #[Y_,Y_,Y_,Y_,Y_,Y_,Y_,Y_,Y_,Y_,Y_,Y_,Y_,X_,Y_,Y_,Y_,X_,Y_,X_,X_,X_,X_] rfl rfl (any_of HT_.out (by kernel_rfl)) (fun _ _ _ h => h) (Or.inl ⟨by rfl, ?_⟩) ?_ ?_
                     rotate_left
                     · intro w'
                       go_simp
                       with_reducible rfl
                     rotate_left
                     · simp only [Act.put, sTA_, sCZ_, sCS_, i64_w, i32_w]
                       rfl
                     refine take_ (i := 13) (N := some 33) (v := ?_) (a' := ?_) #[Y_,Y_,Y_,Y_,Y_,Y_,Y_,Y_,Y_,Y_,Y_,Y_,Y_,Y_,Y_,Y_,Y_,X_,Y_,X_,X_,X_,X_] rfl rfl (take_ofW HT_.out HW_.out (by kernel_rfl)) (fun _ _ _ h => h) (Or.inl ⟨by rfl, ?_⟩) hHeld ?_ ?_
                     rotate_left
                     · rintro w' ⟨s0, s1⟩
                       go_simp
                       with_reducible rfl
                     rotate_left
                     · simp only [Act.put, sTA_, sCZ_, sCS_, i64_w, i32_w]
                       rfl
                     refine take_ (i := 17) (N := some 37) (v := ?_) (a' := ?_) #[Y_,Y_,Y_,Y_,Y_,Y_,Y_,Y_,Y_,Y_,Y_,Y_,Y_,Y_,Y_,Y_,Y_,Y_,Y_,X_,X_,X_,X_] rfl rfl (take_ofW HT_.out HW_.out (by kernel_rfl)) (fun _ _ _ h => h) (Or.inl ⟨by rfl, ?_⟩) hHeld ?_ ?_
                     rotate_left
                     · rintro w' ⟨s0, s1⟩
                       go_simp
                       with_reducible rfl
                     rotate_left
                     · simp only [Act.put, sTA_, sCZ_, sCS_, i64_w, i32_w]
                       rfl
                     refine one_ (i := 19) (N := some 39) #[Y_,Y_,Y_,Y_,Y_,Y_,Y_,Y_,Y_,Y_,Y_,Y_,Y_,Y_,Y_,Y_,Y_,Y_,Y_,Y_,X_,X_,X_] rfl rfl (one_of HT_.out (by kernel_rfl)) (by decide) (fun K hK => ?_)
                     refine goes_ Tryz.func102 (by kernel_rfl) rfl #[.slice A202_0 (rd_L4 l1 x9_1).length c202_0, .slice A203_0 (rd_L4 l0 x8_1).length c203_0, .slice A2 l2.length c2] (by rfl) rfl rfl (by (try simp only [List.map_toArray, List.map_cons, List.map_nil]); first | done | rfl | (simp only [List.length_drop, List.length_take]; rfl)) ?_
                     with_reducible refine (r6_before.calls kj3 _ _ (rd_L4 l1 x9_1) _ _ (rd_L4 l0 x8_1) _ _ l2 false _ ?side1 ?side2 ?side3 ?side4 ?side5 ?side6 A17.out).mono ?_
                     (case side1 => repeat (first | exact (by repeat (first | (with_reducible exact HR202_0.out) | (with_reducible refine Kd.cA_ ?_ _) | (with_reducible refine Kd.cN_ ?_ _) | (with_reducible refine Kd.cD_ ?_) | exact HR202_0.out)) | (with_reducible refine Kd.cA_ ?_ _) | (with_reducible refine Kd.cN_ ?_ _) | (with_reducible refine Kd.cD_ ?_)))
                     (case side2 => exact HC202_0.out)
                     (case side3 => repeat (first | exact (by repeat (first | (with_reducible exact HR203_0.out) | (with_reducible refine Kd.cA_ ?_ _) | (with_reducible refine Kd.cN_ ?_ _) | (with_reducible refine Kd.cD_ ?_) | exact HR203_0.out)) | (with_reducible refine Kd.cA_ ?_ _) | (with_reducible refine Kd.cN_ ?_ _) | (with_reducible refine Kd.cD_ ?_)))
                     (case side4 => exact HC203_0.out)
                     (case side5 => repeat (first | exact (Kd.C_below HR2.out HB.out) | (with_reducible refine Kd.cA_ ?_ _) | (with_reducible refine Kd.cN_ ?_ _) | (with_reducible refine Kd.cD_ ?_)))
                     (case side6 => exact HC2.out)
                     rintro e w25 ⟨rfl, hb⟩
                     have HS0_ := (hb.cell (bLC_ _ _ (hHeld.1))).trans (hHeld.1)
                     have HS1_ := (hb.cell (bLC_ _ _ (hHeld.2))).trans (hHeld.2)
                     refine ⟨_, rfl, ?_⟩
                     have n0_ := Aside0.mk (Kd.V_below (by (with_reducible repeat (first | apply Kd.vA_ | apply Kd.vN_ | apply Kd.vD_)); exact HO_0.out) hb)
                     have n1_ := Aside0.mk (Kd.V_below (by (with_reducible repeat (first | apply Kd.vA_ | apply Kd.vN_ | apply Kd.vD_)); exact HO_1.out) hb)
                     have n2_ := Aside0.mk (Kd.N_below (by (with_reducible repeat (first | apply Kd.nA_ | apply Kd.nN_ | apply Kd.nD_)); exact HO_7.out) hb)
                     have n3_ := Aside0.mk (Kd.V_below (by (with_reducible repeat (first | apply Kd.vA_ | apply Kd.vN_ | apply Kd.vD_)); exact HL202_0.out) hb)
                     have n4_ := Aside0.mk (Kd.V_below (by (with_reducible repeat (first | apply Kd.vA_ | apply Kd.vN_ | apply Kd.vD_)); exact HL203_0.out) hb)
                     have n5_ := Aside0.mk (Kd.C_below (by repeat (first | (with_reducible exact HR202_0.out) | (with_reducible refine Kd.cA_ ?_ _) | (with_reducible refine Kd.cN_ ?_ _) | (with_reducible refine Kd.cD_ ?_) | exact HR202_0.out)) hb)
                     have n6_ := Aside0.mk (Kd.C_below (by repeat (first | (with_reducible exact HR203_0.out) | (with_reducible refine Kd.cA_ ?_ _) | (with_reducible refine Kd.cN_ ?_ _) | (with_reducible refine Kd.cD_ ?_) | exact HR203_0.out)) hb)
                     have n7_ := Aside0.mk (below_step (by repeat (first | (with_reducible first | exact HB.out | apply bA_ | apply bN_ | apply b1_) | exact HB.out)) hb)
                     clear HO_0
                     clear HO_1
                     clear HO_7
                     clear HL202_0
                     clear HL203_0
                     clear HR202_0
                     clear HR203_0
                     clear HB
                     have HO_0 := n0_
                     have HO_1 := n1_
                     have HO_7 := n2_
                     have HL202_0 := n3_
                     have HL203_0 := n4_
                     have HR202_0 := n5_
                     have HR203_0 := n6_
                     have HB := n7_
                     clear n0_ n1_ n2_ n3_ n4_ n5_ n6_ n7_
                     (try clear hb)
                     (try clear hb2)
                     (try clear hk)
                     (try clear hi)
                     refine hK.out _ _ ⟨HS0_, HS1_⟩ (fun hHeld => ?_)
                     clear hK K
                     refine norm_ (a' := ?_) ?_ ?_
                     rotate_left
                     · show Act.put _ (some 39) _ = _
                       simp only [Act.put, sTA_, sCZ_, sCS_, i64_w, i32_w]
                       rfl
                     refine pure_ (i := 20) (N := some 40) (v := ?_) (a' := ?_) #[Y_,Y_,Y_,Y_,Y_,Y_,Y_,Y_,Y_,Y_,Y_,Y_,Y_,Y_,Y_,Y_,Y_,Y_,Y_,Y_,Y_,X_,X_] rfl rfl (any_of HT_.out (by kernel_rfl)) (fun _ _ _ h => h) (Or.inl ⟨by rfl, ?_⟩) ?_ ?_
                     rotate_left
                     · intro w'
                       go_simp
                       with_reducible rfl
                     rotate_left
                     · simp only [Act.put, sTA_, sCZ_, sCS_, i64_w, i32_w]
                       rfl
                     refine pure_ (i := 21) (N := some 41) (v := ?_) (a' := ?_) #[Y_,Y_,Y_,Y_,Y_,Y_,Y_,Y_,Y_,Y_,Y_,Y_,Y_,Y_,Y_,Y_,Y_,Y_,Y_,Y_,Y_,Y_,X_] rfl rfl (any_of HT_.out (by kernel_rfl)) (fun _ _ _ h => h) (Or.inl ⟨by rfl, ?_⟩) ?_ ?_
                     rotate_left
                     · intro w'
                       go_simp
                       with_reducible rfl
                     rotate_left
                     · simp only [Act.put, sTA_, sCZ_, sCS_, i64_w, i32_w]
                       rfl
                     refine pure_ (i := 22) (N := some 42) (v := ?_) (a' := ?_) #[Y_,Y_,Y_,Y_,Y_,Y_,Y_,Y_,Y_,Y_,Y_,Y_,Y_,Y_,Y_,Y_,Y_,Y_,Y_,Y_,Y_,Y_,Y_] rfl rfl (any_of HT_.out (by kernel_rfl)) (fun _ _ _ h => h) (Or.inl ⟨by rfl, ?_⟩) ?_ ?_
                     rotate_left
                     · intro w'
                       go_simp
                       with_reducible rfl
                     rotate_left
                     · simp only [Act.put, sTA_, sCZ_, sCS_, i64_w, i32_w]
                       rfl
                     refine done_ (done_of HT_.out (by kernel_rfl)) ?_
                     have p209 : 0 ≤ (x8_1 : Int) := oT_ (by assumption)
                     have q209 : x8_1 < (l0.length : Int) := oT_ (by assumption)
                     obtain ⟨ad209, A209_0, c209_0, e209, hx209_0, hl209_0, hi209_0⟩ := at_L4 (Kd.V_reads' HO_0.out).2.2 x8_1 p209 q209
                     obtain rfl : ad203 = ad209 := (by injection e209)
                     obtain ⟨ce209, hce209, hMe209, hcc209⟩ := Kd.V_get HO_0.out [] x8_1 p209 (by first | exact q209 | exact oT_ (by assumption) | (have e_ := (Kd.V_reads' HO_0.out).1; omega))
                     obtain ⟨ua209_0, uc209_0, rfl, ul209_0, ge209_0⟩ := Kd.FK_slice_open hMe209
                     have hv209_0 := hcc209 0 _ rfl
                     rw [Nat.add_zero, show ((Kd.slice 36 k36)).sz = 1 from rfl, Nat.mul_one] at hv209_0
                     replace hv209_0 := Option.some.inj (hv209_0.symm.trans hx209_0)
                     injection hv209_0 with hva_ hvn_ hvc_
                     rw [hva_] at ge209_0
                     rw [hvc_] at ul209_0
                     have HL209_0 := Aside0.mk (show Kd.V k36 36 _ w.heap.size _ _ (rd_L4 l0 x8_1) from Kd.V_mk ul209_0 ge209_0)
                     clear hva_ hvn_ hvc_ ge209_0 ul209_0
                     clear hcc209 hce209
                     have HR209_0 := Aside0.mk hi209_0
                     have HC209_0 := Aside0.mk hl209_0
                     clear hi209_0 hl209_0
                     replace p209 := eq_true p209
                     replace q209 := eq_true q209
                     clear HS0_ HS1_ hHeld
                     try go_wp2_with (first | ((with_reducible refine gate_builtin (b := .append) (xs := #[.tmp 43, .tmp 48]) rfl ?_); (try (refine gate_guard (by rfl) ?_; dsimp only)); at_builtin; refine Kd.N_append (Kd.slice 36 k36) (w0 := w) w.heap.size rfl (.tmp 43) (.tmp 48) 22 53 (.slice none 0 0) 24 rfl Tryz.underlying22 info53 rfl (by decide) (by omega) u7 x7_1 (rd_L4 l0 x8_1) [.slice A209_0 (rd_L4 l0 x8_1).length c209_0] (fun k_ => ((P0_ k_ ∨ P1_ k_) ∨ w.heap.size ≤ k_)) (fun k_ => ((fun k_ => ((P0_ k_ ∨ P1_ k_) ∨ w.heap.size ≤ k_))) k_ ∧ some k_ ≠ (u7 : Value).ownBlock) rfl rfl ?aP (fun _ hk => hk) ?aF ?aO ?aB ?aS ?aL ?_; (case aP => exact (Kd.FK_slice_mk (Kd.V_reads' (Kd.V_mono (ok' := (fun k_ => ((fun k_ => ((P0_ k_ ∨ P1_ k_) ∨ w.heap.size ≤ k_))) k_ ∧ some k_ ≠ (u7 : Value).ownBlock)) (HL209_0.out) (fun k_ hk => ⟨hk.1, hk.2⟩))).2.1 (Kd.V_F (Kd.V_mono (ok' := (fun k_ => ((fun k_ => ((P0_ k_ ∨ P1_ k_) ∨ w.heap.size ≤ k_))) k_ ∧ some k_ ≠ (u7 : Value).ownBlock)) (HL209_0.out) (fun k_ hk => ⟨hk.1, hk.2⟩))))); (case aB => exact (by repeat (first | (with_reducible first | exact HB.out | apply bA_ | apply bN_ | apply b1_) | exact HB.out))); (case aF => exact (fun k_ hk => (.inr (Nat.le_trans (below_size (by repeat (first | (with_reducible first | exact HB.out | apply bA_ | apply bN_ | apply b1_) | exact HB.out))) hk)))); (case aO => exact (by (with_reducible repeat (first | apply Kd.nA_ | apply Kd.nN_ | apply Kd.nD_)); exact HO_7.out)); (case aS => exact (below_size (by repeat (first | (with_reducible first | exact HB.out | apply bA_ | apply bN_ | apply b1_) | exact HB.out)))); (case aL => have := LMc23.out; omega); intro v211 w26 ho hb hg hat; rw [← Ny210.out] at ho; have n0_ := Aside0.mk (Kd.V_afterv (ok := (fun k_ => ((P0_ k_ ∨ P1_ k_) ∨ w.heap.size ≤ k_))) (by (with_reducible repeat (first | apply Kd.vA_ | apply Kd.vN_ | apply Kd.vD_)); exact HO_0.out) hg hat); have n1_ := Aside0.mk (Kd.V_afterv (ok := (fun k_ => ((P0_ k_ ∨ P1_ k_) ∨ w.heap.size ≤ k_))) (by (with_reducible repeat (first | apply Kd.vA_ | apply Kd.vN_ | apply Kd.vD_)); exact HO_1.out) hg hat); have n2_ := Aside0.mk (Kd.V_afterv (ok := (fun k_ => ((P0_ k_ ∨ P1_ k_) ∨ w.heap.size ≤ k_))) (by (with_reducible repeat (first | apply Kd.vA_ | apply Kd.vN_ | apply Kd.vD_)); exact HL202_0.out) hg hat); have n3_ := Aside0.mk (Kd.V_afterv (ok := (fun k_ => ((P0_ k_ ∨ P1_ k_) ∨ w.heap.size ≤ k_))) (by (with_reducible repeat (first | apply Kd.vA_ | apply Kd.vN_ | apply Kd.vD_)); exact HL203_0.out) hg hat); have n4_ := Aside0.mk (Kd.V_afterv (ok := (fun k_ => ((P0_ k_ ∨ P1_ k_) ∨ w.heap.size ≤ k_))) (by (with_reducible repeat (first | apply Kd.vA_ | apply Kd.vN_ | apply Kd.vD_)); exact HL209_0.out) hg hat); have n5_ := Aside0.mk (hb); have n6_ := Aside0.mk (ho); clear HO_0; clear HO_1; clear HL202_0; clear HL203_0; clear HL209_0; clear HB; clear HO_7; have HO_0 := n0_; have HO_1 := n1_; have HL202_0 := n2_; have HL203_0 := n3_; have HL209_0 := n4_; have HB := n5_; have HO212 := n6_; clear n0_ n1_ n2_ n3_ n4_ n5_ n6_; clear ho hb hg hat))
                     go_roundg kj3
                     case measure => have := HK1.out; have := HJ3.out; omega
                     case rel => exact ⟨(y210), (wrap64 (x8_1 + 1)), (x9_1), (by first | rfl | (simp; done) | (simp [*]; done)), (by first | rfl | (simp; done) | (simp [*]; done)), H', ⟨by have := HK1.out; have := HJ3.out; omega⟩, ⟨by (with_reducible repeat (first | apply Kd.vA_ | apply Kd.vN_ | apply Kd.vD_)); exact HO_0.out⟩, ⟨by (with_reducible repeat (first | apply Kd.vA_ | apply Kd.vN_ | apply Kd.vD_)); exact HO_1.out⟩, ⟨by (with_reducible repeat (first | apply Kd.nA_ | apply Kd.nN_ | apply Kd.nD_)); exact HO212.out⟩, ⟨by repeat (first | (with_reducible first | exact HB.out | apply bA_ | apply bN_ | apply b1_) | exact HB.out)⟩⟩
                   · rw [if_neg c23] at H
                     exact absurd H (by simp)
               · rw [if_neg c16] at H
                 exact absurd H (by simp)
             · rw [if_neg c15] at H
               exact absurd H (by simp)
           · rw [if_neg c14] at H
             exact absurd H (by simp)
         · rw [if_neg c13] at H
           have c13b0 : decide (x8_1 < (l0.length : Int)) = false := dF_ c13
           clear c13
           by_cases c27 : 0 ≤ x9_1
           · rw [if_pos c27] at H
             have c27b0 : decide (0 ≤ x9_1) = true := dT_ c27
             clear c27
             by_cases c28 : x9_1 < (l1.length : Int)
             · rw [if_pos c28] at H
               have c28b0 : decide (x9_1 < (l1.length : Int)) = true := dT_ c28
               clear c28
               by_cases c29 : x7_1.length < 5864062014805
               · rw [if_pos c29] at H
                 have LMc29 := Aside0.mk c29
                 clear c29
                 obtain ⟨y214, hy214⟩ : ∃ y_ : List (List (S36)), y_ = (x7_1 ++ [rd_L4 l1 x9_1]) := ⟨_, rfl⟩
                 replace H : (r6_merge.l0 kj3 l0 l1 l2 y214 x8_1 (wrap64 (x9_1 + 1))) = some r := by first | (rw [hy214]; with_reducible exact H) | (have H2_ := (Option.bind_some _ _).symm.trans H; rw [hy214]; with_reducible exact H2_) | (have H2_ := (Option.bind_some _ _).symm.trans H; with_reducible exact H2_) | with_reducible exact H | (rw [hy214]; exact H) | exact H
                 have Ny214 := Aside0.mk hy214
                 clear hy214
                 have H' := Aside0.mk H
                 clear H
                 try go_wp2
                 have n0_ := Aside0.mk (Kd.vD_ HO_0.out)
                 have n1_ := Aside0.mk (Kd.vD_ HO_1.out)
                 have n2_ := Aside0.mk (Kd.nD_ HO_7.out)
                 have n3_ := Aside0.mk (b1_ HB.out)
                 clear HO_0
                 clear HO_1
                 clear HO_7
                 clear HB
                 have HO_0 := n0_
                 have HO_1 := n1_
                 have HO_7 := n2_
                 have HB := n3_
                 clear n0_ n1_ n2_ n3_
                 refine start_ (n := 23) (S := fun w' => True) (ds := []) #[X_,X_,X_,X_,X_,X_,X_,X_,X_,X_,X_,X_,X_,X_,X_,X_,X_,X_,X_,X_,X_,X_,X_] (by kernel_rfl) rfl rfl trivial (fun hHeld => ?_); refine with_tabW r6_merge.tab4 r6_merge.bits4 (fun HT_ HW_ => ?_)
                 generalize wc.drew = w30 at HO_0 HO_1 HO_7 HB hHeld ⊢
                 refine pure_ (i := 0) (N := some 20) (v := ?_) (a' := ?_) #[Y_,X_,X_,X_,X_,X_,X_,X_,X_,X_,X_,X_,X_,X_,X_,X_,X_,X_,X_,X_,X_,X_,X_] rfl rfl (any_of HT_.out (by kernel_rfl)) (fun _ _ _ h => h) (Or.inl ⟨by rfl, ?_⟩) ?_ ?_
                 rotate_left
                 · intro w'
                   go_simp
                   with_reducible rfl
                 rotate_left
                 · simp only [Act.put, sTA_, sCZ_, sCS_, i64_w, i32_w]
                   rfl
                 refine pure_ (i := 1) (N := some 21) (v := ?_) (a' := ?_) #[Y_,Y_,X_,X_,X_,X_,X_,X_,X_,X_,X_,X_,X_,X_,X_,X_,X_,X_,X_,X_,X_,X_,X_] rfl rfl (any_of HT_.out (by kernel_rfl)) (fun _ _ _ h => h) (Or.inl ⟨by rfl, ?_⟩) ?_ ?_
                 rotate_left
                 · intro w'
                   go_simp
                   with_reducible rfl
                 rotate_left
                 · simp only [Act.put, sTA_, sCZ_, sCS_, i64_w, i32_w]
                   rfl
                 refine pure_ (i := 2) (N := some 22) (v := ?_) (a' := ?_) #[Y_,Y_,Y_,X_,X_,X_,X_,X_,X_,X_,X_,X_,X_,X_,X_,X_,X_,X_,X_,X_,X_,X_,X_] rfl rfl (any_of HT_.out (by kernel_rfl)) (fun _ _ _ h => h) (Or.inl ⟨by rfl, ?_⟩) ?_ ?_
                 rotate_left
                 · intro w'
                   go_simp
                   with_reducible rfl
                 rotate_left
                 · simp only [Act.put, sTA_, sCZ_, sCS_, i64_w, i32_w]
                   rfl
                 refine pure_ (i := 3) (N := some 23) (v := ?_) (a' := ?_) #[Y_,Y_,Y_,Y_,X_,X_,X_,X_,X_,X_,X_,X_,X_,X_,X_,X_,X_,X_,X_,X_,X_,X_,X_] rfl rfl (any_of HT_.out (by kernel_rfl)) (fun _ _ _ h => h) (Or.inl ⟨by rfl, ?_⟩) ?_ ?_
                 rotate_left
                 · intro w'
                   go_simp
                   with_reducible rfl
                 rotate_left
                 · simp only [Act.put, sTA_, sCZ_, sCS_, i64_w, i32_w]
                   rfl
                 refine pure_ (i := 4) (N := some 24) (v := ?_) (a' := ?_) #[Y_,Y_,Y_,Y_,Y_,X_,X_,X_,X_,X_,X_,X_,X_,X_,X_,X_,X_,X_,X_,X_,X_,X_,X_] rfl rfl (any_of HT_.out (by kernel_rfl)) (fun _ _ _ h => h) (Or.inl ⟨by rfl, ?_⟩) ?_ ?_
                 rotate_left
                 · intro w'
                   go_simp
                   with_reducible rfl
                 rotate_left
                 · simp only [Act.put, sTA_, sCZ_, sCS_, i64_w, i32_w]
                   rfl
                 refine pure_ (i := 5) (N := some 25) (v := ?_) (a' := ?_) #[Y_,Y_,Y_,Y_,Y_,Y_,X_,X_,X_,X_,X_,X_,X_,X_,X_,X_,X_,X_,X_,X_,X_,X_,X_] rfl rfl (any_of HT_.out (by kernel_rfl)) (fun _ _ _ h => h) (Or.inl ⟨by rfl, ?_⟩) ?_ ?_
                 rotate_left
                 · intro w'
                   go_simp
                   with_reducible rfl
                 rotate_left
                 · simp only [Act.put, sTA_, sCZ_, sCS_, i64_w, i32_w]
                   rfl
                 refine pure_ (i := 6) (N := some 26) (v := ?_) (a' := ?_) #[Y_,Y_,Y_,Y_,Y_,Y_,Y_,X_,X_,X_,X_,X_,X_,X_,X_,X_,X_,X_,X_,X_,X_,X_,X_] rfl rfl (any_of HT_.out (by kernel_rfl)) (fun _ _ _ h => h) (Or.inl ⟨by rfl, ?_⟩) ?_ ?_
                 rotate_left
                 · intro w'
                   go_simp
                   with_reducible rfl
                 rotate_left
                 · simp only [Act.put, sTA_, sCZ_, sCS_, i64_w, i32_w]
                   rfl
                 refine pure_ (i := 7) (N := some 27) (v := ?_) (a' := ?_) #[Y_,Y_,Y_,Y_,Y_,Y_,Y_,Y_,X_,X_,X_,X_,X_,X_,X_,X_,X_,X_,X_,X_,X_,X_,X_] rfl rfl (any_of HT_.out (by kernel_rfl)) (fun _ _ _ h => h) (Or.inl ⟨by rfl, ?_⟩) ?_ ?_
                 rotate_left
                 · intro w'
                   go_simp
                   with_reducible rfl
                 rotate_left
                 · simp only [Act.put, sTA_, sCZ_, sCS_, i64_w, i32_w]
                   rfl
                 refine pure_ (i := 8) (N := some 28) (v := ?_) (a' := ?_) #[Y_,Y_,Y_,Y_,Y_,Y_,Y_,Y_,Y_,X_,X_,X_,X_,X_,X_,X_,X_,X_,X_,X_,X_,X_,X_] rfl rfl (any_of HT_.out (by kernel_rfl)) (fun _ _ _ h => h) (Or.inl ⟨by rfl, ?_⟩) ?_ ?_
                 rotate_left
                 · intro w'
                   go_simp
                   with_reducible rfl
                 rotate_left
                 · simp only [Act.put, sTA_, sCZ_, sCS_, i64_w, i32_w]
                   rfl
                 refine pure_ (i := 9) (N := some 29) (v := ?_) (a' := ?_) #[Y_,Y_,Y_,Y_,Y_,Y_,Y_,Y_,Y_,Y_,X_,X_,X_,X_,X_,X_,X_,X_,X_,X_,X_,X_,X_] rfl rfl (any_of HT_.out (by kernel_rfl)) (fun _ _ _ h => h) (Or.inl ⟨by rfl, ?_⟩) ?_ ?_
                 rotate_left
                 · intro w'
                   go_simp
                   with_reducible rfl
                 rotate_left
                 · simp only [Act.put, sTA_, sCZ_, sCS_, i64_w, i32_w]
                   rfl
                 refine pure_ (i := 10) (N := some 30) (v := undef) (a' := ?_) #[Y_,Y_,Y_,Y_,Y_,Y_,Y_,Y_,Y_,Y_,Y_,X_,X_,X_,X_,X_,X_,X_,X_,X_,X_,X_,X_] rfl rfl (any_of HT_.out (by kernel_rfl)) (fun _ _ _ h => h) (Or.inr ⟨by rfl, rfl⟩) ?_ ?_
                 rotate_left
                 · simp only [Act.put, sTA_, sCZ_, sCS_, i64_w, i32_w]
                   rfl
                 refine pure_ (i := 11) (N := some 31) (v := undef) (a' := ?_) #[Y_,Y_,Y_,Y_,Y_,Y_,Y_,Y_,Y_,Y_,Y_,Y_,X_,X_,X_,X_,X_,X_,X_,X_,X_,X_,X_] rfl rfl (any_of HT_.out (by kernel_rfl)) (fun _ _ _ h => h) (Or.inr ⟨by rfl, rfl⟩) ?_ ?_
                 rotate_left
                 · simp only [Act.put, sTA_, sCZ_, sCS_, i64_w, i32_w]
                   rfl
                 refine pure_ (i := 12) (N := some 32) (v := undef) (a' := ?_) #[Y_,Y_,Y_,Y_,Y_,Y_,Y_,Y_,Y_,Y_,Y_,Y_,Y_,X_,X_,X_,X_,X_,X_,X_,X_,X_,X_] rfl rfl (any_of HT_.out (by kernel_rfl)) (fun _ _ _ h => h) (Or.inr ⟨by rfl, rfl⟩) ?_ ?_
                 rotate_left
                 · simp only [Act.put, sTA_, sCZ_, sCS_, i64_w, i32_w]
                   rfl
                 refine pure_ (i := 13) (N := some 33) (v := undef) (a' := ?_) #[Y_,Y_,Y_,Y_,Y_,Y_,Y_,Y_,Y_,Y_,Y_,Y_,Y_,Y_,X_,X_,X_,X_,X_,X_,X_,X_,X_] rfl rfl (any_of HT_.out (by kernel_rfl)) (fun _ _ _ h => h) (Or.inr ⟨by rfl, rfl⟩) ?_ ?_
                 rotate_left
                 · simp only [Act.put, sTA_, sCZ_, sCS_, i64_w, i32_w]
                   rfl
                 refine pure_ (i := 14) (N := some 34) (v := undef) (a' := ?_) #[Y_,Y_,Y_,Y_,Y_,Y_,Y_,Y_,Y_,Y_,Y_,Y_,Y_,Y_,Y_,X_,X_,X_,X_,X_,X_,X_,X_] rfl rfl (any_of HT_.out (by kernel_rfl)) (fun _ _ _ h => h) (Or.inr ⟨by rfl, rfl⟩) ?_ ?_
                 rotate_left
                 · simp only [Act.put, sTA_, sCZ_, sCS_, i64_w, i32_w]
                   rfl
                 refine pure_ (i := 15) (N := some 35) (v := undef) (a' := ?_) #[Y_,Y_,Y_,Y_,Y_,Y_,Y_,Y_,Y_,Y_,Y_,Y_,Y_,Y_,Y_,Y_,X_,X_,X_,X_,X_,X_,X_] rfl rfl (any_of HT_.out (by kernel_rfl)) (fun _ _ _ h => h) (Or.inr ⟨by rfl, rfl⟩) ?_ ?_
                 rotate_left
                 · simp only [Act.put, sTA_, sCZ_, sCS_, i64_w, i32_w]
                   rfl
                 refine pure_ (i := 16) (N := some 36) (v := undef) (a' := ?_) #[Y_,Y_,Y_,Y_,Y_,Y_,Y_,Y_,Y_,Y_,Y_,Y_,Y_,Y_,Y_,Y_,Y_,X_,X_,X_,X_,X_,X_] rfl rfl (any_of HT_.out (by kernel_rfl)) (fun _ _ _ h => h) (Or.inr ⟨by rfl, rfl⟩) ?_ ?_
                 rotate_left
                 · simp only [Act.put, sTA_, sCZ_, sCS_, i64_w, i32_w]
                   rfl
                 refine pure_ (i := 17) (N := some 37) (v := undef) (a' := ?_) #[Y_,Y_,Y_,Y_,Y_,Y_,Y_,Y_,Y_,Y_,Y_,Y_,Y_,Y_,Y_,Y_,Y_,Y_,X_,X_,X_,X_,X_] rfl rfl (any_of HT_.out (by kernel_rfl)) (fun _ _ _ h => h) (Or.inr ⟨by rfl, rfl⟩) ?_ ?_
                 rotate_left
                 · simp only [Act.put, sTA_, sCZ_, sCS_, i64_w, i32_w]
                   rfl
                 refine pure_ (i := 18) (N := some 38) (v := undef) (a' := ?_) #[Y_,Y_,Y_,Y_,Y_,Y_,Y_,Y_,Y_,Y_,Y_,Y_,Y_,Y_,Y_,Y_,Y_,Y_,Y_,X_,X_,X_,X_] rfl rfl (any_of HT_.out (by kernel_rfl)) (fun _ _ _ h => h) (Or.inr ⟨by rfl, rfl⟩) ?_ ?_
                 rotate_left
                 · simp only [Act.put, sTA_, sCZ_, sCS_, i64_w, i32_w]
                   rfl
                 refine pure_ (i := 19) (N := some 39) (v := undef) (a' := ?_) #[Y_,Y_,Y_,Y_,Y_,Y_,Y_,Y_,Y_,Y_,Y_,Y_,Y_,Y_,Y_,Y_,Y_,Y_,Y_,Y_,X_,X_,X_] rfl rfl (any_of HT_.out (by kernel_rfl)) (fun _ _ _ h => h) (Or.inr ⟨by rfl, rfl⟩) ?_ ?_
                 rotate_left
                 · simp only [Act.put, sTA_, sCZ_, sCS_, i64_w, i32_w]
                   rfl
                 refine pure_ (i := 20) (N := some 40) (v := undef) (a' := ?_) #[Y_,Y_,Y_,Y_,Y_,Y_,Y_,Y_,Y_,Y_,Y_,Y_,Y_,Y_,Y_,Y_,Y_,Y_,Y_,Y_,Y_,X_,X_] rfl rfl (any_of HT_.out (by kernel_rfl)) (fun _ _ _ h => h) (Or.inr ⟨by rfl, rfl⟩) ?_ ?_
                 rotate_left
                 · simp only [Act.put, sTA_, sCZ_, sCS_, i64_w, i32_w]
                   rfl
                 refine pure_ (i := 21) (N := some 41) (v := ?_) (a' := ?_) #[Y_,Y_,Y_,Y_,Y_,Y_,Y_,Y_,Y_,Y_,Y_,Y_,Y_,Y_,Y_,Y_,Y_,Y_,Y_,Y_,Y_,Y_,X_] rfl rfl (any_of HT_.out (by kernel_rfl)) (fun _ _ _ h => h) (Or.inl ⟨by rfl, ?_⟩) ?_ ?_
                 rotate_left
                 · intro w'
                   go_simp
                   with_reducible rfl
                 rotate_left
                 · simp only [Act.put, sTA_, sCZ_, sCS_, i64_w, i32_w]
                   rfl
                 refine pure_ (i := 22) (N := some 42) (v := ?_) (a' := ?_) #[Y_,Y_,Y_,Y_,Y_,Y_,Y_,Y_,Y_,Y_,Y_,Y_,Y_,Y_,Y_,Y_,Y_,Y_,Y_,Y_,Y_,Y_,Y_] rfl rfl (any_of HT_.out (by kernel_rfl)) (fun _ _ _ h => h) (Or.inl ⟨by rfl, ?_⟩) ?_ ?_
                 rotate_left
                 · intro w'
                   go_simp
                   with_reducible rfl
                 rotate_left
                 · simp only [Act.put, sTA_, sCZ_, sCS_, i64_w, i32_w]
                   rfl
                 refine done_ (done_of HT_.out (by kernel_rfl)) ?_
                 have p213 : 0 ≤ (x9_1 : Int) := oT_ (by assumption)
                 have q213 : x9_1 < (l1.length : Int) := oT_ (by assumption)
                 obtain ⟨ad213, A213_0, c213_0, e213, hx213_0, hl213_0, hi213_0⟩ := at_L4 (Kd.V_reads' HO_1.out).2.2 x9_1 p213 q213
                 cases e213
                 obtain ⟨ce213, hce213, hMe213, hcc213⟩ := Kd.V_get HO_1.out [] x9_1 p213 (by first | exact q213 | exact oT_ (by assumption) | (have e_ := (Kd.V_reads' HO_1.out).1; omega))
                 obtain ⟨ua213_0, uc213_0, rfl, ul213_0, ge213_0⟩ := Kd.FK_slice_open hMe213
                 have hv213_0 := hcc213 0 _ rfl
                 rw [Nat.add_zero, show ((Kd.slice 36 k36)).sz = 1 from rfl, Nat.mul_one] at hv213_0
                 replace hv213_0 := Option.some.inj (hv213_0.symm.trans hx213_0)
                 injection hv213_0 with hva_ hvn_ hvc_
                 rw [hva_] at ge213_0
                 rw [hvc_] at ul213_0
                 have HL213_0 := Aside0.mk (show Kd.V k36 36 _ w.heap.size _ _ (rd_L4 l1 x9_1) from Kd.V_mk ul213_0 ge213_0)
                 clear hva_ hvn_ hvc_ ge213_0 ul213_0
                 clear hcc213 hce213
                 have HR213_0 := Aside0.mk hi213_0
                 have HC213_0 := Aside0.mk hl213_0
                 clear hi213_0 hl213_0
                 replace p213 := eq_true p213
                 replace q213 := eq_true q213
                 try go_wp2_with (first | ((with_reducible refine gate_builtin (b := .append) (xs := #[.tmp 52, .tmp 57]) rfl ?_); (try (refine gate_guard (by rfl) ?_; dsimp only)); at_builtin; refine Kd.N_append (Kd.slice 36 k36) (w0 := w) w.heap.size rfl (.tmp 52) (.tmp 57) 22 53 (.slice none 0 0) 24 rfl Tryz.underlying22 info53 rfl (by decide) (by omega) u7 x7_1 (rd_L4 l1 x9_1) [.slice A213_0 (rd_L4 l1 x9_1).length c213_0] (fun k_ => ((P0_ k_ ∨ P1_ k_) ∨ w.heap.size ≤ k_)) (fun k_ => ((fun k_ => ((P0_ k_ ∨ P1_ k_) ∨ w.heap.size ≤ k_))) k_ ∧ some k_ ≠ (u7 : Value).ownBlock) rfl rfl ?aP (fun _ hk => hk) ?aF ?aO ?aB ?aS ?aL ?_; (case aP => exact (Kd.FK_slice_mk (Kd.V_reads' (Kd.V_mono (ok' := (fun k_ => ((fun k_ => ((P0_ k_ ∨ P1_ k_) ∨ w.heap.size ≤ k_))) k_ ∧ some k_ ≠ (u7 : Value).ownBlock)) (HL213_0.out) (fun k_ hk => ⟨hk.1, hk.2⟩))).2.1 (Kd.V_F (Kd.V_mono (ok' := (fun k_ => ((fun k_ => ((P0_ k_ ∨ P1_ k_) ∨ w.heap.size ≤ k_))) k_ ∧ some k_ ≠ (u7 : Value).ownBlock)) (HL213_0.out) (fun k_ hk => ⟨hk.1, hk.2⟩))))); (case aB => exact (by repeat (first | (with_reducible first | exact HB.out | apply bA_ | apply bN_ | apply b1_) | exact HB.out))); (case aF => exact (fun k_ hk => (.inr (Nat.le_trans (below_size (by repeat (first | (with_reducible first | exact HB.out | apply bA_ | apply bN_ | apply b1_) | exact HB.out))) hk)))); (case aO => exact (by (with_reducible repeat (first | apply Kd.nA_ | apply Kd.nN_ | apply Kd.nD_)); exact HO_7.out)); (case aS => exact (below_size (by repeat (first | (with_reducible first | exact HB.out | apply bA_ | apply bN_ | apply b1_) | exact HB.out)))); (case aL => have := LMc29.out; omega); intro v215 w31 ho hb hg hat; rw [← Ny214.out] at ho; have n0_ := Aside0.mk (Kd.V_afterv (ok := (fun k_ => ((P0_ k_ ∨ P1_ k_) ∨ w.heap.size ≤ k_))) (by (with_reducible repeat (first | apply Kd.vA_ | apply Kd.vN_ | apply Kd.vD_)); exact HO_0.out) hg hat); have n1_ := Aside0.mk (Kd.V_afterv (ok := (fun k_ => ((P0_ k_ ∨ P1_ k_) ∨ w.heap.size ≤ k_))) (by (with_reducible repeat (first | apply Kd.vA_ | apply Kd.vN_ | apply Kd.vD_)); exact HO_1.out) hg hat); have n2_ := Aside0.mk (Kd.V_afterv (ok := (fun k_ => ((P0_ k_ ∨ P1_ k_) ∨ w.heap.size ≤ k_))) (by (with_reducible repeat (first | apply Kd.vA_ | apply Kd.vN_ | apply Kd.vD_)); exact HL213_0.out) hg hat); have n3_ := Aside0.mk (hb); have n4_ := Aside0.mk (ho); clear HO_0; clear HO_1; clear HL213_0; clear HB; clear HO_7; have HO_0 := n0_; have HO_1 := n1_; have HL213_0 := n2_; have HB := n3_; have HO216 := n4_; clear n0_ n1_ n2_ n3_ n4_; clear ho hb hg hat))
                 go_roundg kj3
                 case measure => have := HK1.out; have := HJ3.out; omega
                 case rel => exact ⟨(y214), (x8_1), (wrap64 (x9_1 + 1)), (by first | rfl | (simp; done) | (simp [*]; done)), (by first | rfl | (simp; done) | (simp [*]; done)), H', ⟨by have := HK1.out; have := HJ3.out; omega⟩, ⟨by (with_reducible repeat (first | apply Kd.vA_ | apply Kd.vN_ | apply Kd.vD_)); exact HO_0.out⟩, ⟨by (with_reducible repeat (first | apply Kd.vA_ | apply Kd.vN_ | apply Kd.vD_)); exact HO_1.out⟩, ⟨by (with_reducible repeat (first | apply Kd.nA_ | apply Kd.nN_ | apply Kd.nD_)); exact HO216.out⟩, ⟨by repeat (first | (with_reducible first | exact HB.out | apply bA_ | apply bN_ | apply b1_) | exact HB.out)⟩⟩
               · rw [if_neg c29] at H
                 exact absurd H (by simp)
             · rw [if_neg c28] at H
               exact absurd H (by simp)
           · rw [if_neg c27] at H
             exact absurd H (by simp)
     · replace c6 := Bool.eq_false_iff.mpr c6
       subst c6
       have H1 : (some x7_1) = some r := by rw [if_neg (show ¬ (false = true) by decide)] at H; exact H
       clear H
       have H := H1
       clear H1
       obtain rfl := Option.some.inj H
       go_wp2
       go_ret
       exact ⟨_, by first | rfl | (simp [*, errW_none, errW_some] <;> rfl), by (with_reducible repeat (first | apply Kd.nA_ | apply Kd.nN_ | apply Kd.nD_)); exact HO_7.out, by repeat (first | (with_reducible first | exact HB.out | apply bA_ | apply bN_ | apply b1_) | exact HB.out)⟩
mutual
def r6_full.l0 : Nat → List (List (S36)) → List (S64) → List (List (List (S36))) → Int → Option ((List (List (S36))))
 | 0, _, _, _, _ => none
 | k + 1, x0, x1, x5, x6 => if x6 < (x0.length : Int) then (if 0 ≤ x6 then ((r6_copyOf.f k (rd_L4 x0 x6)).bind fun t218 => (if x5.length < 5864062014805 then (r6_full.l0 k x0 x1 (x5 ++ [(([t218] : List (List (S36))))]) (wrap64 (x6 + 1))) else (none))) else (none)) else (r6_full.l1 k x1 x5)
def r6_full.l1 : Nat → List (S64) → List (List (List (S36))) → Option ((List (List (S36))))
 | 0, _, _ => none
 | k + 1, x1, x5 => if (x5.length : Int) > 1 then (r6_full.l2 k x1 x5 ([] : List (List (List (S36)))) 0) else (if (x5.length : Int) = 0 then (some ([] : List (List (S36)))) else (if 0 < (x5.length : Int) then (some (rd_L7 x5 0)) else (none)))
def r6_full.l2 : Nat → List (S64) → List (List (List (S36))) → List (List (List (S36))) → Int → Option ((List (List (S36))))
 | 0, _, _, _, _ => none
 | k + 1, x1, x5, x7, x8 => if x8 < (x5.length : Int) then (if (wrap64 (x8 + 1)) < (x5.length : Int) then (if 0 ≤ x8 then (if 0 ≤ (wrap64 (x8 + 1)) then ((r6_merge.f k (rd_L7 x5 x8) (rd_L7 x5 (wrap64 (x8 + 1))) x1).bind fun t230 => (if x7.length < 5864062014805 then (r6_full.l2 k x1 x5 (x7 ++ [t230]) (wrap64 (x8 + 2))) else (none))) else (none)) else (none)) else (if 0 ≤ x8 then (if x7.length < 5864062014805 then (r6_full.l2 k x1 x5 (x7 ++ [rd_L7 x5 x8]) (wrap64 (x8 + 2))) else (none)) else (none))) else (r6_full.l1 k x1 x7)
end
def r6_full.f (k : Nat) (l0 : List (List (S36))) (l1 : List (S64)) : Option ((List (List (S36)))) := r6_full.l0 k l0 l1 ([] : List (List (List (S36)))) 0
def r6_full.T12 : Bool × List (List Nat × List Nat) := (true, [([], []), ([], []), ([], []), ([1, 2], [1, 2]), ([3], [3]), ([], []), ([], []), ([6], [6]), ([5, 7], [5, 7]), ([8], [8]), ([], []), ([4, 9, 10], [4, 9, 10]), ([11], [11]), ([0, 12, 11], [0, 12]), ([13, 13, 0, 1, 2, 3, 4, 5, 6, 7, 8, 9, 10, 11, 12, 13], [0, 13])])
def r6_full.B12 : List Nat := [0, 0, 0, 6, 14, 0, 0, 64, 224, 480, 0, 2046, 4094, 8191, 16383]
theorem r6_full.tab12 : rtab .any (opsOf Tryz.f67 12) = r6_full.T12 := by kernel_rfl
theorem r6_full.bits12 : waitsOk r6_full.T12.2 r6_full.B12 = true := by kernel_rfl
theorem r6_full.calls (k : Nat) (A0 : Option Addr) (c0 : Nat) (l0 : List (List (S36))) (A1 : Option Addr) (c1 : Nat) (l1 : List (S64)) (r : List (List (S36))) (w : World) (hr0 : Kd.C (Kd.slice 36 k36) w A0 l0.length l0) (hc0 : l0.length ≤ c0) (hr1 : Kd.C k64 w A1 l1.length l1) (hc1 : l1.length ≤ c1) (h : r6_full.f k l0 l1 = some r) :
 Calls Tryz.prog 67 #[.slice A0 l0.length c0, .slice A1 l1.length c1] w fun e w' => ∃ v0_ : Value, e = .returned (v0_) ∧ Kd.V (Kd.slice 36 k36) 53 w' w.heap.size (fun k_ => (w.heap.size ≤ k_)) v0_ r ∧ Below w.heap.size w w' := by
 have HR0 := Aside0.mk hr0
 have HC0 := Aside0.mk hc0
 clear hr0 hc0
 have HR1 := Aside0.mk hr1
 have HC1 := Aside0.mk hc1
 clear hr1 hc1
 have HB := Aside0.mk (Below.refl w.heap.size w)
 have H : (r6_full.l0 k l0 l1 ([] : List (List (List (S36)))) 0) = some r := h
 clear h
 have H' := Aside0.mk H
 clear H
 go_enter Tryz.func67, Tryz.ntmps67
 go_wp2
 go_loopg [5, 6] k (fun kq v5 v6 w' => ∃ (x5_1 : List (List (List (S36)))) (x6_1 : Int), v6 = .int .i64 x6_1 ∧ Aside0 (r6_full.l0 kq l0 l1 x5_1 x6_1 = some r) ∧ Aside0 (kq ≤ k) ∧ Aside0 (Kd.N (Kd.slice 53 (Kd.slice 36 k36)) 22 w' w.heap.size (fun k_ => (w.heap.size ≤ k_)) v5 x5_1) ∧ Aside0 (Below w.heap.size w w'))
 case atStart => exact ⟨(([] : List (List (List (S36))))), (0), (by first | rfl | (simp; done) | (simp [*]; done)), H', ⟨Nat.le_refl _⟩, ⟨by first | exact Kd.R_nil _ _ _ _ _ | exact Kd.N_nil _ _ _ _ _ | exact Kd.V_nil _ _ _ _ _ | exact Kd.Q_nil _ _ _ _ _ | exact Kd.S_nil _ _ _ _ _⟩, ⟨by repeat (first | (with_reducible first | exact HB.out | apply bA_ | apply bN_ | apply b1_) | exact HB.out)⟩⟩
 case round =>
  clear H'
  try clear c1
  try clear p2
  obtain ⟨x5_1, x6_1, rfl, HA, HK1, HO_5, HB⟩ := hrel
  cases gk with
  | zero => exact absurd HA.out (by simp [r6_full.l0])
  | succ k1 =>
   have H := HA.out
   clear HA
   simp only [r6_full.l0] at H
   by_cases c3 : x6_1 < (l0.length : Int)
   · rw [if_pos c3] at H
     have c3b0 : decide (x6_1 < (l0.length : Int)) = true := dT_ c3
     clear c3
     by_cases c4 : 0 ≤ x6_1
     · rw [if_pos c4] at H
       have c4b0 : decide (0 ≤ x6_1) = true := dT_ c4
       clear c4
       replace H := Option.bind_eq_some_iff.mp H
       obtain ⟨t218, A50, H⟩ := H
       replace H : (if x5_1.length < 5864062014805 then (r6_full.l0 k1 l0 l1 (x5_1 ++ [(([t218] : List (List (S36))))]) (wrap64 (x6_1 + 1))) else (none)) = some r := H
       have A5 := Aside0.mk A50
       clear A50
       obtain ⟨y221, hy221⟩ : ∃ y_ : List (List (S36)), y_ = (([t218] : List (List (S36)))) := ⟨_, rfl⟩
       replace H : (if x5_1.length < 5864062014805 then (r6_full.l0 k1 l0 l1 (x5_1 ++ [y221]) (wrap64 (x6_1 + 1))) else (none)) = some r := by first | (rw [hy221]; with_reducible exact H) | (have H2_ := (Option.bind_some _ _).symm.trans H; rw [hy221]; with_reducible exact H2_) | (have H2_ := (Option.bind_some _ _).symm.trans H; with_reducible exact H2_) | with_reducible exact H | (rw [hy221]; exact H) | exact H
       have Ny221 := Aside0.mk hy221
       clear hy221
       by_cases c6 : x5_1.length < 5864062014805
       · rw [if_pos c6] at H
         have LMc6 := Aside0.mk c6
         clear c6
         obtain ⟨y224, hy224⟩ : ∃ y_ : List (List (List (S36))), y_ = (x5_1 ++ [y221]) := ⟨_, rfl⟩
         replace H : (r6_full.l0 k1 l0 l1 y224 (wrap64 (x6_1 + 1))) = some r := by first | (rw [hy224]; with_reducible exact H) | (have H2_ := (Option.bind_some _ _).symm.trans H; rw [hy224]; with_reducible exact H2_) | (have H2_ := (Option.bind_some _ _).symm.trans H; with_reducible exact H2_) | with_reducible exact H | (rw [hy224]; exact H) | exact H
         have Ny224 := Aside0.mk hy224
         clear hy224
         have H' := Aside0.mk H
         clear H
         have p217 : 0 ≤ (x6_1 : Int) := oT_ (by assumption)
         have q217 : x6_1 < (l0.length : Int) := oT_ (by assumption)
         obtain ⟨ad217, A217_0, c217_0, e217, hx217_0, hl217_0, hi217_0⟩ := at_L4 HR0.out x6_1 p217 q217
         cases e217
         replace hx217_0 := (HB.out.cell (bLC_ w _ hx217_0)).trans hx217_0
         have HR217_0 := Aside0.mk hi217_0
         have HC217_0 := Aside0.mk hl217_0
         clear hi217_0 hl217_0
         replace p217 := eq_true p217
         replace q217 := eq_true q217
         go_wp2_with (first | ((with_reducible refine gate_callee (f := 88) rfl ?_); refine goesL_ (some 20) rfl rfl Tryz.func88 (by kernel_rfl) rfl #[.slice A217_0 (rd_L4 l0 x6_1).length c217_0] rfl (by (try simp only [List.map_toArray, List.map_cons, List.map_nil]); first | done | rfl | (simp only [List.length_drop, List.length_take]; rfl)) ?_; (with_reducible refine (r6_copyOf.calls k1 _ _ (rd_L4 l0 x6_1) t218 _ ?side1 ?side2 A5.out).mono ?_); (case side1 => repeat (first | exact (Kd.C_below HR217_0.out HB.out) | (with_reducible refine Kd.cA_ ?_ _) | (with_reducible refine Kd.cN_ ?_ _) | (with_reducible refine Kd.cD_ ?_))); (case side2 => exact HC217_0.out); rintro e w7 ⟨v219, rfl, ho0, hb⟩; refine ⟨_, rfl, ?_⟩; have n0_ := Aside0.mk (Kd.N_elder' (by (with_reducible repeat (first | apply Kd.nA_ | apply Kd.nN_ | apply Kd.nD_)); exact HO_5.out) (Kd.R_base ho0) hb); have n1_ := Aside0.mk (Kd.R_lower (Kd.R_newM (M := fun k_ => (w.heap.size ≤ k_)) ho0 (below_size (by repeat (first | (with_reducible first | exact HB.out | apply bA_ | apply bN_ | apply b1_) | exact HB.out))) (fun k_ h_ => h_)) (below_size (by repeat (first | (with_reducible first | exact HB.out | apply bA_ | apply bN_ | apply b1_) | exact HB.out)))); have n2_ := Aside0.mk (below_step (by repeat (first | (with_reducible first | exact HB.out | apply bA_ | apply bN_ | apply b1_) | exact HB.out)) hb); clear HO_5; clear HB; have HO_5 := n0_; have HO220 := n1_; have HB := n2_; clear n0_ n1_ n2_; (try clear hb); (try clear hb2); (try clear hk); (try clear hi); (try clear ho0); obtain ⟨Ao8, co8, eo8⟩ := Kd.R_slice HO220.out; subst eo8) | ((with_reducible refine gate_dst (N := 21) rfl ?_); refine Kd.N_lit (Kd.slice 36 k36) _ 53 ?hg (N' := 21) ?hd (xs := ([t218] : List (List (S36)))) (inner := [.slice Ao8 t218.length co8]) (ok := (fun k_ => (w.heap.size ≤ k_) ∧ some k_ ≠ (u5 : Value).ownBlock)) (okp := (fun k_ => (w.heap.size ≤ k_) ∧ some k_ ≠ (u5 : Value).ownBlock)) ?hr ?hp (fun _ hk => hk) ((show ∀ k_, w7.heap.size ≤ k_ → (fun k_ => (w.heap.size ≤ k_) ∧ some k_ ≠ (u5 : Value).ownBlock) k_ from fun k_ hk => ⟨(Nat.le_trans (below_size (by repeat (first | (with_reducible first | exact HB.out | apply bA_ | apply bN_ | apply b1_) | exact HB.out))) hk), Kd.fresh' (Kd.N_lt (by (with_reducible repeat (first | apply Kd.nA_ | apply Kd.nN_ | apply Kd.nD_)); exact HO_5.out)) k_ hk⟩) _ (Nat.le_refl _)) (Below.refl _ _) (Nat.le_refl _) (by simp) ?_; (case hd => rfl); (case hg => rfl); (case hr => first | (go_simp; done) | (go_simp; rfl)); (case hp => exact (Reps.one (show Kd.FK (Kd.slice 36 k36) _ _ t218 [.slice Ao8 t218.length co8] from (Kd.FK_slice_mk (Kd.R_reads' (Kd.R_mono (ok' := (fun k_ => (w.heap.size ≤ k_) ∧ some k_ ≠ (u5 : Value).ownBlock)) (Kd.R_apart' (HO220.out) (Kd.N_typed HO_5.out) (by decide)) (fun k_ hk => ⟨hk.1.1, hk.2⟩))).2.1 (Kd.R_F (Kd.R_mono (ok' := (fun k_ => (w.heap.size ≤ k_) ∧ some k_ ≠ (u5 : Value).ownBlock)) (Kd.R_apart' (HO220.out) (Kd.N_typed HO_5.out) (by decide)) (fun k_ hk => ⟨hk.1.1, hk.2⟩))))) (Reps.none _ _))); intro v222 w9 ho10 hb hg_ hnew_; clear hg_ hnew_; (first | rw [← Ny221.out] at ho10 | (simp only [Int.reduceToNat] at ho10; rw [← Ny221.out] at ho10)); have n0_ := Aside0.mk (Kd.N_elder' (by (with_reducible repeat (first | apply Kd.nA_ | apply Kd.nN_ | apply Kd.nD_)); exact HO_5.out) (Kd.N_base ho10) hb); have n1_ := Aside0.mk (Kd.N_lower ho10 (below_size (by repeat (first | (with_reducible first | exact HB.out | apply bA_ | apply bN_ | apply b1_) | exact HB.out)))); have n2_ := Aside0.mk (below_step (by repeat (first | (with_reducible first | exact HB.out | apply bA_ | apply bN_ | apply b1_) | exact HB.out)) hb); clear HO_5; clear HB; clear HO220; have HO_5 := n0_; have HO223 := n1_; have HB := n2_; clear n0_ n1_ n2_; clear hb ho10; obtain ⟨Ao12, co12, eo12⟩ := Kd.N_slice HO223.out; subst eo12) | ((with_reducible refine gate_builtin (b := .append) (xs := #[.tmp 15, .tmp 22]) rfl ?_); at_builtin; refine Kd.N_append (Kd.slice 53 (Kd.slice 36 k36)) (w0 := w) w.heap.size rfl (.tmp 15) (.tmp 22) 56 22 (.slice none 0 0) 24 rfl Tryz.underlying56 info22 rfl (by decide) (by omega) u5 x5_1 y221 [.slice Ao12 y221.length co12] (fun k_ => (w.heap.size ≤ k_)) (fun k_ => ((fun k_ => (w.heap.size ≤ k_))) k_ ∧ some k_ ≠ (u5 : Value).ownBlock) rfl rfl ?aP (fun _ hk => hk) ?aF ?aO ?aB ?aS ?aL ?_; (case aP => exact (Kd.FK_slice_mk (Kd.N_reads' (Kd.N_mono (ok' := (fun k_ => ((fun k_ => (w.heap.size ≤ k_))) k_ ∧ some k_ ≠ (u5 : Value).ownBlock)) (HO223.out) (fun k_ hk => ⟨hk.1, hk.2⟩))).2.1 (Kd.N_F (Kd.N_mono (ok' := (fun k_ => ((fun k_ => (w.heap.size ≤ k_))) k_ ∧ some k_ ≠ (u5 : Value).ownBlock)) (HO223.out) (fun k_ hk => ⟨hk.1, hk.2⟩))))); (case aB => exact (by repeat (first | (with_reducible first | exact HB.out | apply bA_ | apply bN_ | apply b1_) | exact HB.out))); (case aF => exact (fun k_ hk => (Nat.le_trans (below_size (by repeat (first | (with_reducible first | exact HB.out | apply bA_ | apply bN_ | apply b1_) | exact HB.out))) hk))); (case aO => exact (by (with_reducible repeat (first | apply Kd.nA_ | apply Kd.nN_ | apply Kd.nD_)); exact Kd.N_mono HO_5.out (fun _ hk => hk.1.1))); (case aS => exact (below_size (by repeat (first | (with_reducible first | exact HB.out | apply bA_ | apply bN_ | apply b1_) | exact HB.out)))); (case aL => have := LMc6.out; omega); intro v225 w11 ho hb hg hat; rw [← Ny224.out] at ho; have n0_ := Aside0.mk (hb); have n1_ := Aside0.mk (ho); clear HB; clear HO_5; clear HO223; have HB := n0_; have HO226 := n1_; clear n0_ n1_; clear ho hb hg hat))
         go_roundg k1
         case measure => have := HK1.out; omega
         case rel => exact ⟨(y224), (wrap64 (x6_1 + 1)), (by first | rfl | (simp; done) | (simp [*]; done)), H', ⟨by have := HK1.out; omega⟩, ⟨by (with_reducible repeat (first | apply Kd.nA_ | apply Kd.nN_ | apply Kd.nD_)); exact HO226.out⟩, ⟨by repeat (first | (with_reducible first | exact HB.out | apply bA_ | apply bN_ | apply b1_) | exact HB.out)⟩⟩
       · rw [if_neg c6] at H
         exact absurd H (by simp)
     · rw [if_neg c4] at H
       exact absurd H (by simp)
   · rw [if_neg c3] at H
     have c3b0 : decide (x6_1 < (l0.length : Int)) = false := dF_ c3
     clear c3
     have H' := Aside0.mk H
     clear H
     go_wp2
     go_loopg [5] k1 (fun kq v5 w' => ∃ (x5_2 : List (List (List (S36)))), Aside0 (r6_full.l1 kq l1 x5_2 = some r) ∧ Aside0 (kq ≤ k1) ∧ Aside0 (Kd.N (Kd.slice 53 (Kd.slice 36 k36)) 22 w' w.heap.size (fun k_ => (w.heap.size ≤ k_)) v5 x5_2) ∧ Aside0 (Below w.heap.size w w'))
     case atStart => exact ⟨(x5_1), H', ⟨Nat.le_refl _⟩, ⟨by (with_reducible repeat (first | apply Kd.nA_ | apply Kd.nN_ | apply Kd.nD_)); exact HO_5.out⟩, ⟨by repeat (first | (with_reducible first | exact HB.out | apply bA_ | apply bN_ | apply b1_) | exact HB.out)⟩⟩
     case round =>
      clear H'
      try clear c1
      try clear c2
      try clear p2
      try clear q2
      try clear hx2
      try clear c3
      try clear c3b0
      try clear c4
      try clear c4b0
      try clear c6
      try clear p6
      try clear c8
      try clear hx217_0
      try clear p2
      try clear p217
      try clear q217
      obtain ⟨x5_2, HA, HK2, HO_5, HB⟩ := hrel
      cases gk with
      | zero => exact absurd HA.out (by simp [r6_full.l1])
      | succ k2 =>
       have H := HA.out
       clear HA
       simp only [r6_full.l1] at H
       by_cases c13 : (x5_2.length : Int) > 1
       · rw [if_pos c13] at H
         have c13b0 : decide (1 < (x5_2.length : Int)) = true := dT_ c13
         have c13b1 : decide (1 < x5_2.length) = true := dT_ (by omega)
         clear c13
         have H' := Aside0.mk H
         clear H
         obtain ⟨Ao14, co14, eo14⟩ := Kd.N_slice HO_5.out
         subst eo14
         go_wp2
         go_loopg [7, 8] k2 (fun kq v7 v8 w' => ∃ (x7_3 : List (List (List (S36)))) (x8_3 : Int), v8 = .int .i64 x8_3 ∧ Aside0 (r6_full.l2 kq l1 x5_2 x7_3 x8_3 = some r) ∧ Aside0 (kq ≤ k2) ∧ Aside0 (Kd.N (Kd.slice 53 (Kd.slice 36 k36)) 22 w' w.heap.size (fun k_ => (w.heap.size ≤ k_) ∧ some k_ ≠ (v7 : Value).ownBlock) (.slice Ao14 x5_2.length co14) x5_2) ∧ Aside0 (Kd.N (Kd.slice 53 (Kd.slice 36 k36)) 22 w' w.heap.size (fun k_ => (w.heap.size ≤ k_) ∧ some k_ ≠ ((.slice Ao14 x5_2.length co14) : Value).ownBlock) v7 x7_3) ∧ Aside0 (Below w.heap.size w w'))
         case atStart => exact ⟨(([] : List (List (List (S36))))), (0), (by first | rfl | (simp; done) | (simp [*]; done)), H', ⟨Nat.le_refl _⟩, ⟨by (with_reducible repeat (first | apply Kd.nA_ | apply Kd.nN_ | apply Kd.nD_)); exact Kd.N_mono HO_5.out (fun _ hk => ⟨hk, (by simp [Value.ownBlock])⟩)⟩, ⟨by first | exact Kd.R_nil _ _ _ _ _ | exact Kd.N_nil _ _ _ _ _ | exact Kd.V_nil _ _ _ _ _ | exact Kd.Q_nil _ _ _ _ _ | exact Kd.S_nil _ _ _ _ _⟩, ⟨by repeat (first | (with_reducible first | exact HB.out | apply bA_ | apply bN_ | apply b1_) | exact HB.out)⟩⟩
         case round =>
          clear H'
          try clear c1
          try clear c2
          try clear p2
          try clear q2
          try clear hx2
          try clear c3
          try clear c3b0
          try clear c4
          try clear c4b0
          try clear c6
          try clear p6
          try clear c8
          try clear c13
          try clear c13b0
          try clear c13b1
          try clear hx217_0
          try clear p2
          try clear p217
          try clear p6
          try clear q2
          try clear q217
          obtain ⟨x7_3, x8_3, rfl, HA, HK3, HO_5, HO_7, HB⟩ := hrel
          cases gk with
          | zero => exact absurd HA.out (by simp [r6_full.l2])
          | succ k3 =>
           have H := HA.out
           clear HA
           simp only [r6_full.l2] at H
           by_cases c15 : x8_3 < (x5_2.length : Int)
           · rw [if_pos c15] at H
             have c15b0 : decide (x8_3 < (x5_2.length : Int)) = true := dT_ c15
             clear c15
             by_cases c16 : (wrap64 (x8_3 + 1)) < (x5_2.length : Int)
             · rw [if_pos c16] at H
               have c16b0 : decide ((wrap64 (x8_3 + 1)) < (x5_2.length : Int)) = true := dT_ c16
               clear c16
               by_cases c17 : 0 ≤ x8_3
               · rw [if_pos c17] at H
                 have c17b0 : decide (0 ≤ x8_3) = true := dT_ c17
                 clear c17
                 obtain ⟨ji18, hji18⟩ : ∃ j_ : Int, (wrap64 (x8_3 + 1)) = j_ := ⟨_, rfl⟩
                 replace H : (if 0 ≤ (ji18) then ((r6_merge.f k3 (rd_L7 x5_2 x8_3) (rd_L7 x5_2 (ji18)) l1).bind fun t230 => (if x7_3.length < 5864062014805 then (r6_full.l2 k3 l1 x5_2 (x7_3 ++ [t230]) (wrap64 (x8_3 + 2))) else (none))) else (none)) = some r := by first | (rw [hji18] at H; exact H) | (simp only [hji18] at H ⊢; exact H)
                 (try rw [hji18] at c16b0)
                 have hji18w : (IntKind.i64.wrap (x8_3 + 1)) = ji18 := (i64_w _).trans hji18
                 by_cases c19 : 0 ≤ (ji18)
                 · rw [if_pos c19] at H
                   have c19b0 : decide (0 ≤ (ji18)) = true := dT_ c19
                   clear c19
                   replace H := Option.bind_eq_some_iff.mp H
                   obtain ⟨t230, A200, H⟩ := H
                   replace H : (if x7_3.length < 5864062014805 then (r6_full.l2 k3 l1 x5_2 (x7_3 ++ [t230]) (wrap64 (x8_3 + 2))) else (none)) = some r := H
                   have A20 := Aside0.mk A200
                   clear A200
                   by_cases c21 : x7_3.length < 5864062014805
                   · rw [if_pos c21] at H
                     have LMc21 := Aside0.mk c21
                     clear c21
                     obtain ⟨y233, hy233⟩ : ∃ y_ : List (List (List (S36))), y_ = (x7_3 ++ [t230]) := ⟨_, rfl⟩
                     replace H : (r6_full.l2 k3 l1 x5_2 y233 (wrap64 (x8_3 + 2))) = some r := by first | (rw [hy233]; with_reducible exact H) | (have H2_ := (Option.bind_some _ _).symm.trans H; rw [hy233]; with_reducible exact H2_) | (have H2_ := (Option.bind_some _ _).symm.trans H; with_reducible exact H2_) | with_reducible exact H | (rw [hy233]; exact H) | exact H
                     have Ny233 := Aside0.mk hy233
                     clear hy233
                     have H' := Aside0.mk H
                     clear H
                     try go_wp2
                     have n0_ := Aside0.mk (Kd.nD_ HO_5.out)
                     have n1_ := Aside0.mk (Kd.nD_ HO_7.out)
                     have n2_ := Aside0.mk (b1_ HB.out)
                     clear HO_5
                     clear HO_7
                     clear HB
                     have HO_5 := n0_
                     have HO_7 := n1_
                     have HB := n2_
                     clear n0_ n1_ n2_
                     have p228 : 0 ≤ (x8_3 : Int) := oT_ (by assumption)
                     have q228 : x8_3 < (x5_2.length : Int) := oT_ (by assumption)
                     obtain ⟨ad228, A228_0, c228_0, e228, hx228_0, hl228_0, hi228_0⟩ := at_L7 (Kd.N_reads' HO_5.out).2.2 x8_3 p228 q228
                     cases e228
                     obtain ⟨ce228, hce228, hMe228, hcc228⟩ := Kd.N_get HO_5.out [] x8_3 p228 (by first | exact q228 | exact oT_ (by assumption) | (have e_ := (Kd.N_reads' HO_5.out).1; omega))
                     obtain ⟨ua228_0, uc228_0, rfl, ul228_0, ge228_0⟩ := Kd.FK_slice_open hMe228
                     have hv228_0 := hcc228 0 _ rfl
                     rw [Nat.add_zero, show ((Kd.slice 53 (Kd.slice 36 k36))).sz = 1 from rfl, Nat.mul_one] at hv228_0
                     replace hv228_0 := Option.some.inj (hv228_0.symm.trans hx228_0)
                     injection hv228_0 with hva_ hvn_ hvc_
                     rw [hva_] at ge228_0
                     rw [hvc_] at ul228_0
                     have HL228_0 := Aside0.mk (show Kd.V (Kd.slice 36 k36) 53 _ w.heap.size _ _ (rd_L7 x5_2 x8_3) from Kd.V_mk ul228_0 ge228_0)
                     clear hva_ hvn_ hvc_ ge228_0 ul228_0
                     clear hcc228 hce228
                     have HR228_0 := Aside0.mk hi228_0
                     have HC228_0 := Aside0.mk hl228_0
                     clear hi228_0 hl228_0
                     replace p228 := eq_true p228
                     replace q228 := eq_true q228
                     have p229 : 0 ≤ ((ji18) : Int) := oT_ (by assumption)
                     have q229 : (ji18) < (x5_2.length : Int) := oT_ (by assumption)
                     obtain ⟨ad229, A229_0, c229_0, e229, hx229_0, hl229_0, hi229_0⟩ := at_L7 (Kd.N_reads' HO_5.out).2.2 (ji18) p229 q229
                     obtain rfl : ad228 = ad229 := (by injection e229)
                     obtain ⟨ce229, hce229, hMe229, hcc229⟩ := Kd.N_get HO_5.out [] (ji18) p229 (by first | exact q229 | exact oT_ (by assumption) | (have e_ := (Kd.N_reads' HO_5.out).1; omega))
                     obtain ⟨ua229_0, uc229_0, rfl, ul229_0, ge229_0⟩ := Kd.FK_slice_open hMe229
                     have hv229_0 := hcc229 0 _ rfl
                     rw [Nat.add_zero, show ((Kd.slice 53 (Kd.slice 36 k36))).sz = 1 from rfl, Nat.mul_one] at hv229_0
                     replace hv229_0 := Option.some.inj (hv229_0.symm.trans hx229_0)
                     injection hv229_0 with hva_ hvn_ hvc_
                     rw [hva_] at ge229_0
                     rw [hvc_] at ul229_0
                     have HL229_0 := Aside0.mk (show Kd.V (Kd.slice 36 k36) 53 _ w.heap.size _ _ (rd_L7 x5_2 (ji18)) from Kd.V_mk ul229_0 ge229_0)
                     clear hva_ hvn_ hvc_ ge229_0 ul229_0
                     clear hcc229 hce229
                     have HR229_0 := Aside0.mk hi229_0
                     have HC229_0 := Aside0.mk hl229_0
                     clear hi229_0 hl229_0
                     replace p229 := eq_true p229
                     replace q229 := eq_true q229
                     refine start_ (n := 15) (S := fun w' => w'.cell? (ad228.add (x8_3).toNat) = some (.slice A228_0 (rd_L7 x5_2 x8_3).length c228_0) ∧ w'.cell? (ad228.add ((ji18)).toNat) = some (.slice A229_0 (rd_L7 x5_2 (ji18)).length c229_0)) (ds := [12, 13]) #[X_,X_,X_,X_,X_,X_,X_,X_,X_,X_,X_,X_,X_,X_,X_] (by kernel_rfl) rfl rfl ⟨hx228_0, hx229_0⟩ (fun hHeld => ?_); refine with_tabW r6_full.tab12 r6_full.bits12 (fun HT_ HW_ => ?_)
                     generalize wr.drew = w22 at HO_5 HO_7 HB HL228_0 HL229_0 HR228_0 HR229_0 hx228_0 hx229_0 hHeld ⊢
                     refine pure_ (i := 0) (N := some 38) (v := ?_) (a' := ?_) #[Y_,X_,X_,X_,X_,X_,X_,X_,X_,X_,X_,X_,X_,X_,X_] rfl rfl (any_of HT_.out (by kernel_rfl)) (fun _ _ _ h => h) (Or.inl ⟨by rfl, ?_⟩) ?_ ?_
                     rotate_left
                     · intro w'
                       go_simp
                       with_reducible rfl
                     rotate_left
                     · simp only [Act.put, sTA_, sCZ_, sCS_, i64_w, i32_w]
                       rfl
                     refine pure_ (i := 1) (N := some 39) (v := ?_) (a' := ?_) #[Y_,Y_,X_,X_,X_,X_,X_,X_,X_,X_,X_,X_,X_,X_,X_] rfl rfl (any_of HT_.out (by kernel_rfl)) (fun _ _ _ h => h) (Or.inl ⟨by rfl, ?_⟩) ?_ ?_
                     rotate_left
                     · intro w'
                       go_simp
                       with_reducible rfl
                     rotate_left
                     · simp only [Act.put, sTA_, sCZ_, sCS_, i64_w, i32_w]
                       rfl
                     refine pure_ (i := 2) (N := some 40) (v := ?_) (a' := ?_) #[Y_,Y_,Y_,X_,X_,X_,X_,X_,X_,X_,X_,X_,X_,X_,X_] rfl rfl (any_of HT_.out (by kernel_rfl)) (fun _ _ _ h => h) (Or.inl ⟨by rfl, ?_⟩) ?_ ?_
                     rotate_left
                     · intro w'
                       go_simp
                       with_reducible rfl
                     rotate_left
                     · simp only [Act.put, sTA_, sCZ_, sCS_, i64_w, i32_w]
                       rfl
                     refine pure_ (i := 3) (N := some 41) (v := ?_) (a' := ?_) #[Y_,Y_,Y_,Y_,X_,X_,X_,X_,X_,X_,X_,X_,X_,X_,X_] rfl rfl (any_of HT_.out (by kernel_rfl)) (fun _ _ _ h => h) (Or.inl ⟨by rfl, ?_⟩) ?_ ?_
                     rotate_left
                     · intro w'
                       go_simp
                       with_reducible rfl
                     rotate_left
                     · simp only [Act.put, sTA_, sCZ_, sCS_, i64_w, i32_w]
                       rfl
                     refine pure_ (i := 5) (N := some 43) (v := ?_) (a' := ?_) #[Y_,Y_,Y_,Y_,X_,Y_,X_,X_,X_,X_,X_,X_,X_,X_,X_] rfl rfl (any_of HT_.out (by kernel_rfl)) (fun _ _ _ h => h) (Or.inl ⟨by rfl, ?_⟩) ?_ ?_
                     rotate_left
                     · intro w'
                       go_simp
                       with_reducible rfl
                     rotate_left
                     · simp only [Act.put, sTA_, sCZ_, sCS_, i64_w, i32_w]
                       rfl
                     refine pure_ (i := 6) (N := some 44) (v := ?_) (a' := ?_) #[Y_,Y_,Y_,Y_,X_,Y_,Y_,X_,X_,X_,X_,X_,X_,X_,X_] rfl rfl (any_of HT_.out (by kernel_rfl)) (fun _ _ _ h => h) (Or.inl ⟨by rfl, ?_⟩) ?_ ?_
                     rotate_left
                     · intro w'
                       go_simp
                       with_reducible rfl
                     rotate_left
                     · simp only [Act.put, sTA_, sCZ_, sCS_, i64_w, i32_w]
                       rfl
                     refine pure_ (i := 7) (N := some 45) (v := ?_) (a' := ?_) #[Y_,Y_,Y_,Y_,X_,Y_,Y_,Y_,X_,X_,X_,X_,X_,X_,X_] rfl rfl (any_of HT_.out (by kernel_rfl)) (fun _ _ _ h => h) (Or.inl ⟨by rfl, ?_⟩) ?_ ?_
                     rotate_left
                     · intro w'
                       go_simp
                       with_reducible rfl
                     rotate_left
                     · simp only [Act.put, sTA_, sCZ_, sCS_, i64_w, i32_w]
                       rfl
                     refine pure_ (i := 8) (N := some 46) (v := ?_) (a' := ?_) #[Y_,Y_,Y_,Y_,X_,Y_,Y_,Y_,Y_,X_,X_,X_,X_,X_,X_] rfl rfl (any_of HT_.out (by kernel_rfl)) (fun _ _ _ h => h) (Or.inl ⟨by rfl, ?_⟩) ?_ ?_
                     rotate_left
                     · intro w'
                       go_simp
                       with_reducible rfl
                     rotate_left
                     · simp only [Act.put, sTA_, sCZ_, sCS_, i64_w, i32_w]
                       rfl
                     refine pure_ (i := 10) (N := some 48) (v := ?_) (a' := ?_) #[Y_,Y_,Y_,Y_,X_,Y_,Y_,Y_,Y_,X_,Y_,X_,X_,X_,X_] rfl rfl (any_of HT_.out (by kernel_rfl)) (fun _ _ _ h => h) (Or.inl ⟨by rfl, ?_⟩) ?_ ?_
                     rotate_left
                     · intro w'
                       go_simp
                       with_reducible rfl
                     rotate_left
                     · simp only [Act.put, sTA_, sCZ_, sCS_, i64_w, i32_w]
                       rfl
                     refine take_ (i := 4) (N := some 42) (v := ?_) (a' := ?_) #[Y_,Y_,Y_,Y_,Y_,Y_,Y_,Y_,Y_,X_,Y_,X_,X_,X_,X_] rfl rfl (take_ofW HT_.out HW_.out (by kernel_rfl)) (fun _ _ _ h => h) (Or.inl ⟨by rfl, ?_⟩) hHeld ?_ ?_
                     rotate_left
                     · rintro w' ⟨s0, s1⟩
                       go_simp
                       with_reducible rfl
                     rotate_left
                     · simp only [Act.put, sTA_, sCZ_, sCS_, i64_w, i32_w]
                       rfl
                     refine take_ (i := 9) (N := some 47) (v := ?_) (a' := ?_) #[Y_,Y_,Y_,Y_,Y_,Y_,Y_,Y_,Y_,Y_,Y_,X_,X_,X_,X_] rfl rfl (take_ofW HT_.out HW_.out (by kernel_rfl)) (fun _ _ _ h => h) (Or.inl ⟨by rfl, ?_⟩) hHeld ?_ ?_
                     rotate_left
                     · rintro w' ⟨s0, s1⟩
                       go_simp
                       with_reducible rfl
                     rotate_left
                     · simp only [Act.put, sTA_, sCZ_, sCS_, i64_w, i32_w]
                       rfl
                     refine one_ (i := 11) (N := some 49) #[Y_,Y_,Y_,Y_,Y_,Y_,Y_,Y_,Y_,Y_,Y_,Y_,X_,X_,X_] rfl rfl (one_of HT_.out (by kernel_rfl)) (by decide) (fun K hK => ?_)
                     refine goes_ Tryz.func89 (by kernel_rfl) rfl #[.slice A228_0 (rd_L7 x5_2 x8_3).length c228_0, .slice A229_0 (rd_L7 x5_2 (ji18)).length c229_0, .slice A1 l1.length c1] (by rfl) rfl rfl (by (try simp only [List.map_toArray, List.map_cons, List.map_nil]); first | done | (simp only [hji18]; rfl) | rfl | (simp only [List.length_drop, List.length_take]; rfl)) ?_
                     with_reducible refine (r6_merge.calls k3 (fun k_ => (((w.heap.size ≤ k_) ∧ some k_ ≠ (u7 : Value).ownBlock) ∧ some k_ ≠ (.slice (some ad228) x5_2.length co14 : Value).ownBlock)) _ _ (rd_L7 x5_2 x8_3) (fun k_ => (((w.heap.size ≤ k_) ∧ some k_ ≠ (u7 : Value).ownBlock) ∧ some k_ ≠ (.slice (some ad228) x5_2.length co14 : Value).ownBlock)) _ _ (rd_L7 x5_2 (ji18)) _ _ l1 t230 _ ?side1 ?side2 ?side3 ?side4 A20.out).mono ?_
                     (case side1 => exact HL228_0.out)
                     (case side2 => exact HL229_0.out)
                     (case side3 => repeat (first | exact (Kd.C_below HR1.out HB.out) | (with_reducible refine Kd.cA_ ?_ _) | (with_reducible refine Kd.cN_ ?_ _) | (with_reducible refine Kd.cD_ ?_)))
                     (case side4 => exact HC1.out)
                     rintro e w23 ⟨v231, rfl, ho0, hb⟩
                     have HS0_ := (hb.cell (bLC_ _ _ (hHeld.1))).trans (hHeld.1)
                     have HS1_ := (hb.cell (bLC_ _ _ (hHeld.2))).trans (hHeld.2)
                     refine ⟨_, rfl, ?_⟩
                     have n0_ := Aside0.mk (Kd.N_elder' (by (with_reducible repeat (first | apply Kd.nA_ | apply Kd.nN_ | apply Kd.nD_)); exact HO_5.out) (Kd.N_base ho0) hb)
                     have n1_ := Aside0.mk (Kd.N_elder' (by (with_reducible repeat (first | apply Kd.nA_ | apply Kd.nN_ | apply Kd.nD_)); exact HO_7.out) (Kd.N_base ho0) hb)
                     have n2_ := Aside0.mk (Kd.V_elder' (by (with_reducible repeat (first | apply Kd.vA_ | apply Kd.vN_ | apply Kd.vD_)); exact HL228_0.out) (Kd.N_base ho0) hb)
                     have n3_ := Aside0.mk (Kd.V_elder' (by (with_reducible repeat (first | apply Kd.vA_ | apply Kd.vN_ | apply Kd.vD_)); exact HL229_0.out) (Kd.N_base ho0) hb)
                     have n4_ := Aside0.mk (Kd.N_lower (Kd.N_mono (ok' := fun k_ => (w.heap.size ≤ k_) ∧ some k_ ≠ (.slice (some ad228) x5_2.length co14 : Value).ownBlock ∧ some k_ ≠ (u7 : Value).ownBlock) ho0 (fun k_ hk_ => ⟨Or.elim hk_ (fun hs_ => Or.elim hs_ (fun hs_ => hs_.1.1) (fun hs_ => hs_.1.1)) (fun hn_ => (Nat.le_trans (below_size (by repeat (first | (with_reducible first | exact HB.out | apply bA_ | apply bN_ | apply b1_) | exact HB.out))) hn_)), Or.elim hk_ (fun hs_ => Or.elim hs_ (fun hs_ => hs_.2) (fun hs_ => hs_.2)) (fun hn_ => (Kd.fresh' (Kd.N_lt (by (with_reducible repeat (first | apply Kd.nA_ | apply Kd.nN_ | apply Kd.nD_)); exact HO_5.out)) k_ hn_)), Or.elim hk_ (fun hs_ => Or.elim hs_ (fun hs_ => hs_.1.2) (fun hs_ => hs_.1.2)) (fun hn_ => (Kd.fresh' (Kd.N_lt (by (with_reducible repeat (first | apply Kd.nA_ | apply Kd.nN_ | apply Kd.nD_)); exact HO_7.out)) k_ hn_))⟩)) (below_size (by repeat (first | (with_reducible first | exact HB.out | apply bA_ | apply bN_ | apply b1_) | exact HB.out))))
                     have n5_ := Aside0.mk (Kd.C_below (by repeat (first | (with_reducible exact HR228_0.out) | (with_reducible refine Kd.cA_ ?_ _) | (with_reducible refine Kd.cN_ ?_ _) | (with_reducible refine Kd.cD_ ?_) | exact HR228_0.out)) hb)
                     have n6_ := Aside0.mk (Kd.C_below (by repeat (first | (with_reducible exact HR229_0.out) | (with_reducible refine Kd.cA_ ?_ _) | (with_reducible refine Kd.cN_ ?_ _) | (with_reducible refine Kd.cD_ ?_) | exact HR229_0.out)) hb)
                     have n7_ := Aside0.mk (below_step (by repeat (first | (with_reducible first | exact HB.out | apply bA_ | apply bN_ | apply b1_) | exact HB.out)) hb)
                     clear HO_5
                     clear HO_7
                     clear HL228_0
                     clear HL229_0
                     clear HR228_0
                     clear HR229_0
                     clear HB
                     have HO_5 := n0_
                     have HO_7 := n1_
                     have HL228_0 := n2_
                     have HL229_0 := n3_
                     have HO232 := n4_
                     have HR228_0 := n5_
                     have HR229_0 := n6_
                     have HB := n7_
                     clear n0_ n1_ n2_ n3_ n4_ n5_ n6_ n7_
                     (try clear hb)
                     (try clear hb2)
                     (try clear hk)
                     (try clear hi)
                     (try clear ho0)
                     obtain ⟨Ao25, co25, eo25⟩ := Kd.N_slice HO232.out
                     (first | subst eo25 | (injection eo25 with f1_ f2_ f3_; have f4_ := f1_.symm; have f5_ := f3_.symm; clear f1_ f2_ f3_; subst f4_; subst f5_))
                     refine hK.out _ _ ⟨HS0_, HS1_⟩ (fun hHeld => ?_)
                     clear hK K
                     refine norm_ (a' := ?_) ?_ ?_
                     rotate_left
                     · show Act.put _ (some 49) _ = _
                       simp only [Act.put, sTA_, sCZ_, sCS_, i64_w, i32_w]
                       rfl
                     refine last_ (i := 12) (N := some 50) #[Y_,Y_,Y_,Y_,Y_,Y_,Y_,Y_,Y_,Y_,Y_,Y_,Y_,X_,X_] rfl rfl (one_of HT_.out (by kernel_rfl)) (by decide) (fun K hK => ?_)
                     refine value_ (w1 := ?_) (v := ?_) (by rfl) rfl ?_ ?_
                     rotate_left 2
                     · go_simp
                       constructor
                       · rfl
                       · rfl
                     refine hK.out _ _ ?_
                     clear hK K
                     refine norm_ (a' := ?_) ?_ ?_
                     rotate_left
                     · show Act.put _ (some 50) _ = _
                       simp only [Act.put, sTA_, sCZ_, sCS_, i64_w, i32_w]
                       rfl
                     refine last_ (i := 13) (N := some 51) #[Y_,Y_,Y_,Y_,Y_,Y_,Y_,Y_,Y_,Y_,Y_,Y_,Y_,Y_,X_] rfl rfl (one_of HT_.out (by kernel_rfl)) (by decide) (fun K hK => ?_)
                     refine Kd.N_append_step (Kd.slice 53 (Kd.slice 36 k36)) (w0 := w) w.heap.size (by rfl) (.tmp 38) (.tmp 50) 56 22 (.slice none 0 0) 24 rfl Tryz.underlying56 info22 rfl (by decide) (by omega) u7 x7_3 t230 [.slice Ao25 t230.length co25] (fun k_ => (w.heap.size ≤ k_) ∧ some k_ ≠ (.slice (some ad228) x5_2.length co14 : Value).ownBlock) (fun k_ => ((fun k_ => (w.heap.size ≤ k_) ∧ some k_ ≠ (.slice (some ad228) x5_2.length co14 : Value).ownBlock)) k_ ∧ some k_ ≠ (u7 : Value).ownBlock) rfl rfl ?aP (fun _ hk => hk) ?aF ?aO ?aB ?aS ?aL ?_
                     (case aP => exact (Kd.FK_slice_mk (Kd.N_reads' (Kd.N_mono (ok' := (fun k_ => ((fun k_ => (w.heap.size ≤ k_) ∧ some k_ ≠ (.slice (some ad228) x5_2.length co14 : Value).ownBlock)) k_ ∧ some k_ ≠ (u7 : Value).ownBlock)) (HO232.out) (fun k_ hk => ⟨⟨hk.1, hk.2.1⟩, hk.2.2⟩))).2.1 (Kd.N_F (Kd.N_mono (ok' := (fun k_ => ((fun k_ => (w.heap.size ≤ k_) ∧ some k_ ≠ (.slice (some ad228) x5_2.length co14 : Value).ownBlock)) k_ ∧ some k_ ≠ (u7 : Value).ownBlock)) (HO232.out) (fun k_ hk => ⟨⟨hk.1, hk.2.1⟩, hk.2.2⟩)))))
                     (case aB => exact (by repeat (first | (with_reducible first | exact HB.out | apply bA_ | apply bN_ | apply b1_) | exact HB.out)))
                     (case aF => exact (fun k_ hk => ⟨(Nat.le_trans (below_size (by repeat (first | (with_reducible first | exact HB.out | apply bA_ | apply bN_ | apply b1_) | exact HB.out))) hk), Kd.fresh' (Kd.N_lt (by (with_reducible repeat (first | apply Kd.nA_ | apply Kd.nN_ | apply Kd.nD_)); exact HO_5.out)) k_ hk⟩))
                     (case aO => exact (by (with_reducible repeat (first | apply Kd.nA_ | apply Kd.nN_ | apply Kd.nD_)); exact Kd.N_mono HO_7.out (fun _ hk => ⟨hk.1.1, hk.1.2⟩)))
                     (case aS => exact (below_size (by repeat (first | (with_reducible first | exact HB.out | apply bA_ | apply bN_ | apply b1_) | exact HB.out))))
                     (case aL => have := LMc21.out; omega)
                     intro v234 w24 ho hb hg hat
                     rw [← Ny233.out] at ho
                     have n0_ := Aside0.mk (Kd.N_afterv (ok := (fun k_ => (w.heap.size ≤ k_) ∧ some k_ ≠ (.slice Ao25 t230.length co25 : Value).ownBlock)) (by (with_reducible repeat (first | apply Kd.nA_ | apply Kd.nN_ | apply Kd.nD_)); exact Kd.N_mono HO_5.out (fun _ hk => ⟨⟨hk.1.1, hk.2⟩, hk.1.2⟩)) hg hat)
                     have n1_ := Aside0.mk (Kd.V_afterv (ok := (fun k_ => (w.heap.size ≤ k_) ∧ some k_ ≠ (.slice (some ad228) x5_2.length co14 : Value).ownBlock ∧ some k_ ≠ (.slice Ao25 t230.length co25 : Value).ownBlock)) (by (with_reducible repeat (first | apply Kd.vA_ | apply Kd.vN_ | apply Kd.vD_)); exact Kd.V_mono HL228_0.out (fun _ hk => ⟨⟨hk.1.1.1, ⟨hk.1.2, hk.2⟩⟩, hk.1.1.2⟩)) hg hat)
                     have n2_ := Aside0.mk (Kd.V_afterv (ok := (fun k_ => (w.heap.size ≤ k_) ∧ some k_ ≠ (.slice (some ad228) x5_2.length co14 : Value).ownBlock ∧ some k_ ≠ (.slice Ao25 t230.length co25 : Value).ownBlock)) (by (with_reducible repeat (first | apply Kd.vA_ | apply Kd.vN_ | apply Kd.vD_)); exact Kd.V_mono HL229_0.out (fun _ hk => ⟨⟨hk.1.1.1, ⟨hk.1.2, hk.2⟩⟩, hk.1.1.2⟩)) hg hat)
                     have n3_ := Aside0.mk (hb)
                     have n4_ := Aside0.mk (ho)
                     clear HO_5
                     clear HL228_0
                     clear HL229_0
                     clear HB
                     clear HO_7
                     clear HO232
                     have HO_5 := n0_
                     have HL228_0 := n1_
                     have HL229_0 := n2_
                     have HB := n3_
                     have HO235 := n4_
                     clear n0_ n1_ n2_ n3_ n4_
                     clear ho hb hg hat
                     refine hK.out _ _ ?_
                     clear hK K
                     refine norm_ (a' := ?_) ?_ ?_
                     rotate_left
                     · show Act.put _ (some 51) _ = _
                       simp only [Act.put, sTA_, sCZ_, sCS_, i64_w, i32_w]
                       rfl
                     refine pure_ (i := 14) (N := some 7) (v := ?_) (a' := ?_) #[Y_,Y_,Y_,Y_,Y_,Y_,Y_,Y_,Y_,Y_,Y_,Y_,Y_,Y_,Y_] rfl rfl (any_of HT_.out (by kernel_rfl)) (fun _ _ _ h => h) (Or.inl ⟨by rfl, ?_⟩) ?_ ?_
                     rotate_left
                     · intro w'
                       go_simp
                       with_reducible rfl
                     rotate_left
                     · simp only [Act.put, sTA_, sCZ_, sCS_, i64_w, i32_w]
                       rfl
                     refine done_ (done_of HT_.out (by kernel_rfl)) ?_
                     try go_wp2
                     go_roundg k3
                     case measure => have := HK1.out; have := HK2.out; have := HK3.out; omega
                     case rel => exact ⟨(y233), (wrap64 (x8_3 + 2)), (by first | rfl | (simp; done) | (simp [*]; done)), H', ⟨by have := HK1.out; have := HK2.out; have := HK3.out; omega⟩, ⟨by (with_reducible repeat (first | apply Kd.nA_ | apply Kd.nN_ | apply Kd.nD_)); exact Kd.N_mono HO_5.out (fun _ hk => ⟨hk.1.1, hk.2⟩)⟩, ⟨by (with_reducible repeat (first | apply Kd.nA_ | apply Kd.nN_ | apply Kd.nD_)); exact HO235.out⟩, ⟨by repeat (first | (with_reducible first | exact HB.out | apply bA_ | apply bN_ | apply b1_) | exact HB.out)⟩⟩
                   · rw [if_neg c21] at H
                     exact absurd H (by simp)
                 · rw [if_neg c19] at H
                   exact absurd H (by simp)
               · rw [if_neg c17] at H
                 exact absurd H (by simp)
             · rw [if_neg c16] at H
               have c16b0 : decide ((wrap64 (x8_3 + 1)) < (x5_2.length : Int)) = false := dF_ c16
               clear c16
               by_cases c26 : 0 ≤ x8_3
               · rw [if_pos c26] at H
                 have c26b0 : decide (0 ≤ x8_3) = true := dT_ c26
                 clear c26
                 by_cases c27 : x7_3.length < 5864062014805
                 · rw [if_pos c27] at H
                   have LMc27 := Aside0.mk c27
                   clear c27
                   obtain ⟨y237, hy237⟩ : ∃ y_ : List (List (List (S36))), y_ = (x7_3 ++ [rd_L7 x5_2 x8_3]) := ⟨_, rfl⟩
                   replace H : (r6_full.l2 k3 l1 x5_2 y237 (wrap64 (x8_3 + 2))) = some r := by first | (rw [hy237]; with_reducible exact H) | (have H2_ := (Option.bind_some _ _).symm.trans H; rw [hy237]; with_reducible exact H2_) | (have H2_ := (Option.bind_some _ _).symm.trans H; with_reducible exact H2_) | with_reducible exact H | (rw [hy237]; exact H) | exact H
                   have Ny237 := Aside0.mk hy237
                   clear hy237
                   have H' := Aside0.mk H
                   clear H
                   have p236 : 0 ≤ (x8_3 : Int) := oT_ (by assumption)
                   have q236 : x8_3 < (x5_2.length : Int) := oT_ (by assumption)
                   obtain ⟨ad236, A236_0, c236_0, e236, hx236_0, hl236_0, hi236_0⟩ := at_L7 (Kd.N_reads' HO_5.out).2.2 x8_3 p236 q236
                   cases e236
                   obtain ⟨ce236, hce236, hMe236, hcc236⟩ := Kd.N_get HO_5.out [] x8_3 p236 (by first | exact q236 | exact oT_ (by assumption) | (have e_ := (Kd.N_reads' HO_5.out).1; omega))
                   obtain ⟨ua236_0, uc236_0, rfl, ul236_0, ge236_0⟩ := Kd.FK_slice_open hMe236
                   have hv236_0 := hcc236 0 _ rfl
                   rw [Nat.add_zero, show ((Kd.slice 53 (Kd.slice 36 k36))).sz = 1 from rfl, Nat.mul_one] at hv236_0
                   replace hv236_0 := Option.some.inj (hv236_0.symm.trans hx236_0)
                   injection hv236_0 with hva_ hvn_ hvc_
                   rw [hva_] at ge236_0
                   rw [hvc_] at ul236_0
                   have HL236_0 := Aside0.mk (show Kd.V (Kd.slice 36 k36) 53 _ w.heap.size _ _ (rd_L7 x5_2 x8_3) from Kd.V_mk ul236_0 ge236_0)
                   clear hva_ hvn_ hvc_ ge236_0 ul236_0
                   clear hcc236 hce236
                   have HR236_0 := Aside0.mk hi236_0
                   have HC236_0 := Aside0.mk hl236_0
                   clear hi236_0 hl236_0
                   replace p236 := eq_true p236
                   replace q236 := eq_true q236
                   go_wp2_with (first | ((with_reducible refine gate_builtin (b := .append) (xs := #[.tmp 52, .tmp 57]) rfl ?_); at_builtin; refine Kd.N_append (Kd.slice 53 (Kd.slice 36 k36)) (w0 := w) w.heap.size rfl (.tmp 52) (.tmp 57) 56 22 (.slice none 0 0) 24 rfl Tryz.underlying56 info22 rfl (by decide) (by omega) u7 x7_3 (rd_L7 x5_2 x8_3) [.slice A236_0 (rd_L7 x5_2 x8_3).length c236_0] (fun k_ => (w.heap.size ≤ k_) ∧ some k_ ≠ (.slice (some ad236) x5_2.length co14 : Value).ownBlock) (fun k_ => ((fun k_ => (w.heap.size ≤ k_) ∧ some k_ ≠ (.slice (some ad236) x5_2.length co14 : Value).ownBlock)) k_ ∧ some k_ ≠ (u7 : Value).ownBlock) rfl rfl ?aP (fun _ hk => hk) ?aF ?aO ?aB ?aS ?aL ?_; (case aP => exact (Kd.FK_slice_mk (Kd.V_reads' (Kd.V_mono (ok' := (fun k_ => ((fun k_ => (w.heap.size ≤ k_) ∧ some k_ ≠ (.slice (some ad236) x5_2.length co14 : Value).ownBlock)) k_ ∧ some k_ ≠ (u7 : Value).ownBlock)) (HL236_0.out) (fun k_ hk => ⟨⟨hk.1.1, hk.2⟩, hk.1.2⟩))).2.1 (Kd.V_F (Kd.V_mono (ok' := (fun k_ => ((fun k_ => (w.heap.size ≤ k_) ∧ some k_ ≠ (.slice (some ad236) x5_2.length co14 : Value).ownBlock)) k_ ∧ some k_ ≠ (u7 : Value).ownBlock)) (HL236_0.out) (fun k_ hk => ⟨⟨hk.1.1, hk.2⟩, hk.1.2⟩))))); (case aB => exact (by repeat (first | (with_reducible first | exact HB.out | apply bA_ | apply bN_ | apply b1_) | exact HB.out))); (case aF => exact (fun k_ hk => ⟨(Nat.le_trans (below_size (by repeat (first | (with_reducible first | exact HB.out | apply bA_ | apply bN_ | apply b1_) | exact HB.out))) hk), Kd.fresh' (Kd.N_lt (by (with_reducible repeat (first | apply Kd.nA_ | apply Kd.nN_ | apply Kd.nD_)); exact HO_5.out)) k_ hk⟩)); (case aO => exact (by (with_reducible repeat (first | apply Kd.nA_ | apply Kd.nN_ | apply Kd.nD_)); exact HO_7.out)); (case aS => exact (below_size (by repeat (first | (with_reducible first | exact HB.out | apply bA_ | apply bN_ | apply b1_) | exact HB.out)))); (case aL => have := LMc27.out; omega); intro v238 w28 ho hb hg hat; rw [← Ny237.out] at ho; have n0_ := Aside0.mk (Kd.N_afterv (ok := (fun k_ => (w.heap.size ≤ k_))) (by (with_reducible repeat (first | apply Kd.nA_ | apply Kd.nN_ | apply Kd.nD_)); exact HO_5.out) hg hat); have n1_ := Aside0.mk (Kd.V_afterv (ok := (fun k_ => (w.heap.size ≤ k_) ∧ some k_ ≠ (.slice (some ad236) x5_2.length co14 : Value).ownBlock)) (by (with_reducible repeat (first | apply Kd.vA_ | apply Kd.vN_ | apply Kd.vD_)); exact Kd.V_mono HL236_0.out (fun _ hk => ⟨⟨hk.1.1, hk.2⟩, hk.1.2⟩)) hg hat); have n2_ := Aside0.mk (hb); have n3_ := Aside0.mk (ho); clear HO_5; clear HL236_0; clear HB; clear HO_7; have HO_5 := n0_; have HL236_0 := n1_; have HB := n2_; have HO239 := n3_; clear n0_ n1_ n2_ n3_; clear ho hb hg hat))
                   go_roundg k3
                   case measure => have := HK1.out; have := HK2.out; have := HK3.out; omega
                   case rel => exact ⟨(y237), (wrap64 (x8_3 + 2)), (by first | rfl | (simp; done) | (simp [*]; done)), H', ⟨by have := HK1.out; have := HK2.out; have := HK3.out; omega⟩, ⟨by (with_reducible repeat (first | apply Kd.nA_ | apply Kd.nN_ | apply Kd.nD_)); exact HO_5.out⟩, ⟨by (with_reducible repeat (first | apply Kd.nA_ | apply Kd.nN_ | apply Kd.nD_)); exact HO239.out⟩, ⟨by repeat (first | (with_reducible first | exact HB.out | apply bA_ | apply bN_ | apply b1_) | exact HB.out)⟩⟩
                 · rw [if_neg c27] at H
                   exact absurd H (by simp)
               · rw [if_neg c26] at H
                 exact absurd H (by simp)
           · rw [if_neg c15] at H
             have c15b0 : decide (x8_3 < (x5_2.length : Int)) = false := dF_ c15
             clear c15
             have H' := Aside0.mk H
             clear H
             go_wp2
             go_roundg k3
             case measure => have := HK1.out; have := HK2.out; have := HK3.out; omega
             case rel => exact ⟨(x7_3), H', ⟨by have := HK1.out; have := HK2.out; have := HK3.out; omega⟩, ⟨by (with_reducible repeat (first | apply Kd.nA_ | apply Kd.nN_ | apply Kd.nD_)); exact Kd.N_mono HO_7.out (fun _ hk => hk.1)⟩, ⟨by repeat (first | (with_reducible first | exact HB.out | apply bA_ | apply bN_ | apply b1_) | exact HB.out)⟩⟩
       · rw [if_neg c13] at H
         have c13b0 : decide (1 < (x5_2.length : Int)) = false := dF_ c13
         have c13b1 : decide (1 < x5_2.length) = false := dF_ (by omega)
         clear c13
         by_cases c29 : (x5_2.length : Int) = 0
         · rw [if_pos c29] at H
           have c29b0 : ((x5_2.length : Int) == 0) = true := beq_iff_eq.mpr c29
           have c29b1 : ((x5_2.length : Int) != 0) = false := bne_eq_false_iff_eq.mpr c29
           clear c29
           obtain rfl := Option.some.inj H
           obtain ⟨Ao30, co30, eo30⟩ := Kd.N_slice HO_5.out
           subst eo30
           go_wp2
           go_ret
           exact ⟨.slice none 0 0, by first | rfl | (simp [*, errW_none, errW_some] <;> rfl), Kd.V_nil _ _ _ _ _, by repeat (first | (with_reducible first | exact HB.out | apply bA_ | apply bN_ | apply b1_) | exact HB.out)⟩
         · rw [if_neg c29] at H
           have c29b0 : ((x5_2.length : Int) == 0) = false := beq_eq_false_iff_ne.mpr c29
           have c29b1 : ((x5_2.length : Int) != 0) = true := bne_iff_ne.mpr c29
           have c29b2 : ¬ (x5_2 = []) := fun h_ => c29 (by rw [h_]; rfl)
           by_cases c31 : 0 < (x5_2.length : Int)
           · rw [if_pos c31] at H
             have c31b0 : decide (0 < (x5_2.length : Int)) = true := dT_ c31
             have c31b1 : decide (0 < x5_2.length) = true := dT_ (by omega)
             clear c31
             obtain rfl := Option.some.inj H
             obtain ⟨Ao32, co32, eo32⟩ := Kd.N_slice HO_5.out
             subst eo32
             have p227 : 0 ≤ (0 : Int) := (by omega)
             have q227 : 0 < (x5_2.length : Int) := oT_ (by assumption)
             obtain ⟨ad227, A227_0, c227_0, e227, hx227_0, hl227_0, hi227_0⟩ := at_L7 (Kd.N_reads' HO_5.out).2.2 0 p227 q227
             cases e227
             obtain ⟨ce227, hce227, hMe227, hcc227⟩ := Kd.N_get HO_5.out [] 0 p227 (by first | exact q227 | exact oT_ (by assumption) | (have e_ := (Kd.N_reads' HO_5.out).1; omega))
             obtain ⟨ua227_0, uc227_0, rfl, ul227_0, ge227_0⟩ := Kd.FK_slice_open hMe227
             have hv227_0 := hcc227 0 _ rfl
             rw [Nat.add_zero, show ((Kd.slice 53 (Kd.slice 36 k36))).sz = 1 from rfl, Nat.mul_one] at hv227_0
             replace hv227_0 := Option.some.inj (hv227_0.symm.trans hx227_0)
             injection hv227_0 with hva_ hvn_ hvc_
             rw [hva_] at ge227_0
             rw [hvc_] at ul227_0
             have HL227_0 := Aside0.mk (show Kd.V (Kd.slice 36 k36) 53 _ w.heap.size _ _ (rd_L7 x5_2 0) from Kd.V_mk ul227_0 ge227_0)
             clear hva_ hvn_ hvc_ ge227_0 ul227_0
             clear hcc227 hce227
             have qi227 : (0 < x5_2.length) = True := eq_true (by omega)
             (try rw [show ((0 : Int)).toNat = 0 from rfl] at hx227_0)
             (try rw [Addr.add_zero'] at hx227_0)
             have HR227_0 := Aside0.mk hi227_0
             have HC227_0 := Aside0.mk hl227_0
             clear hi227_0 hl227_0
             replace p227 := eq_true p227
             replace q227 := eq_true q227
             go_wp2
             go_ret
             exact ⟨_, by first | rfl | (simp [*, errW_none, errW_some] <;> rfl), by (with_reducible repeat (first | apply Kd.vA_ | apply Kd.vN_ | apply Kd.vD_)); exact Kd.V_mono HL227_0.out (fun _ hk => hk.1), by repeat (first | (with_reducible first | exact HB.out | apply bA_ | apply bN_ | apply b1_) | exact HB.out)⟩
           · rw [if_neg c31] at H
             exact absurd H (by simp)
end Go.Proofs.YtecgkcgfeghhgaaGreatDoor.PAll
set_option linter.unusedVariables false
set_option linter.unusedSimpArgs false
namespace Go.Proofs.YtecgkcgfeghhgaaGreatDoor.PAll
open Go.RowKit Go.Proofs.YtecgkcgfeghhgaaGreatDoorW.PrintWords Go.Proofs.YtecgkcgfeghhgaaGreatDoorW.PrintLast Go.Proofs.YtecgkcgfeghhgaaGreatDoorW.PrintMore
theorem ints_eq (a b : Int) : r1_ints.f a b = some (cmpI a b) := by
 unfold r1_ints.f cmpI
 split
 · rfl
 · split <;> rfl
theorem bt_get (s : ByteArray) (i : Nat) (h : i < s.data.toList.length) : bt s (i : Int) = ((s.data.toList[i]).toNat : Int) := by
 have h2 : i < s.size := by rw [Array.length_toList] at h; exact h
 unfold bt
 rw [dif_pos (show ((i : Nat) : Int).toNat < s.size by rw [Int.toNat_natCast]; exact h2)]
 simp only [Int.toNat_natCast]
 rw [Array.getElem_toList]
 rfl
theorem texts_l0 (a b : ByteArray) (ha : a.size ≤ 1099511627776) : ∀ (d i : Nat), i + d = a.size → i ≤ b.size → Ev (fun k => r1_texts.l0 k a b (i : Int)) (Lib.compareBytes (a.data.toList.drop i) (b.data.toList.drop i)) := by
 have ea : a.data.toList.length = a.size := Array.length_toList
 have eb : b.data.toList.length = b.size := Array.length_toList
 intro d
 induction d with
 | zero =>
  intro i hi hb
  rw [List.drop_eq_nil_of_le (show a.data.toList.length ≤ i by omega)]
  refine Ev.step (f := fun k => r1_texts.j1 k a b (i : Int) false) (fun k => by simp only [r1_texts.l0]; rw [if_neg (by omega)]) ?_
  refine Ev.step (f := fun _ => if (a.size : Int) < (b.size : Int) then (some (-1)) else (if (a.size : Int) > (b.size : Int) then (some 1) else (some 0))) (fun k => by simp only [r1_texts.j1]; rw [if_neg (by simp)]) ?_
  by_cases c : i = b.size
  · rw [List.drop_eq_nil_of_le (show b.data.toList.length ≤ i by omega)]
    exact Ev.congr (f := fun _ => some 0) (fun k => by rw [if_neg (by omega), if_neg (by omega)]) (Ev.now _)
  · rw [drop_cons b.data.toList i (by omega)]
    exact Ev.congr (f := fun _ => some (-1)) (fun k => by rw [if_pos (by omega)]) (Ev.now _)
 | succ d ih =>
  intro i hi hb
  have hia : i < a.data.toList.length := by omega
  rw [drop_cons a.data.toList i hia]
  by_cases c : i = b.size
  · rw [List.drop_eq_nil_of_le (show b.data.toList.length ≤ i by omega)]
    refine Ev.step (f := fun k => r1_texts.j1 k a b (i : Int) false) (fun k => by simp only [r1_texts.l0]; rw [if_pos (by omega), decide_eq_false (by omega)]) ?_
    refine Ev.step (f := fun _ => if (a.size : Int) < (b.size : Int) then (some (-1)) else (if (a.size : Int) > (b.size : Int) then (some 1) else (some 0))) (fun k => by simp only [r1_texts.j1]; rw [if_neg (by simp)]) ?_
    exact Ev.congr (f := fun _ => some 1) (fun k => by rw [if_neg (by omega), if_pos (by omega)]) (Ev.now _)
  · have hib : i < b.data.toList.length := by omega
    rw [drop_cons b.data.toList i hib]
    refine Ev.step (f := fun k => r1_texts.j1 k a b (i : Int) true) (fun k => by simp only [r1_texts.l0]; rw [if_pos (by omega), decide_eq_true (by omega)]) ?_
    refine Ev.step (f := fun k => if ((a.data.toList[i]).toNat : Int) < ((b.data.toList[i]).toNat : Int) then some (-1) else if ((a.data.toList[i]).toNat : Int) > ((b.data.toList[i]).toNat : Int) then some 1 else r1_texts.l0 k a b ((i + 1 : Nat) : Int)) (fun k => ?_) ?_
    · simp only [r1_texts.j1]
      rw [if_pos trivial, if_pos (by omega), if_pos (by omega), if_pos (by omega), bt_get a i hia, bt_get b i hib, w64 _ (by omega) (by omega)]
      rfl
    · simp only [Lib.compareBytes, UInt8.lt_iff_toNat_lt]
      by_cases c1 : (a.data.toList[i]).toNat < (b.data.toList[i]).toNat
      · rw [if_pos c1]
        exact Ev.congr (f := fun _ => some (-1)) (fun k => by rw [if_pos (by omega)]) (Ev.now _)
      · rw [if_neg c1]
        by_cases c2 : (b.data.toList[i]).toNat < (a.data.toList[i]).toNat
        · rw [if_pos c2]
          exact Ev.congr (f := fun _ => some 1) (fun k => by rw [if_neg (by omega), if_pos (by omega)]) (Ev.now _)
        · rw [if_neg c2]
          exact Ev.congr (f := fun k => r1_texts.l0 k a b ((i + 1 : Nat) : Int)) (fun k => by rw [if_neg (by omega), if_neg (by omega)]) (ih (i + 1) (by omega) (by omega))
theorem texts_ev (a b : ByteArray) (ha : a.size ≤ 1099511627776) : Ev (fun k => r1_texts.f k a b) (Lib.compareBytes a.data.toList b.data.toList) := by
 have h := texts_l0 a b ha a.size 0 (by omega) (by omega)
 rw [List.drop_zero, List.drop_zero] at h
 exact h
theorem valid_text {v : V} (h : validV v = true) : v.f2.size ≤ 1099511627776 := by
 rcases valid_kind h with h0 | h0 | h0 | h0
 all_goals
  unfold validV at h
  simp [h0] at h
 · rw [noText_eq h.2]; decide
 · rw [noText_eq h]; decide
 · have := h.2; omega
 · rw [noText_eq h.1]; decide
theorem compare_ev (a b : V) (ha : validV a = true) (h0 : 0 ≤ a.f0 ∧ a.f0 ≤ 255) (h1 : 0 ≤ b.f0 ∧ b.f0 ≤ 255) : Ev (fun k => r1_Compare.f k a.f0 a.f1 a.f2 b.f0 b.f1 b.f2) (compareV a b) := by
 have hk : a.f0 = 0 ∨ a.f0 = 1 ∨ a.f0 = 2 ∨ a.f0 = 3 := valid_kind ha
 unfold compareV
 by_cases c : a.f0 = b.f0
 · have e : cmpI a.f0 b.f0 = 0 := by unfold cmpI; rw [if_neg (by omega), if_neg (by omega)]
   rw [if_pos e]
   by_cases c0 : a.f0 = 0
   · rw [if_pos c0]
     exact Ev.congr (f := fun _ => some 0) (fun k => by unfold r1_Compare.f; rw [if_pos c, if_pos c0]) (Ev.now _)
   · rw [if_neg c0]
     by_cases c2 : a.f0 = 2
     · rw [if_pos c2]
       refine Ev.congr (f := fun k => r1_Compare.j0 k a.f0 false a.f0 a.f1 a.f2 b.f0 b.f1 b.f2) (fun k => by unfold r1_Compare.f; rw [if_pos c, if_neg c0, if_neg (by omega), show (a.f0 == 3) = false by simp [c2]]) ?_
       refine Ev.step (f := fun k => (r1_texts.f k a.f2 b.f2).bind fun t => some t) (fun k => by simp only [r1_Compare.j0]; rw [if_neg (by simp), if_pos c2]) ?_
       exact Ev.bind (texts_ev _ _ (valid_text ha)) (Ev.now _)
     · rw [if_neg c2]
       refine Ev.congr (f := fun k => r1_Compare.j0 k a.f0 true a.f0 a.f1 a.f2 b.f0 b.f1 b.f2) (fun k => ?_) ?_
       · unfold r1_Compare.f
         rw [if_pos c, if_neg c0]
         by_cases c1 : a.f0 = 1
         · rw [if_pos c1, show (a.f0 == 1) = true by simp [c1]]
         · rw [if_neg c1, show (a.f0 == 3) = true by simp; omega]
       · refine Ev.step (f := fun _ => some (cmpI a.f1 b.f1)) (fun k => by simp only [r1_Compare.j0]; rw [if_pos trivial, ints_eq]; rfl) (Ev.now _)
 · have e : ¬ cmpI a.f0 b.f0 = 0 := fun h => c (cmpI_zero h)
   rw [if_neg e]
   have w : ∀ x : Int, 0 ≤ x ∧ x ≤ 255 → wrap64 x = x := fun x hx => by unfold wrap64; omega
   exact Ev.congr (f := fun _ => some (cmpI a.f0 b.f0)) (fun k => by unfold r1_Compare.f; rw [if_neg c, ints_eq, w _ h0, w _ h1]; rfl) (Ev.now _)
theorem valid_f0 {v : V} (h : validV v = true) : 0 ≤ v.f0 ∧ v.f0 ≤ 255 := by
 rcases valid_kind h with h0 | h0 | h0 | h0 <;> omega
theorem rdV_mem {xs : List V} {n : Int} (h0 : 0 ≤ n) (h1 : n < (xs.length : Int)) : rd_T36 xs n ∈ xs := by
 have : n.toNat < xs.length := by omega
 have e : rd_T36 xs n = xs[n.toNat] := by simp [rd_T36, List.getElem?_eq_getElem this]
 rw [e]
 exact List.getElem_mem this
theorem compareBy_l0 (a b : List V) (ks : List KeyT) (ha : ∀ v ∈ a, validV v = true) (hb : ∀ v ∈ b, validV v = true) (hka : KeysIn ks a.length) (hkb : KeysIn ks b.length) (hn : ks.length ≤ 1099511627776) : ∀ (d i : Nat), i + d = ks.length →
 Ev (fun k => r6_CompareBy.l0 k a b ks (i : Int)) (cmpBy (ks.drop i) a b) := by
 intro d
 induction d with
 | zero =>
  intro i hi
  rw [List.drop_eq_nil_of_le (by omega)]
  refine Ev.step (f := fun _ => some 0) (fun k => ?_) (Ev.now _)
  simp only [r6_CompareBy.l0]
  rw [if_neg (by omega)]
 | succ d ih =>
  intro i hi
  have hlt : i < ks.length := by omega
  rw [drop_cons ks i hlt]
  obtain ⟨key, hkey⟩ : ∃ key, key = ks[i] := ⟨_, rfl⟩
  have h1 := hka _ (List.getElem_mem hlt)
  have h2 := hkb _ (List.getElem_mem hlt)
  rw [← hkey] at h1 h2 ⊢
  have va := ha _ (rdV_mem h1.1 h1.2)
  have vb := hb _ (rdV_mem h2.1 h2.2)
  have hc := compare_ev _ _ va (valid_f0 va) (valid_f0 vb)
  have hbd := compareV_bd (rd_T36 a key.f0) (rd_T36 b key.f0)
  refine Ev.step (f := fun k => r6_CompareBy.j1 k a b ks (i : Int) key.f0 false) (fun k => ?_) ?_
  · simp only [r6_CompareBy.l0]
    rw [if_pos (by omega), if_pos (by omega), rdK_at hlt, ← hkey, if_neg (by omega), if_neg (by omega), decide_eq_false (by omega)]
  refine Ev.step (f := fun k => (r1_Compare.f k (rd_T36 a key.f0).f0 (rd_T36 a key.f0).f1 (rd_T36 a key.f0).f2 (rd_T36 b key.f0).f0 (rd_T36 b key.f0).f1 (rd_T36 b key.f0).f2).bind fun t => if t = 0 then r6_CompareBy.j2 k a b ks (i : Int) t false else r6_CompareBy.j2 k a b ks (i : Int) t key.f1) (fun k => ?_) (Ev.bind hc ?_)
  · simp only [r6_CompareBy.j1]
    rw [if_neg (by simp), if_pos h1.1, if_pos h1.2, if_pos h2.2]
    congr 1
    funext t
    split
    · rfl
    · rw [if_pos (by omega), if_pos (by omega), rdK_at hlt, ← hkey]
  simp only [cmpBy]
  by_cases c : compareV (rd_T36 a key.f0) (rd_T36 b key.f0) = 0
  · rw [if_pos c]
    refine Ev.congr (f := fun k => r6_CompareBy.j2 k a b ks (i : Int) 0 false) (fun k => by rw [c, if_pos rfl]) ?_
    refine Ev.step (fun k => ?_) (ih (i + 1) (by omega))
    simp only [r6_CompareBy.j2]
    rw [if_neg (by simp), if_pos trivial, w64 _ (by omega) (by omega)]
    rfl
  · rw [if_neg c]
    obtain ⟨x, hx⟩ : ∃ x, x = compareV (rd_T36 a key.f0) (rd_T36 b key.f0) := ⟨_, rfl⟩
    rw [← hx] at c hbd ⊢
    refine Ev.congr (f := fun k => r6_CompareBy.j2 k a b ks (i : Int) x key.f1) (fun k => by rw [if_neg c]) ?_
    by_cases c1 : key.f1 = true
    · rw [if_pos c1]
      refine Ev.step (f := fun _ => some (-x)) (fun k => ?_) (Ev.now _)
      simp only [r6_CompareBy.j2]
      rw [if_pos c1]
      congr 1
      unfold wrap64
      omega
    · rw [if_neg c1]
      refine Ev.step (f := fun _ => some x) (fun k => ?_) (Ev.now _)
      simp only [r6_CompareBy.j2]
      rw [if_neg c1, if_neg c]
theorem compareBy_ev (a b : List V) (ks : List KeyT) (ha : RowGood ks a) (hb : RowGood ks b) (hn : ks.length ≤ 1099511627776) : Ev (fun k => r6_CompareBy.f k a b ks) (cmpBy ks a b) :=
 compareBy_l0 a b ks ha.valid hb.valid ha.keys hb.keys hn ks.length 0 (by omega)
theorem compareRows_l0 (a b : List V) (ha : ∀ v ∈ a, validV v = true) (hb : ∀ v ∈ b, validV v = true) (hn : a.length ≤ 1099511627776) : ∀ (d i : Nat), i + d = a.length → i ≤ b.length →
 Ev (fun k => r1_CompareRows.l0 k a b (i : Int)) (cmpRows (a.drop i) (b.drop i)) := by
 intro d
 induction d with
 | zero =>
  intro i hi hb'
  rw [List.drop_eq_nil_of_le (show a.length ≤ i by omega)]
  refine Ev.step (f := fun k => r1_CompareRows.j1 k a b (i : Int) false) (fun k => by simp only [r1_CompareRows.l0]; rw [if_neg (by omega)]) ?_
  refine Ev.step (f := fun _ => some (cmpI (a.length : Int) (b.length : Int))) (fun k => by simp only [r1_CompareRows.j1]; rw [if_neg (by simp), ints_eq]; rfl) ?_
  have e : cmpI (a.length : Int) (b.length : Int) = cmpRows [] (b.drop i) := by
   rw [cmpRows_nil, List.length_drop]
   unfold cmpI
   by_cases c : i = b.length
   · rw [if_neg (by omega), if_neg (by omega), if_pos (by omega)]
   · rw [if_pos (by omega), if_neg (by omega)]
  rw [e]
  exact Ev.now _
 | succ d ih =>
  intro i hi hb'
  have hia : i < a.length := by omega
  rw [drop_cons a i hia]
  by_cases c : i = b.length
  · rw [List.drop_eq_nil_of_le (show b.length ≤ i by omega)]
    refine Ev.step (f := fun k => r1_CompareRows.j1 k a b (i : Int) false) (fun k => by simp only [r1_CompareRows.l0]; rw [if_pos (by omega), decide_eq_false (by omega)]) ?_
    refine Ev.step (f := fun _ => some (cmpI (a.length : Int) (b.length : Int))) (fun k => by simp only [r1_CompareRows.j1]; rw [if_neg (by simp), ints_eq]; rfl) ?_
    have e : cmpI (a.length : Int) (b.length : Int) = cmpRows (a[i] :: a.drop (i + 1)) [] := by
     simp only [cmpRows]
     unfold cmpI
     rw [if_neg (by omega), if_pos (by omega)]
    rw [e]
    exact Ev.now _
  · have hib : i < b.length := by omega
    rw [drop_cons b i hib]
    have va := ha _ (List.getElem_mem hia)
    have vb := hb _ (List.getElem_mem hib)
    have hc := compare_ev _ _ va (valid_f0 va) (valid_f0 vb)
    refine Ev.step (f := fun k => r1_CompareRows.j1 k a b (i : Int) true) (fun k => by simp only [r1_CompareRows.l0]; rw [if_pos (by omega), decide_eq_true (by omega)]) ?_
    refine Ev.step (f := fun k => (r1_Compare.f k (a[i]).f0 (a[i]).f1 (a[i]).f2 (b[i]).f0 (b[i]).f1 (b[i]).f2).bind fun t => if t = 0 then r1_CompareRows.l0 k a b ((i + 1 : Nat) : Int) else some t) (fun k => ?_) (Ev.bind hc ?_)
    · simp only [r1_CompareRows.j1]
      rw [if_pos trivial, if_pos (by omega), if_pos (by omega), if_pos (by omega), rdV_at hia, rdV_at hib, w64 _ (by omega) (by omega)]
      rfl
    · simp only [cmpRows]
      by_cases c0 : compareV a[i] b[i] = 0
      · rw [if_pos c0]
        exact Ev.congr (fun k => by rw [if_pos c0]) (ih (i + 1) (by omega) (by omega))
      · rw [if_neg c0]
        exact Ev.congr (f := fun _ => some (compareV a[i] b[i])) (fun k => by rw [if_neg c0]) (Ev.now _)
theorem compareRows_ev (a b : List V) (ha : ∀ v ∈ a, validV v = true) (hb : ∀ v ∈ b, validV v = true) (hn : a.length ≤ 1099511627776) : Ev (fun k => r1_CompareRows.f k a b) (cmpRows a b) :=
 compareRows_l0 a b ha hb hn a.length 0 (by omega) (by omega)
theorem before_ev (a b : List V) (ks : List KeyT) (ha : RowGood ks a) (hb : RowGood ks b) (hn : ks.length ≤ 1099511627776) : Ev (fun k => r6_before.f k a b ks) (decide (cmpFull ks a b < 0)) := by
 unfold r6_before.f cmpFull
 refine Ev.bind (compareBy_ev a b ks ha hb hn) ?_
 by_cases c : cmpBy ks a b = 0
 · rw [if_pos c]
   exact Ev.congr (fun k => by rw [if_pos c]) (Ev.bind (compareRows_ev a b ha.valid hb.valid ha.len) (Ev.now _))
 · rw [if_neg c]
   exact Ev.congr (f := fun _ => some (decide (cmpBy ks a b < 0))) (fun k => by rw [if_neg c]) (Ev.now _)
def leF (ks : List KeyT) (a b : List V) : Bool := decide (cmpFull ks a b ≤ 0)
theorem leF_trans (ks : List KeyT) (a b c : List V) (h1 : leF ks a b = true) (h2 : leF ks b c = true) : leF ks a c = true :=
 decide_eq_true ((cmpFull_ord ks).trans a b c (of_decide_eq_true h1) (of_decide_eq_true h2))
theorem leF_total (ks : List KeyT) (a b : List V) : (leF ks a b || leF ks b a) = true := by
 have := (cmpFull_ord ks).flip a b
 unfold leF
 simp only [Bool.or_eq_true, decide_eq_true_eq]
 omega
theorem merge_l0 (a b : List (List V)) (ks : List KeyT) (ha : ∀ r ∈ a, RowGood ks r) (hb : ∀ r ∈ b, RowGood ks r) (hk : ks.length ≤ 1099511627776) (hn : a.length + b.length ≤ 1099511627776) : ∀ (d i j : Nat) (xs : List (List V)), i + j + d = a.length + b.length → i ≤ a.length → j ≤ b.length → xs.length = i + j →
 Ev (fun k => r6_merge.l0 k a b ks xs (i : Int) (j : Int)) (xs ++ List.merge (a.drop i) (b.drop j) (leF ks)) := by
 intro d
 induction d with
 | zero =>
  intro i j xs hd hi hj hx
  rw [List.drop_eq_nil_of_le (by omega), List.drop_eq_nil_of_le (by omega), List.nil_merge, List.append_nil]
  refine Ev.step (f := fun k => r6_merge.j1 k a b ks xs (i : Int) (j : Int) false) (fun k => by simp only [r6_merge.l0]; rw [if_neg (by omega), decide_eq_false (by omega)]) ?_
  exact Ev.step (f := fun _ => some xs) (fun k => by simp only [r6_merge.j1]; rw [if_neg (by simp)]) (Ev.now _)
 | succ d ih =>
  intro i j xs hd hi hj hx
  have takeA : ∀ (hia : i < a.length), Ev (fun k => r6_merge.l0 k a b ks (xs ++ [a[i]]) ((i + 1 : Nat) : Int) (j : Int)) ((xs ++ [a[i]]) ++ List.merge (a.drop (i + 1)) (b.drop j) (leF ks)) := fun hia => ih (i + 1) j _ (by omega) (by omega) hj (by simp; omega)
  have takeB : ∀ (hjb : j < b.length), Ev (fun k => r6_merge.l0 k a b ks (xs ++ [b[j]]) (i : Int) ((j + 1 : Nat) : Int)) ((xs ++ [b[j]]) ++ List.merge (a.drop i) (b.drop (j + 1)) (leF ks)) := fun hjb => ih i (j + 1) _ (by omega) hi (by omega) (by simp; omega)
  have enter : ∀ r, Ev (fun k => r6_merge.j1 k a b ks xs (i : Int) (j : Int) true) r → Ev (fun k => r6_merge.l0 k a b ks xs (i : Int) (j : Int)) r := fun r h => by
   refine Ev.step (fun k => ?_) h
   simp only [r6_merge.l0]
   by_cases c : i < a.length
   · rw [if_pos (by omega)]
   · rw [if_neg (by omega), decide_eq_true (by omega)]
  refine enter _ ?_
  by_cases cj : j < b.length
  · by_cases ci : i < a.length
    · have hc := before_ev b[j] a[i] ks (hb _ (List.getElem_mem cj)) (ha _ (List.getElem_mem ci)) hk
      refine Ev.step (f := fun k => (r6_before.f k b[j] a[i] ks).bind fun t => if t = true then r6_merge.l0 k a b ks (xs ++ [b[j]]) (i : Int) ((j + 1 : Nat) : Int) else r6_merge.l0 k a b ks (xs ++ [a[i]]) ((i + 1 : Nat) : Int) (j : Int)) (fun k => ?_) (Ev.bind hc ?_)
      · simp only [r6_merge.j1]
        rw [if_pos trivial, if_neg (by omega), if_pos (by omega), if_pos (by omega), if_pos (by omega), if_pos (by omega), rdL_at ci, rdL_at cj, w64 _ (by omega) (by omega), w64 _ (by omega) (by omega)]
        congr 1
        funext t
        by_cases ht : t = true
        · rw [if_pos ht, if_pos ht, if_pos (by omega)]; rfl
        · rw [if_neg ht, if_neg ht, if_pos (by omega)]; rfl
      · have hfl := (cmpFull_ord ks).flip b[j] a[i]
        rw [drop_cons a i ci, drop_cons b j cj, List.cons_merge_cons]
        by_cases c : cmpFull ks b[j] a[i] < 0
        · rw [if_neg (by unfold leF; simp; omega)]
          refine Ev.congr (fun k => if_pos (decide_eq_true c)) ?_
          have h := takeB cj
          rw [drop_cons a i ci] at h
          simpa using h
        · rw [if_pos (by unfold leF; simp; omega)]
          refine Ev.congr (fun k => if_neg (by simpa using c)) ?_
          have h := takeA ci
          rw [drop_cons b j cj] at h
          simpa using h
    · refine Ev.step (f := fun k => r6_merge.l0 k a b ks (xs ++ [b[j]]) (i : Int) ((j + 1 : Nat) : Int)) (fun k => ?_) ?_
      · simp only [r6_merge.j1]
        rw [if_pos trivial, if_neg (by omega), if_neg (by omega), if_pos (by omega), if_pos (by omega), if_pos (by omega), rdL_at cj, w64 _ (by omega) (by omega)]
        rfl
      · have h := takeB cj
        rw [List.drop_eq_nil_of_le (show a.length ≤ i by omega), List.nil_merge] at h ⊢
        rw [drop_cons b j cj]
        simpa using h
  · have ci : i < a.length := by omega
    refine Ev.step (f := fun k => r6_merge.l0 k a b ks (xs ++ [a[i]]) ((i + 1 : Nat) : Int) (j : Int)) (fun k => ?_) ?_
    · simp only [r6_merge.j1]
      rw [if_pos trivial, if_pos (by omega), if_pos (by omega), if_pos (by omega), if_pos (by omega), rdL_at ci, w64 _ (by omega) (by omega)]
      rfl
    · have h := takeA ci
      rw [List.drop_eq_nil_of_le (show b.length ≤ j by omega), List.merge_right] at h ⊢
      rw [drop_cons a i ci]
      simpa using h
theorem merge_ev (a b : List (List V)) (ks : List KeyT) (ha : ∀ r ∈ a, RowGood ks r) (hb : ∀ r ∈ b, RowGood ks r) (hk : ks.length ≤ 1099511627776) (hn : a.length + b.length ≤ 1099511627776) : Ev (fun k => r6_merge.f k a b ks) (List.merge a b (leF ks)) :=
 merge_l0 a b ks ha hb hk hn (a.length + b.length) 0 0 [] (by omega) (by omega) (by omega) rfl
theorem copyOf_l0 (l : List V) (hn : l.length ≤ 1099511627776) : ∀ (d i : Nat), i + d = l.length → Ev (fun k => r6_copyOf.l0 k l (l.take i) (i : Int)) l := by
 intro d
 induction d with
 | zero =>
  intro i hi
  rw [List.take_of_length_le (by omega)]
  refine Ev.step (f := fun _ => some l) (fun k => ?_) (Ev.now _)
  simp only [r6_copyOf.l0]
  rw [if_neg (by omega)]
 | succ d ih =>
  intro i hi
  have hlt : i < l.length := by omega
  refine Ev.step (fun k => ?_) (ih (i + 1) (by omega))
  simp only [r6_copyOf.l0]
  rw [if_pos (by omega), if_pos (by omega), if_pos (by rw [List.length_take]; omega), rdV_at hlt, w64 _ (by omega) (by omega), take_snoc l i hlt]
  rfl
theorem copyOf_ev (l : List V) (hn : l.length ≤ 1099511627776) : Ev (fun k => r6_copyOf.f k l) l := by
 have h := copyOf_l0 l hn l.length 0 (by omega)
 rw [List.take_zero] at h
 exact h
def pairR (ks : List KeyT) : List (List (List V)) → List (List (List V))
 | [] => []
 | [x] => [x]
 | x :: y :: r => List.merge x y (leF ks) :: pairR ks r
theorem pairR_perm (ks : List KeyT) : ∀ ls : List (List (List V)), (pairR ks ls).flatten.Perm ls.flatten
 | [] => List.Perm.refl _
 | [x] => List.Perm.refl _
 | x :: y :: r => by
  simp only [pairR, List.flatten_cons]
  rw [← List.append_assoc]
  exact (List.merge_perm_append (leF ks)).append (pairR_perm ks r)
theorem pairR_len (ks : List KeyT) : ∀ ls : List (List (List V)), (pairR ks ls).length = (ls.length + 1) / 2
 | [] => by simp [pairR]
 | [x] => by simp [pairR]
 | x :: y :: r => by
  simp only [pairR, List.length_cons, pairR_len ks r]
  omega
theorem pairR_sorted (ks : List KeyT) : ∀ ls : List (List (List V)), (∀ x ∈ ls, x.Pairwise (fun a b => leF ks a b = true)) → ∀ x ∈ pairR ks ls, x.Pairwise (fun a b => leF ks a b = true)
 | [], _ => by simp [pairR]
 | [x], h => h
 | x :: y :: r, h => by
  intro z hz
  simp only [pairR] at hz
  rcases List.mem_cons.1 hz with rfl | hz
  · exact List.pairwise_merge (leF_trans ks) (leF_total ks) x y (h x (by simp)) (h y (by simp))
  · exact pairR_sorted ks r (fun u hu => h u (by simp [hu])) z hz
theorem w64_2 (x : Int) (h0 : 0 ≤ x) (h1 : x ≤ 1099511627776) : wrap64 (x + 2) = x + 2 := by unfold wrap64; omega
theorem rdL7_at {xs : List (List (List V))} {i : Nat} (h : i < xs.length) : rd_L7 xs (i : Int) = xs[i] := by simp [rd_L7, List.getElem?_eq_getElem h]
theorem len_flat {ls : List (List (List V))} {i : Nat} (h : i < ls.length) : (ls.drop i).flatten.length = (ls[i]).length + (ls.drop (i + 1)).flatten.length := by
 rw [drop_cons ls i h, List.flatten_cons, List.length_append]
theorem full_l2 (ks : List KeyT) (ls : List (List (List V))) (hG : ∀ x ∈ ls, ∀ r ∈ x, RowGood ks r) (hk : ks.length ≤ 1099511627776) (hn : ls.length ≤ 1099511627776) (out : List (List V)) :
 ∀ (n i : Nat) (xs : List (List (List V))), ls.length - i ≤ n → xs.length ≤ i → i ≤ ls.length + 1 → (ls.drop i).flatten.length ≤ 1099511627776 → Ev (fun k => r6_full.l1 k ks (xs ++ pairR ks (ls.drop i))) out → Ev (fun k => r6_full.l2 k ks ls xs (i : Int)) out := by
 have fin : ∀ (i : Nat) (xs : List (List (List V))), ls.length ≤ i → Ev (fun k => r6_full.l1 k ks (xs ++ pairR ks (ls.drop i))) out → Ev (fun k => r6_full.l2 k ks ls xs (i : Int)) out := fun i xs hi h => by
  rw [List.drop_eq_nil_of_le hi, pairR, List.append_nil] at h
  refine Ev.step (fun k => ?_) h
  simp only [r6_full.l2]
  rw [if_neg (by omega)]
 intro n
 induction n with
 | zero => exact fun i xs hi _ _ _ h => fin i xs (by omega) h
 | succ n ih =>
  intro i xs hi hx hil hf h
  by_cases c : ls.length ≤ i
  · exact fin i xs c h
  have hlt : i < ls.length := by omega
  have hf1 := len_flat hlt
  by_cases c1 : i + 1 < ls.length
  · have hf2 := len_flat c1
    rw [drop_cons ls i hlt, drop_cons ls (i + 1) c1, pairR] at h
    have e : (((i : Nat) : Int) + 2) = ((i + 2 : Nat) : Int) := by omega
    have e1 : (((i : Nat) : Int) + 1) = ((i + 1 : Nat) : Int) := by omega
    refine Ev.step (f := fun k => (r6_merge.f k ls[i] ls[i + 1] ks).bind fun t => r6_full.l2 k ks ls (xs ++ [t]) ((i + 2 : Nat) : Int)) (fun k => ?_) (Ev.bind (merge_ev ls[i] ls[i + 1] ks (hG _ (List.getElem_mem hlt)) (hG _ (List.getElem_mem c1)) hk (by omega)) ?_)
    · simp only [r6_full.l2]
      rw [w64 _ (by omega) (by omega), w64_2 _ (by omega) (by omega), if_pos (by omega), if_pos (by omega), if_pos (by omega), if_pos (by omega), e, e1, rdL7_at hlt, rdL7_at c1]
      congr 1
      funext t
      rw [if_pos (by omega)]
    · refine ih (i + 2) _ (by omega) (by simp; omega) (by omega) (by show (ls.drop (i + 1 + 1)).flatten.length ≤ _; omega) ?_
      simpa using h
  · have h2 : ls.drop (i + 1) = [] := List.drop_eq_nil_of_le (by omega)
    rw [drop_cons ls i hlt, h2, pairR] at h
    have e : (((i : Nat) : Int) + 2) = ((i + 2 : Nat) : Int) := by omega
    refine Ev.step (f := fun k => r6_full.l2 k ks ls (xs ++ [ls[i]]) ((i + 2 : Nat) : Int)) (fun k => ?_) (ih (i + 2) (xs ++ [ls[i]]) (by omega) (by simp; omega) (by omega) (by rw [List.drop_eq_nil_of_le (show ls.length ≤ i + 2 by omega)]; exact Nat.zero_le _) ?_)
    · simp only [r6_full.l2]
      rw [w64 _ (by omega) (by omega), w64_2 _ (by omega) (by omega), if_pos (by omega), if_neg (by omega), if_pos (by omega), if_pos (by omega), e, rdL7_at hlt]
    · rw [List.drop_eq_nil_of_le (show ls.length ≤ i + 2 by omega), pairR, List.append_nil]
      exact h
theorem full_l1 (ks : List KeyT) (hk : ks.length ≤ 1099511627776) : ∀ (n : Nat) (ls : List (List (List V))), ls.length ≤ n → (∀ x ∈ ls, ∀ r ∈ x, RowGood ks r) → (∀ x ∈ ls, x.Pairwise (fun a b => leF ks a b = true)) → ls.length ≤ 1099511627776 → ls.flatten.length ≤ 1099511627776 →
 Ev (fun k => r6_full.l1 k ks ls) (sortR ks ls.flatten) := by
 intro n
 induction n with
 | zero =>
  intro ls hl hG hS hn hf
  obtain rfl : ls = [] := List.eq_nil_of_length_eq_zero (by omega)
  refine Ev.step (f := fun _ => some ([] : List (List V))) (fun k => ?_) ?_
  · simp only [r6_full.l1]
    rw [if_neg (by simp), if_pos (by simp)]
  · have e : sortR ks ([] : List (List (List V))).flatten = [] := by simp [sortR]
    rw [e]
    exact Ev.now _
 | succ n ih =>
  intro ls hl hG hS hn hf
  by_cases c : 1 < ls.length
  · have hp := pairR_perm ks ls
    have hlen := pairR_len ks ls
    have hGp : ∀ x ∈ pairR ks ls, ∀ r ∈ x, RowGood ks r := fun x hx r hr => by
     have : r ∈ ls.flatten := hp.mem_iff.1 (List.mem_flatten.2 ⟨x, hx, hr⟩)
     obtain ⟨y, hy, hry⟩ := List.mem_flatten.1 this
     exact hG y hy r hry
    have h := ih (pairR ks ls) (by omega) hGp (pairR_sorted ks ls hS) (by omega) (by rw [hp.length_eq]; exact hf)
    have hv : ∀ row ∈ ls.flatten, ∀ v ∈ row, validV v = true := fun row hrow => by
     obtain ⟨y, hy, hry⟩ := List.mem_flatten.1 hrow
     exact (hG y hy row hry).valid
    rw [sortR_congr hv hp.symm] at h
    refine Ev.step (f := fun k => r6_full.l2 k ks ls ([] : List (List (List V))) ((0 : Nat) : Int)) (fun k => ?_) (full_l2 ks ls hG hk hn _ ls.length 0 [] (by omega) (by simp) (by omega) (by rw [List.drop_zero]; exact hf) (by rw [List.drop_zero, List.nil_append]; exact h))
    simp only [r6_full.l1]
    rw [if_pos (by omega)]
    rfl
  · by_cases c0 : ls.length = 0
    · obtain rfl : ls = [] := List.eq_nil_of_length_eq_zero c0
      refine Ev.step (f := fun _ => some ([] : List (List V))) (fun k => ?_) ?_
      · simp only [r6_full.l1]
        rw [if_neg (by simp), if_pos (by simp)]
      · have e : sortR ks ([] : List (List (List V))).flatten = [] := by simp [sortR]
        rw [e]
        exact Ev.now _
    · obtain ⟨x, rfl⟩ := List.length_eq_one_iff.1 (show ls.length = 1 by omega)
      refine Ev.step (f := fun _ => some x) (fun k => ?_) ?_
      · simp only [r6_full.l1]
        rw [if_neg (by simp), if_neg (by simp), if_pos (by simp)]
        rfl
      · have e : sortR ks [x].flatten = x := by
         have : [x].flatten = x := by simp
         rw [this]
         exact (sortR_unique (fun row hrow => (hG x (by simp) row hrow).valid) (List.Perm.refl _) ((hS x (by simp)).imp (fun h => of_decide_eq_true h))).symm
        rw [e]
        exact Ev.now _
theorem full_l0 (l : List (List V)) (ks : List KeyT) (hr : ∀ r ∈ l, r.length ≤ 1099511627776) (hn : l.length ≤ 1099511627776) (out : List (List V)) (h : Ev (fun k => r6_full.l1 k ks (l.map (fun r => [r]))) out) : ∀ (d i : Nat), i + d = l.length →
 Ev (fun k => r6_full.l0 k l ks ((l.take i).map (fun r => [r])) (i : Int)) out := by
 intro d
 induction d with
 | zero =>
  intro i hi
  rw [List.take_of_length_le (by omega)]
  refine Ev.step (fun k => ?_) h
  simp only [r6_full.l0]
  rw [if_neg (by omega)]
 | succ d ih =>
  intro i hi
  have hlt : i < l.length := by omega
  refine Ev.step (f := fun k => (r6_copyOf.f k l[i]).bind fun t => r6_full.l0 k l ks ((l.take i).map (fun r => [r]) ++ [[t]]) ((i + 1 : Nat) : Int)) (fun k => ?_) (Ev.bind (copyOf_ev l[i] (hr _ (List.getElem_mem hlt))) ?_)
  · simp only [r6_full.l0]
    rw [if_pos (by omega), if_pos (by omega), rdL_at hlt, w64 _ (by omega) (by omega)]
    congr 1
    funext t
    rw [if_pos (by rw [List.length_map, List.length_take]; omega)]
    rfl
  · have e : (l.take i).map (fun r => [r]) ++ [[l[i]]] = (l.take (i + 1)).map (fun r => [r]) := by rw [take_snoc l i hlt, List.map_append]; rfl
    simp only [e]
    exact ih (i + 1) (by omega)
theorem flat_single (l : List (List V)) : (l.map (fun r => [r])).flatten = l := by
 induction l with
 | nil => rfl
 | cons r l ih => simp [ih]
theorem full_ev (l : List (List V)) (ks : List KeyT) (hG : ∀ row ∈ l, RowGood ks row) (hn : l.length ≤ 1099511627776) (hk : ks.length ≤ 1099511627776) : Ev (fun k => r6_full.f k l ks) (sortR ks l) := by
 have h := full_l1 ks hk l.length (l.map (fun r => [r])) (by simp) (fun x hx r hr => by
  obtain ⟨y, hy, rfl⟩ := List.mem_map.1 hx
  obtain rfl : r = y := by simpa using hr
  exact hG r hy) (fun x hx => by
  obtain ⟨y, hy, rfl⟩ := List.mem_map.1 hx
  simp) (by simpa using hn) (by rw [flat_single]; exact hn)
 rw [flat_single] at h
 exact full_l0 l ks (fun r hr => (hG r hr).len) hn _ h l.length 0 (by omega)
end Go.Proofs.YtecgkcgfeghhgaaGreatDoor.PAll
set_option linter.unusedVariables false
set_option linter.unusedSimpArgs false
namespace Go.Proofs.YtecgkcgfeghhgaaGreatDoor.PAll
open Go.RowKit Go.Proofs.YtecgkcgfeghhgaaGreatDoorW.PrintWords Go.Proofs.YtecgkcgfeghhgaaGreatDoorW.PrintLast Go.Proofs.YtecgkcgfeghhgaaGreatDoorW.PrintMore
open Go.Shelf Go.Lib
theorem add64 (x y c : Int) (hx : 0 ≤ x) (hy : 0 ≤ y) (hc : 0 ≤ c) (hc1 : c ≤ 1) (w : World) :
 (callFunc 160 #[.int .u64 x, .int .u64 y, .int .u64 c]).run Tryz.prog w = .ok (.value (.tuple #[.int .u64 ((x + y + c) % 18446744073709551616), .int .u64 ((x + y + c) / 18446744073709551616)])) w := by
 obtain ⟨a, rfl⟩ := Int.eq_ofNat_of_zero_le hx
 obtain ⟨b, rfl⟩ := Int.eq_ofNat_of_zero_le hy
 obtain ⟨d, rfl⟩ := Int.eq_ofNat_of_zero_le hc
 have h := Any7.bits_Add64 add64L a b d (by omega) w
 change (callFunc 160 _).run _ _ = _ at h
 simpa using h
theorem grownBy_set0 {w W : World} {b : Nat} (h : w.grownBy W (some b)) (j : Nat) (u : Value) : w.grownBy (W.setCell ⟨b, j, none⟩ u) (some b) :=
 ⟨h.os, h.tape, h.output, Nat.le_trans h.size (by simp [World.setCell]), fun k hk hne => (Below.heap_setCell W _ _ k (fun e => hne (by rw [e]))).trans (h.block k hk hne)⟩
theorem grownBy_set {w W : World} {b : Nat} (h : w.grownBy W (some b)) (j : Nat) (u : Value) : w.grownBy ((W.setCell ⟨b, j, none⟩ u).drew) (some b) :=
 ⟨h.os, h.tape, h.output, Nat.le_trans h.size (by simp [World.setCell, World.drew]), fun k hk hne => (Below.heap_setCell W _ _ k (fun e => hne (by rw [e]))).trans (h.block k hk hne)⟩
theorem total_take (b : Nat) (h l n : Int) (v : V) (w : World) (hb : w.heap[b]? = some (.cells #[.int .u64 h, .int .u64 l, .int .u64 n] 122 (0, 0))) (h0 : 0 ≤ h) (l0 : 0 ≤ l) (l1 : l < 18446744073709551616) :
 Calls Tryz.prog 158 #[.pointer (some ⟨b, 0, none⟩), .agg #[.int .u8 v.f0, .int .i64 v.f1, .string v.f2]] w fun e w' => e = .returned (.tuple #[]) ∧ w'.heap[b]? = some (.cells #[.int .u64 ((h + IntKind.u64.wrap (v.f1 / 9223372036854775808) + (l + IntKind.u64.wrap v.f1) / 18446744073709551616) % 18446744073709551616), .int .u64 ((l + IntKind.u64.wrap v.f1) % 18446744073709551616), .int .u64 (IntKind.u64.wrap (n + 1))] 122 (0, 0)) ∧ w.grownBy w' (some b) := by
 have hlt : b < w.heap.size := (Array.getElem?_eq_some_iff.1 hb).1
 have C0 : (w.alloc (.cells #[.int .u8 v.f0, .int .i64 v.f1, .string v.f2] 36)).heap[b]? = some (.cells #[.int .u64 h, .int .u64 l, .int .u64 n] 122 (0, 0)) := (Below.heap_alloc w _ b hlt).trans hb
 have hg : w.grownBy (w.alloc (.cells #[.int .u8 v.f0, .int .i64 v.f1, .string v.f2] 36)) (some b) := ⟨rfl, rfl, rfl, by simp, fun k hk _ => Below.heap_alloc w _ k hk⟩
 have V1 : (w.alloc (.cells #[.int .u8 v.f0, .int .i64 v.f1, .string v.f2] 36)).heap[w.heap.size]? = some (.cells #[.int .u8 v.f0, .int .i64 v.f1, .string v.f2] 36 (0, 0)) := heap_alloc_new _ _
 have hne : b ≠ w.heap.size := by omega
 have HG := Aside0.mk hg
 have HNE := Aside0.mk hne
 have HLT := Aside0.mk hlt
 have HL1 := Aside0.mk l1
 clear l1
 clear hg hne hb hlt
 obtain ⟨W, hW⟩ : ∃ W, W = w.alloc (.cells #[.int .u8 v.f0, .int .i64 v.f1, .string v.f2] 36) := ⟨_, rfl⟩
 obtain ⟨q, hq⟩ : ∃ q, q = w.heap.size := ⟨_, rfl⟩
 rw [← hW] at C0 V1 HG
 rw [← hq] at V1 HNE
 have HW := Aside0.mk hW
 have HQ := Aside0.mk hq
 clear hW hq
 have F0 : W.cell? ⟨b, 0, none⟩ = some (.int .u64 h) := (blk_cell C0 0).trans rfl
 have F1 : W.cell? ⟨b, 1, none⟩ = some (.int .u64 l) := (blk_cell C0 1).trans rfl
 have F2 : W.cell? ⟨b, 2, none⟩ = some (.int .u64 n) := (blk_cell C0 2).trans rfl
 have F3 : W.cell? ⟨q, 1, none⟩ = some (.int .i64 v.f1) := (blk_cell V1 1).trans rfl
 have F4 : ∀ j, W.frozen? ⟨b, j, none⟩ = false := fun j => by simp [World.frozen?, C0]
 have HC0 := Aside0.mk C0
 have HV1 := Aside0.mk V1
 have A1 : ∀ W, (callFunc 160 #[.int .u64 l, .int .u64 (IntKind.u64.wrap v.f1), .int .u64 0]).run Tryz.prog W = .ok (.value (.tuple #[.int .u64 ((l + IntKind.u64.wrap v.f1 + 0) % 18446744073709551616), .int .u64 ((l + IntKind.u64.wrap v.f1 + 0) / 18446744073709551616)])) W := fun W => add64 _ _ _ l0 (by simp [IntKind.wrap, IntKind.bits, IntKind.signed]; omega) (by omega) (by omega) W
 clear C0 V1
 go_enter Tryz.func158, Tryz.ntmps158
 go_wp2
 rw [← HW.out, ← HQ.out]
 go_region
 obtain ⟨lw, hlw⟩ : ∃ lw, lw = (l + IntKind.u64.wrap v.f1) % 18446744073709551616 := ⟨_, rfl⟩
 obtain ⟨cw, hcw⟩ : ∃ cw, cw = (l + IntKind.u64.wrap v.f1) / 18446744073709551616 := ⟨_, rfl⟩
 obtain ⟨W2, hW2⟩ : ∃ W2, W2 = (W.setCell ⟨b, 1, none⟩ (.int .u64 lw)).drew := ⟨_, rfl⟩
 have hsr : 0 ≤ IntKind.u64.wrap v.f1 ∧ IntKind.u64.wrap v.f1 < 18446744073709551616 := by simp [IntKind.wrap, IntKind.bits, IntKind.signed]; omega
 have hcw0 : 0 ≤ cw := by rw [hcw]; omega
 have hcw1 : cw ≤ 1 := by rw [hcw]; have := HL1.out; omega
 have C2 : W2.heap[b]? = some (.cells #[.int .u64 h, .int .u64 lw, .int .u64 n] 122 (0, 0)) := by rw [hW2]; exact (blk_set HC0.out 1 _).trans rfl
 have V2 : W2.heap[q]? = some (.cells #[.int .u8 v.f0, .int .i64 v.f1, .string v.f2] 36 (0, 0)) := by rw [hW2]; exact (Below.heap_setCell W _ _ q (Ne.symm HNE.out)).trans HV1.out
 have G2 : Aside0 (w.grownBy W2 (some b)) := ⟨by rw [hW2]; exact grownBy_set HG.out 1 _⟩
 rw [← hlw, ← hcw]
 rw [← hW2]
 have HLW := Aside0.mk hlw
 have HCW := Aside0.mk hcw
 clear hlw hcw hW2 F0 F1 F2 F3 F4 A1 hsr HW HQ HC0 HV1 HG
 have F0 : W2.cell? ⟨b, 0, none⟩ = some (.int .u64 h) := (blk_cell C2 0).trans rfl
 have F3 : W2.cell? ⟨q, 1, none⟩ = some (.int .i64 v.f1) := (blk_cell V2 1).trans rfl
 have F4 : ∀ j, W2.frozen? ⟨b, j, none⟩ = false := fun j => by simp [World.frozen?, C2]
 have A1 : ∀ W, (callFunc 160 #[.int .u64 h, .int .u64 (IntKind.u64.wrap (v.f1 / 9223372036854775808)), .int .u64 cw]).run Tryz.prog W = .ok (.value (.tuple #[.int .u64 ((h + IntKind.u64.wrap (v.f1 / 9223372036854775808) + cw) % 18446744073709551616), .int .u64 ((h + IntKind.u64.wrap (v.f1 / 9223372036854775808) + cw) / 18446744073709551616)])) W := fun W => add64 _ _ _ h0 (by simp [IntKind.wrap, IntKind.bits, IntKind.signed]; omega) hcw0 hcw1 W
 have HC2 := Aside0.mk C2
 clear C2 V2 hcw0 hcw1
 go_wp2
 go_region
 obtain ⟨hw', hhw⟩ : ∃ hw, hw = (h + IntKind.u64.wrap (v.f1 / 9223372036854775808) + cw) % 18446744073709551616 := ⟨_, rfl⟩
 obtain ⟨W3, hW3⟩ : ∃ W3, W3 = (W2.setCell ⟨b, 0, none⟩ (.int .u64 hw')).drew := ⟨_, rfl⟩
 have C3 : W3.heap[b]? = some (.cells #[.int .u64 hw', .int .u64 lw, .int .u64 n] 122 (0, 0)) := by rw [hW3]; exact (blk_set HC2.out 0 _).trans rfl
 have G3 : Aside0 (w.grownBy W3 (some b)) := ⟨by rw [hW3]; exact grownBy_set G2.out 0 _⟩
 rw [← hhw]
 rw [← hW3]
 have HHW := Aside0.mk hhw
 clear hhw hW3 F0 F3 F4 A1 HC2 G2
 have F2 : W3.cell? ⟨b, 2, none⟩ = some (.int .u64 n) := (blk_cell C3 2).trans rfl
 have F4 : ∀ j, W3.frozen? ⟨b, j, none⟩ = false := fun j => by simp [World.frozen?, C3]
 have HC3 := Aside0.mk C3
 clear C3
 go_wp2
 go_end0
 refine ⟨rfl, ?_, ?_⟩
 · rw [← HCW.out, ← HHW.out, ← HLW.out]
   exact (blk_set HC3.out 2 _).trans rfl
 · exact (grownBy_set0 G3.out 2 _)
end Go.Proofs.YtecgkcgfeghhgaaGreatDoor.PAll
namespace Go.Proofs.YtecgkcgfeghhgaaGreatDoor.PAll
open Go.RowKit Go.Proofs.YtecgkcgfeghhgaaGreatDoorW.PrintWords Go.Proofs.YtecgkcgfeghhgaaGreatDoorW.PrintLast Go.Proofs.YtecgkcgfeghhgaaGreatDoorW.PrintMore
attribute [local go_sem] max2_int min2_int max_two min_two max_three min_three max_four min_four
set_option linter.unusedVariables false
set_option linter.unusedSimpArgs false
def value_Int.f (a0 : Int) : Option (Int × Int × ByteArray) := some (1, a0, (⟨#[]⟩ : ByteArray))
theorem value_Int.calls (a0 : Int) (r1 : Int) (r2 : Int) (r3 : ByteArray) (w : World) (h : value_Int.f a0 = some (r1, r2, r3)) :
 Calls Tryz.prog 159 #[.int .i64 a0] w fun e w' => e = .returned (.agg #[.int .u8 r1, .int .i64 r2, .string r3]) ∧ Below w.heap.size w w' := by
 have hu36 := Tryz.underlying36
 have HB := Aside0.mk (Below.refl w.heap.size w)
 have H : (some (1, a0, (⟨#[]⟩ : ByteArray))) = some (r1, r2, r3) := h
 clear h
 simp only [Option.some.injEq, Prod.mk.injEq] at H
 obtain ⟨rfl, rfl, rfl⟩ := H
 go_enter Tryz.func159, Tryz.ntmps159
 go_wp2_with (first | ((with_reducible refine gate_dst (N := 2) rfl ?_); refine box_event ?hg (N := 2) ?hd (cs := #[.int .u8 0, .int .i64 0, .string (⟨#[]⟩ : ByteArray)]) (t := 36) ?hr ?_; (case hd => rfl); (case hg => rfl); (case hr => first | (go_simp; done) | (go_simp; rfl)); intro gb123 hg w2 hbox hb; have n0_ := Aside0.mk (below_step (by repeat (first | (with_reducible first | exact HB.out | apply bA_ | apply bN_ | apply b1_) | exact HB.out)) hb); have n1_ := Aside0.mk (hbox); have n2_ := Aside0.mk ((by rw [hg]; exact (below_size (by repeat (first | (with_reducible first | exact HB.out | apply bA_ | apply bN_ | apply b1_) | exact HB.out))) : w.heap.size ≤ gb123)); have n3_ := Aside0.mk ((by rw [hg]; exact (below_size (by repeat (first | (with_reducible first | exact HB.out | apply bA_ | apply bN_ | apply b1_) | exact HB.out))) : w.heap.size ≤ gb123)); clear HB; have HB := n0_; have BK123 := n1_; have GW123 := n2_; have GE123 := n3_; clear n0_ n1_ n2_ n3_; clear hb hbox hg; have hcz3_0 : w2.cell? ⟨gb123, 0, none⟩ = some (.int .u8 0) := (blk_cell BK123.out 0).trans rfl; have hcz3_1 : w2.cell? ⟨gb123, 1, none⟩ = some (.int .i64 0) := (blk_cell BK123.out 1).trans rfl; have hcz3_2 : w2.cell? ⟨gb123, 2, none⟩ = some (.string (⟨#[]⟩ : ByteArray)) := (blk_cell BK123.out 2).trans rfl; have hfz3_0 := blk_frozen BK123.out 0; have hfz3_1 := blk_frozen BK123.out 1; have hfz3_2 := blk_frozen BK123.out 2))
 refine bodyPost_ret (results_cell_row rfl _ _ gb123 36 #[.int .u8 1, .int .i64 a0, .string (⟨#[]⟩ : ByteArray)] (0, 0) _ rfl (by (with_reducible repeat (first | refine blk_drewN ?_ _ | refine blk_drew ?_ | refine blk_alloc ?_ _)); refine blk_put (cs := #[.int .u8 1, .int .i64 a0, .string (⟨#[]⟩ : ByteArray)]) ?_ 2 _ rfl; (with_reducible repeat (first | refine blk_drewN ?_ _ | refine blk_drew ?_ | refine blk_alloc ?_ _)); refine blk_put (cs := #[.int .u8 1, .int .i64 0, .string (⟨#[]⟩ : ByteArray)]) ?_ 1 _ rfl; (with_reducible repeat (first | refine blk_drewN ?_ _ | refine blk_drew ?_ | refine blk_alloc ?_ _)); refine blk_put (cs := #[.int .u8 0, .int .i64 0, .string (⟨#[]⟩ : ByteArray)]) ?_ 0 _ rfl; (with_reducible repeat (first | refine blk_drewN ?_ _ | refine blk_drew ?_ | refine blk_alloc ?_ _)); exact BK123.out) Tryz.underlying36 rfl (by kernel_rfl)) rfl ?_
 exact ⟨by first | rfl | (simp [*, errW_none, errW_some] <;> rfl), by repeat (first | (with_reducible first | exact HB.out | apply bA_ | apply bN_ | apply b1_ | refine below_set ?_ GE123.out) | exact HB.out)⟩
end Go.Proofs.YtecgkcgfeghhgaaGreatDoor.PAll
set_option linter.unusedVariables false
set_option linter.unusedSimpArgs false
namespace Go.Proofs.YtecgkcgfeghhgaaGreatDoor.PAll
open Go.RowKit Go.Proofs.YtecgkcgfeghhgaaGreatDoorW.PrintWords Go.Proofs.YtecgkcgfeghhgaaGreatDoorW.PrintLast Go.Proofs.YtecgkcgfeghhgaaGreatDoorW.PrintMore
theorem out_cells {W : World} {q : Nat} {t : TypeId} {a b c d : Value} (h : W.heap[q]? = some (.cells #[a, b, c, d] t (0, 0))) (x0 x1 x2 x3 : Value) : ((((W.setCell ⟨q, 0, none⟩ x0).setCell ⟨q, 1, none⟩ x1).setCell ⟨q, 2, none⟩ x2).setCell ⟨q, 3, none⟩ x3).heap[q]? = some (.cells #[x0, x1, x2, x3] t (0, 0)) :=
 blk_put (cs := #[x0, x1, x2, d]) (blk_put (cs := #[x0, x1, c, d]) (blk_put (cs := #[x0, b, c, d]) (blk_put (cs := #[a, b, c, d]) h 0 _ rfl) 1 _ rfl) 2 _ rfl) 3 _ rfl
theorem out_below {w W : World} {q : Nat} (h : Below w.heap.size w W) (hq : q = w.heap.size) (x0 x1 x2 x3 : Value) : Below w.heap.size w ((((W.setCell ⟨q, 0, none⟩ x0).setCell ⟨q, 1, none⟩ x1).setCell ⟨q, 2, none⟩ x2).setCell ⟨q, 3, none⟩ x3) :=
 (((h.setCell (Nat.le_of_eq hq.symm) _).setCell (Nat.le_of_eq hq.symm) _).setCell (Nat.le_of_eq hq.symm) _).setCell (Nat.le_of_eq hq.symm) _
def totalOut (h l n : Int) : Int × Int × ByteArray × Int :=
 if n = 0 then (0, 0, ⟨#[]⟩, 0) else if h = IntKind.u64.wrap (wrap64 l / 9223372036854775808) then (1, wrap64 l, ⟨#[]⟩, 0) else (0, 0, ⟨#[]⟩, 4)
theorem total_done (b : Nat) (h l n : Int) (w : World) (hb : w.heap[b]? = some (.cells #[.int .u64 h, .int .u64 l, .int .u64 n] 122 (0, 0))) (r1 r2 : Int) (r3 : ByteArray) (r4 : Int) (hr : totalOut h l n = (r1, r2, r3, r4)) :
 Calls Tryz.prog 157 #[.pointer (some ⟨b, 0, none⟩)] w fun e w' => e = .returned (.agg #[.int .u8 r1, .int .i64 r2, .string r3, .int .i64 r4]) ∧ Below w.heap.size w w' := by
 have hlt : b < w.heap.size := (Array.getElem?_eq_some_iff.1 hb).1
 have HLT := Aside0.mk hlt
 have HBK := Aside0.mk hb
 have HR := Aside0.mk hr
 clear hb hlt hr
 by_cases hn : n = 0
 · have hnb : (n == 0) = true := by simp [hn]
   have HRR : Aside0 (r1 = 0 ∧ r2 = 0 ∧ r3 = ⟨#[]⟩ ∧ r4 = 0) := ⟨by
    have h := HR.out
    unfold totalOut at h
    rw [if_pos hn] at h
    simp only [Prod.mk.injEq] at h
    exact ⟨h.1.symm, h.2.1.symm, h.2.2.1.symm, h.2.2.2.symm⟩⟩
   clear hn
   go_enter Tryz.func157, Tryz.ntmps157
   go_wp2_with (first | ((with_reducible refine gate_dst (N := 2) rfl ?_); refine box_event ?hg (N := 2) ?hd (cs := #[.int .u8 0, .int .i64 0, .string (⟨#[]⟩ : ByteArray), .int .i64 0]) (t := 38) ?hr ?_; (case hd => rfl); (case hg => rfl); (case hr => first | (go_simp; done) | (go_simp; rfl)); intro q hq W hN hb1; have C0 := (hb1.block b HLT.out).trans HBK.out; have HB1 := Aside0.mk hb1; have HQ := Aside0.mk hq; have HN0 := Aside0.mk hN; have F0 : W.cell? ⟨b, 0, none⟩ = some (.int .u64 h) := (blk_cell C0 0).trans rfl; have F1 : W.cell? ⟨b, 1, none⟩ = some (.int .u64 l) := (blk_cell C0 1).trans rfl; have F2 : W.cell? ⟨b, 2, none⟩ = some (.int .u64 n) := (blk_cell C0 2).trans rfl; have G0 : W.cell? ⟨q, 0, none⟩ = some (.int .u8 0) := (blk_cell hN 0).trans rfl; have G1 : W.cell? ⟨q, 1, none⟩ = some (.int .i64 0) := (blk_cell hN 1).trans rfl; have G2 : W.cell? ⟨q, 2, none⟩ = some (.string ⟨#[]⟩) := (blk_cell hN 2).trans rfl; have G3 : W.cell? ⟨q, 3, none⟩ = some (.int .i64 0) := (blk_cell hN 3).trans rfl; have F4 : ∀ j, W.frozen? ⟨q, j, none⟩ = false := (fun j => by simp [World.frozen?, hN]); clear hb1 hq hN C0))
   refine bodyPost_ret (results_cell_row rfl _ _ q 38 #[.int .u8 0, .int .i64 0, .string (⟨#[]⟩ : ByteArray), .int .i64 0] (0, 0) _ rfl (out_cells HN0.out _ _ _ _) Tryz.underlying38 rfl (by kernel_rfl)) rfl ?_
   refine ⟨?_, out_below HB1.out HQ.out _ _ _ _⟩
   obtain ⟨rfl, rfl, rfl, rfl⟩ := HRR.out
   rfl
 · have hnb : (n == 0) = false := by simp [hn]
   by_cases hc : h = IntKind.u64.wrap (wrap64 l / 9223372036854775808)
   · have hcb : (h != IntKind.u64.wrap (wrap64 l / 9223372036854775808)) = false := by simp [← hc]
     have HRR : Aside0 (r1 = 1 ∧ r2 = wrap64 l ∧ r3 = ⟨#[]⟩ ∧ r4 = 0) := ⟨by
      have h := HR.out
      unfold totalOut at h
      rw [if_neg hn, if_pos hc] at h
      simp only [Prod.mk.injEq] at h
      exact ⟨h.1.symm, h.2.1.symm, h.2.2.1.symm, h.2.2.2.symm⟩⟩
     clear hn hc
     go_enter Tryz.func157, Tryz.ntmps157
     go_wp2_with (first | ((with_reducible refine gate_dst (N := 2) rfl ?_); refine box_event ?hg (N := 2) ?hd (cs := #[.int .u8 0, .int .i64 0, .string (⟨#[]⟩ : ByteArray), .int .i64 0]) (t := 38) ?hr ?_; (case hd => rfl); (case hg => rfl); (case hr => first | (go_simp; done) | (go_simp; rfl)); intro q hq W hN hb1; have C0 := (hb1.block b HLT.out).trans HBK.out; have HB1 := Aside0.mk hb1; have HQ := Aside0.mk hq; have HN0 := Aside0.mk hN; have F0 : W.cell? ⟨b, 0, none⟩ = some (.int .u64 h) := (blk_cell C0 0).trans rfl; have F1 : W.cell? ⟨b, 1, none⟩ = some (.int .u64 l) := (blk_cell C0 1).trans rfl; have F2 : W.cell? ⟨b, 2, none⟩ = some (.int .u64 n) := (blk_cell C0 2).trans rfl; have G0 : W.cell? ⟨q, 0, none⟩ = some (.int .u8 0) := (blk_cell hN 0).trans rfl; have G1 : W.cell? ⟨q, 1, none⟩ = some (.int .i64 0) := (blk_cell hN 1).trans rfl; have G2 : W.cell? ⟨q, 2, none⟩ = some (.string ⟨#[]⟩) := (blk_cell hN 2).trans rfl; have G3 : W.cell? ⟨q, 3, none⟩ = some (.int .i64 0) := (blk_cell hN 3).trans rfl; have F4 : ∀ j, W.frozen? ⟨q, j, none⟩ = false := (fun j => by simp [World.frozen?, hN]); clear hb1 hq hN C0))
     go_region
     obtain ⟨W2, hW2⟩ : ∃ W2, W2 = W.drew := ⟨_, rfl⟩
     rw [← hW2]
     have HN2 : Aside0 (W2.heap[q]? = some (.cells #[.int .u8 0, .int .i64 0, .string ⟨#[]⟩, .int .i64 0] 38 (0, 0))) := ⟨by rw [hW2]; exact HN0.out⟩
     have HB2 : Aside0 (Below w.heap.size w W2) := ⟨by rw [hW2]; exact HB1.out.drew⟩
     have F1' : W2.cell? ⟨b, 1, none⟩ = some (.int .u64 l) := by rw [hW2]; exact F1
     clear hW2 F0 F1 F2 F4 G0 G1 G2 G3
     go_wp2_with fail
     refine (value_Int.calls (wrap64 l) 1 (wrap64 l) ⟨#[]⟩ W2 rfl).mono ?_
     rintro e W3 ⟨rfl, hb3⟩
     have hN3 := (hb3.block q (blk_lt HN2.out)).trans HN2.out
     have HN3 := Aside0.mk hN3
     have HB3 := Aside0.mk (HB2.out.trans (hb3.mono HB2.out.size))
     have G0 : W3.cell? ⟨q, 0, none⟩ = some (.int .u8 0) := (blk_cell hN3 0).trans rfl
     have G1 : W3.cell? ⟨q, 1, none⟩ = some (.int .i64 0) := (blk_cell hN3 1).trans rfl
     have G2 : W3.cell? ⟨q, 2, none⟩ = some (.string ⟨#[]⟩) := (blk_cell hN3 2).trans rfl
     have G3 : W3.cell? ⟨q, 3, none⟩ = some (.int .i64 0) := (blk_cell hN3 3).trans rfl
     have F4 : ∀ j, W3.frozen? ⟨q, j, none⟩ = false := (fun j => by simp [World.frozen?, hN3])
     clear hb3 hN3 F1'
     go_wp2
     refine bodyPost_ret (results_cell_row rfl _ _ q 38 #[.int .u8 1, .int .i64 (wrap64 l), .string (⟨#[]⟩ : ByteArray), .int .i64 0] (0, 0) _ rfl (out_cells HN3.out _ _ _ _) Tryz.underlying38 rfl (by kernel_rfl)) rfl ?_
     refine ⟨?_, out_below HB3.out HQ.out _ _ _ _⟩
     obtain ⟨rfl, rfl, rfl, rfl⟩ := HRR.out
     rfl
   · have hcb : (h != IntKind.u64.wrap (wrap64 l / 9223372036854775808)) = true := by simpa using hc
     have HRR : Aside0 (r1 = 0 ∧ r2 = 0 ∧ r3 = ⟨#[]⟩ ∧ r4 = 4) := ⟨by
      have h := HR.out
      unfold totalOut at h
      rw [if_neg hn, if_neg hc] at h
      simp only [Prod.mk.injEq] at h
      exact ⟨h.1.symm, h.2.1.symm, h.2.2.1.symm, h.2.2.2.symm⟩⟩
     clear hn hc
     go_enter Tryz.func157, Tryz.ntmps157
     go_wp2_with (first | ((with_reducible refine gate_dst (N := 2) rfl ?_); refine box_event ?hg (N := 2) ?hd (cs := #[.int .u8 0, .int .i64 0, .string (⟨#[]⟩ : ByteArray), .int .i64 0]) (t := 38) ?hr ?_; (case hd => rfl); (case hg => rfl); (case hr => first | (go_simp; done) | (go_simp; rfl)); intro q hq W hN hb1; have C0 := (hb1.block b HLT.out).trans HBK.out; have HB1 := Aside0.mk hb1; have HQ := Aside0.mk hq; have HN0 := Aside0.mk hN; have F0 : W.cell? ⟨b, 0, none⟩ = some (.int .u64 h) := (blk_cell C0 0).trans rfl; have F1 : W.cell? ⟨b, 1, none⟩ = some (.int .u64 l) := (blk_cell C0 1).trans rfl; have F2 : W.cell? ⟨b, 2, none⟩ = some (.int .u64 n) := (blk_cell C0 2).trans rfl; have G0 : W.cell? ⟨q, 0, none⟩ = some (.int .u8 0) := (blk_cell hN 0).trans rfl; have G1 : W.cell? ⟨q, 1, none⟩ = some (.int .i64 0) := (blk_cell hN 1).trans rfl; have G2 : W.cell? ⟨q, 2, none⟩ = some (.string ⟨#[]⟩) := (blk_cell hN 2).trans rfl; have G3 : W.cell? ⟨q, 3, none⟩ = some (.int .i64 0) := (blk_cell hN 3).trans rfl; have F4 : ∀ j, W.frozen? ⟨q, j, none⟩ = false := (fun j => by simp [World.frozen?, hN]); clear hb1 hq hN C0))
     go_region
     obtain ⟨W2, hW2⟩ : ∃ W2, W2 = W.drew := ⟨_, rfl⟩
     rw [← hW2]
     have hN2 : W2.heap[q]? = some (.cells #[.int .u8 0, .int .i64 0, .string ⟨#[]⟩, .int .i64 0] 38 (0, 0)) := by rw [hW2]; exact HN0.out
     have HN2 := Aside0.mk hN2
     have HB2 : Aside0 (Below w.heap.size w W2) := ⟨by rw [hW2]; exact HB1.out.drew⟩
     clear hW2 F0 F1 F2 F4 G0 G1 G2 G3
     have G0 : W2.cell? ⟨q, 0, none⟩ = some (.int .u8 0) := (blk_cell hN2 0).trans rfl
     have G1 : W2.cell? ⟨q, 1, none⟩ = some (.int .i64 0) := (blk_cell hN2 1).trans rfl
     have G2 : W2.cell? ⟨q, 2, none⟩ = some (.string ⟨#[]⟩) := (blk_cell hN2 2).trans rfl
     have G3 : W2.cell? ⟨q, 3, none⟩ = some (.int .i64 0) := (blk_cell hN2 3).trans rfl
     have F4 : ∀ j, W2.frozen? ⟨q, j, none⟩ = false := (fun j => by simp [World.frozen?, hN2])
     clear hN2
     go_wp2
     refine bodyPost_ret (results_cell_row rfl _ _ q 38 #[.int .u8 0, .int .i64 0, .string (⟨#[]⟩ : ByteArray), .int .i64 4] (0, 0) _ rfl (out_cells HN2.out _ _ _ _) Tryz.underlying38 rfl (by kernel_rfl)) rfl ?_
     refine ⟨?_, out_below HB2.out HQ.out _ _ _ _⟩
     obtain ⟨rfl, rfl, rfl, rfl⟩ := HRR.out
     rfl
theorem below_grownBy {w W : World} {row : Option Nat} (h : Below w.heap.size w W) : w.grownBy W row := ⟨h.os, h.tape, h.output, h.size, fun k hk _ => h.block k hk⟩
theorem counter_take (b : Nat) (n : Int) (v : V) (w : World) (hb : w.heap[b]? = some (.cells #[.int .i64 n] 131 (0, 0))) :
 Calls Tryz.prog 168 #[.pointer (some ⟨b, 0, none⟩), .agg #[.int .u8 v.f0, .int .i64 v.f1, .string v.f2]] w fun e w' => e = .returned (.tuple #[]) ∧ w'.heap[b]? = some (.cells #[.int .i64 (wrap64 (n + 1))] 131 (0, 0)) ∧ w.grownBy w' (some b) := by
 have hlt : b < w.heap.size := (Array.getElem?_eq_some_iff.1 hb).1
 have HLT := Aside0.mk hlt
 have HBK := Aside0.mk hb
 clear hb hlt
 go_enter Tryz.func168, Tryz.ntmps168
 go_wp2_with (first | ((with_reducible refine gate_dst (N := 3) rfl ?_); refine box_event ?hg (N := 3) ?hd (cs := #[.int .u8 v.f0, .int .i64 v.f1, .string v.f2]) (t := 36) ?hr ?_; (case hd => rfl); (case hg => rfl); (case hr => first | (go_simp; done) | (go_simp; rfl)); intro q hq W hN hb1; have C0 := (hb1.block b HLT.out).trans HBK.out; have HB1 := Aside0.mk hb1; have HC0 := Aside0.mk C0; have F0 : W.cell? ⟨b, 0, none⟩ = some (.int .i64 n) := (blk_cell C0 0).trans rfl; have F4 : ∀ j, W.frozen? ⟨b, j, none⟩ = false := (fun j => by simp [World.frozen?, C0]); clear hb1 hq hN C0))
 go_end0
 exact ⟨rfl, (blk_set HC0.out 0 _).trans rfl, grownBy_set0 (below_grownBy HB1.out) 0 _⟩
theorem counter_done (b : Nat) (n : Int) (w : World) (hb : w.heap[b]? = some (.cells #[.int .i64 n] 131 (0, 0))) :
 Calls Tryz.prog 167 #[.pointer (some ⟨b, 0, none⟩)] w fun e w' => e = .returned (.agg #[.int .u8 1, .int .i64 n, .string ⟨#[]⟩, .int .i64 0]) ∧ Below w.heap.size w w' := by
 have hlt : b < w.heap.size := (Array.getElem?_eq_some_iff.1 hb).1
 have HLT := Aside0.mk hlt
 have HBK := Aside0.mk hb
 clear hb hlt
 go_enter Tryz.func167, Tryz.ntmps167
 go_wp2_with (first | ((with_reducible refine gate_dst (N := 2) rfl ?_); refine box_event ?hg (N := 2) ?hd (cs := #[.int .u8 0, .int .i64 0, .string (⟨#[]⟩ : ByteArray), .int .i64 0]) (t := 38) ?hr ?_; (case hd => rfl); (case hg => rfl); (case hr => first | (go_simp; done) | (go_simp; rfl)); intro q hq W hN hb1; have C0 := (hb1.block b HLT.out).trans HBK.out; have HB1 := Aside0.mk hb1; have HQ := Aside0.mk hq; have HN0 := Aside0.mk hN; have F0 : W.cell? ⟨b, 0, none⟩ = some (.int .i64 n) := (blk_cell C0 0).trans rfl; have G0 : W.cell? ⟨q, 0, none⟩ = some (.int .u8 0) := (blk_cell hN 0).trans rfl; have G1 : W.cell? ⟨q, 1, none⟩ = some (.int .i64 0) := (blk_cell hN 1).trans rfl; have G2 : W.cell? ⟨q, 2, none⟩ = some (.string ⟨#[]⟩) := (blk_cell hN 2).trans rfl; have G3 : W.cell? ⟨q, 3, none⟩ = some (.int .i64 0) := (blk_cell hN 3).trans rfl; have F4 : ∀ j, W.frozen? ⟨q, j, none⟩ = false := (fun j => by simp [World.frozen?, hN]); clear hb1 hq hN C0) | (go_at_call 159; refine (value_Int.calls n 1 n ⟨#[]⟩ _ rfl).mono ?_; rintro e W3 ⟨rfl, hb3⟩; have hN3 := (hb3.block q (blk_lt HN0.out)).trans HN0.out; have HN3 := Aside0.mk hN3; have HB3 := Aside0.mk (HB1.out.trans (hb3.mono HB1.out.size)); clear G0 G1 G2 G3 F4; have G0 : W3.cell? ⟨q, 0, none⟩ = some (.int .u8 0) := (blk_cell hN3 0).trans rfl; have G1 : W3.cell? ⟨q, 1, none⟩ = some (.int .i64 0) := (blk_cell hN3 1).trans rfl; have G2 : W3.cell? ⟨q, 2, none⟩ = some (.string ⟨#[]⟩) := (blk_cell hN3 2).trans rfl; have G3 : W3.cell? ⟨q, 3, none⟩ = some (.int .i64 0) := (blk_cell hN3 3).trans rfl; have F4 : ∀ j, W3.frozen? ⟨q, j, none⟩ = false := (fun j => by simp [World.frozen?, hN3]); clear hb3 hN3 F0))
 refine bodyPost_ret (results_cell_row rfl _ _ q 38 #[.int .u8 1, .int .i64 n, .string (⟨#[]⟩ : ByteArray), .int .i64 0] (0, 0) _ rfl (out_cells HN3.out _ _ _ _) Tryz.underlying38 rfl (by kernel_rfl)) rfl ?_
 exact ⟨rfl, out_below HB3.out HQ.out _ _ _ _⟩
theorem gath_sum (w : World) : Calls Tryz.prog 57 #[.int .u8 2] w fun e w' => e = .returned (.iface 120 (.pointer (some ⟨w.heap.size, 0, none⟩))) ∧ w' = w.alloc (.cells #[.int .u64 0, .int .u64 0, .int .u64 0] 122) := by
 go_enter Tryz.func57, Tryz.ntmps57
 go_wp2
 go_ret
 exact ⟨rfl, rfl⟩
theorem gath_count (fn : Int) (h : fn = 0 ∨ fn = 1) (w : World) : Calls Tryz.prog 57 #[.int .u8 fn] w fun e w' => e = .returned (.iface 129 (.pointer (some ⟨w.heap.size, 0, none⟩))) ∧ w' = w.alloc (.cells #[.int .i64 0] 131) := by
 rcases h with rfl | rfl
 · go_enter Tryz.func57, Tryz.ntmps57
   go_wp2
   go_ret
   exact ⟨rfl, rfl⟩
 · go_enter Tryz.func57, Tryz.ntmps57
   go_wp2
   go_ret
   exact ⟨rfl, rfl⟩
end Go.Proofs.YtecgkcgfeghhgaaGreatDoor.PAll
