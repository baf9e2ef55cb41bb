/- The row of BagSets (second form: what it reads is of bulk at most 2^20) and its card. Joined by a program of this session out of its texts. -/
import Derived.Test.YtecgkcgfeghhgaaGreatDoorQBagSets5
import Derived.Below
import Derived.Deep.Draws
import Derived.Deep.AppendLies
import Derived.Maps.AppendAt
import Derived.OwnWalk
import Derived.Laws.BytesArg
import Derived.Laws.MakeOwn
import Derived.Laws.OwnMore
import Derived.Deep.OwnRows
import Derived.Tactics
import Derived.Lib.ConvBytes
import Derived.Laws.Slices
import Derived.WalkKit
import Derived.KernelRfl
import Derived.RowKit3
import Derived.Deep.LoopGhost
import Derived.Deep.QuietTactic
import Derived.BigQuiet
import Derived.WideLaws
import Derived.Deep.DeepCutAuto
import Derived.Deep.CutBlock
import Derived.Deep.RegionHeld3
import Derived.Laws.Rows
import Derived.Lib.AppendStr
import Derived.ArgAppend
import Derived.Laws.IdiomCopy
import Derived.RowKit
import Derived.OrdersHeld
import Derived.Laws.BitsLemmas
import Derived.Laws.StructEq
import Derived.Shelf.Strings.BuilderK
import Derived.Shelf.Spec.SlicesGrow
import Derived.Shelf.SlGeneric
import Derived.Ground.Names8Prog
import Derived.Shelf.SlSortCmp.NoneTotal
import Derived.Ground.SlsfProg
import Derived.Ground.NamesProg
import Derived.Shelf.Spec.BitsCarry
import Derived.Ground.Names7Prog
import Derived.Shelf.Strings.Builder1
import Derived.Shelf.Small.Bits
import Derived.Shelf.Small.Strs
import Derived.Shelf.Strings.BuilderF
import Derived.Shelf.Strconv.Itoa0
import Derived.Shelf.Strconv.Itoa1
import Derived.Shelf.LaysM
import Derived.Shelf.Strconv.Itoa2
import Derived.Shelf.Strconv.Itoa3
import Derived.Shelf.Strconv.Itoa4
import Derived.Shelf.Strings.BuilderCap
import Derived.Maps.OwnOps
import Derived.ChangeArms
import Derived.Deep.Slices
import Derived.Deep.Strs
import Derived.Lib.ItoaLen
import Derived.Sort.Statements
import Derived.WalkSpells
import Derived.WalkMore
import Derived.BigRegion
import Derived.RegionTactic
import Derived.ProofKit
import Derived.OpenShut
import Derived.Carry
import Derived.Deep.DeepHandedRow
import Derived.Lib.LaidTab
set_option maxHeartbeats 8000000
set_option maxRecDepth 100000
namespace Go.Proofs.YtecgkcgfeghhgaaGreatDoor.PAll
open Go.RowKit Go.Proofs.YtecgkcgfeghhgaaGreatDoorW.PrintWords Go.Proofs.YtecgkcgfeghhgaaGreatDoorW.PrintLast Go.Proofs.YtecgkcgfeghhgaaGreatDoorW.PrintMore
attribute [local go_sem] max2_int min2_int max_two min_two max_three min_three max_four min_four
set_option linter.unusedVariables false
set_option linter.unusedSimpArgs false
def r6_Except.l0 : Nat → List (List (S36)) → List (List (S36)) → List (List (S36)) → Int → Option ((List (List (S36))) × Int)
 | 0, _, _, _, _ => none
 | k + 1, x0, x1, x6, x7 => if x7 < (x0.length : Int) then (if 0 ≤ x7 then ((r6_Count.f k x6 (rd_L4 x0 x7)).bind fun t508 => ((r6_Count.f k x0 (rd_L4 x0 x7)).bind fun t510 => ((r6_Count.f k x1 (rd_L4 x0 x7)).bind fun t512 => (if t508 < (wrap64 (t510 - t512)) then (if x6.length < 5864062014805 then (r6_Except.l0 k x0 x1 (x6 ++ [rd_L4 x0 x7]) (wrap64 (x7 + 1))) else (none)) else (r6_Except.l0 k x0 x1 x6 (wrap64 (x7 + 1))))))) else (none)) else ((r6_full.f k x6 ([] : List (S64))).bind fun t504 => (some (t504, 0)))
def r6_Except.f (k : Nat) (l0 : List (List (S36))) (l1 : List (List (S36))) : Option ((List (List (S36))) × Int) := (r6_together.f k l0 l1).bind fun t500 => ((r6_Valid.f k t500).bind fun t503 => (if t503 = true then (r6_Except.l0 k l0 l1 ([] : List (List (S36))) 0) else (some (([] : List (List (S36))), 1))))
def r6_Except.T7 : Bool × List (List Nat × List Nat) := (true, [([], []), ([], []), ([], []), ([1, 2], [1, 2]), ([3], [3]), ([0, 4], [0, 4]), ([], []), ([], []), ([], []), ([7, 8], [7, 8]), ([9], [9]), ([6, 10, 5], [6, 10]), ([], []), ([], []), ([], []), ([13, 14], [13, 14]), ([15], [15]), ([12, 16, 11], [12, 16]), ([11, 17], [11, 17]), ([5, 18], [5, 18])])
def r6_Except.B7 : List Nat := [0, 0, 0, 6, 14, 31, 0, 0, 0, 384, 896, 2047, 0, 0, 0, 24576, 57344, 131071, 262143, 524287]
theorem r6_Except.tab7 : rtab .any (opsOf Tryz.f36 7) = r6_Except.T7 := by kernel_rfl
theorem r6_Except.bits7 : waitsOk r6_Except.T7.2 r6_Except.B7 = true := by kernel_rfl
theorem r6_Except.calls (k : Nat) (P0_ : Nat → Prop) (A0 : Option Addr) (c0 : Nat) (l0 : List (List (S36))) (P1_ : Nat → Prop) (A1 : Option Addr) (c1 : Nat) (l1 : List (List (S36))) (r1 : List (List (S36))) (r2 : Int) (w : World) (hs0 : Kd.V (Kd.slice 36 k36) 53 w w.heap.size (fun k_ => P0_ k_) (.slice A0 l0.length c0) l0) (hs1 : Kd.V (Kd.slice 36 k36) 53 w w.heap.size (fun k_ => P1_ k_) (.slice A1 l1.length c1) l1) (h : r6_Except.f k l0 l1 = some (r1, r2)) :
 Calls Tryz.prog 36 #[.slice A0 l0.length c0, .slice A1 l1.length c1] w fun e w' => ∃ v0_ : Value, e = .returned (.tuple #[v0_, .int .i64 r2]) ∧ Kd.V (Kd.slice 36 k36) 53 w' w.heap.size (fun k_ => ((P0_ k_ ∨ P1_ k_) ∨ w.heap.size ≤ k_)) v0_ r1 ∧ Below w.heap.size w w' := by
 have HO0 := Aside0.mk (show Kd.V (Kd.slice 36 k36) 53 w w.heap.size (fun k_ => ((P0_ k_ ∨ P1_ k_) ∨ w.heap.size ≤ k_)) (.slice A0 l0.length c0) l0 from Kd.V_mono hs0 (fun k_ hk => .inl (.inl hk)))
 have HO1 := Aside0.mk (show Kd.V (Kd.slice 36 k36) 53 w w.heap.size (fun k_ => ((P0_ k_ ∨ P1_ k_) ∨ w.heap.size ≤ k_)) (.slice A1 l1.length c1) l1 from Kd.V_mono hs1 (fun k_ hk => .inl (.inr hk)))
 have HB := Aside0.mk (Below.refl w.heap.size w)
 have H : ((r6_together.f k l0 l1).bind fun t500 => ((r6_Valid.f k t500).bind fun t503 => (if t503 = true then (r6_Except.l0 k l0 l1 ([] : List (List (S36))) 0) else (some (([] : List (List (S36))), 1))))) = some (r1, r2) := h
 clear h
 replace H := Option.bind_eq_some_iff.mp H
 obtain ⟨t500, A30, H⟩ := H
 replace H : ((r6_Valid.f k t500).bind fun t503 => (if t503 = true then (r6_Except.l0 k l0 l1 ([] : List (List (S36))) 0) else (some (([] : List (List (S36))), 1)))) = some (r1, r2) := H
 have A3 := Aside0.mk A30
 clear A30
 replace H := Option.bind_eq_some_iff.mp H
 obtain ⟨t503, A40, H⟩ := H
 replace H : (if t503 = true then (r6_Except.l0 k l0 l1 ([] : List (List (S36))) 0) else (some (([] : List (List (S36))), 1))) = some (r1, r2) := H
 have A4 := Aside0.mk A40
 clear A40
 by_cases c5 : t503 = true
 · subst c5
   have H1 : (r6_Except.l0 k l0 l1 ([] : List (List (S36))) 0) = some (r1, r2) := by rw [if_pos rfl] at H; exact H
   clear H
   have H := H1
   clear H1
   have H' := Aside0.mk H
   clear H
   go_enter Tryz.func36, Tryz.ntmps36
   go_wp2_with (first | ((with_reducible refine gate_callee (f := 70) rfl ?_); refine goesL_ (some 10) rfl rfl Tryz.func70 (by kernel_rfl) rfl #[.slice A0 l0.length c0, .slice A1 l1.length c1] rfl (by (try simp only [List.map_toArray, List.map_cons, List.map_nil]); first | done | rfl | (simp only [List.length_drop, List.length_take]; rfl)) ?_; (with_reducible refine (r6_together.calls k (fun k_ => ((P0_ k_ ∨ P1_ k_) ∨ w.heap.size ≤ k_)) _ _ l0 (fun k_ => ((P0_ k_ ∨ P1_ k_) ∨ w.heap.size ≤ k_)) _ _ l1 t500 _ ?side1 ?side2 A3.out).mono ?_); (case side1 => exact HO0.out); (case side2 => exact HO1.out); rintro e w6 ⟨v501, rfl, ho0, hb⟩; refine ⟨_, rfl, ?_⟩; have n0_ := Aside0.mk (Kd.V_elder' (by (with_reducible repeat (first | apply Kd.vA_ | apply Kd.vN_ | apply Kd.vD_)); exact HO0.out) (Kd.N_base ho0) hb); have n1_ := Aside0.mk (Kd.V_elder' (by (with_reducible repeat (first | apply Kd.vA_ | apply Kd.vN_ | apply Kd.vD_)); exact HO1.out) (Kd.N_base ho0) hb); have n2_ := Aside0.mk (Kd.N_lower (Kd.N_mono (ok' := fun k_ => ((P0_ k_ ∨ P1_ k_) ∨ w.heap.size ≤ k_)) ho0 (fun k_ hk_ => Or.elim hk_ (fun hs_ => Or.elim hs_ (fun hs_ => hs_) (fun hs_ => hs_)) (fun hn_ => (.inr (Nat.le_trans (below_size (by repeat (first | (with_reducible first | exact HB.out | apply bA_ | apply bN_ | apply b1_) | exact HB.out))) hn_))))) (below_size (by repeat (first | (with_reducible first | exact HB.out | apply bA_ | apply bN_ | apply b1_) | exact HB.out)))); have n3_ := Aside0.mk (below_step (by repeat (first | (with_reducible first | exact HB.out | apply bA_ | apply bN_ | apply b1_) | exact HB.out)) hb); clear HO0; clear HO1; clear HB; have HO0 := n0_; have HO1 := n1_; have HO502 := n2_; have HB := n3_; clear n0_ n1_ n2_ n3_; (try clear hb); (try clear hb2); (try clear hk); (try clear hi); (try clear ho0); obtain ⟨Ao7, co7, eo7⟩ := Kd.N_slice HO502.out; subst eo7) | ((with_reducible refine gate_callee (f := 11) rfl ?_); refine goesL_ (some 11) rfl rfl Tryz.func11 (by kernel_rfl) rfl #[.slice Ao7 t500.length co7] rfl (by (try simp only [List.map_toArray, List.map_cons, List.map_nil]); first | done | rfl | (simp only [List.length_drop, List.length_take]; rfl)) ?_; (with_reducible refine (r6_Valid.calls k _ _ t500 true _ ?side1 ?side2 A4.out).mono ?_); (case side1 => repeat (first | exact (Kd.N_reads' HO502.out).2.2 | (with_reducible refine Kd.cA_ ?_ _) | (with_reducible refine Kd.cN_ ?_ _) | (with_reducible refine Kd.cD_ ?_))); (case side2 => exact (Kd.N_reads' HO502.out).2.1); rintro e w8 ⟨rfl, hb⟩; refine ⟨_, rfl, ?_⟩; have n0_ := Aside0.mk (Kd.V_below (by (with_reducible repeat (first | apply Kd.vA_ | apply Kd.vN_ | apply Kd.vD_)); exact HO0.out) hb); have n1_ := Aside0.mk (Kd.V_below (by (with_reducible repeat (first | apply Kd.vA_ | apply Kd.vN_ | apply Kd.vD_)); exact HO1.out) hb); have n2_ := Aside0.mk (Kd.N_below (by (with_reducible repeat (first | apply Kd.nA_ | apply Kd.nN_ | apply Kd.nD_)); exact HO502.out) hb); have n3_ := Aside0.mk (below_step (by repeat (first | (with_reducible first | exact HB.out | apply bA_ | apply bN_ | apply b1_) | exact HB.out)) hb); clear HO0; clear HO1; clear HO502; clear HB; have HO0 := n0_; have HO1 := n1_; have HO502 := n2_; have HB := n3_; clear n0_ n1_ n2_ n3_; (try clear hb); (try clear hb2); (try clear hk); (try clear hi)))
   go_loopg [6, 7] k (fun kq v6 v7 w' => ∃ (x6_1 : List (List (S36))) (x7_1 : Int), v7 = .int .i64 x7_1 ∧ Aside0 (r6_Except.l0 kq l0 l1 x6_1 x7_1 = some (r1, r2)) ∧ Aside0 (kq ≤ k) ∧ Aside0 (Kd.V (Kd.slice 36 k36) 53 w' w.heap.size (fun k_ => ((P0_ k_ ∨ P1_ k_) ∨ w.heap.size ≤ k_) ∧ some k_ ≠ (v6 : Value).ownBlock) (.slice A0 l0.length c0) l0) ∧ Aside0 (Kd.V (Kd.slice 36 k36) 53 w' w.heap.size (fun k_ => ((P0_ k_ ∨ P1_ k_) ∨ w.heap.size ≤ k_) ∧ some k_ ≠ (v6 : Value).ownBlock) (.slice A1 l1.length c1) l1) ∧ Aside0 (Kd.N (Kd.slice 36 k36) 53 w' w.heap.size (fun k_ => ((P0_ k_ ∨ P1_ k_) ∨ w.heap.size ≤ k_)) v6 x6_1) ∧ Aside0 (Below w.heap.size w w'))
   case atStart => exact ⟨(([] : List (List (S36)))), (0), (by first | rfl | (simp; done) | (simp [*]; done)), H', ⟨Nat.le_refl _⟩, ⟨by (with_reducible repeat (first | apply Kd.vA_ | apply Kd.vN_ | apply Kd.vD_)); exact Kd.V_mono HO0.out (fun _ hk => ⟨hk.1, (by simp [Value.ownBlock])⟩)⟩, ⟨by (with_reducible repeat (first | apply Kd.vA_ | apply Kd.vN_ | apply Kd.vD_)); exact Kd.V_mono HO1.out (fun _ hk => ⟨hk.1, (by simp [Value.ownBlock])⟩)⟩, ⟨by first | exact Kd.S_nil _ _ _ _ _ | exact Kd.N_nil _ _ _ _ _ | exact Kd.V_nil _ _ _ _ _ | exact Kd.Q_nil _ _ _ _ _ | exact Kd.R_nil _ _ _ _ _⟩, ⟨by repeat (first | (with_reducible first | exact HB.out | apply bA_ | apply bN_ | apply b1_) | exact HB.out)⟩⟩
   case round =>
    clear H'
    try clear c1
    try clear p2
    try clear c3
    try clear c5
    try clear c7
    obtain ⟨x6_1, x7_1, rfl, HA, HK1, HO_0, HO_1, HO_6, HB⟩ := hrel
    cases gk with
    | zero => exact absurd HA.out (by simp [r6_Except.l0])
    | succ k1 =>
     have H := HA.out
     clear HA
     simp only [r6_Except.l0] at H
     by_cases c9 : x7_1 < (l0.length : Int)
     · rw [if_pos c9] at H
       have c9b0 : decide (x7_1 < (l0.length : Int)) = true := dT_ c9
       clear c9
       by_cases c10 : 0 ≤ x7_1
       · rw [if_pos c10] at H
         have c10b0 : decide (0 ≤ x7_1) = true := dT_ c10
         clear c10
         replace H := Option.bind_eq_some_iff.mp H
         obtain ⟨t508, A110, H⟩ := H
         replace H : ((r6_Count.f k1 l0 (rd_L4 l0 x7_1)).bind fun t510 => ((r6_Count.f k1 l1 (rd_L4 l0 x7_1)).bind fun t512 => (if t508 < (wrap64 (t510 - t512)) then (if x6_1.length < 5864062014805 then (r6_Except.l0 k1 l0 l1 (x6_1 ++ [rd_L4 l0 x7_1]) (wrap64 (x7_1 + 1))) else (none)) else (r6_Except.l0 k1 l0 l1 x6_1 (wrap64 (x7_1 + 1)))))) = some (r1, r2) := H
         have A11 := Aside0.mk A110
         clear A110
         replace H := Option.bind_eq_some_iff.mp H
         obtain ⟨t510, A120, H⟩ := H
         replace H : ((r6_Count.f k1 l1 (rd_L4 l0 x7_1)).bind fun t512 => (if t508 < (wrap64 (t510 - t512)) then (if x6_1.length < 5864062014805 then (r6_Except.l0 k1 l0 l1 (x6_1 ++ [rd_L4 l0 x7_1]) (wrap64 (x7_1 + 1))) else (none)) else (r6_Except.l0 k1 l0 l1 x6_1 (wrap64 (x7_1 + 1))))) = some (r1, r2) := H
         have A12 := Aside0.mk A120
         clear A120
         replace H := Option.bind_eq_some_iff.mp H
         obtain ⟨t512, A130, H⟩ := H
         replace H : (if t508 < (wrap64 (t510 - t512)) then (if x6_1.length < 5864062014805 then (r6_Except.l0 k1 l0 l1 (x6_1 ++ [rd_L4 l0 x7_1]) (wrap64 (x7_1 + 1))) else (none)) else (r6_Except.l0 k1 l0 l1 x6_1 (wrap64 (x7_1 + 1)))) = some (r1, r2) := H
         have A13 := Aside0.mk A130
         clear A130
         by_cases c14 : t508 < (wrap64 (t510 - t512))
         · rw [if_pos c14] at H
           have c14b0 : decide (t508 < (wrap64 (t510 - t512))) = true := dT_ c14
           clear c14
           by_cases c15 : x6_1.length < 5864062014805
           · rw [if_pos c15] at H
             have LMc15 := Aside0.mk c15
             clear c15
             obtain ⟨y514, hy514⟩ : ∃ y_ : List (List (S36)), y_ = (x6_1 ++ [rd_L4 l0 x7_1]) := ⟨_, rfl⟩
             replace H : (r6_Except.l0 k1 l0 l1 y514 (wrap64 (x7_1 + 1))) = some (r1, r2) := by first | (rw [hy514]; with_reducible exact H) | (have H2_ := (Option.bind_some _ _).symm.trans H; rw [hy514]; with_reducible exact H2_) | (have H2_ := (Option.bind_some _ _).symm.trans H; with_reducible exact H2_) | with_reducible exact H | (rw [hy514]; exact H) | exact H
             have Ny514 := Aside0.mk hy514
             clear hy514
             have H' := Aside0.mk H
             clear H
             try go_wp2
             have n0_ := Aside0.mk (Kd.vD_ HO_0.out)
             have n1_ := Aside0.mk (Kd.vD_ HO_1.out)
             have n2_ := Aside0.mk (Kd.nD_ HO_6.out)
             have n3_ := Aside0.mk (b1_ HB.out)
             clear HO_0
             clear HO_1
             clear HO_6
             clear HB
             have HO_0 := n0_
             have HO_1 := n1_
             have HO_6 := n2_
             have HB := n3_
             clear n0_ n1_ n2_ n3_
             have p507 : 0 ≤ (x7_1 : Int) := oT_ (by assumption)
             have q507 : x7_1 < (l0.length : Int) := oT_ (by assumption)
             obtain ⟨ad507, A507_0, c507_0, e507, hx507_0, hl507_0, hi507_0⟩ := at_L4 (Kd.V_reads' HO_0.out).2.2 x7_1 p507 q507
             cases e507
             obtain ⟨ce507, hce507, hMe507, hcc507⟩ := Kd.V_get HO_0.out [] x7_1 p507 (by first | exact q507 | exact oT_ (by assumption) | (have e_ := (Kd.V_reads' HO_0.out).1; omega))
             obtain ⟨ua507_0, uc507_0, rfl, ul507_0, ge507_0⟩ := Kd.FK_slice_open hMe507
             have hv507_0 := hcc507 0 _ rfl
             rw [Nat.add_zero, show ((Kd.slice 36 k36)).sz = 1 from rfl, Nat.mul_one] at hv507_0
             replace hv507_0 := Option.some.inj (hv507_0.symm.trans hx507_0)
             injection hv507_0 with hva_ hvn_ hvc_
             rw [hva_] at ge507_0
             rw [hvc_] at ul507_0
             have HL507_0 := Aside0.mk (show Kd.V k36 36 _ w.heap.size _ _ (rd_L4 l0 x7_1) from Kd.V_mk ul507_0 ge507_0)
             clear hva_ hvn_ hvc_ ge507_0 ul507_0
             clear hcc507 hce507
             have HR507_0 := Aside0.mk hi507_0
             have HC507_0 := Aside0.mk hl507_0
             clear hi507_0 hl507_0
             replace p507 := eq_true p507
             replace q507 := eq_true q507
             have p509 : 0 ≤ (x7_1 : Int) := oT_ (by assumption)
             have q509 : x7_1 < (l0.length : Int) := oT_ (by assumption)
             obtain ⟨ad509, A509_0, c509_0, e509, hx509_0, hl509_0, hi509_0⟩ := at_L4 (Kd.V_reads' HO_0.out).2.2 x7_1 p509 q509
             obtain rfl : ad507 = ad509 := (by injection e509)
             obtain ⟨ce509, hce509, hMe509, hcc509⟩ := Kd.V_get HO_0.out [] x7_1 p509 (by first | exact q509 | exact oT_ (by assumption) | (have e_ := (Kd.V_reads' HO_0.out).1; omega))
             obtain ⟨ua509_0, uc509_0, rfl, ul509_0, ge509_0⟩ := Kd.FK_slice_open hMe509
             have hv509_0 := hcc509 0 _ rfl
             rw [Nat.add_zero, show ((Kd.slice 36 k36)).sz = 1 from rfl, Nat.mul_one] at hv509_0
             replace hv509_0 := Option.some.inj (hv509_0.symm.trans hx509_0)
             injection hv509_0 with hva_ hvn_ hvc_
             rw [hva_] at ge509_0
             rw [hvc_] at ul509_0
             have HL509_0 := Aside0.mk (show Kd.V k36 36 _ w.heap.size _ _ (rd_L4 l0 x7_1) from Kd.V_mk ul509_0 ge509_0)
             clear hva_ hvn_ hvc_ ge509_0 ul509_0
             clear hcc509 hce509
             have HR509_0 := Aside0.mk hi509_0
             have HC509_0 := Aside0.mk hl509_0
             clear hi509_0 hl509_0
             replace p509 := eq_true p509
             replace q509 := eq_true q509
             have ea_ := Option.some.inj (hx507_0.symm.trans hx509_0)
             injection ea_ with ea_ en_ ec_
             subst ea_
             subst ec_
             clear en_
             have p511 : 0 ≤ (x7_1 : Int) := oT_ (by assumption)
             have q511 : x7_1 < (l0.length : Int) := oT_ (by assumption)
             obtain ⟨ad511, A511_0, c511_0, e511, hx511_0, hl511_0, hi511_0⟩ := at_L4 (Kd.V_reads' HO_0.out).2.2 x7_1 p511 q511
             obtain rfl : ad507 = ad511 := (by injection e511)
             obtain ⟨ce511, hce511, hMe511, hcc511⟩ := Kd.V_get HO_0.out [] x7_1 p511 (by first | exact q511 | exact oT_ (by assumption) | (have e_ := (Kd.V_reads' HO_0.out).1; omega))
             obtain ⟨ua511_0, uc511_0, rfl, ul511_0, ge511_0⟩ := Kd.FK_slice_open hMe511
             have hv511_0 := hcc511 0 _ rfl
             rw [Nat.add_zero, show ((Kd.slice 36 k36)).sz = 1 from rfl, Nat.mul_one] at hv511_0
             replace hv511_0 := Option.some.inj (hv511_0.symm.trans hx511_0)
             injection hv511_0 with hva_ hvn_ hvc_
             rw [hva_] at ge511_0
             rw [hvc_] at ul511_0
             have HL511_0 := Aside0.mk (show Kd.V k36 36 _ w.heap.size _ _ (rd_L4 l0 x7_1) from Kd.V_mk ul511_0 ge511_0)
             clear hva_ hvn_ hvc_ ge511_0 ul511_0
             clear hcc511 hce511
             have HR511_0 := Aside0.mk hi511_0
             have HC511_0 := Aside0.mk hl511_0
             clear hi511_0 hl511_0
             replace p511 := eq_true p511
             replace q511 := eq_true q511
             have ea_ := Option.some.inj (hx507_0.symm.trans hx511_0)
             injection ea_ with ea_ en_ ec_
             subst ea_
             subst ec_
             clear en_
             obtain ⟨Ao17, co17, eo17⟩ := Kd.N_slice HO_6.out
             (first | subst eo17 | (injection eo17 with f1_ f2_ f3_; have f4_ := f1_.symm; have f5_ := f3_.symm; clear f1_ f2_ f3_; subst f4_; subst f5_))
             refine start_ (n := 20) (S := fun w' => w'.cell? (ad507.add (x7_1).toNat) = some (.slice A507_0 (rd_L4 l0 x7_1).length c507_0) ∧ w'.cell? (ad507.add (x7_1).toNat) = some (.slice A507_0 (rd_L4 l0 x7_1).length c507_0) ∧ w'.cell? (ad507.add (x7_1).toNat) = some (.slice A507_0 (rd_L4 l0 x7_1).length c507_0)) (ds := []) #[X_,X_,X_,X_,X_,X_,X_,X_,X_,X_,X_,X_,X_,X_,X_,X_,X_,X_,X_,X_] (by kernel_rfl) rfl rfl ⟨hx507_0, hx509_0, hx511_0⟩ (fun hHeld => ?_); refine with_tabW r6_Except.tab7 r6_Except.bits7 (fun HT_ HW_ => ?_)
             generalize wr.drew = w16 at HO_0 HO_1 HO_6 HB HL507_0 HL509_0 HL511_0 HR507_0 HR509_0 HR511_0 hx507_0 hx509_0 hx511_0 hHeld ⊢
             refine pure_ (i := 0) (N := some 19) (v := ?_) (a' := ?_) #[Y_,X_,X_,X_,X_,X_,X_,X_,X_,X_,X_,X_,X_,X_,X_,X_,X_,X_,X_,X_] rfl rfl (any_of HT_.out (by kernel_rfl)) (fun _ _ _ h => h) (Or.inl ⟨by rfl, ?_⟩) ?_ ?_
             rotate_left
             · intro w'
               go_simp
               with_reducible rfl
             rotate_left
             · simp only [Act.put, sTA_, sCZ_, sCS_, i64_w, i32_w]
               rfl
             refine pure_ (i := 1) (N := some 20) (v := ?_) (a' := ?_) #[Y_,Y_,X_,X_,X_,X_,X_,X_,X_,X_,X_,X_,X_,X_,X_,X_,X_,X_,X_,X_] rfl rfl (any_of HT_.out (by kernel_rfl)) (fun _ _ _ h => h) (Or.inl ⟨by rfl, ?_⟩) ?_ ?_
             rotate_left
             · intro w'
               go_simp
               with_reducible rfl
             rotate_left
             · simp only [Act.put, sTA_, sCZ_, sCS_, i64_w, i32_w]
               rfl
             refine pure_ (i := 2) (N := some 21) (v := ?_) (a' := ?_) #[Y_,Y_,Y_,X_,X_,X_,X_,X_,X_,X_,X_,X_,X_,X_,X_,X_,X_,X_,X_,X_] rfl rfl (any_of HT_.out (by kernel_rfl)) (fun _ _ _ h => h) (Or.inl ⟨by rfl, ?_⟩) ?_ ?_
             rotate_left
             · intro w'
               go_simp
               with_reducible rfl
             rotate_left
             · simp only [Act.put, sTA_, sCZ_, sCS_, i64_w, i32_w]
               rfl
             refine pure_ (i := 3) (N := some 22) (v := ?_) (a' := ?_) #[Y_,Y_,Y_,Y_,X_,X_,X_,X_,X_,X_,X_,X_,X_,X_,X_,X_,X_,X_,X_,X_] rfl rfl (any_of HT_.out (by kernel_rfl)) (fun _ _ _ h => h) (Or.inl ⟨by rfl, ?_⟩) ?_ ?_
             rotate_left
             · intro w'
               go_simp
               with_reducible rfl
             rotate_left
             · simp only [Act.put, sTA_, sCZ_, sCS_, i64_w, i32_w]
               rfl
             refine pure_ (i := 6) (N := some 25) (v := ?_) (a' := ?_) #[Y_,Y_,Y_,Y_,X_,X_,Y_,X_,X_,X_,X_,X_,X_,X_,X_,X_,X_,X_,X_,X_] rfl rfl (any_of HT_.out (by kernel_rfl)) (fun _ _ _ h => h) (Or.inl ⟨by rfl, ?_⟩) ?_ ?_
             rotate_left
             · intro w'
               go_simp
               with_reducible rfl
             rotate_left
             · simp only [Act.put, sTA_, sCZ_, sCS_, i64_w, i32_w]
               rfl
             refine pure_ (i := 7) (N := some 26) (v := ?_) (a' := ?_) #[Y_,Y_,Y_,Y_,X_,X_,Y_,Y_,X_,X_,X_,X_,X_,X_,X_,X_,X_,X_,X_,X_] rfl rfl (any_of HT_.out (by kernel_rfl)) (fun _ _ _ h => h) (Or.inl ⟨by rfl, ?_⟩) ?_ ?_
             rotate_left
             · intro w'
               go_simp
               with_reducible rfl
             rotate_left
             · simp only [Act.put, sTA_, sCZ_, sCS_, i64_w, i32_w]
               rfl
             refine pure_ (i := 8) (N := some 27) (v := ?_) (a' := ?_) #[Y_,Y_,Y_,Y_,X_,X_,Y_,Y_,Y_,X_,X_,X_,X_,X_,X_,X_,X_,X_,X_,X_] rfl rfl (any_of HT_.out (by kernel_rfl)) (fun _ _ _ h => h) (Or.inl ⟨by rfl, ?_⟩) ?_ ?_
             rotate_left
             · intro w'
               go_simp
               with_reducible rfl
             rotate_left
             · simp only [Act.put, sTA_, sCZ_, sCS_, i64_w, i32_w]
               rfl
             refine pure_ (i := 9) (N := some 28) (v := ?_) (a' := ?_) #[Y_,Y_,Y_,Y_,X_,X_,Y_,Y_,Y_,Y_,X_,X_,X_,X_,X_,X_,X_,X_,X_,X_] rfl rfl (any_of HT_.out (by kernel_rfl)) (fun _ _ _ h => h) (Or.inl ⟨by rfl, ?_⟩) ?_ ?_
             rotate_left
             · intro w'
               go_simp
               with_reducible rfl
             rotate_left
             · simp only [Act.put, sTA_, sCZ_, sCS_, i64_w, i32_w]
               rfl
             refine pure_ (i := 12) (N := some 31) (v := ?_) (a' := ?_) #[Y_,Y_,Y_,Y_,X_,X_,Y_,Y_,Y_,Y_,X_,X_,Y_,X_,X_,X_,X_,X_,X_,X_] rfl rfl (any_of HT_.out (by kernel_rfl)) (fun _ _ _ h => h) (Or.inl ⟨by rfl, ?_⟩) ?_ ?_
             rotate_left
             · intro w'
               go_simp
               with_reducible rfl
             rotate_left
             · simp only [Act.put, sTA_, sCZ_, sCS_, i64_w, i32_w]
               rfl
             refine pure_ (i := 13) (N := some 32) (v := ?_) (a' := ?_) #[Y_,Y_,Y_,Y_,X_,X_,Y_,Y_,Y_,Y_,X_,X_,Y_,Y_,X_,X_,X_,X_,X_,X_] rfl rfl (any_of HT_.out (by kernel_rfl)) (fun _ _ _ h => h) (Or.inl ⟨by rfl, ?_⟩) ?_ ?_
             rotate_left
             · intro w'
               go_simp
               with_reducible rfl
             rotate_left
             · simp only [Act.put, sTA_, sCZ_, sCS_, i64_w, i32_w]
               rfl
             refine pure_ (i := 14) (N := some 33) (v := ?_) (a' := ?_) #[Y_,Y_,Y_,Y_,X_,X_,Y_,Y_,Y_,Y_,X_,X_,Y_,Y_,Y_,X_,X_,X_,X_,X_] rfl rfl (any_of HT_.out (by kernel_rfl)) (fun _ _ _ h => h) (Or.inl ⟨by rfl, ?_⟩) ?_ ?_
             rotate_left
             · intro w'
               go_simp
               with_reducible rfl
             rotate_left
             · simp only [Act.put, sTA_, sCZ_, sCS_, i64_w, i32_w]
               rfl
             refine pure_ (i := 15) (N := some 34) (v := ?_) (a' := ?_) #[Y_,Y_,Y_,Y_,X_,X_,Y_,Y_,Y_,Y_,X_,X_,Y_,Y_,Y_,Y_,X_,X_,X_,X_] rfl rfl (any_of HT_.out (by kernel_rfl)) (fun _ _ _ h => h) (Or.inl ⟨by rfl, ?_⟩) ?_ ?_
             rotate_left
             · intro w'
               go_simp
               with_reducible rfl
             rotate_left
             · simp only [Act.put, sTA_, sCZ_, sCS_, i64_w, i32_w]
               rfl
             refine take_ (i := 4) (N := some 23) (v := ?_) (a' := ?_) #[Y_,Y_,Y_,Y_,Y_,X_,Y_,Y_,Y_,Y_,X_,X_,Y_,Y_,Y_,Y_,X_,X_,X_,X_] rfl rfl (take_ofW HT_.out HW_.out (by kernel_rfl)) (fun _ _ _ h => h) (Or.inl ⟨by rfl, ?_⟩) hHeld ?_ ?_
             rotate_left
             · rintro w' ⟨s0, s1, s2⟩
               go_simp
               with_reducible rfl
             rotate_left
             · simp only [Act.put, sTA_, sCZ_, sCS_, i64_w, i32_w]
               rfl
             refine take_ (i := 10) (N := some 29) (v := ?_) (a' := ?_) #[Y_,Y_,Y_,Y_,Y_,X_,Y_,Y_,Y_,Y_,Y_,X_,Y_,Y_,Y_,Y_,X_,X_,X_,X_] rfl rfl (take_ofW HT_.out HW_.out (by kernel_rfl)) (fun _ _ _ h => h) (Or.inl ⟨by rfl, ?_⟩) hHeld ?_ ?_
             rotate_left
             · rintro w' ⟨s0, s1, s2⟩
               go_simp
               with_reducible rfl
             rotate_left
             · simp only [Act.put, sTA_, sCZ_, sCS_, i64_w, i32_w]
               rfl
             refine take_ (i := 16) (N := some 35) (v := ?_) (a' := ?_) #[Y_,Y_,Y_,Y_,Y_,X_,Y_,Y_,Y_,Y_,Y_,X_,Y_,Y_,Y_,Y_,Y_,X_,X_,X_] rfl rfl (take_ofW HT_.out HW_.out (by kernel_rfl)) (fun _ _ _ h => h) (Or.inl ⟨by rfl, ?_⟩) hHeld ?_ ?_
             rotate_left
             · rintro w' ⟨s0, s1, s2⟩
               go_simp
               with_reducible rfl
             rotate_left
             · simp only [Act.put, sTA_, sCZ_, sCS_, i64_w, i32_w]
               rfl
             refine one_ (i := 5) (N := some 24) #[Y_,Y_,Y_,Y_,Y_,Y_,Y_,Y_,Y_,Y_,Y_,X_,Y_,Y_,Y_,Y_,Y_,X_,X_,X_] rfl rfl (one_of HT_.out (by kernel_rfl)) (by decide) (fun K hK => ?_)
             refine goes_ Tryz.func44 (by kernel_rfl) rfl #[.slice Ao17 x6_1.length co17, .slice A507_0 (rd_L4 l0 x7_1).length c507_0] (by rfl) rfl rfl (by (try simp only [List.map_toArray, List.map_cons, List.map_nil]); first | done | rfl | (simp only [List.length_drop, List.length_take]; rfl)) ?_
             with_reducible refine (r6_Count.calls k1 _ _ x6_1 _ _ (rd_L4 l0 x7_1) t508 _ ?side1 ?side2 ?side3 ?side4 A11.out).mono ?_
             (case side1 => repeat (first | exact (Kd.N_reads' HO_6.out).2.2 | (with_reducible refine Kd.cA_ ?_ _) | (with_reducible refine Kd.cN_ ?_ _) | (with_reducible refine Kd.cD_ ?_)))
             (case side2 => exact (Kd.N_reads' HO_6.out).2.1)
             (case side3 => repeat (first | exact (by repeat (first | (with_reducible exact HR507_0.out) | (with_reducible refine Kd.cA_ ?_ _) | (with_reducible refine Kd.cN_ ?_ _) | (with_reducible refine Kd.cD_ ?_) | exact HR507_0.out)) | (with_reducible refine Kd.cA_ ?_ _) | (with_reducible refine Kd.cN_ ?_ _) | (with_reducible refine Kd.cD_ ?_)))
             (case side4 => exact HC507_0.out)
             rintro e w18 ⟨rfl, hb⟩
             have HS0_ := (hb.cell (bLC_ _ _ (hHeld.1))).trans (hHeld.1)
             have HS1_ := (hb.cell (bLC_ _ _ (hHeld.2.1))).trans (hHeld.2.1)
             have HS2_ := (hb.cell (bLC_ _ _ (hHeld.2.2))).trans (hHeld.2.2)
             refine ⟨_, rfl, ?_⟩
             have n0_ := Aside0.mk (Kd.V_below (by (with_reducible repeat (first | apply Kd.vA_ | apply Kd.vN_ | apply Kd.vD_)); exact HO_0.out) hb)
             have n1_ := Aside0.mk (Kd.V_below (by (with_reducible repeat (first | apply Kd.vA_ | apply Kd.vN_ | apply Kd.vD_)); exact HO_1.out) hb)
             have n2_ := Aside0.mk (Kd.N_below (by (with_reducible repeat (first | apply Kd.nA_ | apply Kd.nN_ | apply Kd.nD_)); exact HO_6.out) hb)
             have n3_ := Aside0.mk (Kd.V_below (by (with_reducible repeat (first | apply Kd.vA_ | apply Kd.vN_ | apply Kd.vD_)); exact HL507_0.out) hb)
             have n4_ := Aside0.mk (Kd.V_below (by (with_reducible repeat (first | apply Kd.vA_ | apply Kd.vN_ | apply Kd.vD_)); exact HL509_0.out) hb)
             have n5_ := Aside0.mk (Kd.V_below (by (with_reducible repeat (first | apply Kd.vA_ | apply Kd.vN_ | apply Kd.vD_)); exact HL511_0.out) hb)
             have n6_ := Aside0.mk (Kd.C_below (by repeat (first | (with_reducible exact HR507_0.out) | (with_reducible refine Kd.cA_ ?_ _) | (with_reducible refine Kd.cN_ ?_ _) | (with_reducible refine Kd.cD_ ?_) | exact HR507_0.out)) hb)
             have n7_ := Aside0.mk (Kd.C_below (by repeat (first | (with_reducible exact HR509_0.out) | (with_reducible refine Kd.cA_ ?_ _) | (with_reducible refine Kd.cN_ ?_ _) | (with_reducible refine Kd.cD_ ?_) | exact HR509_0.out)) hb)
             have n8_ := Aside0.mk (Kd.C_below (by repeat (first | (with_reducible exact HR511_0.out) | (with_reducible refine Kd.cA_ ?_ _) | (with_reducible refine Kd.cN_ ?_ _) | (with_reducible refine Kd.cD_ ?_) | exact HR511_0.out)) hb)
             have n9_ := Aside0.mk (below_step (by repeat (first | (with_reducible first | exact HB.out | apply bA_ | apply bN_ | apply b1_) | exact HB.out)) hb)
             clear HO_0
             clear HO_1
             clear HO_6
             clear HL507_0
             clear HL509_0
             clear HL511_0
             clear HR507_0
             clear HR509_0
             clear HR511_0
             clear HB
             have HO_0 := n0_
             have HO_1 := n1_
             have HO_6 := n2_
             have HL507_0 := n3_
             have HL509_0 := n4_
             have HL511_0 := n5_
             have HR507_0 := n6_
             have HR509_0 := n7_
             have HR511_0 := n8_
             have HB := n9_
             clear n0_ n1_ n2_ n3_ n4_ n5_ n6_ n7_ n8_ n9_
             (try clear hb)
             (try clear hb2)
             (try clear hk)
             (try clear hi)
             refine hK.out _ _ ⟨HS0_, HS1_, HS2_⟩ (fun hHeld => ?_)
             clear hK K
             refine norm_ (a' := ?_) ?_ ?_
             rotate_left
             · show Act.put _ (some 24) _ = _
               simp only [Act.put, sTA_, sCZ_, sCS_, i64_w, i32_w]
               rfl
             refine one_ (i := 11) (N := some 30) #[Y_,Y_,Y_,Y_,Y_,Y_,Y_,Y_,Y_,Y_,Y_,Y_,Y_,Y_,Y_,Y_,Y_,X_,X_,X_] rfl rfl (one_of HT_.out (by kernel_rfl)) (by decide) (fun K hK => ?_)
             refine goes_ Tryz.func44 (by kernel_rfl) rfl #[.slice (some ad507) l0.length c0, .slice A507_0 (rd_L4 l0 x7_1).length c507_0] (by rfl) rfl rfl (by (try simp only [List.map_toArray, List.map_cons, List.map_nil]); first | done | rfl | (simp only [List.length_drop, List.length_take]; rfl)) ?_
             with_reducible refine (r6_Count.calls k1 _ _ l0 _ _ (rd_L4 l0 x7_1) t510 _ ?side1 ?side2 ?side3 ?side4 A12.out).mono ?_
             (case side1 => repeat (first | exact (Kd.V_reads' HO_0.out).2.2 | (with_reducible refine Kd.cA_ ?_ _) | (with_reducible refine Kd.cN_ ?_ _) | (with_reducible refine Kd.cD_ ?_)))
             (case side2 => exact (Kd.V_reads' HO_0.out).2.1)
             (case side3 => repeat (first | exact (by repeat (first | (with_reducible exact HR509_0.out) | (with_reducible refine Kd.cA_ ?_ _) | (with_reducible refine Kd.cN_ ?_ _) | (with_reducible refine Kd.cD_ ?_) | exact HR509_0.out)) | (with_reducible refine Kd.cA_ ?_ _) | (with_reducible refine Kd.cN_ ?_ _) | (with_reducible refine Kd.cD_ ?_)))
             (case side4 => exact HC509_0.out)
             rintro e w19 ⟨rfl, hb⟩
             have HS0_ := (hb.cell (bLC_ _ _ (hHeld.1))).trans (hHeld.1)
             have HS1_ := (hb.cell (bLC_ _ _ (hHeld.2.1))).trans (hHeld.2.1)
             have HS2_ := (hb.cell (bLC_ _ _ (hHeld.2.2))).trans (hHeld.2.2)
             refine ⟨_, rfl, ?_⟩
             have n0_ := Aside0.mk (Kd.V_below (by (with_reducible repeat (first | apply Kd.vA_ | apply Kd.vN_ | apply Kd.vD_)); exact HO_0.out) hb)
             have n1_ := Aside0.mk (Kd.V_below (by (with_reducible repeat (first | apply Kd.vA_ | apply Kd.vN_ | apply Kd.vD_)); exact HO_1.out) hb)
             have n2_ := Aside0.mk (Kd.N_below (by (with_reducible repeat (first | apply Kd.nA_ | apply Kd.nN_ | apply Kd.nD_)); exact HO_6.out) hb)
             have n3_ := Aside0.mk (Kd.V_below (by (with_reducible repeat (first | apply Kd.vA_ | apply Kd.vN_ | apply Kd.vD_)); exact HL507_0.out) hb)
             have n4_ := Aside0.mk (Kd.V_below (by (with_reducible repeat (first | apply Kd.vA_ | apply Kd.vN_ | apply Kd.vD_)); exact HL509_0.out) hb)
             have n5_ := Aside0.mk (Kd.V_below (by (with_reducible repeat (first | apply Kd.vA_ | apply Kd.vN_ | apply Kd.vD_)); exact HL511_0.out) hb)
             have n6_ := Aside0.mk (Kd.C_below (by repeat (first | (with_reducible exact HR507_0.out) | (with_reducible refine Kd.cA_ ?_ _) | (with_reducible refine Kd.cN_ ?_ _) | (with_reducible refine Kd.cD_ ?_) | exact HR507_0.out)) hb)
             have n7_ := Aside0.mk (Kd.C_below (by repeat (first | (with_reducible exact HR509_0.out) | (with_reducible refine Kd.cA_ ?_ _) | (with_reducible refine Kd.cN_ ?_ _) | (with_reducible refine Kd.cD_ ?_) | exact HR509_0.out)) hb)
             have n8_ := Aside0.mk (Kd.C_below (by repeat (first | (with_reducible exact HR511_0.out) | (with_reducible refine Kd.cA_ ?_ _) | (with_reducible refine Kd.cN_ ?_ _) | (with_reducible refine Kd.cD_ ?_) | exact HR511_0.out)) hb)
             have n9_ := Aside0.mk (below_step (by repeat (first | (with_reducible first | exact HB.out | apply bA_ | apply bN_ | apply b1_) | exact HB.out)) hb)
             clear HO_0
             clear HO_1
             clear HO_6
             clear HL507_0
             clear HL509_0
             clear HL511_0
             clear HR507_0
             clear HR509_0
             clear HR511_0
             clear HB
             have HO_0 := n0_
             have HO_1 := n1_
             have HO_6 := n2_
             have HL507_0 := n3_
             have HL509_0 := n4_
             have HL511_0 := n5_
             have HR507_0 := n6_
             have HR509_0 := n7_
             have HR511_0 := n8_
             have HB := n9_
             clear n0_ n1_ n2_ n3_ n4_ n5_ n6_ n7_ n8_ n9_
             (try clear hb)
             (try clear hb2)
             (try clear hk)
             (try clear hi)
             refine hK.out _ _ ⟨HS0_, HS1_, HS2_⟩ (fun hHeld => ?_)
             clear hK K
             refine norm_ (a' := ?_) ?_ ?_
             rotate_left
             · show Act.put _ (some 30) _ = _
               simp only [Act.put, sTA_, sCZ_, sCS_, i64_w, i32_w]
               rfl
             refine one_ (i := 17) (N := some 36) #[Y_,Y_,Y_,Y_,Y_,Y_,Y_,Y_,Y_,Y_,Y_,Y_,Y_,Y_,Y_,Y_,Y_,Y_,X_,X_] rfl rfl (one_of HT_.out (by kernel_rfl)) (by decide) (fun K hK => ?_)
             refine goes_ Tryz.func44 (by kernel_rfl) rfl #[.slice A1 l1.length c1, .slice A507_0 (rd_L4 l0 x7_1).length c507_0] (by rfl) rfl rfl (by (try simp only [List.map_toArray, List.map_cons, List.map_nil]); first | done | rfl | (simp only [List.length_drop, List.length_take]; rfl)) ?_
             with_reducible refine (r6_Count.calls k1 _ _ l1 _ _ (rd_L4 l0 x7_1) t512 _ ?side1 ?side2 ?side3 ?side4 A13.out).mono ?_
             (case side1 => repeat (first | exact (Kd.V_reads' HO_1.out).2.2 | (with_reducible refine Kd.cA_ ?_ _) | (with_reducible refine Kd.cN_ ?_ _) | (with_reducible refine Kd.cD_ ?_)))
             (case side2 => exact (Kd.V_reads' HO_1.out).2.1)
             (case side3 => repeat (first | exact (by repeat (first | (with_reducible exact HR511_0.out) | (with_reducible refine Kd.cA_ ?_ _) | (with_reducible refine Kd.cN_ ?_ _) | (with_reducible refine Kd.cD_ ?_) | exact HR511_0.out)) | (with_reducible refine Kd.cA_ ?_ _) | (with_reducible refine Kd.cN_ ?_ _) | (with_reducible refine Kd.cD_ ?_)))
             (case side4 => exact HC511_0.out)
             rintro e w20 ⟨rfl, hb⟩
             have HS0_ := (hb.cell (bLC_ _ _ (hHeld.1))).trans (hHeld.1)
             have HS1_ := (hb.cell (bLC_ _ _ (hHeld.2.1))).trans (hHeld.2.1)
             have HS2_ := (hb.cell (bLC_ _ _ (hHeld.2.2))).trans (hHeld.2.2)
             refine ⟨_, rfl, ?_⟩
             have n0_ := Aside0.mk (Kd.V_below (by (with_reducible repeat (first | apply Kd.vA_ | apply Kd.vN_ | apply Kd.vD_)); exact HO_0.out) hb)
             have n1_ := Aside0.mk (Kd.V_below (by (with_reducible repeat (first | apply Kd.vA_ | apply Kd.vN_ | apply Kd.vD_)); exact HO_1.out) hb)
             have n2_ := Aside0.mk (Kd.N_below (by (with_reducible repeat (first | apply Kd.nA_ | apply Kd.nN_ | apply Kd.nD_)); exact HO_6.out) hb)
             have n3_ := Aside0.mk (Kd.V_below (by (with_reducible repeat (first | apply Kd.vA_ | apply Kd.vN_ | apply Kd.vD_)); exact HL507_0.out) hb)
             have n4_ := Aside0.mk (Kd.V_below (by (with_reducible repeat (first | apply Kd.vA_ | apply Kd.vN_ | apply Kd.vD_)); exact HL509_0.out) hb)
             have n5_ := Aside0.mk (Kd.V_below (by (with_reducible repeat (first | apply Kd.vA_ | apply Kd.vN_ | apply Kd.vD_)); exact HL511_0.out) hb)
             have n6_ := Aside0.mk (Kd.C_below (by repeat (first | (with_reducible exact HR507_0.out) | (with_reducible refine Kd.cA_ ?_ _) | (with_reducible refine Kd.cN_ ?_ _) | (with_reducible refine Kd.cD_ ?_) | exact HR507_0.out)) hb)
             have n7_ := Aside0.mk (Kd.C_below (by repeat (first | (with_reducible exact HR509_0.out) | (with_reducible refine Kd.cA_ ?_ _) | (with_reducible refine Kd.cN_ ?_ _) | (with_reducible refine Kd.cD_ ?_) | exact HR509_0.out)) hb)
             have n8_ := Aside0.mk (Kd.C_below (by repeat (first | (with_reducible exact HR511_0.out) | (with_reducible refine Kd.cA_ ?_ _) | (with_reducible refine Kd.cN_ ?_ _) | (with_reducible refine Kd.cD_ ?_) | exact HR511_0.out)) hb)
             have n9_ := Aside0.mk (below_step (by repeat (first | (with_reducible first | exact HB.out | apply bA_ | apply bN_ | apply b1_) | exact HB.out)) hb)
             clear HO_0
             clear HO_1
             clear HO_6
             clear HL507_0
             clear HL509_0
             clear HL511_0
             clear HR507_0
             clear HR509_0
             clear HR511_0
             clear HB
             have HO_0 := n0_
             have HO_1 := n1_
             have HO_6 := n2_
             have HL507_0 := n3_
             have HL509_0 := n4_
             have HL511_0 := n5_
             have HR507_0 := n6_
             have HR509_0 := n7_
             have HR511_0 := n8_
             have HB := n9_
             clear n0_ n1_ n2_ n3_ n4_ n5_ n6_ n7_ n8_ n9_
             (try clear hb)
             (try clear hb2)
             (try clear hk)
             (try clear hi)
             refine hK.out _ _ ⟨HS0_, HS1_, HS2_⟩ (fun hHeld => ?_)
             clear hK K
             refine norm_ (a' := ?_) ?_ ?_
             rotate_left
             · show Act.put _ (some 36) _ = _
               simp only [Act.put, sTA_, sCZ_, sCS_, i64_w, i32_w]
               rfl
             refine pure_ (i := 18) (N := some 37) (v := ?_) (a' := ?_) #[Y_,Y_,Y_,Y_,Y_,Y_,Y_,Y_,Y_,Y_,Y_,Y_,Y_,Y_,Y_,Y_,Y_,Y_,Y_,X_] rfl rfl (any_of HT_.out (by kernel_rfl)) (fun _ _ _ h => h) (Or.inl ⟨by rfl, ?_⟩) ?_ ?_
             rotate_left
             · intro w'
               go_simp
               with_reducible rfl
             rotate_left
             · simp only [Act.put, sTA_, sCZ_, sCS_, i64_w, i32_w]
               rfl
             refine pure_ (i := 19) (N := some 38) (v := ?_) (a' := ?_) #[Y_,Y_,Y_,Y_,Y_,Y_,Y_,Y_,Y_,Y_,Y_,Y_,Y_,Y_,Y_,Y_,Y_,Y_,Y_,Y_] rfl rfl (any_of HT_.out (by kernel_rfl)) (fun _ _ _ h => h) (Or.inl ⟨by rfl, ?_⟩) ?_ ?_
             rotate_left
             · intro w'
               go_simp
               with_reducible rfl
             rotate_left
             · simp only [Act.put, sTA_, sCZ_, sCS_, i64_w, i32_w]
               rfl
             refine done_ (done_of HT_.out (by kernel_rfl)) ?_
             have p513 : 0 ≤ (x7_1 : Int) := oT_ (by assumption)
             have q513 : x7_1 < (l0.length : Int) := oT_ (by assumption)
             obtain ⟨ad513, A513_0, c513_0, e513, hx513_0, hl513_0, hi513_0⟩ := at_L4 (Kd.V_reads' HO_0.out).2.2 x7_1 p513 q513
             obtain rfl : ad507 = ad513 := (by injection e513)
             obtain ⟨ce513, hce513, hMe513, hcc513⟩ := Kd.V_get HO_0.out [] x7_1 p513 (by first | exact q513 | exact oT_ (by assumption) | (have e_ := (Kd.V_reads' HO_0.out).1; omega))
             obtain ⟨ua513_0, uc513_0, rfl, ul513_0, ge513_0⟩ := Kd.FK_slice_open hMe513
             have hv513_0 := hcc513 0 _ rfl
             rw [Nat.add_zero, show ((Kd.slice 36 k36)).sz = 1 from rfl, Nat.mul_one] at hv513_0
             replace hv513_0 := Option.some.inj (hv513_0.symm.trans hx513_0)
             injection hv513_0 with hva_ hvn_ hvc_
             rw [hva_] at ge513_0
             rw [hvc_] at ul513_0
             have HL513_0 := Aside0.mk (show Kd.V k36 36 _ w.heap.size _ _ (rd_L4 l0 x7_1) from Kd.V_mk ul513_0 ge513_0)
             clear hva_ hvn_ hvc_ ge513_0 ul513_0
             clear hcc513 hce513
             have HR513_0 := Aside0.mk hi513_0
             have HC513_0 := Aside0.mk hl513_0
             clear hi513_0 hl513_0
             replace p513 := eq_true p513
             replace q513 := eq_true q513
             try clear hHeld
             try clear HS3_
             try clear HS2_
             try clear HS1_
             try clear HS0_
             try go_wp2_with (first | ((with_reducible refine gate_builtin (b := .append) (xs := #[.tmp 39, .tmp 44]) rfl ?_); at_builtin; refine Kd.N_append (Kd.slice 36 k36) (w0 := w) w.heap.size rfl (.tmp 39) (.tmp 44) 22 53 (.slice none 0 0) 24 rfl Tryz.underlying22 info53 rfl (by decide) (by omega) (.slice Ao17 x6_1.length co17) x6_1 (rd_L4 l0 x7_1) [.slice A513_0 (rd_L4 l0 x7_1).length c513_0] (fun k_ => ((P0_ k_ ∨ P1_ k_) ∨ w.heap.size ≤ k_)) (fun k_ => ((fun k_ => ((P0_ k_ ∨ P1_ k_) ∨ w.heap.size ≤ k_))) k_ ∧ some k_ ≠ (.slice Ao17 x6_1.length co17 : Value).ownBlock) rfl rfl ?aP (fun _ hk => hk) ?aF ?aO ?aB ?aS ?aL ?_; (case aP => exact (Kd.FK_slice_mk (Kd.V_reads' (Kd.V_mono (ok' := (fun k_ => ((fun k_ => ((P0_ k_ ∨ P1_ k_) ∨ w.heap.size ≤ k_))) k_ ∧ some k_ ≠ (.slice Ao17 x6_1.length co17 : Value).ownBlock)) (HL513_0.out) (fun k_ hk => ⟨hk.1, hk.2⟩))).2.1 (Kd.V_F (Kd.V_mono (ok' := (fun k_ => ((fun k_ => ((P0_ k_ ∨ P1_ k_) ∨ w.heap.size ≤ k_))) k_ ∧ some k_ ≠ (.slice Ao17 x6_1.length co17 : Value).ownBlock)) (HL513_0.out) (fun k_ hk => ⟨hk.1, hk.2⟩))))); (case aB => exact (by repeat (first | (with_reducible first | exact HB.out | apply bA_ | apply bN_ | apply b1_) | exact HB.out))); (case aF => exact (fun k_ hk => (.inr (Nat.le_trans (below_size (by repeat (first | (with_reducible first | exact HB.out | apply bA_ | apply bN_ | apply b1_) | exact HB.out))) hk)))); (case aO => exact (by (with_reducible repeat (first | apply Kd.nA_ | apply Kd.nN_ | apply Kd.nD_)); exact HO_6.out)); (case aS => exact (below_size (by repeat (first | (with_reducible first | exact HB.out | apply bA_ | apply bN_ | apply b1_) | exact HB.out)))); (case aL => have := LMc15.out; omega); intro v515 w21 ho hb hg hat; rw [← Ny514.out] at ho; have n0_ := Aside0.mk (Kd.V_afterv (ok := (fun k_ => ((P0_ k_ ∨ P1_ k_) ∨ w.heap.size ≤ k_))) (by (with_reducible repeat (first | apply Kd.vA_ | apply Kd.vN_ | apply Kd.vD_)); exact HO_0.out) hg hat); have n1_ := Aside0.mk (Kd.V_afterv (ok := (fun k_ => ((P0_ k_ ∨ P1_ k_) ∨ w.heap.size ≤ k_))) (by (with_reducible repeat (first | apply Kd.vA_ | apply Kd.vN_ | apply Kd.vD_)); exact HO_1.out) hg hat); have n2_ := Aside0.mk (Kd.V_afterv (ok := (fun k_ => ((P0_ k_ ∨ P1_ k_) ∨ w.heap.size ≤ k_))) (by (with_reducible repeat (first | apply Kd.vA_ | apply Kd.vN_ | apply Kd.vD_)); exact HL507_0.out) hg hat); have n3_ := Aside0.mk (Kd.V_afterv (ok := (fun k_ => ((P0_ k_ ∨ P1_ k_) ∨ w.heap.size ≤ k_))) (by (with_reducible repeat (first | apply Kd.vA_ | apply Kd.vN_ | apply Kd.vD_)); exact HL509_0.out) hg hat); have n4_ := Aside0.mk (Kd.V_afterv (ok := (fun k_ => ((P0_ k_ ∨ P1_ k_) ∨ w.heap.size ≤ k_))) (by (with_reducible repeat (first | apply Kd.vA_ | apply Kd.vN_ | apply Kd.vD_)); exact HL511_0.out) hg hat); have n5_ := Aside0.mk (Kd.V_afterv (ok := (fun k_ => ((P0_ k_ ∨ P1_ k_) ∨ w.heap.size ≤ k_))) (by (with_reducible repeat (first | apply Kd.vA_ | apply Kd.vN_ | apply Kd.vD_)); exact HL513_0.out) hg hat); have n6_ := Aside0.mk (hb); have n7_ := Aside0.mk (ho); clear HO_0; clear HO_1; clear HL507_0; clear HL509_0; clear HL511_0; clear HL513_0; clear HB; clear HO_6; have HO_0 := n0_; have HO_1 := n1_; have HL507_0 := n2_; have HL509_0 := n3_; have HL511_0 := n4_; have HL513_0 := n5_; have HB := n6_; have HO516 := n7_; clear n0_ n1_ n2_ n3_ n4_ n5_ n6_ n7_; clear ho hb hg hat))
             go_roundg k1
             case measure => have := HK1.out; omega
             case rel => exact ⟨(y514), (wrap64 (x7_1 + 1)), (by first | rfl | (simp; done) | (simp [*]; done)), H', ⟨by have := HK1.out; omega⟩, ⟨by (with_reducible repeat (first | apply Kd.vA_ | apply Kd.vN_ | apply Kd.vD_)); exact HO_0.out⟩, ⟨by (with_reducible repeat (first | apply Kd.vA_ | apply Kd.vN_ | apply Kd.vD_)); exact HO_1.out⟩, ⟨by (with_reducible repeat (first | apply Kd.nA_ | apply Kd.nN_ | apply Kd.nD_)); exact HO516.out⟩, ⟨by repeat (first | (with_reducible first | exact HB.out | apply bA_ | apply bN_ | apply b1_) | exact HB.out)⟩⟩
           · rw [if_neg c15] at H
             exact absurd H (by simp)
         · rw [if_neg c14] at H
           have c14b0 : decide (t508 < (wrap64 (t510 - t512))) = false := dF_ c14
           clear c14
           have H' := Aside0.mk H
           clear H
           try go_wp2
           have n0_ := Aside0.mk (Kd.vD_ HO_0.out)
           have n1_ := Aside0.mk (Kd.vD_ HO_1.out)
           have n2_ := Aside0.mk (Kd.nD_ HO_6.out)
           have n3_ := Aside0.mk (b1_ HB.out)
           clear HO_0
           clear HO_1
           clear HO_6
           clear HB
           have HO_0 := n0_
           have HO_1 := n1_
           have HO_6 := n2_
           have HB := n3_
           clear n0_ n1_ n2_ n3_
           have p507 : 0 ≤ (x7_1 : Int) := oT_ (by assumption)
           have q507 : x7_1 < (l0.length : Int) := oT_ (by assumption)
           obtain ⟨ad507, A507_0, c507_0, e507, hx507_0, hl507_0, hi507_0⟩ := at_L4 (Kd.V_reads' HO_0.out).2.2 x7_1 p507 q507
           cases e507
           obtain ⟨ce507, hce507, hMe507, hcc507⟩ := Kd.V_get HO_0.out [] x7_1 p507 (by first | exact q507 | exact oT_ (by assumption) | (have e_ := (Kd.V_reads' HO_0.out).1; omega))
           obtain ⟨ua507_0, uc507_0, rfl, ul507_0, ge507_0⟩ := Kd.FK_slice_open hMe507
           have hv507_0 := hcc507 0 _ rfl
           rw [Nat.add_zero, show ((Kd.slice 36 k36)).sz = 1 from rfl, Nat.mul_one] at hv507_0
           replace hv507_0 := Option.some.inj (hv507_0.symm.trans hx507_0)
           injection hv507_0 with hva_ hvn_ hvc_
           rw [hva_] at ge507_0
           rw [hvc_] at ul507_0
           have HL507_0 := Aside0.mk (show Kd.V k36 36 _ w.heap.size _ _ (rd_L4 l0 x7_1) from Kd.V_mk ul507_0 ge507_0)
           clear hva_ hvn_ hvc_ ge507_0 ul507_0
           clear hcc507 hce507
           have HR507_0 := Aside0.mk hi507_0
           have HC507_0 := Aside0.mk hl507_0
           clear hi507_0 hl507_0
           replace p507 := eq_true p507
           replace q507 := eq_true q507
           have p509 : 0 ≤ (x7_1 : Int) := oT_ (by assumption)
           have q509 : x7_1 < (l0.length : Int) := oT_ (by assumption)
           obtain ⟨ad509, A509_0, c509_0, e509, hx509_0, hl509_0, hi509_0⟩ := at_L4 (Kd.V_reads' HO_0.out).2.2 x7_1 p509 q509
           obtain rfl : ad507 = ad509 := (by injection e509)
           obtain ⟨ce509, hce509, hMe509, hcc509⟩ := Kd.V_get HO_0.out [] x7_1 p509 (by first | exact q509 | exact oT_ (by assumption) | (have e_ := (Kd.V_reads' HO_0.out).1; omega))
           obtain ⟨ua509_0, uc509_0, rfl, ul509_0, ge509_0⟩ := Kd.FK_slice_open hMe509
           have hv509_0 := hcc509 0 _ rfl
           rw [Nat.add_zero, show ((Kd.slice 36 k36)).sz = 1 from rfl, Nat.mul_one] at hv509_0
           replace hv509_0 := Option.some.inj (hv509_0.symm.trans hx509_0)
           injection hv509_0 with hva_ hvn_ hvc_
           rw [hva_] at ge509_0
           rw [hvc_] at ul509_0
           have HL509_0 := Aside0.mk (show Kd.V k36 36 _ w.heap.size _ _ (rd_L4 l0 x7_1) from Kd.V_mk ul509_0 ge509_0)
           clear hva_ hvn_ hvc_ ge509_0 ul509_0
           clear hcc509 hce509
           have HR509_0 := Aside0.mk hi509_0
           have HC509_0 := Aside0.mk hl509_0
           clear hi509_0 hl509_0
           replace p509 := eq_true p509
           replace q509 := eq_true q509
           have ea_ := Option.some.inj (hx507_0.symm.trans hx509_0)
           injection ea_ with ea_ en_ ec_
           subst ea_
           subst ec_
           clear en_
           have p511 : 0 ≤ (x7_1 : Int) := oT_ (by assumption)
           have q511 : x7_1 < (l0.length : Int) := oT_ (by assumption)
           obtain ⟨ad511, A511_0, c511_0, e511, hx511_0, hl511_0, hi511_0⟩ := at_L4 (Kd.V_reads' HO_0.out).2.2 x7_1 p511 q511
           obtain rfl : ad507 = ad511 := (by injection e511)
           obtain ⟨ce511, hce511, hMe511, hcc511⟩ := Kd.V_get HO_0.out [] x7_1 p511 (by first | exact q511 | exact oT_ (by assumption) | (have e_ := (Kd.V_reads' HO_0.out).1; omega))
           obtain ⟨ua511_0, uc511_0, rfl, ul511_0, ge511_0⟩ := Kd.FK_slice_open hMe511
           have hv511_0 := hcc511 0 _ rfl
           rw [Nat.add_zero, show ((Kd.slice 36 k36)).sz = 1 from rfl, Nat.mul_one] at hv511_0
           replace hv511_0 := Option.some.inj (hv511_0.symm.trans hx511_0)
           injection hv511_0 with hva_ hvn_ hvc_
           rw [hva_] at ge511_0
           rw [hvc_] at ul511_0
           have HL511_0 := Aside0.mk (show Kd.V k36 36 _ w.heap.size _ _ (rd_L4 l0 x7_1) from Kd.V_mk ul511_0 ge511_0)
           clear hva_ hvn_ hvc_ ge511_0 ul511_0
           clear hcc511 hce511
           have HR511_0 := Aside0.mk hi511_0
           have HC511_0 := Aside0.mk hl511_0
           clear hi511_0 hl511_0
           replace p511 := eq_true p511
           replace q511 := eq_true q511
           have ea_ := Option.some.inj (hx507_0.symm.trans hx511_0)
           injection ea_ with ea_ en_ ec_
           subst ea_
           subst ec_
           clear en_
           obtain ⟨Ao23, co23, eo23⟩ := Kd.N_slice HO_6.out
           (first | subst eo23 | (injection eo23 with f1_ f2_ f3_; have f4_ := f1_.symm; have f5_ := f3_.symm; clear f1_ f2_ f3_; subst f4_; subst f5_))
           refine start_ (n := 20) (S := fun w' => w'.cell? (ad507.add (x7_1).toNat) = some (.slice A507_0 (rd_L4 l0 x7_1).length c507_0) ∧ w'.cell? (ad507.add (x7_1).toNat) = some (.slice A507_0 (rd_L4 l0 x7_1).length c507_0) ∧ w'.cell? (ad507.add (x7_1).toNat) = some (.slice A507_0 (rd_L4 l0 x7_1).length c507_0)) (ds := []) #[X_,X_,X_,X_,X_,X_,X_,X_,X_,X_,X_,X_,X_,X_,X_,X_,X_,X_,X_,X_] (by kernel_rfl) rfl rfl ⟨hx507_0, hx509_0, hx511_0⟩ (fun hHeld => ?_); refine with_tabW r6_Except.tab7 r6_Except.bits7 (fun HT_ HW_ => ?_)
           generalize wr.drew = w22 at HO_0 HO_1 HO_6 HB HL507_0 HL509_0 HL511_0 HR507_0 HR509_0 HR511_0 hx507_0 hx509_0 hx511_0 hHeld ⊢
           refine pure_ (i := 0) (N := some 19) (v := ?_) (a' := ?_) #[Y_,X_,X_,X_,X_,X_,X_,X_,X_,X_,X_,X_,X_,X_,X_,X_,X_,X_,X_,X_] rfl rfl (any_of HT_.out (by kernel_rfl)) (fun _ _ _ h => h) (Or.inl ⟨by rfl, ?_⟩) ?_ ?_
           rotate_left
           · intro w'
             go_simp
             with_reducible rfl
           rotate_left
           · simp only [Act.put, sTA_, sCZ_, sCS_, i64_w, i32_w]
             rfl
           refine pure_ (i := 1) (N := some 20) (v := ?_) (a' := ?_) #[Y_,Y_,X_,X_,X_,X_,X_,X_,X_,X_,X_,X_,X_,X_,X_,X_,X_,X_,X_,X_] rfl rfl (any_of HT_.out (by kernel_rfl)) (fun _ _ _ h => h) (Or.inl ⟨by rfl, ?_⟩) ?_ ?_
           rotate_left
           · intro w'
             go_simp
             with_reducible rfl
           rotate_left
           · simp only [Act.put, sTA_, sCZ_, sCS_, i64_w, i32_w]
             rfl
           refine pure_ (i := 2) (N := some 21) (v := ?_) (a' := ?_) #[Y_,Y_,Y_,X_,X_,X_,X_,X_,X_,X_,X_,X_,X_,X_,X_,X_,X_,X_,X_,X_] rfl rfl (any_of HT_.out (by kernel_rfl)) (fun _ _ _ h => h) (Or.inl ⟨by rfl, ?_⟩) ?_ ?_
           rotate_left
           · intro w'
             go_simp
             with_reducible rfl
           rotate_left
           · simp only [Act.put, sTA_, sCZ_, sCS_, i64_w, i32_w]
             rfl
           refine pure_ (i := 3) (N := some 22) (v := ?_) (a' := ?_) #[Y_,Y_,Y_,Y_,X_,X_,X_,X_,X_,X_,X_,X_,X_,X_,X_,X_,X_,X_,X_,X_] rfl rfl (any_of HT_.out (by kernel_rfl)) (fun _ _ _ h => h) (Or.inl ⟨by rfl, ?_⟩) ?_ ?_
           rotate_left
           · intro w'
             go_simp
             with_reducible rfl
           rotate_left
           · simp only [Act.put, sTA_, sCZ_, sCS_, i64_w, i32_w]
             rfl
           refine pure_ (i := 6) (N := some 25) (v := ?_) (a' := ?_) #[Y_,Y_,Y_,Y_,X_,X_,Y_,X_,X_,X_,X_,X_,X_,X_,X_,X_,X_,X_,X_,X_] rfl rfl (any_of HT_.out (by kernel_rfl)) (fun _ _ _ h => h) (Or.inl ⟨by rfl, ?_⟩) ?_ ?_
           rotate_left
           · intro w'
             go_simp
             with_reducible rfl
           rotate_left
           · simp only [Act.put, sTA_, sCZ_, sCS_, i64_w, i32_w]
             rfl
           refine pure_ (i := 7) (N := some 26) (v := ?_) (a' := ?_) #[Y_,Y_,Y_,Y_,X_,X_,Y_,Y_,X_,X_,X_,X_,X_,X_,X_,X_,X_,X_,X_,X_] rfl rfl (any_of HT_.out (by kernel_rfl)) (fun _ _ _ h => h) (Or.inl ⟨by rfl, ?_⟩) ?_ ?_
           rotate_left
           · intro w'
             go_simp
             with_reducible rfl
           rotate_left
           · simp only [Act.put, sTA_, sCZ_, sCS_, i64_w, i32_w]
             rfl
           refine pure_ (i := 8) (N := some 27) (v := ?_) (a' := ?_) #[Y_,Y_,Y_,Y_,X_,X_,Y_,Y_,Y_,X_,X_,X_,X_,X_,X_,X_,X_,X_,X_,X_] rfl rfl (any_of HT_.out (by kernel_rfl)) (fun _ _ _ h => h) (Or.inl ⟨by rfl, ?_⟩) ?_ ?_
           rotate_left
           · intro w'
             go_simp
             with_reducible rfl
           rotate_left
           · simp only [Act.put, sTA_, sCZ_, sCS_, i64_w, i32_w]
             rfl
           refine pure_ (i := 9) (N := some 28) (v := ?_) (a' := ?_) #[Y_,Y_,Y_,Y_,X_,X_,Y_,Y_,Y_,Y_,X_,X_,X_,X_,X_,X_,X_,X_,X_,X_] rfl rfl (any_of HT_.out (by kernel_rfl)) (fun _ _ _ h => h) (Or.inl ⟨by rfl, ?_⟩) ?_ ?_
           rotate_left
           · intro w'
             go_simp
             with_reducible rfl
           rotate_left
           · simp only [Act.put, sTA_, sCZ_, sCS_, i64_w, i32_w]
             rfl
           refine pure_ (i := 12) (N := some 31) (v := ?_) (a' := ?_) #[Y_,Y_,Y_,Y_,X_,X_,Y_,Y_,Y_,Y_,X_,X_,Y_,X_,X_,X_,X_,X_,X_,X_] rfl rfl (any_of HT_.out (by kernel_rfl)) (fun _ _ _ h => h) (Or.inl ⟨by rfl, ?_⟩) ?_ ?_
           rotate_left
           · intro w'
             go_simp
             with_reducible rfl
           rotate_left
           · simp only [Act.put, sTA_, sCZ_, sCS_, i64_w, i32_w]
             rfl
           refine pure_ (i := 13) (N := some 32) (v := ?_) (a' := ?_) #[Y_,Y_,Y_,Y_,X_,X_,Y_,Y_,Y_,Y_,X_,X_,Y_,Y_,X_,X_,X_,X_,X_,X_] rfl rfl (any_of HT_.out (by kernel_rfl)) (fun _ _ _ h => h) (Or.inl ⟨by rfl, ?_⟩) ?_ ?_
           rotate_left
           · intro w'
             go_simp
             with_reducible rfl
           rotate_left
           · simp only [Act.put, sTA_, sCZ_, sCS_, i64_w, i32_w]
             rfl
           refine pure_ (i := 14) (N := some 33) (v := ?_) (a' := ?_) #[Y_,Y_,Y_,Y_,X_,X_,Y_,Y_,Y_,Y_,X_,X_,Y_,Y_,Y_,X_,X_,X_,X_,X_] rfl rfl (any_of HT_.out (by kernel_rfl)) (fun _ _ _ h => h) (Or.inl ⟨by rfl, ?_⟩) ?_ ?_
           rotate_left
           · intro w'
             go_simp
             with_reducible rfl
           rotate_left
           · simp only [Act.put, sTA_, sCZ_, sCS_, i64_w, i32_w]
             rfl
           refine pure_ (i := 15) (N := some 34) (v := ?_) (a' := ?_) #[Y_,Y_,Y_,Y_,X_,X_,Y_,Y_,Y_,Y_,X_,X_,Y_,Y_,Y_,Y_,X_,X_,X_,X_] rfl rfl (any_of HT_.out (by kernel_rfl)) (fun _ _ _ h => h) (Or.inl ⟨by rfl, ?_⟩) ?_ ?_
           rotate_left
           · intro w'
             go_simp
             with_reducible rfl
           rotate_left
           · simp only [Act.put, sTA_, sCZ_, sCS_, i64_w, i32_w]
             rfl
           refine take_ (i := 4) (N := some 23) (v := ?_) (a' := ?_) #[Y_,Y_,Y_,Y_,Y_,X_,Y_,Y_,Y_,Y_,X_,X_,Y_,Y_,Y_,Y_,X_,X_,X_,X_] rfl rfl (take_ofW HT_.out HW_.out (by kernel_rfl)) (fun _ _ _ h => h) (Or.inl ⟨by rfl, ?_⟩) hHeld ?_ ?_
           rotate_left
           · rintro w' ⟨s0, s1, s2⟩
             go_simp
             with_reducible rfl
           rotate_left
           · simp only [Act.put, sTA_, sCZ_, sCS_, i64_w, i32_w]
             rfl
           refine take_ (i := 10) (N := some 29) (v := ?_) (a' := ?_) #[Y_,Y_,Y_,Y_,Y_,X_,Y_,Y_,Y_,Y_,Y_,X_,Y_,Y_,Y_,Y_,X_,X_,X_,X_] rfl rfl (take_ofW HT_.out HW_.out (by kernel_rfl)) (fun _ _ _ h => h) (Or.inl ⟨by rfl, ?_⟩) hHeld ?_ ?_
           rotate_left
           · rintro w' ⟨s0, s1, s2⟩
             go_simp
             with_reducible rfl
           rotate_left
           · simp only [Act.put, sTA_, sCZ_, sCS_, i64_w, i32_w]
             rfl
           refine take_ (i := 16) (N := some 35) (v := ?_) (a' := ?_) #[Y_,Y_,Y_,Y_,Y_,X_,Y_,Y_,Y_,Y_,Y_,X_,Y_,Y_,Y_,Y_,Y_,X_,X_,X_] rfl rfl (take_ofW HT_.out HW_.out (by kernel_rfl)) (fun _ _ _ h => h) (Or.inl ⟨by rfl, ?_⟩) hHeld ?_ ?_
           rotate_left
           · rintro w' ⟨s0, s1, s2⟩
             go_simp
             with_reducible rfl
           rotate_left
           · simp only [Act.put, sTA_, sCZ_, sCS_, i64_w, i32_w]
             rfl
           refine one_ (i := 5) (N := some 24) #[Y_,Y_,Y_,Y_,Y_,Y_,Y_,Y_,Y_,Y_,Y_,X_,Y_,Y_,Y_,Y_,Y_,X_,X_,X_] rfl rfl (one_of HT_.out (by kernel_rfl)) (by decide) (fun K hK => ?_)
           refine goes_ Tryz.func44 (by kernel_rfl) rfl #[.slice Ao23 x6_1.length co23, .slice A507_0 (rd_L4 l0 x7_1).length c507_0] (by rfl) rfl rfl (by (try simp only [List.map_toArray, List.map_cons, List.map_nil]); first | done | rfl | (simp only [List.length_drop, List.length_take]; rfl)) ?_
           with_reducible refine (r6_Count.calls k1 _ _ x6_1 _ _ (rd_L4 l0 x7_1) t508 _ ?side1 ?side2 ?side3 ?side4 A11.out).mono ?_
           (case side1 => repeat (first | exact (Kd.N_reads' HO_6.out).2.2 | (with_reducible refine Kd.cA_ ?_ _) | (with_reducible refine Kd.cN_ ?_ _) | (with_reducible refine Kd.cD_ ?_)))
           (case side2 => exact (Kd.N_reads' HO_6.out).2.1)
           (case side3 => repeat (first | exact (by repeat (first | (with_reducible exact HR507_0.out) | (with_reducible refine Kd.cA_ ?_ _) | (with_reducible refine Kd.cN_ ?_ _) | (with_reducible refine Kd.cD_ ?_) | exact HR507_0.out)) | (with_reducible refine Kd.cA_ ?_ _) | (with_reducible refine Kd.cN_ ?_ _) | (with_reducible refine Kd.cD_ ?_)))
           (case side4 => exact HC507_0.out)
           rintro e w24 ⟨rfl, hb⟩
           have HS0_ := (hb.cell (bLC_ _ _ (hHeld.1))).trans (hHeld.1)
           have HS1_ := (hb.cell (bLC_ _ _ (hHeld.2.1))).trans (hHeld.2.1)
           have HS2_ := (hb.cell (bLC_ _ _ (hHeld.2.2))).trans (hHeld.2.2)
           refine ⟨_, rfl, ?_⟩
           have n0_ := Aside0.mk (Kd.V_below (by (with_reducible repeat (first | apply Kd.vA_ | apply Kd.vN_ | apply Kd.vD_)); exact HO_0.out) hb)
           have n1_ := Aside0.mk (Kd.V_below (by (with_reducible repeat (first | apply Kd.vA_ | apply Kd.vN_ | apply Kd.vD_)); exact HO_1.out) hb)
           have n2_ := Aside0.mk (Kd.N_below (by (with_reducible repeat (first | apply Kd.nA_ | apply Kd.nN_ | apply Kd.nD_)); exact HO_6.out) hb)
           have n3_ := Aside0.mk (Kd.V_below (by (with_reducible repeat (first | apply Kd.vA_ | apply Kd.vN_ | apply Kd.vD_)); exact HL507_0.out) hb)
           have n4_ := Aside0.mk (Kd.V_below (by (with_reducible repeat (first | apply Kd.vA_ | apply Kd.vN_ | apply Kd.vD_)); exact HL509_0.out) hb)
           have n5_ := Aside0.mk (Kd.V_below (by (with_reducible repeat (first | apply Kd.vA_ | apply Kd.vN_ | apply Kd.vD_)); exact HL511_0.out) hb)
           have n6_ := Aside0.mk (Kd.C_below (by repeat (first | (with_reducible exact HR507_0.out) | (with_reducible refine Kd.cA_ ?_ _) | (with_reducible refine Kd.cN_ ?_ _) | (with_reducible refine Kd.cD_ ?_) | exact HR507_0.out)) hb)
           have n7_ := Aside0.mk (Kd.C_below (by repeat (first | (with_reducible exact HR509_0.out) | (with_reducible refine Kd.cA_ ?_ _) | (with_reducible refine Kd.cN_ ?_ _) | (with_reducible refine Kd.cD_ ?_) | exact HR509_0.out)) hb)
           have n8_ := Aside0.mk (Kd.C_below (by repeat (first | (with_reducible exact HR511_0.out) | (with_reducible refine Kd.cA_ ?_ _) | (with_reducible refine Kd.cN_ ?_ _) | (with_reducible refine Kd.cD_ ?_) | exact HR511_0.out)) hb)
           have n9_ := Aside0.mk (below_step (by repeat (first | (with_reducible first | exact HB.out | apply bA_ | apply bN_ | apply b1_) | exact HB.out)) hb)
           clear HO_0
           clear HO_1
           clear HO_6
           clear HL507_0
           clear HL509_0
           clear HL511_0
           clear HR507_0
           clear HR509_0
           clear HR511_0
           clear HB
           have HO_0 := n0_
           have HO_1 := n1_
           have HO_6 := n2_
           have HL507_0 := n3_
           have HL509_0 := n4_
           have HL511_0 := n5_
           have HR507_0 := n6_
           have HR509_0 := n7_
           have HR511_0 := n8_
           have HB := n9_
           clear n0_ n1_ n2_ n3_ n4_ n5_ n6_ n7_ n8_ n9_
           (try clear hb)
           (try clear hb2)
           (try clear hk)
           (try clear hi)
           refine hK.out _ _ ⟨HS0_, HS1_, HS2_⟩ (fun hHeld => ?_)
           clear hK K
           refine norm_ (a' := ?_) ?_ ?_
           rotate_left
           · show Act.put _ (some 24) _ = _
             simp only [Act.put, sTA_, sCZ_, sCS_, i64_w, i32_w]
             rfl
           refine one_ (i := 11) (N := some 30) #[Y_,Y_,Y_,Y_,Y_,Y_,Y_,Y_,Y_,Y_,Y_,Y_,Y_,Y_,Y_,Y_,Y_,X_,X_,X_] rfl rfl (one_of HT_.out (by kernel_rfl)) (by decide) (fun K hK => ?_)
           refine goes_ Tryz.func44 (by kernel_rfl) rfl #[.slice (some ad507) l0.length c0, .slice A507_0 (rd_L4 l0 x7_1).length c507_0] (by rfl) rfl rfl (by (try simp only [List.map_toArray, List.map_cons, List.map_nil]); first | done | rfl | (simp only [List.length_drop, List.length_take]; rfl)) ?_
           with_reducible refine (r6_Count.calls k1 _ _ l0 _ _ (rd_L4 l0 x7_1) t510 _ ?side1 ?side2 ?side3 ?side4 A12.out).mono ?_
           (case side1 => repeat (first | exact (Kd.V_reads' HO_0.out).2.2 | (with_reducible refine Kd.cA_ ?_ _) | (with_reducible refine Kd.cN_ ?_ _) | (with_reducible refine Kd.cD_ ?_)))
           (case side2 => exact (Kd.V_reads' HO_0.out).2.1)
           (case side3 => repeat (first | exact (by repeat (first | (with_reducible exact HR509_0.out) | (with_reducible refine Kd.cA_ ?_ _) | (with_reducible refine Kd.cN_ ?_ _) | (with_reducible refine Kd.cD_ ?_) | exact HR509_0.out)) | (with_reducible refine Kd.cA_ ?_ _) | (with_reducible refine Kd.cN_ ?_ _) | (with_reducible refine Kd.cD_ ?_)))
           (case side4 => exact HC509_0.out)
           rintro e w25 ⟨rfl, hb⟩
           have HS0_ := (hb.cell (bLC_ _ _ (hHeld.1))).trans (hHeld.1)
           have HS1_ := (hb.cell (bLC_ _ _ (hHeld.2.1))).trans (hHeld.2.1)
           have HS2_ := (hb.cell (bLC_ _ _ (hHeld.2.2))).trans (hHeld.2.2)
           refine ⟨_, rfl, ?_⟩
           have n0_ := Aside0.mk (Kd.V_below (by (with_reducible repeat (first | apply Kd.vA_ | apply Kd.vN_ | apply Kd.vD_)); exact HO_0.out) hb)
           have n1_ := Aside0.mk (Kd.V_below (by (with_reducible repeat (first | apply Kd.vA_ | apply Kd.vN_ | apply Kd.vD_)); exact HO_1.out) hb)
           have n2_ := Aside0.mk (Kd.N_below (by (with_reducible repeat (first | apply Kd.nA_ | apply Kd.nN_ | apply Kd.nD_)); exact HO_6.out) hb)
           have n3_ := Aside0.mk (Kd.V_below (by (with_reducible repeat (first | apply Kd.vA_ | apply Kd.vN_ | apply Kd.vD_)); exact HL507_0.out) hb)
           have n4_ := Aside0.mk (Kd.V_below (by (with_reducible repeat (first | apply Kd.vA_ | apply Kd.vN_ | apply Kd.vD_)); exact HL509_0.out) hb)
           have n5_ := Aside0.mk (Kd.V_below (by (with_reducible repeat (first | apply Kd.vA_ | apply Kd.vN_ | apply Kd.vD_)); exact HL511_0.out) hb)
           have n6_ := Aside0.mk (Kd.C_below (by repeat (first | (with_reducible exact HR507_0.out) | (with_reducible refine Kd.cA_ ?_ _) | (with_reducible refine Kd.cN_ ?_ _) | (with_reducible refine Kd.cD_ ?_) | exact HR507_0.out)) hb)
           have n7_ := Aside0.mk (Kd.C_below (by repeat (first | (with_reducible exact HR509_0.out) | (with_reducible refine Kd.cA_ ?_ _) | (with_reducible refine Kd.cN_ ?_ _) | (with_reducible refine Kd.cD_ ?_) | exact HR509_0.out)) hb)
           have n8_ := Aside0.mk (Kd.C_below (by repeat (first | (with_reducible exact HR511_0.out) | (with_reducible refine Kd.cA_ ?_ _) | (with_reducible refine Kd.cN_ ?_ _) | (with_reducible refine Kd.cD_ ?_) | exact HR511_0.out)) hb)
           have n9_ := Aside0.mk (below_step (by repeat (first | (with_reducible first | exact HB.out | apply bA_ | apply bN_ | apply b1_) | exact HB.out)) hb)
           clear HO_0
           clear HO_1
           clear HO_6
           clear HL507_0
           clear HL509_0
           clear HL511_0
           clear HR507_0
           clear HR509_0
           clear HR511_0
           clear HB
           have HO_0 := n0_
           have HO_1 := n1_
           have HO_6 := n2_
           have HL507_0 := n3_
           have HL509_0 := n4_
           have HL511_0 := n5_
           have HR507_0 := n6_
           have HR509_0 := n7_
           have HR511_0 := n8_
           have HB := n9_
           clear n0_ n1_ n2_ n3_ n4_ n5_ n6_ n7_ n8_ n9_
           (try clear hb)
           (try clear hb2)
           (try clear hk)
           (try clear hi)
           refine hK.out _ _ ⟨HS0_, HS1_, HS2_⟩ (fun hHeld => ?_)
           clear hK K
           refine norm_ (a' := ?_) ?_ ?_
           rotate_left
           · show Act.put _ (some 30) _ = _
             simp only [Act.put, sTA_, sCZ_, sCS_, i64_w, i32_w]
             rfl
           refine one_ (i := 17) (N := some 36) #[Y_,Y_,Y_,Y_,Y_,Y_,Y_,Y_,Y_,Y_,Y_,Y_,Y_,Y_,Y_,Y_,Y_,Y_,X_,X_] rfl rfl (one_of HT_.out (by kernel_rfl)) (by decide) (fun K hK => ?_)
           refine goes_ Tryz.func44 (by kernel_rfl) rfl #[.slice A1 l1.length c1, .slice A507_0 (rd_L4 l0 x7_1).length c507_0] (by rfl) rfl rfl (by (try simp only [List.map_toArray, List.map_cons, List.map_nil]); first | done | rfl | (simp only [List.length_drop, List.length_take]; rfl)) ?_
           with_reducible refine (r6_Count.calls k1 _ _ l1 _ _ (rd_L4 l0 x7_1) t512 _ ?side1 ?side2 ?side3 ?side4 A13.out).mono ?_
           (case side1 => repeat (first | exact (Kd.V_reads' HO_1.out).2.2 | (with_reducible refine Kd.cA_ ?_ _) | (with_reducible refine Kd.cN_ ?_ _) | (with_reducible refine Kd.cD_ ?_)))
           (case side2 => exact (Kd.V_reads' HO_1.out).2.1)
           (case side3 => repeat (first | exact (by repeat (first | (with_reducible exact HR511_0.out) | (with_reducible refine Kd.cA_ ?_ _) | (with_reducible refine Kd.cN_ ?_ _) | (with_reducible refine Kd.cD_ ?_) | exact HR511_0.out)) | (with_reducible refine Kd.cA_ ?_ _) | (with_reducible refine Kd.cN_ ?_ _) | (with_reducible refine Kd.cD_ ?_)))
           (case side4 => exact HC511_0.out)
           rintro e w26 ⟨rfl, hb⟩
           have HS0_ := (hb.cell (bLC_ _ _ (hHeld.1))).trans (hHeld.1)
           have HS1_ := (hb.cell (bLC_ _ _ (hHeld.2.1))).trans (hHeld.2.1)
           have HS2_ := (hb.cell (bLC_ _ _ (hHeld.2.2))).trans (hHeld.2.2)
           refine ⟨_, rfl, ?_⟩
           have n0_ := Aside0.mk (Kd.V_below (by (with_reducible repeat (first | apply Kd.vA_ | apply Kd.vN_ | apply Kd.vD_)); exact HO_0.out) hb)
           have n1_ := Aside0.mk (Kd.V_below (by (with_reducible repeat (first | apply Kd.vA_ | apply Kd.vN_ | apply Kd.vD_)); exact HO_1.out) hb)
           have n2_ := Aside0.mk (Kd.N_below (by (with_reducible repeat (first | apply Kd.nA_ | apply Kd.nN_ | apply Kd.nD_)); exact HO_6.out) hb)
           have n3_ := Aside0.mk (Kd.V_below (by (with_reducible repeat (first | apply Kd.vA_ | apply Kd.vN_ | apply Kd.vD_)); exact HL507_0.out) hb)
           have n4_ := Aside0.mk (Kd.V_below (by (with_reducible repeat (first | apply Kd.vA_ | apply Kd.vN_ | apply Kd.vD_)); exact HL509_0.out) hb)
           have n5_ := Aside0.mk (Kd.V_below (by (with_reducible repeat (first | apply Kd.vA_ | apply Kd.vN_ | apply Kd.vD_)); exact HL511_0.out) hb)
           have n6_ := Aside0.mk (Kd.C_below (by repeat (first | (with_reducible exact HR507_0.out) | (with_reducible refine Kd.cA_ ?_ _) | (with_reducible refine Kd.cN_ ?_ _) | (with_reducible refine Kd.cD_ ?_) | exact HR507_0.out)) hb)
           have n7_ := Aside0.mk (Kd.C_below (by repeat (first | (with_reducible exact HR509_0.out) | (with_reducible refine Kd.cA_ ?_ _) | (with_reducible refine Kd.cN_ ?_ _) | (with_reducible refine Kd.cD_ ?_) | exact HR509_0.out)) hb)
           have n8_ := Aside0.mk (Kd.C_below (by repeat (first | (with_reducible exact HR511_0.out) | (with_reducible refine Kd.cA_ ?_ _) | (with_reducible refine Kd.cN_ ?_ _) | (with_reducible refine Kd.cD_ ?_) | exact HR511_0.out)) hb)
           have n9_ := Aside0.mk (below_step (by repeat (first | (with_reducible first | exact HB.out | apply bA_ | apply bN_ | apply b1_) | exact HB.out)) hb)
           clear HO_0
           clear HO_1
           clear HO_6
           clear HL507_0
           clear HL509_0
           clear HL511_0
           clear HR507_0
           clear HR509_0
           clear HR511_0
           clear HB
           have HO_0 := n0_
           have HO_1 := n1_
           have HO_6 := n2_
           have HL507_0 := n3_
           have HL509_0 := n4_
           have HL511_0 := n5_
           have HR507_0 := n6_
           have HR509_0 := n7_
           have HR511_0 := n8_
           have HB := n9_
           clear n0_ n1_ n2_ n3_ n4_ n5_ n6_ n7_ n8_ n9_
           (try clear hb)
           (try clear hb2)
           (try clear hk)
           (try clear hi)
           refine hK.out _ _ ⟨HS0_, HS1_, HS2_⟩ (fun hHeld => ?_)
           clear hK K
           refine norm_ (a' := ?_) ?_ ?_
           rotate_left
           · show Act.put _ (some 36) _ = _
             simp only [Act.put, sTA_, sCZ_, sCS_, i64_w, i32_w]
             rfl
           refine pure_ (i := 18) (N := some 37) (v := ?_) (a' := ?_) #[Y_,Y_,Y_,Y_,Y_,Y_,Y_,Y_,Y_,Y_,Y_,Y_,Y_,Y_,Y_,Y_,Y_,Y_,Y_,X_] rfl rfl (any_of HT_.out (by kernel_rfl)) (fun _ _ _ h => h) (Or.inl ⟨by rfl, ?_⟩) ?_ ?_
           rotate_left
           · intro w'
             go_simp
             with_reducible rfl
           rotate_left
           · simp only [Act.put, sTA_, sCZ_, sCS_, i64_w, i32_w]
             rfl
           refine pure_ (i := 19) (N := some 38) (v := ?_) (a' := ?_) #[Y_,Y_,Y_,Y_,Y_,Y_,Y_,Y_,Y_,Y_,Y_,Y_,Y_,Y_,Y_,Y_,Y_,Y_,Y_,Y_] rfl rfl (any_of HT_.out (by kernel_rfl)) (fun _ _ _ h => h) (Or.inl ⟨by rfl, ?_⟩) ?_ ?_
           rotate_left
           · intro w'
             go_simp
             with_reducible rfl
           rotate_left
           · simp only [Act.put, sTA_, sCZ_, sCS_, i64_w, i32_w]
             rfl
           refine done_ (done_of HT_.out (by kernel_rfl)) ?_
           try go_wp2
           go_roundg k1
           case measure => have := HK1.out; omega
           case rel => exact ⟨(x6_1), (wrap64 (x7_1 + 1)), (by first | rfl | (simp; done) | (simp [*]; done)), H', ⟨by have := HK1.out; omega⟩, ⟨by (with_reducible repeat (first | apply Kd.vA_ | apply Kd.vN_ | apply Kd.vD_)); exact HO_0.out⟩, ⟨by (with_reducible repeat (first | apply Kd.vA_ | apply Kd.vN_ | apply Kd.vD_)); exact HO_1.out⟩, ⟨by (with_reducible repeat (first | apply Kd.nA_ | apply Kd.nN_ | apply Kd.nD_)); exact HO_6.out⟩, ⟨by repeat (first | (with_reducible first | exact HB.out | apply bA_ | apply bN_ | apply b1_) | exact HB.out)⟩⟩
       · rw [if_neg c10] at H
         exact absurd H (by simp)
     · rw [if_neg c9] at H
       have c9b0 : decide (x7_1 < (l0.length : Int)) = false := dF_ c9
       clear c9
       replace H := Option.bind_eq_some_iff.mp H
       obtain ⟨t504, A270, H⟩ := H
       replace H : (some (t504, 0)) = some (r1, r2) := H
       have A27 := Aside0.mk A270
       clear A270
       simp only [Option.some.injEq, Prod.mk.injEq] at H
       obtain ⟨rfl, rfl⟩ := H
       obtain ⟨Ao28, co28, eo28⟩ := Kd.N_slice HO_6.out
       subst eo28
       go_wp2_with (first | ((with_reducible refine gate_callee (f := 67) rfl ?_); refine goesL_ (some 47) rfl rfl Tryz.func67 (by kernel_rfl) rfl #[.slice Ao28 x6_1.length co28, .slice none 0 0] rfl (by (try simp only [List.map_toArray, List.map_cons, List.map_nil]); first | done | rfl | (simp only [List.length_drop, List.length_take]; rfl)) ?_; (refine (r6_full.calls k1 _ _ x6_1 _ _ ([] : List (S64)) t504 _ ?side1 ?side2 ?side3 ?side4 A27.out).mono ?_); (case side1 => repeat (first | exact (Kd.N_reads' HO_6.out).2.2 | (with_reducible refine Kd.cA_ ?_ _) | (with_reducible refine Kd.cN_ ?_ _) | (with_reducible refine Kd.cD_ ?_))); (case side2 => exact (Kd.N_reads' HO_6.out).2.1); (case side3 => exact Kd.C_nil _ _); (case side4 => exact Nat.le_refl _); rintro e w29 ⟨v505, rfl, ho0, hb⟩; refine ⟨_, rfl, ?_⟩; have n0_ := Aside0.mk (Kd.V_below (by (with_reducible repeat (first | apply Kd.vA_ | apply Kd.vN_ | apply Kd.vD_)); exact HO_0.out) hb); have n1_ := Aside0.mk (Kd.V_below (by (with_reducible repeat (first | apply Kd.vA_ | apply Kd.vN_ | apply Kd.vD_)); exact HO_1.out) hb); have n2_ := Aside0.mk (Kd.N_below (by (with_reducible repeat (first | apply Kd.nA_ | apply Kd.nN_ | apply Kd.nD_)); exact HO_6.out) hb); have n3_ := Aside0.mk (Kd.V_lower (Kd.V_mono (ok' := fun k_ => ((P0_ k_ ∨ P1_ k_) ∨ w.heap.size ≤ k_) ∧ some k_ ≠ (.slice Ao28 x6_1.length co28 : Value).ownBlock) ho0 (fun k_ hk_ => ⟨(.inr (Nat.le_trans (below_size (by repeat (first | (with_reducible first | exact HB.out | apply bA_ | apply bN_ | apply b1_) | exact HB.out))) hk_)), (Kd.fresh' (Kd.N_lt (by (with_reducible repeat (first | apply Kd.nA_ | apply Kd.nN_ | apply Kd.nD_)); exact HO_6.out)) k_ hk_)⟩)) (below_size (by repeat (first | (with_reducible first | exact HB.out | apply bA_ | apply bN_ | apply b1_) | exact HB.out)))); have n4_ := Aside0.mk (below_step (by repeat (first | (with_reducible first | exact HB.out | apply bA_ | apply bN_ | apply b1_) | exact HB.out)) hb); clear HO_0; clear HO_1; clear HO_6; clear HB; have HO_0 := n0_; have HO_1 := n1_; have HO_6 := n2_; have HO506 := n3_; have HB := n4_; clear n0_ n1_ n2_ n3_ n4_; (try clear hb); (try clear hb2); (try clear hk); (try clear hi); (try clear ho0)))
       go_ret2
       exact ⟨_, by first | rfl | (simp [*, errW_none, errW_some] <;> rfl), by (with_reducible repeat (first | apply Kd.vA_ | apply Kd.vN_ | apply Kd.vD_)); exact Kd.V_mono HO506.out (fun _ hk => hk.1), by repeat (first | (with_reducible first | exact HB.out | apply bA_ | apply bN_ | apply b1_) | exact HB.out)⟩
 · replace c5 := Bool.eq_false_iff.mpr c5
   subst c5
   have H1 : (some (([] : List (List (S36))), 1)) = some (r1, r2) := by rw [if_neg (show ¬ (false = true) by decide)] at H; exact H
   clear H
   have H := H1
   clear H1
   simp only [Option.some.injEq, Prod.mk.injEq] at H
   obtain ⟨rfl, rfl⟩ := H
   go_enter Tryz.func36, Tryz.ntmps36
   go_wp2_with (first | ((with_reducible refine gate_callee (f := 70) rfl ?_); refine goesL_ (some 10) rfl rfl Tryz.func70 (by kernel_rfl) rfl #[.slice A0 l0.length c0, .slice A1 l1.length c1] rfl (by (try simp only [List.map_toArray, List.map_cons, List.map_nil]); first | done | rfl | (simp only [List.length_drop, List.length_take]; rfl)) ?_; (with_reducible refine (r6_together.calls k (fun k_ => ((P0_ k_ ∨ P1_ k_) ∨ w.heap.size ≤ k_)) _ _ l0 (fun k_ => ((P0_ k_ ∨ P1_ k_) ∨ w.heap.size ≤ k_)) _ _ l1 t500 _ ?side1 ?side2 A3.out).mono ?_); (case side1 => exact HO0.out); (case side2 => exact HO1.out); rintro e w30 ⟨v501, rfl, ho0, hb⟩; refine ⟨_, rfl, ?_⟩; have n0_ := Aside0.mk (Kd.V_elder' (by (with_reducible repeat (first | apply Kd.vA_ | apply Kd.vN_ | apply Kd.vD_)); exact HO0.out) (Kd.N_base ho0) hb); have n1_ := Aside0.mk (Kd.V_elder' (by (with_reducible repeat (first | apply Kd.vA_ | apply Kd.vN_ | apply Kd.vD_)); exact HO1.out) (Kd.N_base ho0) hb); have n2_ := Aside0.mk (Kd.N_lower (Kd.N_mono (ok' := fun k_ => ((P0_ k_ ∨ P1_ k_) ∨ w.heap.size ≤ k_)) ho0 (fun k_ hk_ => Or.elim hk_ (fun hs_ => Or.elim hs_ (fun hs_ => hs_) (fun hs_ => hs_)) (fun hn_ => (.inr (Nat.le_trans (below_size (by repeat (first | (with_reducible first | exact HB.out | apply bA_ | apply bN_ | apply b1_) | exact HB.out))) hn_))))) (below_size (by repeat (first | (with_reducible first | exact HB.out | apply bA_ | apply bN_ | apply b1_) | exact HB.out)))); have n3_ := Aside0.mk (below_step (by repeat (first | (with_reducible first | exact HB.out | apply bA_ | apply bN_ | apply b1_) | exact HB.out)) hb); clear HO0; clear HO1; clear HB; have HO0 := n0_; have HO1 := n1_; have HO502 := n2_; have HB := n3_; clear n0_ n1_ n2_ n3_; (try clear hb); (try clear hb2); (try clear hk); (try clear hi); (try clear ho0); obtain ⟨Ao31, co31, eo31⟩ := Kd.N_slice HO502.out; subst eo31) | ((with_reducible refine gate_callee (f := 11) rfl ?_); refine goesL_ (some 11) rfl rfl Tryz.func11 (by kernel_rfl) rfl #[.slice Ao31 t500.length co31] rfl (by (try simp only [List.map_toArray, List.map_cons, List.map_nil]); first | done | rfl | (simp only [List.length_drop, List.length_take]; rfl)) ?_; (with_reducible refine (r6_Valid.calls k _ _ t500 false _ ?side1 ?side2 A4.out).mono ?_); (case side1 => repeat (first | exact (Kd.N_reads' HO502.out).2.2 | (with_reducible refine Kd.cA_ ?_ _) | (with_reducible refine Kd.cN_ ?_ _) | (with_reducible refine Kd.cD_ ?_))); (case side2 => exact (Kd.N_reads' HO502.out).2.1); rintro e w32 ⟨rfl, hb⟩; refine ⟨_, rfl, ?_⟩; have n0_ := Aside0.mk (Kd.V_below (by (with_reducible repeat (first | apply Kd.vA_ | apply Kd.vN_ | apply Kd.vD_)); exact HO0.out) hb); have n1_ := Aside0.mk (Kd.V_below (by (with_reducible repeat (first | apply Kd.vA_ | apply Kd.vN_ | apply Kd.vD_)); exact HO1.out) hb); have n2_ := Aside0.mk (Kd.N_below (by (with_reducible repeat (first | apply Kd.nA_ | apply Kd.nN_ | apply Kd.nD_)); exact HO502.out) hb); have n3_ := Aside0.mk (below_step (by repeat (first | (with_reducible first | exact HB.out | apply bA_ | apply bN_ | apply b1_) | exact HB.out)) hb); clear HO0; clear HO1; clear HO502; clear HB; have HO0 := n0_; have HO1 := n1_; have HO502 := n2_; have HB := n3_; clear n0_ n1_ n2_ n3_; (try clear hb); (try clear hb2); (try clear hk); (try clear hi)))
   go_ret2
   exact ⟨.slice none 0 0, by first | rfl | (simp [*, errW_none, errW_some] <;> rfl), Kd.V_nil _ _ _ _ _, by repeat (first | (with_reducible first | exact HB.out | apply bA_ | apply bN_ | apply b1_) | exact HB.out)⟩
end Go.Proofs.YtecgkcgfeghhgaaGreatDoor.PAll
set_option linter.unusedVariables false
set_option linter.unusedSimpArgs false
namespace Go.Proofs.YtecgkcgfeghhgaaGreatDoor.PAll
open Go.RowKit Go.Proofs.YtecgkcgfeghhgaaGreatDoorW.PrintWords Go.Proofs.YtecgkcgfeghhgaaGreatDoorW.PrintLast Go.Proofs.YtecgkcgfeghhgaaGreatDoorW.PrintMore
noncomputable def pickR (N : List V → Nat) : List (List V) → List (List V) → List (List V)
 | acc, [] => acc
 | acc, r :: rs => if occ acc r < N r then pickR N (acc ++ [r]) rs else pickR N acc rs
theorem pickR_occ (N : List V → Nat) (x : List V) : ∀ (l acc : List (List V)), occ acc x ≤ N x → occ (pickR N acc l) x = min (occ acc x + occ l x) (N x)
 | [], acc, h => by rw [pickR, occ_nil]; omega
 | r :: rs, acc, h => by
  rw [pickR, occ_cons]
  by_cases c : occ acc r < N r
  · rw [if_pos c]
    by_cases e : r = x
    · subst e
      rw [pickR_occ N r rs _ (by rw [occ_append, occ_cons, occ_nil]; simp; omega), occ_append, occ_cons, occ_nil]
      simp only [if_pos]
      omega
    · rw [pickR_occ N x rs _ (by rw [occ_append, occ_cons, occ_nil, if_neg e]; omega), occ_append, occ_cons, occ_nil, if_neg e]
      omega
  · rw [if_neg c, pickR_occ N x rs _ h]
    by_cases e : r = x
    · subst e
      simp only [if_pos]
      omega
    · rw [if_neg e]
      omega
theorem pickR_mem (N : List V → Nat) : ∀ (l acc : List (List V)) (x : List V), x ∈ pickR N acc l → x ∈ acc ∨ x ∈ l
 | [], acc, x, h => .inl h
 | r :: rs, acc, x, h => by
  rw [pickR] at h
  split at h
  · rcases pickR_mem N rs _ x h with h | h
    · rcases List.mem_append.1 h with h | h
      · exact .inl h
      · exact .inr (by rw [List.mem_singleton.1 h]; exact List.mem_cons_self)
    · exact .inr (List.mem_cons_of_mem _ h)
  · rcases pickR_mem N rs _ x h with h | h
    · exact .inl h
    · exact .inr (List.mem_cons_of_mem _ h)
theorem rowGood_nil {row : List V} (hv : ∀ v ∈ row, validV v = true) (hl : row.length ≤ 1099511627776) : RowGood [] row := ⟨hv, fun k hk => by simp at hk, hl⟩
theorem RowsV.sub {a b : List (List V)} (h : RowsV b) (hs : ∀ r ∈ a, r ∈ b) (hn : a.length ≤ 1099511627776) : RowsV a := ⟨fun r hr => h.1 r (hs r hr), hn⟩
theorem full_sorts (l : List (List V)) (hl : RowsV l) (hv : validB l = true) : Ev (fun k => r6_full.f k l ([] : List KeyT)) (sortR [] l) :=
 full_ev l [] (fun row hrow => rowGood_nil (validB_valid hv row hrow) (hl.1 row hrow).2) hl.2 (by simp)
theorem distinct_l0 (l : List (List V)) (hl : RowsV l) (hv : validB l = true) : ∀ (d i : Nat) (acc : List (List V)), i + d = l.length → acc.length ≤ i → (∀ r ∈ acc, r ∈ l) →
 Ev (fun k => r6_Distinct.l0 k l acc (i : Int)) (sortR [] (pickR (fun _ => 1) acc (l.drop i)), 0) := by
 have hN := hl.2
 intro d
 induction d with
 | zero =>
  intro i acc hi ha hm
  rw [List.drop_eq_nil_of_le (by omega), pickR]
  have hA : RowsV acc := hl.sub hm (by omega)
  refine Ev.step (f := fun k => (r6_full.f k acc ([] : List KeyT)).bind fun t => some (t, 0)) (fun k => ?_) (Ev.bind (full_sorts acc hA (validB_sub hv hm)) (Ev.now _))
  simp only [r6_Distinct.l0]
  rw [if_neg (by omega)]
 | succ d ih =>
  intro i acc hi ha hm
  have hlt : i < l.length := by omega
  have hA : RowsV acc := hl.sub hm (by omega)
  rw [drop_cons l i hlt, pickR]
  refine Ev.step (f := fun k => (r6_Count.f k acc l[i]).bind fun t => if t = 0 then r6_Distinct.l0 k l (acc ++ [l[i]]) ((i + 1 : Nat) : Int) else r6_Distinct.l0 k l acc ((i + 1 : Nat) : Int)) (fun k => ?_) (Ev.bind (count_ev acc l[i] hA) ?_)
  · simp only [r6_Distinct.l0]
    rw [if_pos (by omega), if_pos (by omega), rdL_at hlt, w64 _ (by omega) (by omega)]
    congr 1
    funext t
    split
    · rw [if_pos (by omega)]; rfl
    · rfl
  · by_cases c : occ acc l[i] < 1
    · rw [if_pos c]
      refine Ev.congr (fun k => by rw [if_pos (by omega)]) (ih (i + 1) (acc ++ [l[i]]) (by omega) (by simp; omega) (fun r hr => ?_))
      rcases List.mem_append.1 hr with hr | hr
      · exact hm r hr
      · rw [List.mem_singleton.1 hr]; exact List.getElem_mem hlt
    · rw [if_neg c]
      exact Ev.congr (fun k => by rw [if_neg (by omega)]) (ih (i + 1) acc (by omega) (by omega) hm)
open Classical in
theorem distR_occ (x : List V) : ∀ (l : List (List V)) (seen : List ByteArray), occ (distR seen l) x = if nameOf x ∈ seen then 0 else min 1 (occ l x)
 | [], seen => by rw [distR, occ_nil]; split <;> simp
 | r :: rs, seen => by
  rw [distR, occ_cons]
  by_cases c : nameOf r ∈ seen
  · rw [if_pos c, distR_occ x rs seen]
    by_cases e : r = x
    · subst e
      rw [if_pos c, if_pos c]
    · rw [if_neg e, Nat.add_zero]
  · rw [if_neg c, occ_cons, distR_occ x rs (nameOf r :: seen)]
    by_cases e : r = x
    · subst e
      rw [if_pos (by simp), if_neg c]
      simp only [if_pos]
      omega
    · have hne : nameOf x ≠ nameOf r := fun h => e (name_inj h).symm
      rw [if_neg e, Nat.add_zero, Nat.add_zero]
      by_cases c2 : nameOf x ∈ seen
      · rw [if_pos c2, if_pos (List.mem_cons_of_mem _ c2)]
      · rw [if_neg c2, if_neg (fun h => by rcases List.mem_cons.1 h with h | h; exact hne h; exact c2 h)]
theorem rdistinct_ev (l : List (List V)) (hl : RowsV l) : Ev (fun k => r6_Distinct.f k l) (if validB l = true then (sortR [] (distR [] l), 0) else ([], 1)) := by
 unfold r6_Distinct.f
 refine Ev.bind (rvalid_ev l hl) ?_
 by_cases hv : validB l = true
 · rw [if_pos hv]
   have h := distinct_l0 l hl hv l.length 0 [] (by omega) (by simp) (by simp)
   rw [List.drop_zero] at h
   have hp : (pickR (fun _ => 1) [] l).Perm (distR [] l) := perm_of_occ_all (fun x => by
    rw [pickR_occ _ x l [] (by rw [occ_nil]; omega), distR_occ, if_neg (by simp), occ_nil]
    omega)
   have hvp : validB (pickR (fun _ => 1) [] l) = true := validB_sub hv (fun r hr => by
    rcases pickR_mem _ l [] r hr with h | h
    · simp at h
    · exact h)
   rw [sortR_congr (validB_valid hvp) hp]
   exact Ev.congr (fun k => by rw [if_pos hv]; rfl) h
 · rw [if_neg hv]
   exact Ev.congr (f := fun _ => some (([] : List (List V)), (1 : Int))) (fun k => by rw [if_neg hv]) (Ev.now _)
theorem together_l1 (b : List (List V)) (hb : b.length ≤ 1099511627776) : ∀ (d i : Nat) (xs : List (List V)), i + d = b.length → xs.length ≤ 1099511627776 + i → Ev (fun k => r6_together.l1 k b xs (i : Int)) (xs ++ b.drop i) := by
 intro d
 induction d with
 | zero =>
  intro i xs hi hx
  rw [List.drop_eq_nil_of_le (by omega), List.append_nil]
  refine Ev.step (f := fun _ => some xs) (fun k => ?_) (Ev.now _)
  simp only [r6_together.l1]
  rw [if_neg (by omega)]
 | succ d ih =>
  intro i xs hi hx
  have hlt : i < b.length := by omega
  rw [drop_cons b i hlt]
  have e : xs ++ b[i] :: b.drop (i + 1) = (xs ++ [b[i]]) ++ b.drop (i + 1) := by simp
  rw [e]
  refine Ev.step (f := fun k => r6_together.l1 k b (xs ++ [b[i]]) ((i + 1 : Nat) : Int)) (fun k => ?_) (ih (i + 1) (xs ++ [b[i]]) (by omega) (by simp; omega))
  simp only [r6_together.l1]
  rw [if_pos (by omega), if_pos (by omega), if_pos (by omega), rdL_at hlt, w64 _ (by omega) (by omega)]
  rfl
theorem together_l0 (a b : List (List V)) (ha : a.length ≤ 1099511627776) (hb : b.length ≤ 1099511627776) : ∀ (d i : Nat), i + d = a.length → Ev (fun k => r6_together.l0 k a b (a.take i) (i : Int)) (a ++ b) := by
 intro d
 induction d with
 | zero =>
  intro i hi
  rw [List.take_of_length_le (by omega)]
  have h := together_l1 b hb b.length 0 a (by omega) (by omega)
  rw [List.drop_zero] at h
  refine Ev.step (fun k => ?_) h
  simp only [r6_together.l0]
  rw [if_neg (by omega)]
  rfl
 | succ d ih =>
  intro i hi
  have hlt : i < a.length := by omega
  refine Ev.step (fun k => ?_) (ih (i + 1) (by omega))
  simp only [r6_together.l0]
  rw [if_pos (by omega), if_pos (by omega), if_pos (by rw [List.length_take]; omega), rdL_at hlt, w64 _ (by omega) (by omega), take_snoc a i hlt]
  rfl
theorem together_ev (a b : List (List V)) (ha : a.length ≤ 1099511627776) (hb : b.length ≤ 1099511627776) : Ev (fun k => r6_together.f k a b) (a ++ b) := by
 have h := together_l0 a b ha hb a.length 0 (by omega)
 rw [List.take_zero] at h
 exact h
theorem app_lens {a b : List (List V)} (h : RowsV (a ++ b)) : RowsV a ∧ RowsV b := by
 have := h.2
 rw [List.length_append] at this
 exact ⟨h.sub (fun r hr => List.mem_append_left _ hr) (by omega), h.sub (fun r hr => List.mem_append_right _ hr) (by omega)⟩
theorem runion_ev (a b : List (List V)) (h : RowsV (a ++ b)) : Ev (fun k => r6_Union.f k a b) (if validB (a ++ b) = true then (sortR [] (a ++ b), 0) else ([], 1)) := by
 obtain ⟨ha, hb⟩ := app_lens h
 unfold r6_Union.f
 refine Ev.bind (together_ev a b ha.2 hb.2) (Ev.bind (rvalid_ev _ h) ?_)
 by_cases hv : validB (a ++ b) = true
 · rw [if_pos hv]
   exact Ev.congr (fun k => by rw [if_pos hv]) (Ev.bind (full_sorts _ h hv) (Ev.now _))
 · rw [if_neg hv]
   exact Ev.congr (f := fun _ => some (([] : List (List V)), (1 : Int))) (fun k => by rw [if_neg hv]) (Ev.now _)
theorem intersect_l0 (a b : List (List V)) (hl : RowsV a) (hb : RowsV b) (hv : validB a = true) : ∀ (d i : Nat) (acc : List (List V)), i + d = a.length → acc.length ≤ i → (∀ r ∈ acc, r ∈ a) →
 Ev (fun k => r6_Intersect.l0 k a b acc (i : Int)) (sortR [] (pickR (occ b) acc (a.drop i)), 0) := by
 have hN := hl.2
 intro d
 induction d with
 | zero =>
  intro i acc hi ha hm
  rw [List.drop_eq_nil_of_le (by omega), pickR]
  have hA : RowsV acc := hl.sub hm (by omega)
  refine Ev.step (f := fun k => (r6_full.f k acc ([] : List KeyT)).bind fun t => some (t, 0)) (fun k => ?_) (Ev.bind (full_sorts acc hA (validB_sub hv hm)) (Ev.now _))
  simp only [r6_Intersect.l0]
  rw [if_neg (by omega)]
 | succ d ih =>
  intro i acc hi ha hm
  have hlt : i < a.length := by omega
  have hA : RowsV acc := hl.sub hm (by omega)
  rw [drop_cons a i hlt, pickR]
  refine Ev.step (f := fun k => (r6_Count.f k acc a[i]).bind fun t => (r6_Count.f k b a[i]).bind fun u => if t < u then r6_Intersect.l0 k a b (acc ++ [a[i]]) ((i + 1 : Nat) : Int) else r6_Intersect.l0 k a b acc ((i + 1 : Nat) : Int)) (fun k => ?_) (Ev.bind (count_ev acc a[i] hA) (Ev.bind (count_ev b a[i] hb) ?_))
  · simp only [r6_Intersect.l0]
    rw [if_pos (by omega), if_pos (by omega), rdL_at hlt, w64 _ (by omega) (by omega)]
    congr 1
    funext t
    congr 1
    funext u
    split
    · rw [if_pos (by omega)]; rfl
    · rfl
  · by_cases c : occ acc a[i] < occ b a[i]
    · rw [if_pos c]
      refine Ev.congr (fun k => by rw [if_pos (by omega)]) (ih (i + 1) (acc ++ [a[i]]) (by omega) (by simp; omega) (fun r hr => ?_))
      rcases List.mem_append.1 hr with hr | hr
      · exact hm r hr
      · rw [List.mem_singleton.1 hr]; exact List.getElem_mem hlt
    · rw [if_neg c]
      exact Ev.congr (fun k => by rw [if_neg (by omega)]) (ih (i + 1) acc (by omega) (by omega) hm)
theorem except_l0 (a b : List (List V)) (hl : RowsV a) (hb : RowsV b) (hv : validB a = true) : ∀ (d i : Nat) (acc : List (List V)), i + d = a.length → acc.length ≤ i → (∀ r ∈ acc, r ∈ a) →
 Ev (fun k => r6_Except.l0 k a b acc (i : Int)) (sortR [] (pickR (fun r => occ a r - occ b r) acc (a.drop i)), 0) := by
 have hN := hl.2
 have hNb := hb.2
 intro d
 induction d with
 | zero =>
  intro i acc hi ha hm
  rw [List.drop_eq_nil_of_le (by omega), pickR]
  have hA : RowsV acc := hl.sub hm (by omega)
  refine Ev.step (f := fun k => (r6_full.f k acc ([] : List KeyT)).bind fun t => some (t, 0)) (fun k => ?_) (Ev.bind (full_sorts acc hA (validB_sub hv hm)) (Ev.now _))
  simp only [r6_Except.l0]
  rw [if_neg (by omega)]
 | succ d ih =>
  intro i acc hi ha hm
  have hlt : i < a.length := by omega
  have hA : RowsV acc := hl.sub hm (by omega)
  rw [drop_cons a i hlt, pickR]
  refine Ev.step (f := fun k => (r6_Count.f k acc a[i]).bind fun t => (r6_Count.f k a a[i]).bind fun s => (r6_Count.f k b a[i]).bind fun u => if t < wrap64 (s - u) then r6_Except.l0 k a b (acc ++ [a[i]]) ((i + 1 : Nat) : Int) else r6_Except.l0 k a b acc ((i + 1 : Nat) : Int)) (fun k => ?_) (Ev.bind (count_ev acc a[i] hA) (Ev.bind (count_ev a a[i] hl) (Ev.bind (count_ev b a[i] hb) ?_)))
  · simp only [r6_Except.l0]
    rw [if_pos (by omega), if_pos (by omega), rdL_at hlt, w64 _ (by omega) (by omega)]
    congr 1
    funext t
    congr 1
    funext s
    congr 1
    funext u
    split
    · rw [if_pos (by omega)]; rfl
    · rfl
  · have b1 := occ_le a a[i]
    have b2 := occ_le b a[i]
    have hw : wrap64 ((occ a a[i] : Int) - (occ b a[i] : Int)) = (occ a a[i] : Int) - (occ b a[i] : Int) := by unfold wrap64; omega
    rw [hw]
    by_cases c : occ acc a[i] < occ a a[i] - occ b a[i]
    · rw [if_pos c]
      refine Ev.congr (fun k => by rw [if_pos (by omega)]) (ih (i + 1) (acc ++ [a[i]]) (by omega) (by simp; omega) (fun r hr => ?_))
      rcases List.mem_append.1 hr with hr | hr
      · exact hm r hr
      · rw [List.mem_singleton.1 hr]; exact List.getElem_mem hlt
    · rw [if_neg c]
      exact Ev.congr (fun k => by rw [if_neg (by omega)]) (ih (i + 1) acc (by omega) (by omega) hm)
theorem pickR_sorts {a : List (List V)} (hv : validB a = true) {N : List V → Nat} {t : List (List V)} (h : ∀ x, min (occ a x) (N x) = occ t x) : sortR [] (pickR N [] a) = sortR [] t := by
 have hvp : validB (pickR N [] a) = true := validB_sub hv (fun r hr => by
  rcases pickR_mem _ a [] r hr with h | h
  · simp at h
  · exact h)
 refine (sortR_congr (validB_valid hvp) (perm_of_occ_all (fun x => ?_))).symm
 rw [pickR_occ _ x a [] (by rw [occ_nil]; omega), occ_nil, Nat.zero_add]
 exact h x
theorem rintersect_ev (a b : List (List V)) (h : RowsV (a ++ b)) : Ev (fun k => r6_Intersect.f k a b) (if validB (a ++ b) = true then (sortR [] (splitR (cnt (b.map nameOf)) a).1, 0) else ([], 1)) := by
 obtain ⟨ha, hb⟩ := app_lens h
 unfold r6_Intersect.f
 refine Ev.bind (together_ev a b ha.2 hb.2) (Ev.bind (rvalid_ev _ h) ?_)
 by_cases hv : validB (a ++ b) = true
 · rw [if_pos hv]
   have hva := validB_sub hv (fun r hr => List.mem_append_left b hr)
   have h1 := intersect_l0 a b ha hb hva a.length 0 [] (by omega) (by simp) (by simp)
   rw [List.drop_zero, pickR_sorts hva (t := (splitR (cnt (b.map nameOf)) a).1) (fun x => (met_occ a b x).symm)] at h1
   exact Ev.congr (fun k => by rw [if_pos hv]; rfl) h1
 · rw [if_neg hv]
   exact Ev.congr (f := fun _ => some (([] : List (List V)), (1 : Int))) (fun k => by rw [if_neg hv]) (Ev.now _)
theorem rexcept_ev (a b : List (List V)) (h : RowsV (a ++ b)) : Ev (fun k => r6_Except.f k a b) (if validB (a ++ b) = true then (sortR [] (splitR (cnt (b.map nameOf)) a).2, 0) else ([], 1)) := by
 obtain ⟨ha, hb⟩ := app_lens h
 unfold r6_Except.f
 refine Ev.bind (together_ev a b ha.2 hb.2) (Ev.bind (rvalid_ev _ h) ?_)
 by_cases hv : validB (a ++ b) = true
 · rw [if_pos hv]
   have hva := validB_sub hv (fun r hr => List.mem_append_left b hr)
   have h1 := except_l0 a b ha hb hva a.length 0 [] (by omega) (by simp) (by simp)
   rw [List.drop_zero, pickR_sorts hva (t := (splitR (cnt (b.map nameOf)) a).2) (fun x => by rw [left_occ]; omega)] at h1
   exact Ev.congr (fun k => by rw [if_pos hv]; rfl) h1
 · rw [if_neg hv]
   exact Ev.congr (f := fun _ => some (([] : List (List V)), (1 : Int))) (fun k => by rw [if_neg hv]) (Ev.now _)
def okInt (v : V) : Prop := -9223372036854775808 ≤ v.f1 ∧ v.f1 ≤ 9223372036854775807
def cStep (n : Int) (_ : V) : Int := wrap64 (n + 1)
def tStep (s : Int × Int × Int) (v : V) : Int × Int × Int := ((s.1 + IntKind.u64.wrap (v.f1 / 9223372036854775808) + (s.2.1 + IntKind.u64.wrap v.f1) / 18446744073709551616) % 18446744073709551616, (s.2.1 + IntKind.u64.wrap v.f1) % 18446744073709551616, IntKind.u64.wrap (s.2.2 + 1))
def countG : Gath where
 σ := Int
 T := 129
 S := 131
 take := 168
 done := 167
 cells := fun n => #[.int .i64 n]
 init := 0
 step := cStep
 out := fun n => (1, n, ⟨#[]⟩, 0)
 good := fun _ => True
 inv := fun _ => True
 inv0 := trivial
 step_inv := fun _ _ _ _ => trivial
 hmt := fun a w => by kernel_rfl
 hmd := fun a w => by kernel_rfl
 het := enters_of Tryz.func168 (by kernel_rfl) rfl
 hed := enters_of Tryz.func167 (by kernel_rfl) rfl
 htake := fun b s v w _ _ hb => counter_take b s v w hb
 hdone := fun b s w _ hb => counter_done b s w hb
def totalG : Gath where
 σ := Int × Int × Int
 T := 120
 S := 122
 take := 158
 done := 157
 cells := fun s => #[.int .u64 s.1, .int .u64 s.2.1, .int .u64 s.2.2]
 init := (0, 0, 0)
 step := tStep
 out := fun s => totalOut s.1 s.2.1 s.2.2
 good := fun _ => True
 inv := fun s => 0 ≤ s.1 ∧ 0 ≤ s.2.1 ∧ s.2.1 < 18446744073709551616
 inv0 := by decide
 step_inv := fun s v _ _ => by
  simp only [tStep]
  omega
 hmt := fun a w => by kernel_rfl
 hmd := fun a w => by kernel_rfl
 het := enters_of Tryz.func158 (by kernel_rfl) rfl
 hed := enters_of Tryz.func157 (by kernel_rfl) rfl
 htake := fun b s v w hi _ hb => total_take b s.1 s.2.1 s.2.2 v w hb hi.1 hi.2.1 hi.2.2
 hdone := fun b s w _ hb => total_done b s.1 s.2.1 s.2.2 w hb _ _ _ _ rfl
theorem count_fold : ∀ (vs : List V) (n : Int), 0 ≤ n → n + vs.length ≤ 1099511627776 → vs.foldl cStep n = n + vs.length
 | [], n, _, _ => by simp
 | v :: vs, n, h0, h1 => by
  have hl : ((v :: vs).length : Int) = vs.length + 1 := by simp
  rw [hl] at h1 ⊢
  rw [List.foldl_cons]
  show vs.foldl cStep (wrap64 (n + 1)) = _
  rw [w64 n h0 (by omega), count_fold vs (n + 1) (by omega) (by omega)]
  omega
def sumV : List V → Int
 | [] => 0
 | v :: vs => v.f1 + sumV vs
theorem sumV_bd : ∀ vs : List V, (∀ v ∈ vs, okInt v) → -9223372036854775808 * (vs.length : Int) ≤ sumV vs ∧ sumV vs ≤ 9223372036854775807 * (vs.length : Int)
 | [], _ => by simp [sumV]
 | v :: vs, h => by
  have h1 := h v List.mem_cons_self
  have h2 := sumV_bd vs (fun u hu => h u (List.mem_cons_of_mem _ hu))
  have hl : ((v :: vs).length : Int) = vs.length + 1 := by simp
  unfold okInt at h1
  simp only [sumV, hl]
  omega
theorem u64w (x : Int) : IntKind.u64.wrap x = x % 18446744073709551616 := by
 simp [IntKind.wrap, IntKind.bits, IntKind.signed]
def stOf (S : Int) (n : Int) : Int × Int × Int := ((S / 18446744073709551616) % 18446744073709551616, S % 18446744073709551616, n)
theorem total_step (S n : Int) (v : V) (hv : okInt v) (h0 : 0 ≤ n) (h1 : n ≤ 1099511627776) : tStep (stOf S n) v = stOf (S + v.f1) (n + 1) := by
 unfold okInt at hv
 unfold stOf tStep
 simp only [u64w]
 refine Prod.ext ?_ (Prod.ext ?_ ?_)
 · show (S / 18446744073709551616 % 18446744073709551616 + v.f1 / 9223372036854775808 % 18446744073709551616 + (S % 18446744073709551616 + v.f1 % 18446744073709551616) / 18446744073709551616) % 18446744073709551616 = (S + v.f1) / 18446744073709551616 % 18446744073709551616
   rcases (by omega : v.f1 < 0 ∨ 0 ≤ v.f1) with h | h
   · have e1 : v.f1 / 9223372036854775808 = -1 := by omega
     rw [e1]
     omega
   · have e1 : v.f1 / 9223372036854775808 = 0 := by omega
     rw [e1]
     omega
 · show (S % 18446744073709551616 + v.f1 % 18446744073709551616) % 18446744073709551616 = (S + v.f1) % 18446744073709551616
   omega
 · show (n + 1) % 18446744073709551616 = n + 1
   omega
theorem total_fold : ∀ (vs : List V) (S n : Int), (∀ v ∈ vs, okInt v) → 0 ≤ n → n + vs.length ≤ 1099511627776 → vs.foldl tStep (stOf S n) = stOf (S + sumV vs) (n + vs.length)
 | [], S, n, _, _, _ => by simp [sumV]
 | v :: vs, S, n, h, h0, h1 => by
  have hl : ((v :: vs).length : Int) = vs.length + 1 := by simp
  rw [hl] at h1 ⊢
  rw [List.foldl_cons, total_step S n v (h v List.mem_cons_self) h0 (by omega), total_fold vs _ _ (fun u hu => h u (List.mem_cons_of_mem _ hu)) (by omega) (by omega)]
  simp only [sumV]
  congr 1 <;> omega
def sumR (vs : List V) : Int × Int × ByteArray × Int :=
 if vs = [] then (0, 0, ⟨#[]⟩, 0) else if -9223372036854775808 ≤ sumV vs ∧ sumV vs ≤ 9223372036854775807 then (1, sumV vs, ⟨#[]⟩, 0) else (0, 0, ⟨#[]⟩, 4)
theorem wrap64_eq (x : Int) (h0 : 0 ≤ x) (h1 : x < 18446744073709551616) : wrap64 x = if x < 9223372036854775808 then x else x - 18446744073709551616 := by
 unfold wrap64
 split <;> omega
theorem total_out (vs : List V) (h : ∀ v ∈ vs, okInt v) (hn : vs.length ≤ 1099511627776) : totalG.out (vs.foldl totalG.step totalG.init) = sumR vs := by
 have e := total_fold vs 0 0 h (by omega) (by omega)
 have e0 : stOf 0 0 = (0, 0, 0) := by decide
 rw [e0] at e
 change (fun s : Int × Int × Int => totalOut s.1 s.2.1 s.2.2) (vs.foldl tStep (0, 0, 0)) = _
 rw [e]
 have hb := sumV_bd vs h
 rw [Int.zero_add, Int.zero_add]
 unfold stOf totalOut sumR
 obtain ⟨S, hS⟩ : ∃ S, S = sumV vs := ⟨_, rfl⟩
 rw [← hS] at hb ⊢
 by_cases c0 : vs = []
 · subst c0
   simp
 · have hp : 0 < vs.length := List.length_pos_iff.2 c0
   rw [if_neg c0]
   dsimp only
   rw [if_neg (by omega)]
   rw [wrap64_eq _ (by omega) (by omega), u64w]
   by_cases c : -9223372036854775808 ≤ S ∧ S ≤ 9223372036854775807
   · rw [if_pos c]
     split
     · rw [if_pos (by omega)]
       congr 2
       omega
     · rw [if_pos (by omega)]
       congr 2
       omega
   · rw [if_neg c]
     split
     · rw [if_neg (by omega)]
     · rw [if_neg (by omega)]
theorem aggregate_bad (k : Nat) (fn : Int) (d : Bool) (A2 : Option Addr) (c2 : Nat) (l : List V) (w : World) (hr : Kd.C kV w A2 l.length l) (hc : l.length ≤ c2) (hall : bag_allowed.f k fn d l = some false) :
 Calls Tryz.prog 21 #[.int .u8 fn, .bool d, .slice A2 l.length c2] w fun e w' => e = .returned (.agg #[.int .u8 0, .int .i64 0, .string ⟨#[]⟩, .int .i64 1]) ∧ Below w.heap.size w w' := by
 have HR := Aside0.mk hr
 have HC := Aside0.mk hc
 have HA := Aside0.mk hall
 clear hr hc hall
 go_enter Tryz.func21, Tryz.ntmps21
 go_wp2_with (first | ((with_reducible refine gate_dst (N := 6) rfl ?_); refine box_event ?hg (N := 6) ?hd (cs := #[.int .u8 0, .int .i64 0, .string (⟨#[]⟩ : ByteArray), .int .i64 0]) (t := 38) ?hr ?_; (case hd => rfl); (case hg => rfl); (case hr => first | (go_simp; done) | (go_simp; rfl)); intro q hq W hN hb1; have HB1 := Aside0.mk hb1; have HQ := Aside0.mk hq; have HN0 := Aside0.mk hN; clear hb1 hq hN))
 refine (bag_allowed.calls k fn d A2 c2 l false W (Kd.C_below HR.out HB1.out) HC.out HA.out).mono ?_
 rintro e w3 ⟨rfl, hb2⟩
 have hN3 := (hb2.block q (blk_lt HN0.out)).trans HN0.out
 have HN3 := Aside0.mk hN3
 have HB3 := Aside0.mk (HB1.out.trans (hb2.mono HB1.out.size))
 have G0 : w3.cell? ⟨q, 0, none⟩ = some (.int .u8 0) := (blk_cell hN3 0).trans rfl
 have G1 : w3.cell? ⟨q, 1, none⟩ = some (.int .i64 0) := (blk_cell hN3 1).trans rfl
 have G2 : w3.cell? ⟨q, 2, none⟩ = some (.string ⟨#[]⟩) := (blk_cell hN3 2).trans rfl
 have G3 : w3.cell? ⟨q, 3, none⟩ = some (.int .i64 0) := (blk_cell hN3 3).trans rfl
 have F4 : ∀ j, w3.frozen? ⟨q, j, none⟩ = false := fun j => by simp [World.frozen?, hN3]
 clear hb2 hN3
 go_wp2
 refine bodyPost_ret (results_cell_row rfl _ _ q 38 _ (0, 0) _ rfl (out_cells HN3.out _ _ _ _) Tryz.underlying38 rfl (by kernel_rfl)) rfl ?_
 exact ⟨rfl, out_below HB3.out HQ.out _ _ _ _⟩
noncomputable def aggR (fn : Int) (d : Bool) (vs : List V) : Int × Int × ByteArray × Int :=
 if allowedB fn d vs = true then (if fn = 2 then sumR (pickV fn d [] vs) else (1, ((pickV fn d [] vs).length : Int), ⟨#[]⟩, 0)) else (0, 0, ⟨#[]⟩, 1)
theorem pickV_sub (fn : Int) (d : Bool) : ∀ (vs : List V) (seen : List ByteArray), (∀ v ∈ pickV fn d seen vs, v ∈ vs) ∧ (pickV fn d seen vs).length ≤ vs.length
 | [], _ => by simp [pickV]
 | v :: vs, seen => by
  have h1 := pickV_sub fn d vs seen
  have h2 := pickV_sub fn d vs (nameOf [v] :: seen)
  have e1 : ∀ seen', (∀ u ∈ pickV fn d seen' vs, u ∈ vs) ∧ (pickV fn d seen' vs).length ≤ vs.length → (∀ u ∈ v :: pickV fn d seen' vs, u ∈ v :: vs) ∧ (v :: pickV fn d seen' vs).length ≤ (v :: vs).length := fun seen' h => ⟨fun u hu => by
   rcases List.mem_cons.1 hu with rfl | hu
   · exact List.mem_cons_self
   · exact List.mem_cons_of_mem _ (h.1 u hu), by simp; exact h.2⟩
  have e2 : (∀ u ∈ pickV fn d seen vs, u ∈ v :: vs) ∧ (pickV fn d seen vs).length ≤ (v :: vs).length := ⟨fun u hu => List.mem_cons_of_mem _ (h1.1 u hu), by simp; omega⟩
  simp only [pickV]
  split
  · exact e2
  · split
    · split
      · exact e2
      · exact e1 _ h2
    · exact e1 _ h1
def AggOk (fn : Int) (vs : List V) : Prop := 0 ≤ fn ∧ (fn ≤ 2 ∨ 5 < fn) ∧ (∀ v ∈ vs, RowOk [v]) ∧ vs.length ≤ 1099511627776
open Classical in
noncomputable def bag_Aggregate.f (fn : Int) (d : Bool) (vs : List V) : Option (Int × Int × ByteArray × Int) := if AggOk fn vs then some (aggR fn d vs) else none
theorem bag_Aggregate.calls (a0 : Int) (a1 : Bool) (A2 : Option Addr) (c2 : Nat) (l2 : List V) (r1 r2 : Int) (r3 : ByteArray) (r4 : Int) (w : World) (hr2 : Kd.C kV w A2 l2.length l2) (hc2 : l2.length ≤ c2) (hT : LaidT w) (h : bag_Aggregate.f a0 a1 l2 = some (r1, r2, r3, r4)) :
 Calls Tryz.prog 21 #[.int .u8 a0, .bool a1, .slice A2 l2.length c2] w fun e w' => e = .returned (.agg #[.int .u8 r1, .int .i64 r2, .string r3, .int .i64 r4]) ∧ Below w.heap.size w w' := by
 unfold bag_Aggregate.f at h
 split at h
 case isFalse => cases h
 rename_i hok
 obtain ⟨hf0, hf1, hok, hn⟩ := hok
 have h := Option.some.inj h
 have hv : ∀ v ∈ l2, VOk v := fun v hv => (hok v hv).1 v (by simp)
 obtain ⟨k, hk⟩ := (allowed_ev a0 a1 l2 hv hn).rounds
 unfold aggR at h
 cases hq : allowedB a0 a1 l2 with
 | false =>
  rw [hq] at hk h
  simp only [Bool.false_eq_true, if_false, Prod.mk.injEq] at h
  obtain ⟨rfl, rfl, rfl, rfl⟩ := h
  exact aggregate_bad k a0 a1 A2 c2 l2 w hr2 hc2 hk
 | true =>
  rw [hq] at hk h
  rw [if_pos rfl] at h
  have hle : a0 ≤ 2 := by
   rcases hf1 with h1 | h1
   · exact h1
   · unfold allowedB at hq
     rw [if_pos (.inl h1)] at hq
     cases hq
  obtain ⟨hsub, hlen⟩ := pickV_sub a0 a1 l2 []
  by_cases h2 : a0 = 2
  · subst h2
    rw [if_pos rfl] at h
    have hc := aggregate_walk totalG k 2 a1 A2 c2 l2 w hT hr2 hc2 hok hn hk (fun _ _ => trivial) (fun w => gath_sum w)
    have e := total_out (pickV 2 a1 [] l2) (fun v hm => by have := hv v (hsub v hm); exact ⟨this.2.2.1, this.2.2.2⟩) (Nat.le_trans hlen hn)
    rw [e, h] at hc
    exact hc
  · rw [if_neg h2] at h
    have hc := aggregate_walk countG k a0 a1 A2 c2 l2 w hT hr2 hc2 hok hn hk (fun _ _ => trivial) (fun w => gath_count a0 (by omega) w)
    have e := count_fold (pickV a0 a1 [] l2) 0 (Int.le_refl _) (by omega)
    change Calls _ _ _ _ fun e w' => e = .returned (.agg #[.int .u8 1, .int .i64 ((pickV a0 a1 [] l2).foldl cStep 0), .string ⟨#[]⟩, .int .i64 0]) ∧ _ at hc
    rw [e, Int.zero_add] at hc
    simp only [Prod.mk.injEq] at h
    obtain ⟨rfl, rfl, rfl, rfl⟩ := h
    exact hc
def keyOf (cols : List Int) (row : List V) : List V := cols.map (fun n => rd_T36 row n)
open Classical in
noncomputable def keysR (cols : List Int) (l : List (List V)) : List (List V) := if cols = [] then [[]] else sortR [] (distR [] (l.map (keyOf cols)))
open Classical in
noncomputable def listR (cols : List Int) (l : List (List V)) (s : ByteArray) : List (List V) := l.filter (fun r => decide (nameOf (keyOf cols r) = s))
abbrev LV := Value × List (List V)
structure LM (w W : World) (m : Nat) (kv : List (ByteArray × LV)) : Prop where
 is : KV.Is W m (fun p : LV => p.1) kv
 own : ∀ s p, KV.get kv s = some p → (relK w).kd.R 53 W w.heap.size (fun k => k ≠ m) p.1 p.2
 apart : ∀ s t p q, KV.get kv s = some p → KV.get kv t = some q → s ≠ t → ∀ k, p.1.ownBlock = some k → q.1.ownBlock ≠ some k
theorem LM.below {w W W1 : World} {m : Nat} {kv : List (ByteArray × LV)} (h : LM w W m kv) (hb : Below W.heap.size W W1) : LM w W1 m kv :=
 ⟨h.is.below hb, fun s p hp => Kd.R_below (h.own s p hp) hb, h.apart⟩
theorem LM.grown {w W W1 : World} {m : Nat} {kv : List (ByteArray × LV)} (h : LM w W m kv) {row : Option Nat} (hg : W.grownBy W1 row) (hm : some m ≠ row) (hr : ∀ s p, KV.get kv s = some p → ∀ k, p.1.ownBlock = some k → some k ≠ row) : LM w W1 m kv :=
 ⟨h.is.grown hg hm, fun s p hp => Kd.R_mono (Kd.R_grown (Kd.R_tight rfl (h.own s p hp)) hg (fun k hk => hr s p hp k hk.symm)) (fun k hk => (h.own s p hp).1 k hk.symm), h.apart⟩
theorem LM.put {w W W1 W2 : World} {m : Nat} {kv : List (ByteArray × LV)} (h : LM w W m kv) {s : ByteArray} {v0 v1 : Value} {r0 r1 : List (List V)} (h0 : KV.get kv s = some (v0, r0) ∨ KV.get kv s = none ∧ v0.ownBlock = none)
 (hR : (relK w).kd.R 53 W1 w.heap.size (fun k => k ≠ m) v1 r1) (hg : W.grownBy W1 v0.ownBlock) (hat : v1.ownBlock = v0.ownBlock ∨ ∃ b, v1.ownBlock = some b ∧ W.heap.size ≤ b)
 (hi : KV.Is W2 m (fun p : LV => p.1) (KV.put kv s (v1, r1))) (hg2 : W1.grownBy W2 (some m)) : LM w W2 m (KV.put kv s (v1, r1)) := by
 have old : ∀ t p, t ≠ s → KV.get kv t = some p → ∀ k, p.1.ownBlock = some k → v0.ownBlock ≠ some k ∧ v1.ownBlock ≠ some k := fun t p ht hp k hk => by
  have hlt := Kd.R_lt (h.own t p hp) k hk
  have e0 : v0.ownBlock ≠ some k := by
   rcases h0 with h0 | ⟨_, h0⟩
   · exact h.apart t s p (v0, r0) hp h0 ht k hk
   · rw [h0]; exact fun e => by cases e
  refine ⟨e0, ?_⟩
  rcases hat with hat | ⟨b, hb, hb2⟩
  · rw [hat]; exact e0
  · rw [hb]; intro e; injection e; omega
 refine ⟨hi, fun t p hp => ?_, fun t u p q hp hq htu k hk => ?_⟩
 · by_cases ht : t = s
   · subst ht
     rw [KV.get_put_same] at hp
     obtain rfl := Option.some.inj hp
     exact Kd.R_grown hR hg2 (fun k hk e => hk (by injection e))
   · rw [KV.get_put_other _ ht] at hp
     have h1 := Kd.R_mono (Kd.R_grown (Kd.R_tight rfl (h.own t p hp)) hg (fun k hk e => (old t p ht hp k hk.symm).1 e.symm)) (fun k hk => (h.own t p hp).1 k hk.symm)
     exact Kd.R_grown h1 hg2 (fun k hk e => hk (by injection e))
 · by_cases ht : t = s
   · subst ht
     rw [KV.get_put_same] at hp
     obtain rfl := Option.some.inj hp
     rw [KV.get_put_other _ (fun e => htu e.symm)] at hq
     intro e
     exact (old u q (fun e => htu e.symm) hq k e).2 hk
   · rw [KV.get_put_other _ ht] at hp
     by_cases hu : u = s
     · subst hu
       rw [KV.get_put_same] at hq
       obtain rfl := Option.some.inj hq
       exact (old t p ht hp k hk).2
     · rw [KV.get_put_other _ hu] at hq
       exact h.apart t u p q hp hq htu k hk
abbrev KOk (w : World) (kv : List (ByteArray × LV)) : Nat → Prop := fun k => k ≠ w.heap.size ∧ ∀ s p, KV.get kv s = some p → p.1.ownBlock ≠ some k
theorem KR_put {w W W1 W2 : World} {kv : List (ByteArray × LV)} {v : Value} {keys : List (List V)} (h : kRow.R 53 W w.heap.size (KOk w kv) v keys) {s : ByteArray} {v0 v1 : Value} {r0 r1 : List (List V)} (h0 : KV.get kv s = some (v0, r0) ∨ KV.get kv s = none ∧ v0.ownBlock = none)
 (hg : W.grownBy W1 v0.ownBlock) (hat : v1.ownBlock = v0.ownBlock ∨ ∃ b, v1.ownBlock = some b ∧ W.heap.size ≤ b) (hg2 : W1.grownBy W2 (some w.heap.size)) : kRow.R 53 W2 w.heap.size (KOk w (KV.put kv s (v1, r1))) v keys := by
 have e0 : ∀ k, KOk w kv k → some k ≠ v0.ownBlock := fun k hk => by
  rcases h0 with h0 | ⟨_, h0⟩
  · exact fun e => hk.2 s _ h0 e.symm
  · rw [h0]; exact fun e => by cases e
 have h1 := Kd.R_grown (Kd.R_bound h) hg (fun k hk => e0 k hk.1)
 have h2 := Kd.R_grown h1 hg2 (fun k hk e => hk.1.1 (by injection e))
 refine Kd.R_mono h2 (fun k hk => ⟨hk.1.1, fun t p hp => ?_⟩)
 by_cases ht : t = s
 · subst ht
   rw [KV.get_put_same] at hp
   obtain rfl := Option.some.inj hp
   rcases hat with hat | ⟨b, hb, hb2⟩
   · show v1.ownBlock ≠ some k
     rw [hat]; exact fun e => e0 k hk.1 e.symm
   · show v1.ownBlock ≠ some k
     rw [hb]; intro e; injection e; have := hk.2.2.1; omega
 · rw [KV.get_put_other _ ht] at hp
   exact hk.1.2 t p hp
open Classical in
theorem list_put {cols : List Int} {t : List (List V)} {kv : List (ByteArray × LV)} {row : List V} {v1 : Value} {r0 : List (List V)} (h : ∀ s, ((KV.get kv s).map (·.2)).getD [] = listR cols t s) (h0 : ((KV.get kv (nameOf (keyOf cols row))).map (·.2)).getD [] = r0) :
 ∀ s, ((KV.get (KV.put kv (nameOf (keyOf cols row)) (v1, r0 ++ [row])) s).map (·.2)).getD [] = listR cols (t ++ [row]) s := fun s => by
 unfold listR at h ⊢
 rw [List.filter_append]
 by_cases hs : s = nameOf (keyOf cols row)
 · subst hs
   rw [KV.get_put_same, ← h, h0]
   simp
 · rw [KV.get_put_other _ hs, h]
   have : ¬ nameOf (keyOf cols row) = s := fun e => hs e.symm
   simp [this]
theorem len_put {kv : List (ByteArray × LV)} {x : Int} (h : ∀ s p, KV.get kv s = some p → (p.2.length : Int) ≤ x) (s : ByteArray) (y : LV) (hy : (y.2.length : Int) ≤ x + 1) : ∀ t p, KV.get (KV.put kv s y) t = some p → (p.2.length : Int) ≤ x + 1 := fun t p hp => by
 by_cases ht : t = s
 · subst ht
   rw [KV.get_put_same] at hp
   obtain rfl := Option.some.inj hp
   exact hy
 · rw [KV.get_put_other _ ht] at hp
   have := h t p hp
   omega
theorem zeroRows (w : World) : (zeroValue 22).run Tryz.prog w = .ok (.slice none 0 0) w := by kernel_rfl
def GroupsPost (w : World) (cols : List Int) (l : List (List V)) (e : Ending) (w' : World) : Prop :=
 ∃ (v : Value) (m : Nat) (kv : List (ByteArray × LV)), e = .returned (.tuple #[v, .map (some m)]) ∧ kRow.R 53 w' w.heap.size (fun _ => True) v (keysR cols l) ∧ KV.Is w' m (fun p : LV => p.1) kv ∧
  (∀ s p, KV.get kv s = some p → ∃ A c, p.1 = .slice A p.2.length c ∧ p.2.length ≤ c ∧ kRow.C w' A p.2.length p.2) ∧ (∀ s, ((KV.get kv s).map (·.2)).getD [] = listR cols l s) ∧ Below w.heap.size w w'
open Classical in
theorem groups_calls (A0 : Option Addr) (c0 : Nat) (l0 : List (List V)) (A1 : Option Addr) (c1 : Nat) (l1 : List Int) (w : World) (hT : LaidT w) (hr0 : Kd.C kRow w A0 l0.length l0) (hr1 : Kd.C (Kd.int .i64) w A1 l1.length l1) (hn0 : l0.length ≤ 1099511627776) (hn1 : l1.length ≤ 1099511627776) (hne : l1 ≠ [])
 (hin : ∀ row ∈ l0, ∀ n ∈ l1, 0 ≤ n ∧ n < (row.length : Int)) (hkey : ∀ row ∈ l0, RowOk (keyOf l1 row) ∧ ∀ v ∈ keyOf l1 row, validV v = true) :
 Calls Tryz.prog 64 #[.slice A0 l0.length c0, .slice A1 l1.length c1] w fun e w' => GroupsPost w l1 l0 e w' := by
 have hmm : ∀ (w : World), (Instr.makeMap 87 none).run Tryz.prog w = .ok (.map (some w.heap.size)) (w.alloc (.map #[] 0)) := fun _ => by kernel_rfl
 have hz : ((l1.length : Int) == 0) = false := by
  have : l1.length ≠ 0 := fun e => hne (List.eq_nil_of_length_eq_zero e)
  simp; omega
 have HT := Aside0.mk hT
 have HR0 := Aside0.mk hr0
 have HR1 := Aside0.mk hr1
 have HN0 := Aside0.mk hn0
 have HN1 := Aside0.mk hn1
 have HNE := Aside0.mk hne
 have HIN := Aside0.mk hin
 have HKEY := Aside0.mk hkey
 clear hT hr0 hr1 hn0 hn1 hne hin hkey
 go_enter Tryz.func64, Tryz.ntmps64
 go_wp2
 clear hmm hz
 have B0 := Aside0.mk ((Below.refl w.heap.size w).alloc (Nat.le_refl _) (.map #[] 0))
 have M0 : Aside0 (LM w (w.alloc (.map #[] 0)) w.heap.size []) := ⟨⟨KV.Is.made w _, fun s p hp => by simp [KV.get] at hp, fun s t p q hp => by simp [KV.get] at hp⟩⟩
 go_loopg [24, 4] l0.length (fun kq v24 v4 W => ∃ (x : Int) (kv : List (ByteArray × LV)) (keys : List (List V)) (seen : List ByteArray), v24 = .int .i64 x ∧ Aside0 (0 ≤ x ∧ x ≤ l0.length ∧ (kq : Int) = l0.length - x) ∧ Aside0 (LM w W w.heap.size kv) ∧ Aside0 (kRow.R 53 W w.heap.size (KOk w kv) v4 keys) ∧ Aside0 (keys ++ distR seen ((l0.drop x.toNat).map (keyOf l1)) = distR [] (l0.map (keyOf l1)) ∧ keys.length ≤ x ∧ (∀ s, (KV.get kv s).isSome = decide (s ∈ seen)) ∧ (∀ s, ((KV.get kv s).map (·.2)).getD [] = listR l1 (l0.take x.toNat) s) ∧ ∀ s p, KV.get kv s = some p → (p.2.length : Int) ≤ x) ∧ Aside0 (Below w.heap.size w W))
 case atStart => exact ⟨0, [], [], [], rfl, ⟨by omega⟩, M0, ⟨Kd.R_nil _ _ _ _ _⟩, ⟨by simp, by simp, fun s => by simp [KV.get], fun s => by simp [KV.get, listR], fun s p hp => by simp [KV.get] at hp⟩, B0⟩
 case round =>
  clear M0 B0
  obtain ⟨x, kv, keys, seen, rfl, HX, HM, HO, HD, HB⟩ := hrel
  obtain ⟨hx0, hx1, hkq⟩ := HX.out
  by_cases hlt : x < (l0.length : Int)
  · have c1' : decide (x < (l0.length : Int)) = true := decide_eq_true hlt
    have c2 : decide (0 ≤ x) = true := decide_eq_true hx0
    obtain ⟨ad, Ar, cr, e, hx_0, hlc, hrow⟩ := at_L4 HR0.out x hx0 hlt
    cases e
    replace hx_0 := (HB.out.cell (World.block_lt_of_cell? w _ hx_0)).trans hx_0
    have hi : x.toNat < l0.length := by omega
    have hrd : rd_L4 l0 x = l0[x.toNat] := by simp [rd_L4, List.getElem?_eq_getElem hi]
    have hin := HIN.out (rd_L4 l0 x) (by rw [hrd]; exact List.getElem_mem hi)
    have hky := HKEY.out (rd_L4 l0 x) (by rw [hrd]; exact List.getElem_mem hi)
    have hdd := HD.out.1
    rw [drop_cons l0 x.toNat hi, ← hrd, List.map_cons] at hdd
    have htk : l0.take (x + 1).toNat = l0.take x.toNat ++ [rd_L4 l0 x] := by
     rw [show (x + 1).toNat = x.toNat + 1 by omega, take_snoc _ _ hi, hrd]
    obtain ⟨row, hrw⟩ : ∃ row, row = rd_L4 l0 x := ⟨_, rfl⟩
    rw [← hrw] at hx_0 hlc hrow hin hky hdd htk
    have HROW := Aside0.mk hrow
    have HLC := Aside0.mk hlc
    have HINR := Aside0.mk hin
    have HKY := Aside0.mk hky
    have HDD := Aside0.mk hdd
    have HTK := Aside0.mk htk
    have HLT := Aside0.mk hlt
    have HKQ := Aside0.mk hkq
    have HX0 := Aside0.mk hx0
    have HWR : Aside0 (wrap64 (x + 1) = x + 1) := ⟨by have := HN0.out; unfold wrap64; omega⟩
    clear hlc hrow hrd hrw hkq hi hin hky hdd htk
    go_wp2
    obtain ⟨wO, hwO⟩ : ∃ wO, wO = wr := ⟨_, rfl⟩
    subst hwO
    obtain ⟨gO, hgO⟩ : ∃ gO, gO = gk := ⟨_, rfl⟩
    subst hgO
    go_loopg [30, 8] l1.length (fun kq v30 v8 W => ∃ y : Int, v30 = .int .i64 y ∧ Aside0 (0 ≤ y ∧ y ≤ l1.length ∧ (kq : Int) = l1.length - y) ∧ Aside0 (kV.R 36 W wO.heap.size (fun _ => True) v8 ((l1.take y.toNat).map (fun n => rd_T36 row n))) ∧ Aside0 (Below wO.heap.size wO W))
    case atStart => exact ⟨0, rfl, ⟨by omega⟩, ⟨by simpa using Kd.R_nil _ _ _ _ _⟩, ⟨Below.refl _ _⟩⟩
    case round =>
     obtain ⟨y, rfl, HY, HK, HBI⟩ := hrel
     obtain ⟨hy0, hy1, hkq⟩ := HY.out
     by_cases hly : y < (l1.length : Int)
     · have c1 : decide (y < (l1.length : Int)) = true := decide_eq_true hly
       have c2 : decide (0 ≤ y) = true := decide_eq_true hy0
       obtain ⟨ad1, e, hy_0⟩ := Kd.at_int HR1.out y hy0 hly
       cases e
       have hbw : Below w.heap.size w wr := HB.out.trans (HBI.out.mono HB.out.size)
       replace hy_0 := (hbw.cell (World.block_lt_of_cell? w _ hy_0)).trans hy_0
       have hj : y.toNat < l1.length := by omega
       have hrd : rd l1 y = l1[y.toNat] := by simp [rd, List.getElem?_eq_getElem hj]
       obtain ⟨hn0, hn1⟩ := HINR.out (rd l1 y) (by rw [hrd]; exact List.getElem_mem hj)
       have htk2 : (l1.take (y + 1).toNat).map (fun n => rd_T36 row n) = (l1.take y.toNat).map (fun n => rd_T36 row n) ++ [rd_T36 row (rd l1 y)] := by
        rw [show (y + 1).toNat = y.toNat + 1 by omega, take_snoc _ _ hj, List.map_append, hrd]; rfl
       obtain ⟨n, hn⟩ : ∃ n, n = rd l1 y := ⟨_, rfl⟩
       rw [← hn] at hy_0 hn0 hn1 htk2
       have d1 : decide (0 ≤ n) = true := decide_eq_true hn0
       have d2 : decide (n < (row.length : Int)) = true := decide_eq_true hn1
       obtain ⟨adA, e, ha_0, ha_1, ha_2⟩ := at_T36 HROW.out n hn0 hn1
       cases e
       replace ha_0 := (hbw.cell (World.block_lt_of_cell? w _ ha_0)).trans ha_0
       replace ha_1 := (hbw.cell (World.block_lt_of_cell? w _ ha_1)).trans ha_1
       replace ha_2 := (hbw.cell (World.block_lt_of_cell? w _ ha_2)).trans ha_2
       obtain ⟨v, hv⟩ : ∃ v, v = rd_T36 row n := ⟨_, rfl⟩
       rw [← hv] at ha_0 ha_1 ha_2 htk2
       have HTK2 := Aside0.mk htk2
       have HLY := Aside0.mk hly
       have HKQ2 := Aside0.mk hkq
       have HY0 := Aside0.mk hy0
       have HWY : Aside0 (wrap64 (y + 1) = y + 1) := ⟨by have := HN1.out; unfold wrap64; omega⟩
       have HLEN : Aside0 ((((l1.take y.toNat).map (fun n => rd_T36 row n)).length + 1) * 32 ≤ 140737488355328) := ⟨by
        rw [List.length_map, List.length_take]
        have := HN1.out
        omega⟩
       clear htk2 hkq hv hn hrd hj hbw hy1
       go_wp2_with (at_builtin; refine Kd.R_append kV (w0 := wO) wO.heap.size rfl (.tmp 34) (.tmp 39) 53 36 (.agg #[(.int .u8 0), (.int .i64 0), (.string ⟨#[]⟩)]) 32 rfl Tryz.underlying53 infoV rfl (by decide) (by decide) _ _ v [.int .u8 v.f0, .int .i64 v.f1, .string v.f2] (fun _ => True) (fun _ => False) rfl rfl (k36_mkM _ _ _ v) (fun _ h => h.elim) (fun _ _ => trivial) HK.out HBI.out HBI.out.size HLEN.out ?_; intro v6 w6 hR4 hb4 hg4 hat4; have HO4 := Aside0.mk hR4; have HB4 := Aside0.mk hb4; clear hR4 hb4 hg4 hat4)
       have hk := HKQ2.out
       have hly := HLY.out
       have hy0 := HY0.out
       cases gk with
       | zero => omega
       | succ k1 =>
        go_roundg k1
        case measure => omega
        case rel => exact ⟨y + 1, by rw [HWY.out], ⟨by omega⟩, ⟨by rw [HTK2.out]; exact HO4.out⟩, HB4⟩
     · have c1 : decide (y < (l1.length : Int)) = false := decide_eq_false hly
       have hkk : (l1.take y.toNat).map (fun n => rd_T36 row n) = keyOf l1 row := by
        rw [List.take_of_length_le (by omega)]; rfl
       rw [hkk] at HK
       clear hkk HY hy0 hy1 hkq hly
       obtain ⟨key, hkey⟩ : ∃ key, key = keyOf l1 row := ⟨_, rfl⟩
       rw [← hkey] at HK HKY HDD
       have HKE := Aside0.mk hkey
       clear hkey
       obtain ⟨Ak, ck, ek, hlk, hCk⟩ := Kd.R_reads HK.out
       subst ek
       have HCK := Aside0.mk hCk
       have HLK := Aside0.mk hlk
       clear hCk hlk
       have HBB := Aside0.mk (HB.out.trans (HBI.out.mono HB.out.size))
       go_wp2_with fail
       refine (name_calls Ak ck key wr (HT.out.below HBB.out) HCK.out HLK.out HKY.out.1.1 HKY.out.1.2.1 HKY.out.1.2.2).mono ?_
       rintro e wN ⟨rfl, hbn⟩
       have hON : Below wO.heap.size wO wN := HBI.out.trans (hbn.mono HBI.out.size)
       have HSZ := Aside0.mk hON.size
       have HMN := Aside0.mk (HM.out.below hON)
       have HON := Aside0.mk (Kd.R_below HO.out hON)
       have HKN := Aside0.mk (Kd.R_mono (Kd.R_lower (Kd.R_bound (Kd.R_below HK.out hbn)) HB.out.size) (ok' := fun k => wO.heap.size ≤ k) (fun k hk => hk.2.1))
       have HBN := Aside0.mk (HBB.out.trans (hbn.mono HBB.out.size))
       have HFR : Aside0 (∀ k, wO.heap.size ≤ k → KOk w kv k ∧ some k ≠ u4.ownBlock) := ⟨fun k hk => ⟨⟨fun e => by have := HM.out.is.lt; omega, fun s p hp e => by have := Kd.R_lt (HM.out.own s p hp) k e; omega⟩, fun e => by have := Kd.R_lt HO.out k e.symm; omega⟩⟩
       have HKL : Aside0 ((keys.length + 1) * 24 ≤ 140737488355328) := ⟨by have := HD.out.2.1; have := HLT.out; have := HN0.out; omega⟩
       clear hbn hON
       by_cases hz : nameOf key ∈ seen
       · obtain ⟨p, hp⟩ : ∃ p, KV.get kv (nameOf key) = some p := Option.isSome_iff_exists.1 (by rw [HD.out.2.2.1]; exact decide_eq_true hz)
         obtain ⟨v0, r0⟩ := p
         have HGT := Aside0.mk hp
         have HZ := Aside0.mk hz
         have HRO := Aside0.mk (HMN.out.own _ _ hp)
         have HLE : Aside0 ((r0.length : Int) ≤ x) := ⟨HD.out.2.2.2.2 _ _ hp⟩
         have HL2 : Aside0 ((r0.length + 1) * 24 ≤ 140737488355328) := ⟨by have := HLE.out; have := HLT.out; have := HN0.out; omega⟩
         clear hz hp
         go_wp2_with (first
          | (at_lookup; refine KV.law_lookup_ok _ rfl _ _ 87 rfl 9 22 Tryz.underlying9 Tryz.underlying87 (.slice none 0 0) (zeroRows _) w.heap.size (fun p : LV => p.1) kv rfl HMN.out.is (nameOf key) rfl v0 (by rw [HGT.out]; rfl) true (by rw [HGT.out]; rfl) ?_)
          | (at_lookup; refine KV.law_lookup _ rfl _ _ 87 rfl 9 22 Tryz.underlying9 Tryz.underlying87 (.slice none 0 0) (zeroRows _) w.heap.size (fun p : LV => p.1) kv rfl HMN.out.is (nameOf key) rfl v0 (by rw [HGT.out]; rfl) ?_)
          | (at_builtin; refine Kd.R_append (relK w).kd (w0 := w) w.heap.size rfl (.tmp 60) (.tmp 62) 22 53 (.slice none 0 0) 24 rfl Tryz.underlying22 infoRow rfl (Nat.le_refl 1) (by decide) _ r0 row [.slice Ar row.length cr] (fun k => k ≠ w.heap.size) (fun _ => False) rfl rfl ⟨Ar, cr, rfl, HLC.out, HROW.out⟩ (fun _ h => h.elim) (fun k hk e => by have := HMN.out.is.lt; omega) HRO.out HBN.out HBN.out.size HL2.out ?_; intro v7 w7 hR7 hb7 hg7 hat7; have HR7 := Aside0.mk hR7; have HB7 := Aside0.mk hb7; have HG7 := Aside0.mk hg7; have HA7 := Aside0.mk hat7; have HI7 := Aside0.mk (HMN.out.is.grown hg7 (fun e => HRO.out.1 _ e.symm rfl)); clear hR7 hb7 hg7 hat7)
          | (at_mapUpdate; refine KV.law_update _ rfl _ _ _ 87 rfl 9 22 Tryz.underlying9 Tryz.underlying87 w.heap.size (fun p : LV => p.1) kv rfl HI7.out (nameOf key) rfl (v7, r0 ++ [row]) rfl ?_; intro w8 hM8 hg8; have HM8 := Aside0.mk hM8; have HG8 := Aside0.mk hg8; clear hM8 hg8))
         have hlt := HLT.out
         have hk := HKQ.out
         have hx0 := HX0.out
         have hd := HD.out
         cases gO with
         | zero => omega
         | succ k1 =>
          go_roundg k1
          case measure => omega
          case rel =>
           refine ⟨x + 1, KV.put kv (nameOf key) (v7, r0 ++ [row]), keys, seen, by rw [HWR.out], ⟨by omega⟩, ⟨HMN.out.put (.inl HGT.out) HR7.out HG7.out HA7.out HM8.out HG8.out⟩, ⟨KR_put HON.out (.inl HGT.out) HG7.out HA7.out HG8.out⟩, ⟨?_, by omega, ?_, ?_, ?_⟩, ⟨HB7.out.grown HG8.out HB7.out.size (fun k hk => by cases hk; exact Nat.le_refl _)⟩⟩
           · have hdd := HDD.out
             rw [distR, if_pos HZ.out] at hdd
             rw [show (x + 1).toNat = x.toNat + 1 by omega]
             simpa using hdd
           · intro s
             by_cases hs : s = nameOf key
             · subst hs; rw [KV.get_put_same]; simp [HZ.out]
             · rw [KV.get_put_other _ hs, hd.2.2.1]; try simp [hs]
           · rw [HTK.out, HKE.out]
             exact list_put hd.2.2.2.1 (by rw [← HKE.out, HGT.out]; rfl)
           · exact len_put hd.2.2.2.2 _ _ (by have := HLE.out; simp; omega)
       · have hgn : KV.get kv (nameOf key) = none := by
          have := HD.out.2.2.1 (nameOf key)
          rw [decide_eq_false hz] at this
          exact Option.isNone_iff_eq_none.1 (by simpa using this)
         have HGT := Aside0.mk hgn
         have HZ := Aside0.mk hz
         clear hz hgn
         go_wp2_with (first
          | (at_lookup; refine KV.law_lookup_ok _ rfl _ _ 87 rfl 9 22 Tryz.underlying9 Tryz.underlying87 (.slice none 0 0) (zeroRows _) w.heap.size (fun p : LV => p.1) kv rfl HMN.out.is (nameOf key) rfl (.slice none 0 0) (by rw [HGT.out]; rfl) false (by rw [HGT.out]; rfl) ?_)
          | (at_lookup; refine KV.law_lookup _ rfl _ _ 87 rfl 9 22 Tryz.underlying9 Tryz.underlying87 (.slice none 0 0) (zeroRows _) w.heap.size (fun p : LV => p.1) kv rfl HM5.out.is (nameOf key) rfl (.slice none 0 0) (by rw [HGT.out]; rfl) ?_)
          | (at_builtin; refine Kd.R_append kRow (w0 := w) w.heap.size rfl (.tmp 52) (.tmp 54) 22 53 (.slice none 0 0) 24 rfl Tryz.underlying22 infoRow rfl (Nat.le_refl 1) (by decide) _ keys key [.slice Ak key.length ck] (KOk w kv) (fun k => wO.heap.size ≤ k) rfl rfl ⟨_, rfl, HKN.out⟩ HFR.out (fun k hk => (HFR.out k (Nat.le_trans HSZ.out hk)).1) HON.out HBN.out HBN.out.size HKL.out ?_; intro v5 w5 hR5 hb5 hg5 hat5; have HR5 := Aside0.mk hR5; have HB5 := Aside0.mk hb5; have HM5 := Aside0.mk (HMN.out.grown hg5 (fun e => (HON.out.1 _ e.symm).1 rfl) (fun s p hp k hk e => (HON.out.1 k e.symm).2 s p hp hk)); clear hR5 hb5 hg5 hat5)
          | (at_builtin; refine Kd.R_append (relK w).kd (w0 := w) w.heap.size rfl (.tmp 60) (.tmp 62) 22 53 (.slice none 0 0) 24 rfl Tryz.underlying22 infoRow rfl (Nat.le_refl 1) (by decide) _ [] row [.slice Ar row.length cr] (fun k => k ≠ w.heap.size) (fun _ => False) rfl rfl ⟨Ar, cr, rfl, HLC.out, HROW.out⟩ (fun _ h => h.elim) (fun k hk e => by have := HM5.out.is.lt; omega) (Kd.R_nil _ _ _ _ _) HB5.out HB5.out.size (by decide) ?_; intro v7 w7 hR7 hb7 hg7 hat7; have HR7 := Aside0.mk hR7; have HB7 := Aside0.mk hb7; have HG7 := Aside0.mk hg7; have HA7 := Aside0.mk hat7; have HI7 := Aside0.mk (HM5.out.is.grown hg7 (fun e => by cases e)); clear hR7 hb7 hg7 hat7)
          | (at_mapUpdate; refine KV.law_update _ rfl _ _ _ 87 rfl 9 22 Tryz.underlying9 Tryz.underlying87 w.heap.size (fun p : LV => p.1) kv rfl HI7.out (nameOf key) rfl (v7, [] ++ [row]) rfl ?_; intro w8 hM8 hg8; have HM8 := Aside0.mk hM8; have HG8 := Aside0.mk hg8; clear hM8 hg8))
         have hlt := HLT.out
         have hk := HKQ.out
         have hx0 := HX0.out
         have hd := HD.out
         cases gO with
         | zero => omega
         | succ k1 =>
          go_roundg k1
          case measure => omega
          case rel =>
           refine ⟨x + 1, KV.put kv (nameOf key) (v7, [] ++ [row]), keys ++ [key], nameOf key :: seen, by rw [HWR.out], ⟨by omega⟩, ⟨HM5.out.put (v0 := .slice none 0 0) (r0 := []) (.inr ⟨HGT.out, rfl⟩) HR7.out HG7.out HA7.out HM8.out HG8.out⟩, ⟨KR_put (v0 := .slice none 0 0) (r0 := []) HR5.out (.inr ⟨HGT.out, rfl⟩) HG7.out HA7.out HG8.out⟩, ⟨?_, by simp; omega, ?_, ?_, ?_⟩, ⟨HB7.out.grown HG8.out HB7.out.size (fun k hk => by cases hk; exact Nat.le_refl _)⟩⟩
           · have hdd := HDD.out
             rw [distR, if_neg HZ.out] at hdd
             rw [show (x + 1).toNat = x.toNat + 1 by omega]
             simpa using hdd
           · intro s
             by_cases hs : s = nameOf key
             · subst hs; rw [KV.get_put_same]; simp
             · rw [KV.get_put_other _ hs, hd.2.2.1]; try simp [hs]
           · rw [HTK.out, HKE.out]
             exact list_put hd.2.2.2.1 (by rw [← HKE.out, HGT.out]; rfl)
           · exact len_put hd.2.2.2.2 _ _ (by simp; omega)
  · have c1' : decide (x < (l0.length : Int)) = false := decide_eq_false hlt
    have hd := HD.out
    have hks : keys = distR [] (l0.map (keyOf l1)) := by
     have := hd.1
     rw [List.drop_eq_nil_of_le (by omega), List.map_nil, distR, List.append_nil] at this
     exact this
    subst hks
    have HLS : Aside0 (∀ s, ((KV.get kv s).map (·.2)).getD [] = listR l1 l0 s) := ⟨fun s => by
     have := hd.2.2.2.1 s
     rw [List.take_of_length_le (by omega)] at this
     exact this⟩
    have hin : ∀ row ∈ distR [] (l0.map (keyOf l1)), RowOk row ∧ ∀ v ∈ row, validV v = true := fun row hrow => by
     obtain ⟨r, hr, rfl⟩ := List.mem_map.1 (distR_mem _ _ _ hrow)
     exact HKEY.out r hr
    have HGD : Aside0 (∀ row ∈ distR [] (l0.map (keyOf l1)), RowGood [] row) := ⟨fun row hrow => ⟨(hin row hrow).2, (by intro k hk; cases hk), (hin row hrow).1.2.2⟩⟩
    have HLN : Aside0 ((distR [] (l0.map (keyOf l1))).length ≤ 1099511627776) := ⟨by
     have h1 := distR_len (l0.map (keyOf l1)) []
     rw [List.length_map] at h1
     exact Nat.le_trans h1 HN0.out⟩
    obtain ⟨ds, hds⟩ : ∃ ds, ds = distR [] (l0.map (keyOf l1)) := ⟨_, rfl⟩
    rw [← hds] at HLN HGD HO
    have HDS := Aside0.mk hds
    clear HX HD hd hx0 hx1 hlt hkq hds hin
    obtain ⟨Av, cv, ev, hlc, hC⟩ := Kd.R_reads HO.out
    subst ev
    have HC := Aside0.mk hC
    clear hC hlc
    go_wp2_with fail
    refine (arranged_calls Av cv ds none 0 [] wr HC.out (Kd.C_nil _ _) HGD.out HLN.out (by simp)).mono ?_
    rintro e w2 ⟨v2, rfl, hR2, hb2⟩
    have HR2 := Aside0.mk (Kd.R_lower hR2 HB.out.size)
    have HB2 := Aside0.mk (HB.out.trans (hb2.mono HB.out.size))
    have HM2 := Aside0.mk (HM.out.below hb2)
    clear hR2 hb2
    go_wp2
    go_ret2
    refine ⟨v2, w.heap.size, kv, rfl, ?_, HM2.out.is, fun s p hp => ?_, HLS.out, HB2.out⟩
    · unfold keysR
      rw [if_neg HNE.out, ← HDS.out]
      exact HR2.out
    · obtain ⟨A, c, he, hl, hc⟩ := Kd.R_reads (HM2.out.own s p hp)
      exact ⟨A, c, he, hl, relK_C hc HB2.out⟩
open Classical in
theorem groups_nil (A0 : Option Addr) (c0 : Nat) (l0 : List (List V)) (A1 : Option Addr) (c1 : Nat) (w : World) (hr0 : Kd.C kRow w A0 l0.length l0) (hc0 : l0.length ≤ c0) :
 Calls Tryz.prog 64 #[.slice A0 l0.length c0, .slice A1 0 c1] w fun e w' => GroupsPost w [] l0 e w' := by
 have hmm : ∀ (w : World), (Instr.makeMap 87 none).run Tryz.prog w = .ok (.map (some w.heap.size)) (w.alloc (.map #[] 0)) := fun _ => by kernel_rfl
 have HR0 := Aside0.mk hr0
 have HC0 := Aside0.mk hc0
 clear hr0 hc0
 have M0 := Aside0.mk (KV.Is.made w (fun p : LV => p.1))
 have HB0 := Aside0.mk ((Below.refl w.heap.size w).alloc (Nat.le_refl _) (.map #[] 0))
 go_enter Tryz.func64, Tryz.ntmps64
 go_wp2_with (at_mapUpdate; refine KV.law_update _ rfl _ _ _ 87 rfl 9 22 Tryz.underlying9 Tryz.underlying87 w.heap.size (fun p : LV => p.1) [] rfl M0.out (⟨#[]⟩ : ByteArray) rfl ((.slice A0 l0.length c0, l0) : LV) rfl ?_; intro w8 hM8 hg8; have HM8 := Aside0.mk hM8; have HB8 := Aside0.mk (HB0.out.grown hg8 HB0.out.size (fun k hk => by cases hk; exact Nat.le_refl _)); clear hM8 hg8)
 go_ret2
 have hB9 : Below w.heap.size w (w8.alloc (.cells #[.slice none 0 0] 53)) := HB8.out.alloc HB8.out.size _
 refine ⟨_, w.heap.size, _, rfl, ?_, HM8.out.below ((Below.refl _ w8).alloc (Nat.le_refl _) _), fun s p hp => ?_, fun s => ?_, hB9⟩
 · unfold keysR
   rw [if_pos rfl]
   have h := World.ownsRow_lit (base := w.heap.size) (e := 53) (size := 1) w8 #[.slice none 0 0] 1 HB8.out.size (by decide) (by decide)
   refine ⟨fun _ _ => trivial, [.slice none 0 0], h, rfl, fun j p hj => ?_⟩
   cases j with
   | succ j => simp at hj
   | zero =>
    obtain rfl : [] = p := by simpa using hj
    exact ⟨_, rfl, Kd.R_nil _ _ _ _ _⟩
 · simp only [KV.put, KV.get] at hp
   split at hp
   · obtain rfl := Option.some.inj hp
     exact ⟨A0, c0, rfl, HC0.out, Kd.C_below HR0.out hB9⟩
   · cases hp
 · simp only [KV.put, KV.get]
   unfold listR
   have e0 : ∀ r : List V, nameOf (keyOf [] r) = (⟨#[]⟩ : ByteArray) := fun r => rfl
   by_cases hs : (⟨#[]⟩ : ByteArray) = s
   · subst hs
     rw [if_pos rfl]
     exact (List.filter_eq_self.2 (fun r _ => decide_eq_true (e0 r))).symm
   · rw [if_neg hs]
     exact (List.filter_eq_nil_iff.2 (fun r _ => by rw [decide_eq_true_eq, e0]; exact hs)).symm
theorem groups_all (A0 : Option Addr) (c0 : Nat) (l0 : List (List V)) (A1 : Option Addr) (c1 : Nat) (l1 : List Int) (w : World) (hT : LaidT w) (hr0 : Kd.C kRow w A0 l0.length l0) (hc0 : l0.length ≤ c0) (hr1 : Kd.C (Kd.int .i64) w A1 l1.length l1) (hn0 : l0.length ≤ 1099511627776) (hn1 : l1.length ≤ 1099511627776)
 (hin : ∀ row ∈ l0, ∀ n ∈ l1, 0 ≤ n ∧ n < (row.length : Int)) (hkey : ∀ row ∈ l0, RowOk (keyOf l1 row) ∧ ∀ v ∈ keyOf l1 row, validV v = true) :
 Calls Tryz.prog 64 #[.slice A0 l0.length c0, .slice A1 l1.length c1] w fun e w' => GroupsPost w l1 l0 e w' := by
 cases l1 with
 | nil => exact groups_nil A0 c0 l0 A1 c1 w hr0 hc0
 | cons n ns => exact groups_calls A0 c0 l0 A1 c1 (n :: ns) w hT hr0 hr1 hn0 hn1 (by simp) hin hkey
abbrev AggT := S55
abbrev kAgg : Kd AggT := k55
noncomputable def groupRow (cols : List Int) (l : List (List V)) (m : Nat) (key : List V) : List V := key ++ List.replicate m (⟨1, ((listR cols l (nameOf key)).length : Int), ⟨#[]⟩⟩ : V)
noncomputable def groupR (cols : List Int) (l : List (List V)) (m : Nat) : List (List V) := (keysR cols l).map (groupRow cols l m)
structure GroupOk (l : List (List V)) (cols : List Int) (aggs : List AggT) : Prop where
 rows : RowsOk l
 cn : cols.length ≤ 1099511627776
 an : aggs.length ≤ 1099511627776
 one : ∀ a ∈ aggs, a = ⟨0, 0, false⟩
 keys : ∀ row ∈ l, RowOk (keyOf cols row)
 row1 : ∀ row ∈ l, RowOk [rd_T36 row 0]
 keyn : ∀ key ∈ keysR cols l, RowOk key
 keysn : (keysR cols l).length ≤ 1099511627776
theorem out_far {W : World} {b q : Nat} (hne : q ≠ b) (x0 x1 x2 x3 : Value) (j : Nat) : ((((W.setCell ⟨b, 0, none⟩ x0).setCell ⟨b, 1, none⟩ x1).setCell ⟨b, 2, none⟩ x2).setCell ⟨b, 3, none⟩ x3).cell? ⟨q, j, none⟩ = W.cell? ⟨q, j, none⟩ := by
 have h : ((((W.setCell ⟨b, 0, none⟩ x0).setCell ⟨b, 1, none⟩ x1).setCell ⟨b, 2, none⟩ x2).setCell ⟨b, 3, none⟩ x3).heap[q]? = W.heap[q]? :=
  (Below.heap_setCell _ _ _ q hne).trans ((Below.heap_setCell _ _ _ q hne).trans ((Below.heap_setCell _ _ _ q hne).trans (Below.heap_setCell _ _ _ q hne)))
 simp only [World.cell?, h]
theorem out_belowB {w W : World} {q : Nat} (h : Below w.heap.size w W) (hq : w.heap.size ≤ q) (x0 x1 x2 x3 : Value) : Below w.heap.size w ((((W.setCell ⟨q, 0, none⟩ x0).setCell ⟨q, 1, none⟩ x1).setCell ⟨q, 2, none⟩ x2).setCell ⟨q, 3, none⟩ x3) :=
 (((h.setCell hq _).setCell hq _).setCell hq _).setCell hq _
theorem cells3 {W W1 : World} {b : Nat} {u0 u1 u2 : Value} (hb : Below W.heap.size W W1) (h : W.cell? ⟨b, 0, none⟩ = some u0 ∧ W.cell? ⟨b, 1, none⟩ = some u1 ∧ W.cell? ⟨b, 2, none⟩ = some u2) : W1.cell? ⟨b, 0, none⟩ = some u0 ∧ W1.cell? ⟨b, 1, none⟩ = some u1 ∧ W1.cell? ⟨b, 2, none⟩ = some u2 :=
 ⟨cB_ hb h.1, cB_ hb h.2.1, cB_ hb h.2.2⟩
theorem far3 {W : World} {b q : Nat} {u0 u1 u2 x0 x1 x2 x3 : Value} (hne : q ≠ b) (h : W.cell? ⟨q, 0, none⟩ = some u0 ∧ W.cell? ⟨q, 1, none⟩ = some u1 ∧ W.cell? ⟨q, 2, none⟩ = some u2) :
 ((((W.setCell ⟨b, 0, none⟩ x0).setCell ⟨b, 1, none⟩ x1).setCell ⟨b, 2, none⟩ x2).setCell ⟨b, 3, none⟩ x3).cell? ⟨q, 0, none⟩ = some u0 ∧ ((((W.setCell ⟨b, 0, none⟩ x0).setCell ⟨b, 1, none⟩ x1).setCell ⟨b, 2, none⟩ x2).setCell ⟨b, 3, none⟩ x3).cell? ⟨q, 1, none⟩ = some u1 ∧ ((((W.setCell ⟨b, 0, none⟩ x0).setCell ⟨b, 1, none⟩ x1).setCell ⟨b, 2, none⟩ x2).setCell ⟨b, 3, none⟩ x3).cell? ⟨q, 2, none⟩ = some u2 :=
 ⟨(out_far hne _ _ _ _ 0).trans h.1, (out_far hne _ _ _ _ 1).trans h.2.1, (out_far hne _ _ _ _ 2).trans h.2.2⟩
theorem out2_cells {W : World} {q : Nat} {t : TypeId} {a b : Value} (h : W.heap[q]? = some (.cells #[a, b] t (0, 0))) (x0 x1 : Value) : ((W.setCell ⟨q, 0, none⟩ x0).setCell ⟨q, 1, none⟩ x1).heap[q]? = some (.cells #[x0, x1] t (0, 0)) :=
 blk_put (cs := #[x0, b]) (blk_put (cs := #[a, b]) h 0 _ rfl) 1 _ rfl
theorem out2_below {w W : World} {q : Nat} (h : Below w.heap.size w W) (hq : w.heap.size ≤ q) (x0 x1 : Value) : Below w.heap.size w ((W.setCell ⟨q, 0, none⟩ x0).setCell ⟨q, 1, none⟩ x1) := (h.setCell hq _).setCell hq _
theorem group_good (A0 : Option Addr) (c0 : Nat) (l0 : List (List V)) (A1 : Option Addr) (c1 : Nat) (l1 : List Int) (A2 : Option Addr) (c2 : Nat) (l2 : List AggT) (w : World) (hr0 : Kd.C kRow w A0 l0.length l0) (hc0 : l0.length ≤ c0) (hr1 : Kd.C (Kd.int .i64) w A1 l1.length l1) (hr2 : Kd.C kAgg w A2 l2.length l2) (hT : LaidT w) (hok : GroupOk l0 l1 l2) (hv : validB l0 = true) (hin : ∀ n ∈ l1, hasB l0 n = true) :
 Calls Tryz.prog 25 #[.slice A0 l0.length c0, .slice A1 l1.length c1, .slice A2 l2.length c2] w fun e w' => ∃ v0_ : Value, e = .returned (.agg #[v0_, .int .i64 0]) ∧ Kd.V kRow 53 w' w.heap.size (fun k_ => (w.heap.size ≤ k_)) v0_ (groupR l1 l0 l2.length) ∧ Below w.heap.size w w' := by
 obtain ⟨k, hk⟩ := (valid_ev l0 hok.rows.v).rounds
 rw [hv] at hk
 have HK := Aside0.mk hk
 have HV := Aside0.mk hv
 have HIN := Aside0.mk hin
 have HOK := Aside0.mk hok
 have HT := Aside0.mk hT
 have HR0 := Aside0.mk hr0
 have HC0 := Aside0.mk hc0
 have HR1 := Aside0.mk hr1
 have HR2 := Aside0.mk hr2
 clear hk hv hin hok hT hr0 hc0 hr1 hr2
 go_enter Tryz.func25, Tryz.ntmps25
 go_wp2_with (first
  | ((with_reducible refine gate_dst (N := 6) rfl ?_); refine box_event ?hg (N := 6) ?hd (cs := #[.slice none 0 0, .int .i64 0]) (t := 45) ?hr ?_; (case hd => rfl); (case hg => rfl); (case hr => first | (go_simp; done) | (go_simp; rfl)); intro q hq W hN hb1; have HB1 := Aside0.mk hb1; have HQ := Aside0.mk hq; have HN0 := Aside0.mk hN; clear hb1 hq hN)
  | ((with_reducible refine gate_dst (N := 7) rfl ?_); refine box_event ?hg (N := 7) ?hd (cs := #[.slice none 0 0, .int .i64 0]) (t := 45) ?hr ?_; (case hd => rfl); (case hg => rfl); (case hr => first | (go_simp; done) | (go_simp; rfl)); intro q2 hq2 W2 hN2 hb2; have HN1 := Aside0.mk ((hb2.block q (blk_lt HN0.out)).trans HN0.out); have HB2 := Aside0.mk (HB1.out.trans (hb2.mono HB1.out.size)); have HQ2 := Aside0.mk hq2; have HN2 := Aside0.mk hN2; have X0 : W2.cell? ⟨q2, 0, none⟩ = some (.slice none 0 0) := (blk_cell hN2 0).trans rfl; have X1 : W2.cell? ⟨q2, 1, none⟩ = some (.int .i64 0) := (blk_cell hN2 1).trans rfl; have X2 : ∀ j, W2.frozen? ⟨q2, j, none⟩ = false := (fun j => by simp [World.frozen?, hN2]); clear hb2 hq2 hN2))
 have hB3 : Below w.heap.size w ((W2.setCell ⟨q2, 0, none⟩ (.slice none 0 0)).setCell ⟨q2, 1, none⟩ (.int .i64 1)) := out2_below HB2.out (by rw [HQ2.out]; exact HB1.out.size) _ _
 have hq12 : q ≠ q2 := fun e => by have := blk_lt HN0.out; have := HQ2.out; omega
 have hN3 : ((W2.setCell ⟨q2, 0, none⟩ (.slice none 0 0)).setCell ⟨q2, 1, none⟩ (.int .i64 1)).heap[q]? = some (.cells #[.slice none 0 0, .int .i64 0] 45 (0, 0)) := (Below.heap_setCell _ _ _ q hq12).trans ((Below.heap_setCell _ _ _ q hq12).trans HN1.out)
 have HB3 := Aside0.mk hB3
 have HN3 := Aside0.mk hN3
 clear hB3 hq12 hN3 X0 X1 X2 HN1 HN2 HB2 HN0
 refine (bag_Valid.calls k _ _ l0 true _ (Kd.C_below HR0.out HB3.out) HC0.out HK.out).mono ?_
 rintro e w3 ⟨rfl, hb3⟩
 have HN4 := Aside0.mk ((hb3.block q (blk_lt HN3.out)).trans HN3.out)
 have HB4 := Aside0.mk (HB3.out.trans (hb3.mono HB3.out.size))
 have HQW : Aside0 (w.heap.size ≤ q) := ⟨Nat.le_of_eq HQ.out.symm⟩
 clear hb3 HN3 HB3 HB1 HQ2 HQ
 go_wp2
 go_loopg [29] l1.length (fun kq v29 W => ∃ x : Int, v29 = .int .i64 x ∧ Aside0 (0 ≤ x ∧ x ≤ l1.length ∧ (kq : Int) = l1.length - x) ∧ Aside0 (W.heap[q]? = some (.cells #[.slice none 0 0, .int .i64 0] 45 (0, 0))) ∧ Aside0 (Below w.heap.size w W))
 case atStart => exact ⟨0, rfl, ⟨by omega⟩, HN4, HB4⟩
 case round =>
  clear HN4 HB4
  obtain ⟨x, rfl, HX, HN, HB⟩ := hrel
  obtain ⟨hx0, hx1, hkq⟩ := HX.out
  by_cases hlt : x < (l1.length : Int)
  · have d1 : decide (x < (l1.length : Int)) = true := decide_eq_true hlt
    have d2 : decide (0 ≤ x) = true := decide_eq_true hx0
    obtain ⟨ad, e, hx_0⟩ := Kd.at_int HR1.out x hx0 hlt
    cases e
    replace hx_0 := (HB.out.cell (World.block_lt_of_cell? w _ hx_0)).trans hx_0
    have hj : x.toNat < l1.length := by omega
    have hrd : rd l1 x = l1[x.toNat] := by simp [rd, List.getElem?_eq_getElem hj]
    have hh := HIN.out (rd l1 x) (by rw [hrd]; exact List.getElem_mem hj)
    obtain ⟨n, hn⟩ : ∃ n, n = rd l1 x := ⟨_, rfl⟩
    rw [← hn] at hx_0 hh
    have HH := Aside0.mk hh
    have HLT := Aside0.mk hlt
    have HKQ := Aside0.mk hkq
    have HX0 := Aside0.mk hx0
    have HWR : Aside0 (wrap64 (x + 1) = x + 1) := ⟨by have := HOK.out.cn; unfold wrap64; omega⟩
    clear hn hrd hj hh hkq
    go_wp2_with fail
    refine (bag_has.calls A0 c0 l0 n true wr (Kd.C_below HR0.out HB.out) HC0.out (by rw [has_eq, HH.out])).mono ?_
    rintro e w5 ⟨rfl, ⟨nd, rfl⟩⟩
    go_wp2
    have hlt := HLT.out
    have hk := HKQ.out
    have hx0 := HX0.out
    cases gk with
    | zero => omega
    | succ k1 =>
     go_roundg k1
     case measure => omega
     case rel => exact ⟨x + 1, by rw [HWR.out], ⟨by omega⟩, HN, ⟨bN_ HB.out nd⟩⟩
  · have d1 : decide (x < (l1.length : Int)) = false := decide_eq_false hlt
    clear HX hx0 hx1 hkq hlt
    go_wp2
    go_loopg [41] l2.length (fun kq v41 W => ∃ x : Int, v41 = .int .i64 x ∧ Aside0 (0 ≤ x ∧ x ≤ l2.length ∧ (kq : Int) = l2.length - x) ∧ Aside0 (W.heap[q]? = some (.cells #[.slice none 0 0, .int .i64 0] 45 (0, 0))) ∧ Aside0 (Below w.heap.size w W))
    case atStart => exact ⟨0, rfl, ⟨by omega⟩, HN, HB⟩
    case round =>
     clear HN HB
     obtain ⟨x, rfl, HX, HN, HB⟩ := hrel
     obtain ⟨hx0, hx1, hkq⟩ := HX.out
     by_cases hlt : x < (l2.length : Int)
     · have d1 : decide (x < (l2.length : Int)) = true := decide_eq_true hlt
       have d2 : decide (0 ≤ x) = true := decide_eq_true hx0
       obtain ⟨ad, e, hx_0, hx_1, hx_2⟩ := at_T55 HR2.out x hx0 hlt
       cases e
       replace hx_0 := (HB.out.cell (World.block_lt_of_cell? w _ hx_0)).trans hx_0
       replace hx_1 := (HB.out.cell (World.block_lt_of_cell? w _ hx_1)).trans hx_1
       replace hx_2 := (HB.out.cell (World.block_lt_of_cell? w _ hx_2)).trans hx_2
       have hj : x.toNat < l2.length := by omega
       have hrd : rd_T55 l2 x = ⟨0, 0, false⟩ := HOK.out.one _ (by
        have : rd_T55 l2 x = l2[x.toNat] := by simp [rd_T55, List.getElem?_eq_getElem hj]
        rw [this]; exact List.getElem_mem hj)
       rw [hrd] at hx_0 hx_1 hx_2
       have HLT := Aside0.mk hlt
       have HKQ := Aside0.mk hkq
       have HX0 := Aside0.mk hx0
       have HWR : Aside0 (wrap64 (x + 1) = x + 1) := ⟨by have := HOK.out.an; unfold wrap64; omega⟩
       clear hrd hj hkq
       go_wp2
       have hlt := HLT.out
       have hk := HKQ.out
       have hx0 := HX0.out
       cases gk with
       | zero => omega
       | succ k1 =>
        go_roundg k1
        case measure => omega
        case rel => exact ⟨x + 1, by rw [HWR.out], ⟨by omega⟩, ⟨(Below.heap_alloc wr _ q (blk_lt HN.out)).trans HN.out⟩, ⟨HB.out.alloc HB.out.size _⟩⟩
     · have d1 : decide (x < (l2.length : Int)) = false := decide_eq_false hlt
       clear HX hx0 hx1 hkq hlt
       have hlen : ∀ row ∈ l0, ∀ n ∈ l1, 0 ≤ n ∧ n < (row.length : Int) := fun row hrow n hn => by
        have h1 := HIN.out n hn
        cases hl : l0 with
        | nil => rw [hl] at hrow; cases hrow
        | cons r rs =>
         rw [hl] at h1 hrow
         have h2 := validB_len (hl ▸ HV.out) row hrow
         have := of_decide_eq_true h1
         omega
       have hval : ∀ row ∈ l0, ∀ v ∈ keyOf l1 row, validV v = true := fun row hrow v hv => by
        obtain ⟨n, hn, rfl⟩ := List.mem_map.1 hv
        have h1 := hlen row hrow n hn
        have h2 : n.toNat < row.length := by omega
        have : rd_T36 row n = row[n.toNat] := by simp [rd_T36, List.getElem?_eq_getElem h2]
        rw [this]
        exact validB_valid HV.out row hrow _ (List.getElem_mem h2)
       have HGC := Aside0.mk (groups_all A0 c0 l0 A1 c1 l1 wr (HT.out.below HB.out) (Kd.C_below HR0.out HB.out) HC0.out (Kd.C_below HR1.out HB.out) HOK.out.rows.2 HOK.out.cn hlen (fun row hrow => ⟨HOK.out.keys row hrow, hval row hrow⟩))
       clear hlen hval
       go_wp2_with fail
       refine HGC.out.mono ?_
       rintro e wK ⟨vk, m, kv, rfl, hRk, hIs, hCk, hLk, hbK⟩
       have HRK := Aside0.mk hRk
       have HIS := Aside0.mk hIs
       have HCL : Aside0 (∀ s, ∃ A c, ((KV.get kv s).map (fun p : LV => p.1)).getD (.slice none 0 0) = .slice A (listR l1 l0 s).length c ∧ (listR l1 l0 s).length ≤ c ∧ kRow.C wK A (listR l1 l0 s).length (listR l1 l0 s)) := ⟨fun s => by
        rw [← hLk s]
        cases hg : KV.get kv s with
        | none => exact ⟨none, 0, rfl, Nat.le_refl _, Kd.C_nil _ _⟩
        | some p =>
         obtain ⟨A, c, h1, h2, h3⟩ := hCk s p hg
         exact ⟨A, c, h1, h2, h3⟩⟩
       have HNK := Aside0.mk ((hbK.block q (blk_lt HN.out)).trans HN.out)
       have HBK := Aside0.mk (HB.out.trans (hbK.mono HB.out.size))
       clear hRk hIs hCk hLk hbK HGC HN HB
       obtain ⟨Ak, ck, ek, hlk, hKC⟩ := Kd.R_reads HRK.out
       subst ek
       have HKC := Aside0.mk hKC
       clear hlk hKC HRK
       obtain ⟨keys, hkeys⟩ : ∃ keys, keys = keysR l1 l0 := ⟨_, rfl⟩
       have HKO := Aside0.mk HOK.out.keyn
       have HKN := Aside0.mk HOK.out.keysn
       rw [← hkeys] at HKC HKO HKN
       rw [← hkeys]
       have HKS := Aside0.mk hkeys
       clear hkeys
       go_wp2
       go_loopg [91, 14] keys.length (fun kq v91 v14 W => ∃ x : Int, v91 = .int .i64 x ∧ Aside0 (0 ≤ x ∧ x ≤ keys.length ∧ (kq : Int) = keys.length - x) ∧ Aside0 (kRow.R 53 W wK.heap.size (fun _ => True) v14 ((keys.take x.toNat).map (groupRow l1 l0 l2.length))) ∧ Aside0 (Below wK.heap.size wK W))
       case atStart => exact ⟨0, rfl, ⟨by omega⟩, ⟨by simpa using Kd.R_nil _ _ _ _ _⟩, ⟨Below.refl _ _⟩⟩
       case round =>
        obtain ⟨x, rfl, HX, HO, HB⟩ := hrel
        obtain ⟨hx0, hx1, hkq⟩ := HX.out
        by_cases hlt : x < (keys.length : Int)
        · have d1 : decide (x < (keys.length : Int)) = true := decide_eq_true hlt
          have d2 : decide (0 ≤ x) = true := decide_eq_true hx0
          obtain ⟨ad, Ar, cr, e, hx_0, hlc, hrow⟩ := at_L4 HKC.out x hx0 hlt
          cases e
          replace hx_0 := (HB.out.cell (World.block_lt_of_cell? wK _ hx_0)).trans hx_0
          have hi : x.toNat < keys.length := by omega
          have hrd : rd_L4 keys x = keys[x.toNat] := by simp [rd_L4, List.getElem?_eq_getElem hi]
          have hky := HKO.out (rd_L4 keys x) (by rw [hrd]; exact List.getElem_mem hi)
          have htk : keys.take (x + 1).toNat = keys.take x.toNat ++ [rd_L4 keys x] := by
           rw [show (x + 1).toNat = x.toNat + 1 by omega, take_snoc _ _ hi, hrd]
          obtain ⟨key, hkey⟩ : ∃ key, key = rd_L4 keys x := ⟨_, rfl⟩
          rw [← hkey] at hx_0 hlc hrow hky htk
          have HROW := Aside0.mk hrow
          have HLC := Aside0.mk hlc
          have HKY := Aside0.mk hky
          have HTK := Aside0.mk htk
          have HLT := Aside0.mk hlt
          have HKQ := Aside0.mk hkq
          have HX0 := Aside0.mk hx0
          have HWR : Aside0 (wrap64 (x + 1) = x + 1) := ⟨by have := HKN.out; unfold wrap64; omega⟩
          clear hrow hlc hky htk hkey hrd hi hkq
          have HBW := Aside0.mk (HBK.out.trans (HB.out.mono HBK.out.size))
          go_wp2_with fail
          refine (name_calls Ar cr key wr (HT.out.below HBW.out) (Kd.C_below HROW.out HB.out) HLC.out HKY.out.1 HKY.out.2.1 HKY.out.2.2).mono ?_
          rintro e wN ⟨rfl, hbn⟩
          obtain ⟨wO, hwO⟩ : ∃ wO, wO = wr := ⟨_, rfl⟩
          subst hwO
          obtain ⟨gO, hgO⟩ : ∃ gO, gO = gk := ⟨_, rfl⟩
          subst hgO
          have HBN := Aside0.mk hbn
          have HISN := Aside0.mk (HIS.out.below (HB.out.trans (hbn.mono HB.out.size)))
          obtain ⟨Al, cl, hul, hlc2, hcl2⟩ := HCL.out (nameOf key)
          obtain ⟨ls, hls⟩ : ∃ ls, ls = listR l1 l0 (nameOf key) := ⟨_, rfl⟩
          rw [← hls] at hul hlc2 hcl2
          have HUL := Aside0.mk hul
          have HLC2 := Aside0.mk hlc2
          have HCL2 := Aside0.mk hcl2
          have HLS := Aside0.mk hls
          have HKEYN : Aside0 (kV.C wN Ar key.length key) := ⟨Kd.C_below HROW.out (HB.out.trans (hbn.mono HB.out.size))⟩
          clear hul hlc2 hcl2 hls hbn
          have HE0 : Aside0 (Kd.R kV 36 (wN.alloc (.cells #[] 36)) wN.heap.size (fun _ => True) (.slice (some ⟨wN.heap.size, 0, none⟩) 0 0) []) := ⟨R_empty kV 36 wN⟩
          have HE1 := Aside0.mk ((Below.refl wN.heap.size wN).alloc (Nat.le_refl _) (.cells #[] 36))
          go_wp2_with (first
           | (at_lookup; refine KV.law_lookup _ rfl _ _ 87 rfl 9 22 Tryz.underlying9 Tryz.underlying87 (.slice none 0 0) (zeroRows _) m (fun p : LV => p.1) kv rfl HISN.out (nameOf key) rfl (.slice Al ls.length cl) HUL.out ?_)
           | (at_builtin; refine Kd.R_append_rows kV (w0 := wN) wN.heap.size rfl (.tmp 99) (.tmp 100) 53 36 (.agg #[(.int .u8 0), (.int .i64 0), (.string ⟨#[]⟩)]) 32 rfl Tryz.underlying53 infoV rfl (by decide) (by decide) _ [] key Ar key.length cr (fun _ => True) (fun _ => False) rfl rfl HE0.out (Kd.C_below HKEYN.out HE1.out) (fun x cs h => by obtain rfl := k36_open h; exact k36_mkM _ _ _ x) (fun _ h => h.elim) (fun _ _ => trivial) HE1.out HE1.out.size (by have := HKY.out.2.2; simp; omega) ?_; intro v1 w1 hR hb hg hat; have HK1 := Aside0.mk hR; have HBI := Aside0.mk hb; clear hR hb hg hat))
          have HCNT : Aside0 (∃ kc, bag_columnOf.f kc ls 0 = some (columnR ls 0)) := ⟨(columnOf_ev ls 0 (Int.le_refl _) (by
           rw [HLS.out]
           exact Nat.le_trans (List.length_filter_le _ _) HOK.out.rows.2)).rounds⟩
          have HAGG : Aside0 (bag_Aggregate.f 0 false (columnR ls 0) = some (1, (ls.length : Int), ⟨#[]⟩, 0)) := ⟨by
           have hsub : ∀ row ∈ ls, row ∈ l0 := fun row hrow => by
            rw [HLS.out] at hrow
            exact (List.mem_filter.1 hrow).1
           have hlen : ls.length ≤ l0.length := by rw [HLS.out]; exact List.length_filter_le _ _
           have hAO : AggOk 0 (columnR ls 0) := by
            refine ⟨Int.le_refl _, .inl (by omega), fun v hv => ?_, ?_⟩
            · obtain ⟨row, hrow, rfl⟩ := List.mem_map.1 hv
              exact HOK.out.row1 row (hsub row hrow)
            · rw [columnR, List.length_map]
              exact Nat.le_trans hlen HOK.out.rows.2
           unfold bag_Aggregate.f
           rw [if_pos hAO]
           unfold aggR
           rw [if_pos (col_allowed HV.out hsub 0), if_neg (by omega), pickV_all]
           simp [columnR]⟩
          obtain ⟨kc, hkc⟩ := HCNT.out
          have HKC2 := Aside0.mk hkc
          clear hkc
          have HBO : Aside0 (Below wK.heap.size wK wN) := ⟨HB.out.trans (HBN.out.mono HB.out.size)⟩
          go_loopg [104, 18] l2.length (fun kq v104 v18 W => ∃ y : Int, v104 = .int .i64 y ∧ Aside0 (0 ≤ y ∧ y ≤ l2.length ∧ (kq : Int) = l2.length - y) ∧ Aside0 (kV.R 36 W wN.heap.size (fun _ => True) v18 (key ++ List.replicate y.toNat (⟨1, (ls.length : Int), ⟨#[]⟩⟩ : V))) ∧ Aside0 (Below wN.heap.size wN W))
          case atStart => exact ⟨0, rfl, ⟨by omega⟩, ⟨by simpa using HK1.out⟩, HBI⟩
          case round =>
           clear HK1 HBI
           obtain ⟨y, rfl, HY, HKR, HBI⟩ := hrel
           obtain ⟨hy0, hy1, hkq⟩ := HY.out
           by_cases hly : y < (l2.length : Int)
           · have d1 : decide (y < (l2.length : Int)) = true := decide_eq_true hly
             have d2 : decide (0 ≤ y) = true := decide_eq_true hy0
             have hbww : Below w.heap.size w wr := HBK.out.trans ((HBO.out.trans (HBI.out.mono HBO.out.size)).mono HBK.out.size)
             obtain ⟨ad2, e, hx_0, hx_1, hx_2⟩ := at_T55 HR2.out y hy0 hly
             cases e
             replace hx_0 := (hbww.cell (World.block_lt_of_cell? w _ hx_0)).trans hx_0
             replace hx_1 := (hbww.cell (World.block_lt_of_cell? w _ hx_1)).trans hx_1
             replace hx_2 := (hbww.cell (World.block_lt_of_cell? w _ hx_2)).trans hx_2
             have hj : y.toNat < l2.length := by omega
             have hrd : rd_T55 l2 y = ⟨0, 0, false⟩ := HOK.out.one _ (by
              have : rd_T55 l2 y = l2[y.toNat] := by simp [rd_T55, List.getElem?_eq_getElem hj]
              rw [this]; exact List.getElem_mem hj)
             rw [hrd] at hx_0 hx_1 hx_2
             have HLY := Aside0.mk hly
             have HKQ2 := Aside0.mk hkq
             have HY0 := Aside0.mk hy0
             have HWY : Aside0 (wrap64 (y + 1) = y + 1) := ⟨by have := HOK.out.an; unfold wrap64; omega⟩
             have HBWW := Aside0.mk hbww
             clear hrd hj hkq hbww
             obtain ⟨W5, hW5⟩ : ∃ W5, W5 = wr.alloc (.cells #[.int .u8 0, .int .i64 0, .bool false] 55) := ⟨_, rfl⟩
             have D0 : W5.cell? ⟨wr.heap.size, 0, none⟩ = some (.int .u8 0) := by rw [hW5]; exact (blk_cell (heap_alloc_new _ _) 0).trans rfl
             have D1 : W5.cell? ⟨wr.heap.size, 1, none⟩ = some (.int .i64 0) := by rw [hW5]; exact (blk_cell (heap_alloc_new _ _) 1).trans rfl
             have D2 : W5.cell? ⟨wr.heap.size, 2, none⟩ = some (.bool false) := by rw [hW5]; exact (blk_cell (heap_alloc_new _ _) 2).trans rfl
             have HB5 : Aside0 (Below wr.heap.size wr W5) := ⟨by rw [hW5]; exact (Below.refl _ wr).alloc (Nat.le_refl _) _⟩
             have HREP : Aside0 (key ++ List.replicate (y + 1).toNat (⟨1, (ls.length : Int), ⟨#[]⟩⟩ : V) = (key ++ List.replicate y.toNat (⟨1, (ls.length : Int), ⟨#[]⟩⟩ : V)) ++ [(⟨1, (ls.length : Int), ⟨#[]⟩⟩ : V)]) := ⟨by
              rw [show (y + 1).toNat = y.toNat + 1 by have := HY0.out; omega, List.replicate_succ', List.append_assoc]⟩
             have HLEN : Aside0 (((key ++ List.replicate y.toNat (⟨1, (ls.length : Int), ⟨#[]⟩⟩ : V)).length + 1) * 32 ≤ 140737488355328) := ⟨by
              rw [List.length_append, List.length_replicate]
              have h1 := HKY.out.2.2
              have h2 := HOK.out.an
              have h3 := HLY.out
              omega⟩
             have HS5 : Aside0 (W5.heap.size = wr.heap.size + 1) := ⟨by rw [hW5]; simp⟩
             have HNE5 : Aside0 (wr.heap.size ≠ W5.heap.size) := ⟨by have := HS5.out; omega⟩
             have HD5 : Aside0 (W5.cell? ⟨wr.heap.size, 0, none⟩ = some (.int .u8 0) ∧ W5.cell? ⟨wr.heap.size, 1, none⟩ = some (.int .i64 0) ∧ W5.cell? ⟨wr.heap.size, 2, none⟩ = some (.bool false)) := ⟨⟨D0, D1, D2⟩⟩
             have HE5 : Aside0 (W5.drew.cell? ⟨wr.heap.size, 0, none⟩ = some (.int .u8 0) ∧ W5.drew.cell? ⟨wr.heap.size, 1, none⟩ = some (.int .i64 0) ∧ W5.drew.cell? ⟨wr.heap.size, 2, none⟩ = some (.bool false)) := ⟨⟨D0, D1, D2⟩⟩
             have HE6 : Aside0 (∀ o, ((W5.alloc o).cell? ⟨wr.heap.size, 0, none⟩ = some (.int .u8 0) ∧ (W5.alloc o).cell? ⟨wr.heap.size, 1, none⟩ = some (.int .i64 0) ∧ (W5.alloc o).cell? ⟨wr.heap.size, 2, none⟩ = some (.bool false))) := ⟨fun o => cells3 ((Below.refl _ W5).alloc (Nat.le_refl _) o) HD5.out⟩
             have HE7 : Aside0 (∀ o, ((W5.alloc o).drew.cell? ⟨wr.heap.size, 0, none⟩ = some (.int .u8 0) ∧ (W5.alloc o).drew.cell? ⟨wr.heap.size, 1, none⟩ = some (.int .i64 0) ∧ (W5.alloc o).drew.cell? ⟨wr.heap.size, 2, none⟩ = some (.bool false))) := ⟨fun o => HE6.out o⟩
             clear D0 D1 D2
             have HX5 : Aside0 ((W5.alloc (.cells #[.int .u8 0, .int .i64 0, .string ⟨#[]⟩, .int .i64 0] 38)).drew.heap[W5.heap.size]? = some (.cells #[.int .u8 0, .int .i64 0, .string ⟨#[]⟩, .int .i64 0] 38 (0, 0)) ∧ W5.heap.size < (W5.alloc (.cells #[.int .u8 0, .int .i64 0, .string ⟨#[]⟩, .int .i64 0] 38)).drew.heap.size) := ⟨heap_alloc_new W5 _, blk_lt (heap_alloc_new W5 (.cells #[.int .u8 0, .int .i64 0, .string ⟨#[]⟩, .int .i64 0] 38))⟩
             have HBEL : Aside0 (Below W5.heap.size W5 (W5.alloc (.cells #[.int .u8 0, .int .i64 0, .string ⟨#[]⟩, .int .i64 0] 38)).drew) := ⟨((Below.refl _ W5).alloc (Nat.le_refl _) _).drew⟩
             have HBE : Aside0 (Below W5.heap.size W5 W5.drew) := ⟨(Below.refl _ W5).drew⟩
             have HLIST : Aside0 (∀ W', Below W5.heap.size W5 W' → kRow.C W' Al ls.length ls) := ⟨fun W' hb => Kd.C_below HCL2.out (HBO.out.trans ((HBI.out.trans ((HB5.out.trans (hb.mono HB5.out.size)).mono HBI.out.size)).mono HBO.out.size))⟩
             have HT5 : Aside0 (∀ W', Below W5.heap.size W5 W' → LaidT W') := ⟨fun W' hb => HT.out.below (HBWW.out.trans ((HB5.out.trans (hb.mono HB5.out.size)).mono HBWW.out.size))⟩
             go_wp2_with fail
             rw [← hW5]
             have HW5 := Aside0.mk hW5
             clear hW5
             go_region_held3 (fun W' => (W'.cell? ⟨wr.heap.size, 0, none⟩ = some (.int .u8 0) ∧ W'.cell? ⟨wr.heap.size, 1, none⟩ = some (.int .i64 0) ∧ W'.cell? ⟨wr.heap.size, 2, none⟩ = some (.bool false))) (first | (with_reducible exact HD5.out) | (with_reducible exact HE5.out) | (with_reducible exact HE7.out _) | (with_reducible exact HE6.out _) | (with_reducible exact HR7.out) | (with_reducible exact HR7a.out _) | (with_reducible exact HS8.out) | (with_reducible exact HS8a.out _) | (with_reducible exact far3 HNE7.out HS8.out) | (with_reducible exact far3 HNE5.out HS8.out)) (first
              | (go_at_call 63; (with_reducible refine (bag_columnOf.calls kc Al cl ls 0 (columnR ls 0) W5.drew (HLIST.out _ HBE.out) HLC2.out HKC2.out).mono ?_); rintro e w7 ⟨vc, rfl, hRc, hb7⟩; obtain ⟨Ac, cc, ec, hcc, hCc⟩ := Kd.R_reads hRc; subst ec; have hb57 : Below W5.heap.size W5 w7 := (HBE.out).trans (hb7.mono (HBE.out).size); have HR7 : Aside0 (w7.cell? ⟨wr.heap.size, 0, none⟩ = some (.int .u8 0) ∧ w7.cell? ⟨wr.heap.size, 1, none⟩ = some (.int .i64 0) ∧ w7.cell? ⟨wr.heap.size, 2, none⟩ = some (.bool false)) := ⟨cells3 hb57 HD5.out⟩; have HR7a : Aside0 (∀ o, ((w7.alloc o).cell? ⟨wr.heap.size, 0, none⟩ = some (.int .u8 0) ∧ (w7.alloc o).cell? ⟨wr.heap.size, 1, none⟩ = some (.int .i64 0) ∧ (w7.alloc o).cell? ⟨wr.heap.size, 2, none⟩ = some (.bool false))) := ⟨fun o => cells3 ((Below.refl _ w7).alloc (Nat.le_refl _) o) HR7.out⟩; have HCC := Aside0.mk hCc; have HCN := Aside0.mk hcc; have HB7 := Aside0.mk hb57; have HNE7 : Aside0 (wr.heap.size ≠ w7.heap.size) := ⟨by have := HB7.out.size; have := HS5.out; omega⟩; clear hb57 hRc hb7 hcc hCc)
              | (go_at_call 63; (with_reducible refine (bag_columnOf.calls kc Al cl ls 0 (columnR ls 0) (W5.alloc (.cells #[.int .u8 0, .int .i64 0, .string ⟨#[]⟩, .int .i64 0] 38)).drew (HLIST.out _ HBEL.out) HLC2.out HKC2.out).mono ?_); rintro e w7 ⟨vc, rfl, hRc, hb7⟩; obtain ⟨Ac, cc, ec, hcc, hCc⟩ := Kd.R_reads hRc; subst ec; have hb57 : Below W5.heap.size W5 w7 := (HBEL.out).trans (hb7.mono (HBEL.out).size); have HR7 : Aside0 (w7.cell? ⟨wr.heap.size, 0, none⟩ = some (.int .u8 0) ∧ w7.cell? ⟨wr.heap.size, 1, none⟩ = some (.int .i64 0) ∧ w7.cell? ⟨wr.heap.size, 2, none⟩ = some (.bool false)) := ⟨cells3 hb57 HD5.out⟩; have HR7a : Aside0 (∀ o, ((w7.alloc o).cell? ⟨wr.heap.size, 0, none⟩ = some (.int .u8 0) ∧ (w7.alloc o).cell? ⟨wr.heap.size, 1, none⟩ = some (.int .i64 0) ∧ (w7.alloc o).cell? ⟨wr.heap.size, 2, none⟩ = some (.bool false))) := ⟨fun o => cells3 ((Below.refl _ w7).alloc (Nat.le_refl _) o) HR7.out⟩; have HCC := Aside0.mk hCc; have HCN := Aside0.mk hcc; have HX7 := Aside0.mk ((hb7.block W5.heap.size HX5.out.2).trans HX5.out.1); have HB7 := Aside0.mk hb57; have HNE7 : Aside0 (wr.heap.size ≠ w7.heap.size) := ⟨by have := HB7.out.size; have := HS5.out; omega⟩; clear hb57 hRc hb7 hcc hCc)
              | (go_at_call 21; have hx7 := HX7.out; (with_reducible refine (bag_Aggregate.calls 0 false Ac cc (columnR ls 0) 1 (ls.length : Int) ⟨#[]⟩ 0 w7 HCC.out HCN.out (HT5.out w7 HB7.out) HAGG.out).mono ?_); rintro e w8 ⟨rfl, hb8⟩; have hb78 : Below w7.heap.size w7 w8 := hb8; have HS8 : Aside0 (w8.cell? ⟨wr.heap.size, 0, none⟩ = some (.int .u8 0) ∧ w8.cell? ⟨wr.heap.size, 1, none⟩ = some (.int .i64 0) ∧ w8.cell? ⟨wr.heap.size, 2, none⟩ = some (.bool false)) := ⟨cells3 hb78 HR7.out⟩; have HS8a : Aside0 (∀ o, ((w8.alloc o).cell? ⟨wr.heap.size, 0, none⟩ = some (.int .u8 0) ∧ (w8.alloc o).cell? ⟨wr.heap.size, 1, none⟩ = some (.int .i64 0) ∧ (w8.alloc o).cell? ⟨wr.heap.size, 2, none⟩ = some (.bool false))) := ⟨fun o => cells3 ((Below.refl _ w8).alloc (Nat.le_refl _) o) HS8.out⟩; have HB8 := Aside0.mk (HB7.out.trans (hb78.mono HB7.out.size)); have hX8 := (hb8.block W5.heap.size (blk_lt hx7)).trans hx7; have x0 : w8.cell? ⟨W5.heap.size, 0, none⟩ = some (.int .u8 0) := (blk_cell hX8 0).trans rfl; have x1 : w8.cell? ⟨W5.heap.size, 1, none⟩ = some (.int .i64 0) := (blk_cell hX8 1).trans rfl; have x2 : w8.cell? ⟨W5.heap.size, 2, none⟩ = some (.string ⟨#[]⟩) := (blk_cell hX8 2).trans rfl; have x3 : w8.cell? ⟨W5.heap.size, 3, none⟩ = some (.int .i64 0) := (blk_cell hX8 3).trans rfl; have xf : ∀ j, w8.frozen? ⟨W5.heap.size, j, none⟩ = false := (fun j => by simp [World.frozen?, hX8]); have HX8 := Aside0.mk hX8; clear hX8; clear hb8 hb78 hx7)
              | (go_at_call 21; have hb9 : Below w7.heap.size w7 (w7.alloc (.cells #[.int .u8 0, .int .i64 0, .string ⟨#[]⟩, .int .i64 0] 38)) := (Below.refl _ w7).alloc (Nat.le_refl _) _; have hbx : Below W5.heap.size W5 (w7.alloc (.cells #[.int .u8 0, .int .i64 0, .string ⟨#[]⟩, .int .i64 0] 38)) := HB7.out.trans (hb9.mono HB7.out.size); (with_reducible refine (bag_Aggregate.calls 0 false Ac cc (columnR ls 0) 1 (ls.length : Int) ⟨#[]⟩ 0 (w7.alloc (.cells #[.int .u8 0, .int .i64 0, .string ⟨#[]⟩, .int .i64 0] 38)) (Kd.C_below HCC.out hb9) HCN.out (HT5.out _ hbx) HAGG.out).mono ?_); rintro e w8 ⟨rfl, hb8⟩; have hb78 : Below w7.heap.size w7 w8 := hb9.trans (hb8.mono hb9.size); have HS8 : Aside0 (w8.cell? ⟨wr.heap.size, 0, none⟩ = some (.int .u8 0) ∧ w8.cell? ⟨wr.heap.size, 1, none⟩ = some (.int .i64 0) ∧ w8.cell? ⟨wr.heap.size, 2, none⟩ = some (.bool false)) := ⟨cells3 hb78 HR7.out⟩; have HS8a : Aside0 (∀ o, ((w8.alloc o).cell? ⟨wr.heap.size, 0, none⟩ = some (.int .u8 0) ∧ (w8.alloc o).cell? ⟨wr.heap.size, 1, none⟩ = some (.int .i64 0) ∧ (w8.alloc o).cell? ⟨wr.heap.size, 2, none⟩ = some (.bool false))) := ⟨fun o => cells3 ((Below.refl _ w8).alloc (Nat.le_refl _) o) HS8.out⟩; have hX8 := (hb8.block w7.heap.size (blk_lt (heap_alloc_new w7 _))).trans (heap_alloc_new w7 _); have x0 : w8.cell? ⟨w7.heap.size, 0, none⟩ = some (.int .u8 0) := (blk_cell hX8 0).trans rfl; have x1 : w8.cell? ⟨w7.heap.size, 1, none⟩ = some (.int .i64 0) := (blk_cell hX8 1).trans rfl; have x2 : w8.cell? ⟨w7.heap.size, 2, none⟩ = some (.string ⟨#[]⟩) := (blk_cell hX8 2).trans rfl; have x3 : w8.cell? ⟨w7.heap.size, 3, none⟩ = some (.int .i64 0) := (blk_cell hX8 3).trans rfl; have xf : ∀ j, w8.frozen? ⟨w7.heap.size, j, none⟩ = false := (fun j => by simp [World.frozen?, hX8]); have HX8 := Aside0.mk hX8; clear hX8; have HB8 := Aside0.mk (HB7.out.trans (hb78.mono HB7.out.size)); clear hb8 hb9 hb78 hbx)
              | (go_at_call 21; (with_reducible refine (bag_Aggregate.calls 0 false Ac cc (columnR ls 0) 1 (ls.length : Int) ⟨#[]⟩ 0 w7 HCC.out HCN.out (HT5.out w7 HB7.out) HAGG.out).mono ?_); rintro e w8 ⟨rfl, hb8⟩; have hb78 : Below w7.heap.size w7 w8 := hb8; have HS8 : Aside0 (w8.cell? ⟨wr.heap.size, 0, none⟩ = some (.int .u8 0) ∧ w8.cell? ⟨wr.heap.size, 1, none⟩ = some (.int .i64 0) ∧ w8.cell? ⟨wr.heap.size, 2, none⟩ = some (.bool false)) := ⟨cells3 hb78 HR7.out⟩; have HS8a : Aside0 (∀ o, ((w8.alloc o).cell? ⟨wr.heap.size, 0, none⟩ = some (.int .u8 0) ∧ (w8.alloc o).cell? ⟨wr.heap.size, 1, none⟩ = some (.int .i64 0) ∧ (w8.alloc o).cell? ⟨wr.heap.size, 2, none⟩ = some (.bool false))) := ⟨fun o => cells3 ((Below.refl _ w8).alloc (Nat.le_refl _) o) HS8.out⟩; have HB8 := Aside0.mk (HB7.out.trans (hb78.mono HB7.out.size)); clear hb8 hb78))
             · obtain ⟨W9, hW9⟩ : ∃ W9, W9 = (w8.alloc (.cells #[.int .u8 1, .int .i64 (ls.length : Int), .string ⟨#[]⟩, .int .i64 0] 38)) := ⟨_, rfl⟩
               rw [← hW9]
               have hO9 : W9.heap[w8.heap.size]? = some (.cells #[.int .u8 1, .int .i64 (ls.length : Int), .string ⟨#[]⟩, .int .i64 0] 38 (0, 0)) := by rw [hW9]; exact heap_alloc_new _ _
               have HB9 : Aside0 (Below wr.heap.size wr W9) := ⟨by rw [hW9]; exact (HB5.out.trans (HB8.out.mono HB5.out.size)).alloc (HB5.out.trans (HB8.out.mono HB5.out.size)).size _⟩
               have o0 : W9.cell? ⟨w8.heap.size, 0, none⟩ = some (.int .u8 1) := (blk_cell hO9 0).trans rfl
               have o1 : W9.cell? ⟨w8.heap.size, 1, none⟩ = some (.int .i64 (ls.length : Int)) := (blk_cell hO9 1).trans rfl
               have o2 : W9.cell? ⟨w8.heap.size, 2, none⟩ = some (.string ⟨#[]⟩) := (blk_cell hO9 2).trans rfl
               have o3 : W9.cell? ⟨w8.heap.size, 3, none⟩ = some (.int .i64 0) := (blk_cell hO9 3).trans rfl
               clear hO9 hW9
               try clear x0 x1 x2 x3 xf
               have HK9 := Aside0.mk (Kd.R_below HKR.out HB9.out)
               have HI9 := Aside0.mk (HBI.out.trans (HB9.out.mono HBI.out.size))
               go_wp2_with (at_builtin; refine Kd.R_append kV (w0 := wN) wN.heap.size rfl (.tmp 123) (.tmp 126) 53 36 (.agg #[(.int .u8 0), (.int .i64 0), (.string ⟨#[]⟩)]) 32 rfl Tryz.underlying53 infoV rfl (by decide) (by decide) _ _ (⟨1, (ls.length : Int), ⟨#[]⟩⟩ : V) [.int .u8 1, .int .i64 (ls.length : Int), .string ⟨#[]⟩] (fun _ => True) (fun _ => False) rfl rfl (k36_mkM _ _ _ (⟨1, (ls.length : Int), ⟨#[]⟩⟩ : V)) (fun _ h => h.elim) (fun _ _ => trivial) HK9.out HI9.out HI9.out.size HLEN.out ?_; intro v6 w6 hR4 hb4 hg4 hat4; have HO4 := Aside0.mk hR4; have HB4 := Aside0.mk hb4; clear hR4 hb4 hg4 hat4)
               have hk := HKQ2.out
               have hly := HLY.out
               have hy0 := HY0.out
               cases gk with
               | zero => omega
               | succ k1 =>
                go_roundg k1
                case measure => omega
                case rel => exact ⟨y + 1, by rw [HWY.out], ⟨by omega⟩, ⟨by rw [HREP.out]; exact HO4.out⟩, HB4⟩
             · obtain ⟨W9, hW9⟩ : ∃ W9, W9 = ((((w8.setCell ⟨w7.heap.size, 0, none⟩ (.int .u8 1)).setCell ⟨w7.heap.size, 1, none⟩ (.int .i64 (ls.length : Int))).setCell ⟨w7.heap.size, 2, none⟩ (.string ⟨#[]⟩)).setCell ⟨w7.heap.size, 3, none⟩ (.int .i64 0)) := ⟨_, rfl⟩
               rw [← hW9]
               have hO9 : W9.heap[w7.heap.size]? = some (.cells #[.int .u8 1, .int .i64 (ls.length : Int), .string ⟨#[]⟩, .int .i64 0] 38 (0, 0)) := by rw [hW9]; exact out_cells HX8.out _ _ _ _
               have HB9 : Aside0 (Below wr.heap.size wr W9) := ⟨by rw [hW9]; exact out_belowB (HB5.out.trans (HB8.out.mono HB5.out.size)) (Nat.le_trans HB5.out.size HB7.out.size) _ _ _ _⟩
               have o0 : W9.cell? ⟨w7.heap.size, 0, none⟩ = some (.int .u8 1) := (blk_cell hO9 0).trans rfl
               have o1 : W9.cell? ⟨w7.heap.size, 1, none⟩ = some (.int .i64 (ls.length : Int)) := (blk_cell hO9 1).trans rfl
               have o2 : W9.cell? ⟨w7.heap.size, 2, none⟩ = some (.string ⟨#[]⟩) := (blk_cell hO9 2).trans rfl
               have o3 : W9.cell? ⟨w7.heap.size, 3, none⟩ = some (.int .i64 0) := (blk_cell hO9 3).trans rfl
               clear hO9 hW9
               try clear x0 x1 x2 x3 xf
               have HK9 := Aside0.mk (Kd.R_below HKR.out HB9.out)
               have HI9 := Aside0.mk (HBI.out.trans (HB9.out.mono HBI.out.size))
               go_wp2_with (at_builtin; refine Kd.R_append kV (w0 := wN) wN.heap.size rfl (.tmp 123) (.tmp 126) 53 36 (.agg #[(.int .u8 0), (.int .i64 0), (.string ⟨#[]⟩)]) 32 rfl Tryz.underlying53 infoV rfl (by decide) (by decide) _ _ (⟨1, (ls.length : Int), ⟨#[]⟩⟩ : V) [.int .u8 1, .int .i64 (ls.length : Int), .string ⟨#[]⟩] (fun _ => True) (fun _ => False) rfl rfl (k36_mkM _ _ _ (⟨1, (ls.length : Int), ⟨#[]⟩⟩ : V)) (fun _ h => h.elim) (fun _ _ => trivial) HK9.out HI9.out HI9.out.size HLEN.out ?_; intro v6 w6 hR4 hb4 hg4 hat4; have HO4 := Aside0.mk hR4; have HB4 := Aside0.mk hb4; clear hR4 hb4 hg4 hat4)
               have hk := HKQ2.out
               have hly := HLY.out
               have hy0 := HY0.out
               cases gk with
               | zero => omega
               | succ k1 =>
                go_roundg k1
                case measure => omega
                case rel => exact ⟨y + 1, by rw [HWY.out], ⟨by omega⟩, ⟨by rw [HREP.out]; exact HO4.out⟩, HB4⟩
             · obtain ⟨W9, hW9⟩ : ∃ W9, W9 = ((((w8.setCell ⟨W5.heap.size, 0, none⟩ (.int .u8 1)).setCell ⟨W5.heap.size, 1, none⟩ (.int .i64 (ls.length : Int))).setCell ⟨W5.heap.size, 2, none⟩ (.string ⟨#[]⟩)).setCell ⟨W5.heap.size, 3, none⟩ (.int .i64 0)) := ⟨_, rfl⟩
               rw [← hW9]
               have hO9 : W9.heap[W5.heap.size]? = some (.cells #[.int .u8 1, .int .i64 (ls.length : Int), .string ⟨#[]⟩, .int .i64 0] 38 (0, 0)) := by rw [hW9]; exact out_cells HX8.out _ _ _ _
               have HB9 : Aside0 (Below wr.heap.size wr W9) := ⟨by rw [hW9]; exact out_belowB (HB5.out.trans (HB8.out.mono HB5.out.size)) HB5.out.size _ _ _ _⟩
               have o0 : W9.cell? ⟨W5.heap.size, 0, none⟩ = some (.int .u8 1) := (blk_cell hO9 0).trans rfl
               have o1 : W9.cell? ⟨W5.heap.size, 1, none⟩ = some (.int .i64 (ls.length : Int)) := (blk_cell hO9 1).trans rfl
               have o2 : W9.cell? ⟨W5.heap.size, 2, none⟩ = some (.string ⟨#[]⟩) := (blk_cell hO9 2).trans rfl
               have o3 : W9.cell? ⟨W5.heap.size, 3, none⟩ = some (.int .i64 0) := (blk_cell hO9 3).trans rfl
               clear hO9 hW9
               try clear x0 x1 x2 x3 xf
               have HK9 := Aside0.mk (Kd.R_below HKR.out HB9.out)
               have HI9 := Aside0.mk (HBI.out.trans (HB9.out.mono HBI.out.size))
               go_wp2_with (at_builtin; refine Kd.R_append kV (w0 := wN) wN.heap.size rfl (.tmp 123) (.tmp 126) 53 36 (.agg #[(.int .u8 0), (.int .i64 0), (.string ⟨#[]⟩)]) 32 rfl Tryz.underlying53 infoV rfl (by decide) (by decide) _ _ (⟨1, (ls.length : Int), ⟨#[]⟩⟩ : V) [.int .u8 1, .int .i64 (ls.length : Int), .string ⟨#[]⟩] (fun _ => True) (fun _ => False) rfl rfl (k36_mkM _ _ _ (⟨1, (ls.length : Int), ⟨#[]⟩⟩ : V)) (fun _ h => h.elim) (fun _ _ => trivial) HK9.out HI9.out HI9.out.size HLEN.out ?_; intro v6 w6 hR4 hb4 hg4 hat4; have HO4 := Aside0.mk hR4; have HB4 := Aside0.mk hb4; clear hR4 hb4 hg4 hat4)
               have hk := HKQ2.out
               have hly := HLY.out
               have hy0 := HY0.out
               cases gk with
               | zero => omega
               | succ k1 =>
                go_roundg k1
                case measure => omega
                case rel => exact ⟨y + 1, by rw [HWY.out], ⟨by omega⟩, ⟨by rw [HREP.out]; exact HO4.out⟩, HB4⟩
           · have d1 : decide (y < (l2.length : Int)) = false := decide_eq_false hly
             have hgr : key ++ List.replicate y.toNat (⟨1, (ls.length : Int), ⟨#[]⟩⟩ : V) = groupRow l1 l0 l2.length key := by
              unfold groupRow
              rw [show y.toNat = l2.length by omega, HLS.out]
             rw [hgr] at HKR
             clear hgr HY hy0 hy1 hkq hly
             obtain ⟨gr, hgr⟩ : ∃ gr, gr = groupRow l1 l0 l2.length key := ⟨_, rfl⟩
             rw [← hgr] at HKR
             have HGR := Aside0.mk hgr
             obtain ⟨Ag, cg, eg, _⟩ := Kd.R_reads HKR.out
             subst eg
             have hNW : Below wN.heap.size wN wr := HBI.out
             have HBOK := Aside0.mk (HBO.out.trans (hNW.mono HBO.out.size))
             have HO9 := Aside0.mk (Kd.R_below (Kd.R_below HO.out HBN.out) hNW)
             have HM9 := Aside0.mk (Kd.R_mono (Kd.R_lower (Kd.R_bound HKR.out) HBO.out.size) (ok' := fun k => wN.heap.size ≤ k) (fun k hk => hk.2.1))
             have HFR : Aside0 (∀ k, wN.heap.size ≤ k → True ∧ some k ≠ u14.ownBlock) := ⟨fun k hk => ⟨trivial, fun e => by have h1 := Kd.R_lt HO.out k e.symm; have h2 := HBN.out.size; omega⟩⟩
             have HLEN2 : Aside0 ((((keys.take x.toNat).map (groupRow l1 l0 l2.length)).length + 1) * 24 ≤ 140737488355328) := ⟨by
              rw [List.length_map, List.length_take]
              have := HKN.out
              omega⟩
             clear hgr hNW
             go_wp2_with (at_builtin; refine Kd.R_append kRow (w0 := wK) wK.heap.size rfl (.tmp 129) (.tmp 131) 22 53 (.slice none 0 0) 24 rfl Tryz.underlying22 infoRow rfl (Nat.le_refl 1) (by decide) _ _ gr [.slice Ag gr.length cg] (fun _ => True) (fun k => wN.heap.size ≤ k) rfl rfl ⟨_, rfl, HM9.out⟩ HFR.out (fun _ _ => trivial) HO9.out HBOK.out HBOK.out.size HLEN2.out ?_; intro v6 w6 hR4 hb4 hg4 hat4; have HO4 := Aside0.mk hR4; have HB4 := Aside0.mk hb4; clear hR4 hb4 hg4 hat4)
             have hk := HKQ.out
             have hlt := HLT.out
             have hx0 := HX0.out
             cases gO with
             | zero => omega
             | succ k1 =>
              go_roundg k1
              case measure => omega
              case rel => exact ⟨x + 1, by rw [HWR.out], ⟨by omega⟩, ⟨by rw [HTK.out, List.map_append, List.map_cons, List.map_nil, ← HGR.out]; exact HO4.out⟩, HB4⟩
        · have d1 : decide (x < (keys.length : Int)) = false := decide_eq_false hlt
          have hfin : (keys.take x.toNat).map (groupRow l1 l0 l2.length) = groupR l1 l0 l2.length := by
           rw [List.take_of_length_le (by omega), HKS.out]; rfl
          rw [hfin] at HO
          have HN9 := Aside0.mk ((HB.out.block q (blk_lt HNK.out)).trans HNK.out)
          have HB9 := Aside0.mk (HBK.out.trans (HB.out.mono HBK.out.size))
          have HKS2 := Aside0.mk HBK.out.size
          clear hfin hx0 hx1 hkq hlt HX
          have y0 : wr.cell? ⟨q, 0, none⟩ = some (.slice none 0 0) := (blk_cell HN9.out 0).trans rfl
          have y1 : wr.cell? ⟨q, 1, none⟩ = some (.int .i64 0) := (blk_cell HN9.out 1).trans rfl
          have yf : ∀ j, wr.frozen? ⟨q, j, none⟩ = false := fun j => by have := HN9.out; simp [World.frozen?, this]
          obtain ⟨Ag, cg, eg, _⟩ := Kd.R_reads HO.out
          subst eg
          go_wp2
          refine bodyPost_ret (results_cell_row rfl _ _ q 45 _ (0, 0) _ rfl (out2_cells HN9.out _ _) Tryz.underlying45 rfl (by kernel_rfl)) rfl ?_
          refine ⟨_, rfl, ?_, out2_below HB9.out HQW.out _ _⟩
          have hqk := blk_lt HNK.out
          have h1 := Kd.R_mono (Kd.R_bound HO.out) (ok' := fun k => wK.heap.size ≤ k) (fun k hk => hk.2.1)
          have h2 := Kd.R_far (p := ⟨q, 0, none⟩) h1 (fun k hk e => by
           have e : k = q := e
           omega) (Value.slice Ag (groupR l1 l0 l2.length).length cg)
          have h3 := Kd.R_far (p := ⟨q, 1, none⟩) h2 (fun k hk e => by
           have e : k = q := e
           omega) (Value.int .i64 0)
          exact Kd.R_V (base' := w.heap.size) (Kd.R_mono h3 (fun k hk => Nat.le_trans HKS2.out hk))
end Go.Proofs.YtecgkcgfeghhgaaGreatDoor.PAll
namespace Go.Proofs.YtecgkcgfeghhgaaGreatDoor.PAll
open Go.RowKit Go.Proofs.YtecgkcgfeghhgaaGreatDoorW.PrintWords Go.Proofs.YtecgkcgfeghhgaaGreatDoorW.PrintLast Go.Proofs.YtecgkcgfeghhgaaGreatDoorW.PrintMore
attribute [local go_sem] max2_int min2_int max_two min_two max_three min_three max_four min_four
set_option linter.unusedVariables false
set_option linter.unusedSimpArgs false
def r1_Int.f (a0 : Int) : Option (Int × Int × ByteArray) := some (1, a0, (⟨#[]⟩ : ByteArray))
theorem r1_Int.calls (a0 : Int) (r1 : Int) (r2 : Int) (r3 : ByteArray) (w : World) (h : r1_Int.f a0 = some (r1, r2, r3)) :
 Calls Tryz.prog 43 #[.int .i64 a0] w fun e w' => e = .returned (.agg #[.int .u8 r1, .int .i64 r2, .string r3]) ∧ Below w.heap.size w w' := by
 have hu36 := Tryz.underlying36
 have HB := Aside0.mk (Below.refl w.heap.size w)
 have H : (some (1, a0, (⟨#[]⟩ : ByteArray))) = some (r1, r2, r3) := h
 clear h
 simp only [Option.some.injEq, Prod.mk.injEq] at H
 obtain ⟨rfl, rfl, rfl⟩ := H
 go_enter Tryz.func43, Tryz.ntmps43
 go_wp2_with (first | ((with_reducible refine gate_dst (N := 2) rfl ?_); refine box_event ?hg (N := 2) ?hd (cs := #[.int .u8 0, .int .i64 0, .string (⟨#[]⟩ : ByteArray)]) (t := 36) ?hr ?_; (case hd => rfl); (case hg => rfl); (case hr => first | (go_simp; done) | (go_simp; rfl)); intro gb124 hg w2 hbox hb; have n0_ := Aside0.mk (below_step (by repeat (first | (with_reducible first | exact HB.out | apply bA_ | apply bN_ | apply b1_) | exact HB.out)) hb); have n1_ := Aside0.mk (hbox); have n2_ := Aside0.mk ((by rw [hg]; exact (below_size (by repeat (first | (with_reducible first | exact HB.out | apply bA_ | apply bN_ | apply b1_) | exact HB.out))) : w.heap.size ≤ gb124)); have n3_ := Aside0.mk ((by rw [hg]; exact (below_size (by repeat (first | (with_reducible first | exact HB.out | apply bA_ | apply bN_ | apply b1_) | exact HB.out))) : w.heap.size ≤ gb124)); clear HB; have HB := n0_; have BK124 := n1_; have GW124 := n2_; have GE124 := n3_; clear n0_ n1_ n2_ n3_; clear hb hbox hg; have hcz3_0 : w2.cell? ⟨gb124, 0, none⟩ = some (.int .u8 0) := (blk_cell BK124.out 0).trans rfl; have hcz3_1 : w2.cell? ⟨gb124, 1, none⟩ = some (.int .i64 0) := (blk_cell BK124.out 1).trans rfl; have hcz3_2 : w2.cell? ⟨gb124, 2, none⟩ = some (.string (⟨#[]⟩ : ByteArray)) := (blk_cell BK124.out 2).trans rfl; have hfz3_0 := blk_frozen BK124.out 0; have hfz3_1 := blk_frozen BK124.out 1; have hfz3_2 := blk_frozen BK124.out 2))
 refine bodyPost_ret (results_cell_row rfl _ _ gb124 36 #[.int .u8 1, .int .i64 a0, .string (⟨#[]⟩ : ByteArray)] (0, 0) _ rfl (by (with_reducible repeat (first | refine blk_drewN ?_ _ | refine blk_drew ?_ | refine blk_alloc ?_ _)); refine blk_put (cs := #[.int .u8 1, .int .i64 a0, .string (⟨#[]⟩ : ByteArray)]) ?_ 2 _ rfl; (with_reducible repeat (first | refine blk_drewN ?_ _ | refine blk_drew ?_ | refine blk_alloc ?_ _)); refine blk_put (cs := #[.int .u8 1, .int .i64 0, .string (⟨#[]⟩ : ByteArray)]) ?_ 1 _ rfl; (with_reducible repeat (first | refine blk_drewN ?_ _ | refine blk_drew ?_ | refine blk_alloc ?_ _)); refine blk_put (cs := #[.int .u8 0, .int .i64 0, .string (⟨#[]⟩ : ByteArray)]) ?_ 0 _ rfl; (with_reducible repeat (first | refine blk_drewN ?_ _ | refine blk_drew ?_ | refine blk_alloc ?_ _)); exact BK124.out) Tryz.underlying36 rfl (by kernel_rfl)) rfl ?_
 exact ⟨by first | rfl | (simp [*, errW_none, errW_some] <;> rfl), by repeat (first | (with_reducible first | exact HB.out | apply bA_ | apply bN_ | apply b1_ | refine below_set ?_ GE124.out) | exact HB.out)⟩
end Go.Proofs.YtecgkcgfeghhgaaGreatDoor.PAll
set_option linter.unusedVariables false
set_option linter.unusedSimpArgs false
namespace Go.Proofs.YtecgkcgfeghhgaaGreatDoor.PAll
open Go.RowKit Go.Proofs.YtecgkcgfeghhgaaGreatDoorW.PrintWords Go.Proofs.YtecgkcgfeghhgaaGreatDoorW.PrintLast Go.Proofs.YtecgkcgfeghhgaaGreatDoorW.PrintMore
abbrev iV (n : Int) : V := ⟨1, n, ⟨#[]⟩⟩
abbrev oneA_ : List (List V) := [[iV 2], [iV 1], [iV 1]]
abbrev twoA_ : List (List V) := [[iV 1], [iV 3]]
theorem C_row1 {W : World} {b : Nat} {t : TypeId} (v : V) (h : W.heap[b]? = some (.cells #[.int .u8 v.f0, .int .i64 v.f1, .string v.f2] t (0, 0))) : Kd.C kV W (some ⟨b, 0, none⟩) [v].length [v] := by
 refine ⟨rfl, by simp, fun _ => ⟨⟨b, 0, none⟩, rfl, fun j p hj => ?_⟩⟩
 cases j with
 | succ j => simp at hj
 | zero =>
  obtain rfl : v = p := by simpa using hj
  refine ⟨[.int .u8 v.f0, .int .i64 v.f1, .string v.f2], rfl, kV.K_of_M (base := 0) (ok := fun _ => True) (k36_mkM _ _ _ v), fun i u hi => ?_⟩
  have h := blk_cell h i
  rw [add_plain, Nat.zero_mul, Nat.zero_add]
  refine h.trans ?_
  simpa using hi
theorem C_rows {W : World} {g : Nat} {cs : Array Value} {t : TypeId} {l : List (List V)} (h : W.heap[g]? = some (.cells cs t (0, 0))) (hn : l.length ≤ 9223372036854775807) (hr : ∀ (j : Nat) (row : List V), l[j]? = some row → ∃ A c, cs[j]? = some (Value.slice A row.length c) ∧ row.length ≤ c ∧ Kd.C kV W A row.length row) : Kd.C kRow W (some ⟨g, 0, none⟩) l.length l := by
 refine ⟨rfl, hn, fun _ => ⟨⟨g, 0, none⟩, rfl, fun j p hj => ?_⟩⟩
 obtain ⟨A, c, h1, h2, h3⟩ := hr j p hj
 refine ⟨[.slice A p.length c], rfl, ⟨A, c, rfl, h2, h3⟩, fun i u hi => ?_⟩
 cases i with
 | succ i => simp at hi
 | zero =>
  obtain rfl : Value.slice A p.length c = u := by simpa using hi
  rw [add_plain]
  show W.cell? ⟨g, j * 1 + 0, none⟩ = _
  rw [Nat.mul_one, Nat.add_zero]
  exact (blk_cell h j).trans h1
theorem valid_iV (n : Int) : validV (iV n) = true := by
 unfold validV noText
 simp [ByteArray.toList_eq]
theorem ok_iV (n : Int) (h : -9223372036854775808 ≤ n ∧ n ≤ 9223372036854775807) : VOk (iV n) := ⟨by simp, by simp, h.1, h.2⟩
theorem rowOk_iV (l : List V) (h : ∀ v ∈ l, ∃ n : Int, -9223372036854775808 ≤ n ∧ n ≤ 9223372036854775807 ∧ v = iV n) (hn : l.length ≤ 2) : RowOk l := by
 have len1 : ∀ n : Int, -9223372036854775808 ≤ n → n ≤ 9223372036854775807 → (nameV (iV n)).length ≤ 100 := fun n h0 h1 => by
  have i1 := Lib.itoa_length_le 1 (by omega) (by omega)
  have i2 := Lib.itoa_length_le n (by omega) (by omega)
  have i3 := Lib.itoa_length_le 0 (by omega) (by omega)
  show (Lib.itoa 1 ++ ([32] ++ (Lib.itoa n ++ ([32] ++ (Lib.itoa 0 ++ ([58] ++ ([] : List UInt8))))))).length ≤ 100
  simp only [List.length_append, List.length_cons, List.length_nil]
  omega
 refine ⟨fun v hv => ?_, ?_, by omega⟩
 · obtain ⟨n, h0, h1, rfl⟩ := h v hv
   exact ok_iV n ⟨h0, h1⟩
 · match l, h, hn with
   | [], _, _ => simp [nameB]
   | [a], h, _ =>
    obtain ⟨n, h0, h1, rfl⟩ := h a (by simp)
    have := len1 n h0 h1
    simp only [nameB, List.append_nil]
    omega
   | [a, b], h, _ =>
    obtain ⟨n, h0, h1, rfl⟩ := h a (by simp)
    obtain ⟨m, h2, h3, rfl⟩ := h b (by simp)
    have e1 := len1 n h0 h1
    have e2 := len1 m h2 h3
    simp only [nameB, List.append_nil, List.length_append]
    omega
theorem one_ok : RowsOk oneA_ := ⟨fun r hr => by
 simp only [oneA_, List.mem_cons, List.not_mem_nil, or_false] at hr
 rcases hr with rfl | rfl | rfl
 · exact rowOk_iV _ (fun v hv => ⟨2, by omega, by omega, by simpa using hv⟩) (by simp)
 · exact rowOk_iV _ (fun v hv => ⟨1, by omega, by omega, by simpa using hv⟩) (by simp)
 · exact rowOk_iV _ (fun v hv => ⟨1, by omega, by omega, by simpa using hv⟩) (by simp), by simp⟩
theorem two_ok : RowsOk twoA_ := ⟨fun r hr => by
 simp only [twoA_, List.mem_cons, List.not_mem_nil, or_false] at hr
 rcases hr with rfl | rfl
 · exact rowOk_iV _ (fun v hv => ⟨1, by omega, by omega, by simpa using hv⟩) (by simp)
 · exact rowOk_iV _ (fun v hv => ⟨3, by omega, by omega, by simpa using hv⟩) (by simp), by simp⟩
theorem valid_ints (l : List (List V)) (h : ∀ r ∈ l, ∃ n, r = [iV n]) : validB l = true := by
 have key : ∀ (l : List (List V)) (k : Int), (k = 0 ∨ k = 1) → (∀ r ∈ l, ∃ n, r = [iV n]) → validFrom [k] l = true := by
  intro l
  induction l with
  | nil => intro k _ _; rfl
  | cons r rs ih =>
   intro k hk h
   obtain ⟨n, rfl⟩ := h r (by simp)
   have e : rowStep [k] [iV n] = some [1] := by
    simp only [rowStep]
    rw [if_pos ⟨valid_iV n, by show k = 0 ∨ k = 1 ∨ (1 : Int) = 0; omega⟩]
    rcases hk with rfl | rfl <;> rfl
   simp only [validFrom, e]
   exact ih 1 (.inr rfl) (fun r hr => h r (List.mem_cons_of_mem _ hr))
 cases l with
 | nil => rfl
 | cons r rs =>
  obtain ⟨n, hn⟩ := h r (by simp)
  unfold validB
  rw [hn]
  rw [hn] at h
  exact key _ 0 (.inl rfl) h
theorem one_valid : validB oneA_ = true := valid_ints _ (fun r hr => by
 simp only [oneA_, List.mem_cons, List.not_mem_nil, or_false] at hr
 rcases hr with rfl | rfl | rfl <;> exact ⟨_, rfl⟩)
theorem both_valid : validB (oneA_ ++ twoA_) = true := valid_ints _ (fun r hr => by
 simp only [oneA_, twoA_, List.cons_append, List.nil_append, List.mem_cons, List.not_mem_nil, or_false] at hr
 rcases hr with rfl | rfl | rfl | rfl | rfl <;> exact ⟨_, rfl⟩)
theorem ne_iV {a b : Int} (h : a ≠ b) : nameOf [iV a] ≠ nameOf [iV b] := fun e => by
 have h1 := name_inj e
 simp only [List.cons.injEq, and_true] at h1
 injection h1 with _ h2
 exact h h2
theorem awake_except : ∃ met left, bag_split.f oneA_ twoA_ = some (met, left, 0) ∧ left.length = 2 := by
 have hok : RowsOk (oneA_ ++ twoA_) := ⟨fun r hr => by
  rcases List.mem_append.1 hr with h | h
  · exact one_ok.1 r h
  · exact two_ok.1 r h, by simp⟩
 refine ⟨_, _, by unfold bag_split.f; rw [if_pos hok, if_pos both_valid], ?_⟩
 rw [(sortR_perm _ _).length_eq]
 have h21 : nameOf [iV 2] ≠ nameOf [iV 1] := ne_iV (by decide)
 have h13 : nameOf [iV 1] ≠ nameOf [iV 3] := ne_iV (by decide)
 have h23 : nameOf [iV 2] ≠ nameOf [iV 3] := ne_iV (by decide)
 have e1 : cnt (twoA_.map nameOf) (nameOf [iV 2]) = 0 := by simp [twoA_, cnt, h21.symm, h23.symm]
 have e2 : cnt (twoA_.map nameOf) (nameOf [iV 1]) = 1 := by simp [twoA_, cnt, h13.symm]
 obtain ⟨c, hc⟩ : ∃ c, c = cnt (twoA_.map nameOf) := ⟨_, rfl⟩
 rw [← hc] at e1 e2 ⊢
 have e3 : decAt c (nameOf [iV 1]) (nameOf [iV 1]) = 0 := by simp [decAt, e2]
 simp only [oneA_, splitR, e1, e2, e3]
 simp [splitR, e3]
theorem cmp_iV (a b : Int) : compareV (iV a) (iV b) = cmpI a b := by
 unfold compareV
 have : cmpI (iV a).f0 (iV b).f0 = 0 := rfl
 rw [if_pos this, if_neg (by show ¬ (1 : Int) = 0; decide), if_neg (by show ¬ (1 : Int) = 2; decide)]
theorem awake_cut : bag_Cut.f oneA_ [⟨0, true⟩] 0 1 = some ([[iV 2]], 0) := by
 have hk : keysB oneA_ [⟨0, true⟩] = true := by decide
 have hf : fitsB oneA_ [⟨0, true⟩] = true := by unfold fitsB; rw [one_valid, hk]; rfl
 unfold bag_Cut.f
 rw [if_pos ⟨one_ok.v, by simp, by decide, by decide⟩, if_pos ⟨hf, by decide, by decide⟩]
 have hs : sortR [⟨0, true⟩] oneA_ = oneA_ := by
  refine (sortR_unique (fun row hrow => validB_valid one_valid row hrow) (List.Perm.refl _) ?_).symm
  have c : ∀ a b : Int, cmpFull [⟨0, true⟩] [iV a] [iV b] = if cmpI a b = 0 then 0 else -cmpI a b := fun a b => by
   unfold cmpFull
   have e1 : cmpBy [⟨0, true⟩] [iV a] [iV b] = if cmpI a b = 0 then 0 else -cmpI a b := by
    simp only [cmpBy]
    show (if compareV (iV a) (iV b) = 0 then 0 else if True then -compareV (iV a) (iV b) else _) = _
    rw [cmp_iV, if_pos trivial]
   rw [e1]
   by_cases h : cmpI a b = 0
   · rw [if_pos h, if_pos rfl]
     simp [cmpRows, cmp_iV, h]
   · rw [if_neg h, if_neg (by omega)]
  refine List.Pairwise.cons (fun r hr => ?_) (List.Pairwise.cons (fun r hr => ?_) (List.Pairwise.cons (fun r hr => by cases hr) List.Pairwise.nil))
  · simp only [List.mem_cons, List.not_mem_nil, or_false] at hr
    rcases hr with rfl | rfl <;> (rw [c]; decide)
  · simp only [List.mem_cons, List.not_mem_nil, or_false] at hr
    subst hr
    rw [c]; decide
 rw [hs]
 rfl
theorem awake_agg : bag_Aggregate.f 2 false [iV 9223372036854775807, iV 1, iV (-1)] = some (1, 9223372036854775807, ⟨#[]⟩, 0) := by
 have hok : AggOk 2 [iV 9223372036854775807, iV 1, iV (-1)] := by
  refine ⟨by omega, .inl (by omega), fun v hv => ?_, by simp⟩
  simp only [List.mem_cons, List.not_mem_nil, or_false] at hv
  refine rowOk_iV [v] (fun u hu => ?_) (by simp)
  obtain rfl : u = v := by simpa using hu
  rcases hv with rfl | rfl | rfl
  · exact ⟨_, by omega, by omega, rfl⟩
  · exact ⟨_, by omega, by omega, rfl⟩
  · exact ⟨_, by omega, by omega, rfl⟩
 unfold bag_Aggregate.f
 rw [if_pos hok]
 have ha : allowedB 2 false [iV 9223372036854775807, iV 1, iV (-1)] = true := by
  unfold allowedB
  rw [if_neg (by simp)]
  simp only [kindFrom, valid_iV]
  rfl
 unfold aggR
 rw [if_pos ha, if_pos rfl]
 have hp : pickV 2 false [] [iV 9223372036854775807, iV 1, iV (-1)] = [iV 9223372036854775807, iV 1, iV (-1)] := by
  simp [pickV]
 rw [hp]
 rfl
theorem awake_same : bag_Same.f oneA_ twoA_ = some false := by
 have hs : sameB oneA_ twoA_ = false := sameB_false (fun h => by have := h.1; simp at this)
 unfold bag_Same.f
 rw [if_pos ⟨one_ok, two_ok⟩, hs]
theorem awake_groupOk : GroupOk oneA_ [0] [⟨0, 0, false⟩] := by
 have hkeys : ∀ row ∈ oneA_, keyOf [0] row = row := fun row hrow => by
  simp only [oneA_, List.mem_cons, List.not_mem_nil, or_false] at hrow
  rcases hrow with rfl | rfl | rfl <;> rfl
 have hks : ∀ key ∈ keysR [0] oneA_, key ∈ oneA_ := fun key hkey => by
  unfold keysR at hkey
  rw [if_neg (by simp)] at hkey
  have h1 := distR_mem _ _ _ ((sortR_perm _ _).mem_iff.1 hkey)
  obtain ⟨row, hrow, rfl⟩ := List.mem_map.1 h1
  rw [hkeys row hrow]
  exact hrow
 refine ⟨one_ok, by simp, by simp, fun a ha => by simpa using ha, fun row hrow => by rw [hkeys row hrow]; exact one_ok.1 row hrow, fun row hrow => ?_, fun key hkey => one_ok.1 key (hks key hkey), ?_⟩
 · have : [rd_T36 row 0] = row := by
    simp only [oneA_, List.mem_cons, List.not_mem_nil, or_false] at hrow
    rcases hrow with rfl | rfl | rfl <;> rfl
   rw [this]
   exact one_ok.1 row hrow
 · unfold keysR
   rw [if_neg (by simp), (sortR_perm _ _).length_eq]
   exact Nat.le_trans (distR_len _ _) (by simp)
theorem awake_group : groupR [0] oneA_ 1 = [[iV 1, iV 2], [iV 2, iV 1]] := by
 have h21 : nameOf [iV 2] ≠ nameOf [iV 1] := ne_iV (by decide)
 have hm : oneA_.map (keyOf [0]) = oneA_ := rfl
 have hd : distR [] oneA_ = [[iV 2], [iV 1]] := by
  simp only [oneA_, distR]
  simp [h21.symm]
 have hk : keysR [0] oneA_ = [[iV 1], [iV 2]] := by
  unfold keysR
  rw [if_neg (by simp), hm, hd]
  refine (sortR_unique (fun row hrow => ?_) (List.Perm.swap _ _ _) ?_).symm
  · exact validB_valid (valid_ints [[iV 2], [iV 1]] (fun r hr => by
     simp only [List.mem_cons, List.not_mem_nil, or_false] at hr
     rcases hr with rfl | rfl <;> exact ⟨_, rfl⟩)) row hrow
  · refine List.Pairwise.cons (fun r hr => ?_) (List.Pairwise.cons (fun r hr => by cases hr) List.Pairwise.nil)
    obtain rfl : r = [iV 2] := by simpa using hr
    unfold cmpFull
    simp only [cmpBy, cmpRows, cmp_iV]
    decide
 have l1 : (listR [0] oneA_ (nameOf [iV 1])).length = 2 := by
  unfold listR
  have e1 : nameOf (keyOf [0] [iV 2]) ≠ nameOf [iV 1] := h21
  have e2 : nameOf (keyOf [0] [iV 1]) = nameOf [iV 1] := rfl
  simp [oneA_, e1, e2]
 have l2 : (listR [0] oneA_ (nameOf [iV 2])).length = 1 := by
  unfold listR
  have e1 : nameOf (keyOf [0] [iV 2]) = nameOf [iV 2] := rfl
  have e2 : nameOf (keyOf [0] [iV 1]) ≠ nameOf [iV 2] := h21.symm
  simp [oneA_, e1, e2]
 unfold groupR
 rw [hk]
 simp only [List.map_cons, List.map_nil, groupRow, l1, l2]
 rfl
theorem new_at (w : World) (cs : Array Value) (t : TypeId) : (w.alloc (.cells cs t)).heap[w.heap.size]? = some (.cells cs t (0, 0)) := heap_alloc_new _ _
theorem kept_at {w W : World} {b : Nat} {o : Obj} (h : w.heap[b]? = some o) (hb : Below w.heap.size w W) : W.heap[b]? = some o := (hb.block b (blk_lt h)).trans h
theorem new_at1 (w : World) (o : Obj) (cs : Array Value) (t : TypeId) : ((w.alloc o).alloc (.cells cs t)).heap[w.heap.size + 1]? = some (.cells cs t (0, 0)) := by
 have h := heap_alloc_new (w.alloc o) (.cells cs t)
 rw [show (w.alloc o).heap.size = w.heap.size + 1 by simp] at h
 exact h
theorem below2 (w : World) (o p : Obj) : Below w.heap.size w ((w.alloc o).alloc p) := ((Below.refl w.heap.size w).alloc (Nat.le_refl _) o).alloc (by simp) p
theorem kept_alloc {w : World} {b : Nat} {o : Obj} (h : w.heap[b]? = some o) (x : Obj) : (w.alloc x).heap[b]? = some o := (Below.heap_alloc w x b (blk_lt h)).trans h
theorem C_one {α : Type} {d : Kd α} {W : World} {b : Nat} {t : TypeId} {cs : Array Value} (x : α) (h : W.heap[b]? = some (.cells cs t (0, 0))) (hl : cs.toList.length = d.sz) (hk : d.K W x cs.toList) : Kd.C d W (some ⟨b, 0, none⟩) [x].length [x] := by
 refine ⟨rfl, by simp, fun _ => ⟨⟨b, 0, none⟩, rfl, fun j p hj => ?_⟩⟩
 cases j with
 | succ j => simp at hj
 | zero =>
  obtain rfl : x = p := by simpa using hj
  refine ⟨cs.toList, hl, hk, fun i u hi => ?_⟩
  have h := blk_cell h i
  rw [add_plain, Nat.zero_mul, Nat.zero_add]
  refine h.trans ?_
  simpa using hi
theorem C_three {W : World} {b : Nat} {t : TypeId} (x y z : Int) (h : W.heap[b]? = some (.cells #[.int .u8 1, .int .i64 x, .string ⟨#[]⟩, .int .u8 1, .int .i64 y, .string ⟨#[]⟩, .int .u8 1, .int .i64 z, .string ⟨#[]⟩] t (0, 0))) : Kd.C kV W (some ⟨b, 0, none⟩) [iV x, iV y, iV z].length [iV x, iV y, iV z] := by
 refine ⟨rfl, by simp, fun _ => ⟨⟨b, 0, none⟩, rfl, fun j p hj => ?_⟩⟩
 match j, hj with
 | 0, hj =>
  obtain rfl : iV x = p := by simpa using hj
  refine ⟨[.int .u8 1, .int .i64 x, .string ⟨#[]⟩], rfl, kV.K_of_M (base := 0) (ok := fun _ => True) (k36_mkM _ _ _ (iV x)), fun i u hi => ?_⟩
  have h := blk_cell h (0 * 3 + i)
  rw [add_plain]
  refine h.trans ?_
  match i, hi with
  | 0, hi => simpa using hi
  | 1, hi => simpa using hi
  | 2, hi => simpa using hi
  | i + 3, hi => simp at hi
 | 1, hj =>
  obtain rfl : iV y = p := by simpa using hj
  refine ⟨[.int .u8 1, .int .i64 y, .string ⟨#[]⟩], rfl, kV.K_of_M (base := 0) (ok := fun _ => True) (k36_mkM _ _ _ (iV y)), fun i u hi => ?_⟩
  have h := blk_cell h (1 * 3 + i)
  rw [add_plain]
  refine h.trans ?_
  match i, hi with
  | 0, hi => simpa using hi
  | 1, hi => simpa using hi
  | 2, hi => simpa using hi
  | i + 3, hi => simp at hi
 | 2, hj =>
  obtain rfl : iV z = p := by simpa using hj
  refine ⟨[.int .u8 1, .int .i64 z, .string ⟨#[]⟩], rfl, kV.K_of_M (base := 0) (ok := fun _ => True) (k36_mkM _ _ _ (iV z)), fun i u hi => ?_⟩
  have h := blk_cell h (2 * 3 + i)
  rw [add_plain]
  refine h.trans ?_
  match i, hi with
  | 0, hi => simpa using hi
  | 1, hi => simpa using hi
  | 2, hi => simpa using hi
  | i + 3, hi => simp at hi
 | j + 3, hj => simp at hj
theorem C_two {W : World} {b : Nat} {t : TypeId} (x y : Int) (h : W.heap[b]? = some (.cells #[.int .u8 1, .int .i64 x, .string ⟨#[]⟩, .int .u8 1, .int .i64 y, .string ⟨#[]⟩] t (0, 0))) : Kd.C kV W (some ⟨b, 0, none⟩) [iV x, iV y].length [iV x, iV y] := by
 refine ⟨rfl, by simp, fun _ => ⟨⟨b, 0, none⟩, rfl, fun j p hj => ?_⟩⟩
 match j, hj with
 | 0, hj =>
  obtain rfl : iV x = p := by simpa using hj
  refine ⟨[.int .u8 1, .int .i64 x, .string ⟨#[]⟩], rfl, kV.K_of_M (base := 0) (ok := fun _ => True) (k36_mkM _ _ _ (iV x)), fun i u hi => ?_⟩
  have h := blk_cell h (0 * 3 + i)
  rw [add_plain]
  refine h.trans ?_
  match i, hi with
  | 0, hi => simpa using hi
  | 1, hi => simpa using hi
  | 2, hi => simpa using hi
  | i + 3, hi => simp at hi
 | 1, hj =>
  obtain rfl : iV y = p := by simpa using hj
  refine ⟨[.int .u8 1, .int .i64 y, .string ⟨#[]⟩], rfl, kV.K_of_M (base := 0) (ok := fun _ => True) (k36_mkM _ _ _ (iV y)), fun i u hi => ?_⟩
  have h := blk_cell h (1 * 3 + i)
  rw [add_plain]
  refine h.trans ?_
  match i, hi with
  | 0, hi => simpa using hi
  | 1, hi => simpa using hi
  | 2, hi => simpa using hi
  | i + 3, hi => simp at hi
 | j + 2, hj => simp at hj
theorem awake_calls (w : World) (hT : LaidT w) : Calls Tryz.prog 13 #[] w fun e w' => e = .returned (.bool true) ∧ Below w.heap.size w w' := by
 have HT := Aside0.mk hT
 clear hT
 go_enter Tryz.func13, Tryz.ntmps13
 go_wp2_with fail
 refine (r1_Int.calls 2 1 2 ⟨#[]⟩ w rfl).mono ?_
 rintro e w1 ⟨rfl, hb1⟩
 have HB1 := Aside0.mk hb1; clear hb1
 go_wp2_with fail
 refine (r1_Int.calls 1 1 1 ⟨#[]⟩ _ rfl).mono ?_
 rintro e w2 ⟨rfl, hb2⟩
 have A1 := Aside0.mk (kept_at (new_at w1 _ _) hb2)
 have HB2 := Aside0.mk (HB1.out.trans (((Below.refl w1.heap.size w1).alloc (Nat.le_refl _) _ |>.trans (hb2.mono (by simp))).mono HB1.out.size)); clear hb2
 go_wp2_with fail
 refine (r1_Int.calls 1 1 1 ⟨#[]⟩ _ rfl).mono ?_
 rintro e w3 ⟨rfl, hb3⟩
 have A2 := Aside0.mk (kept_at (new_at w2 _ _) hb3)
 have A1' := Aside0.mk (kept_at (kept_alloc A1.out _) hb3)
 have HB3 := Aside0.mk (HB2.out.trans (((Below.refl w2.heap.size w2).alloc (Nat.le_refl _) _ |>.trans (hb3.mono (by simp))).mono HB2.out.size)); clear hb3 A1
 go_wp2_with fail
 refine (r1_Int.calls 1 1 1 ⟨#[]⟩ _ rfl).mono ?_
 rintro e w4 ⟨rfl, hb4⟩
 have HG := Aside0.mk (kept_at (new_at1 w3 (.cells #[.int .u8 1, .int .i64 1, .string ⟨#[]⟩] 36) _ _) hb4)
 have HA3 := Aside0.mk (kept_at (kept_alloc (new_at w3 _ _) (.cells #[.slice (some ⟨w1.heap.size, 0, none⟩) 1 1, .slice (some ⟨w2.heap.size, 0, none⟩) 1 1, .slice (some ⟨w3.heap.size, 0, none⟩) 1 1] 53)) hb4)
 have HA2 := Aside0.mk (kept_at (kept_alloc (kept_alloc A2.out (.cells #[.int .u8 1, .int .i64 1, .string ⟨#[]⟩] 36)) (.cells #[.slice (some ⟨w1.heap.size, 0, none⟩) 1 1, .slice (some ⟨w2.heap.size, 0, none⟩) 1 1, .slice (some ⟨w3.heap.size, 0, none⟩) 1 1] 53)) hb4)
 have HA1 := Aside0.mk (kept_at (kept_alloc (kept_alloc A1'.out (.cells #[.int .u8 1, .int .i64 1, .string ⟨#[]⟩] 36)) (.cells #[.slice (some ⟨w1.heap.size, 0, none⟩) 1 1, .slice (some ⟨w2.heap.size, 0, none⟩) 1 1, .slice (some ⟨w3.heap.size, 0, none⟩) 1 1] 53)) hb4)
 have HB4 := Aside0.mk (HB3.out.trans ((below2 w3 (.cells #[.int .u8 1, .int .i64 1, .string ⟨#[]⟩] 36) (.cells #[.slice (some ⟨w1.heap.size, 0, none⟩) 1 1, .slice (some ⟨w2.heap.size, 0, none⟩) 1 1, .slice (some ⟨w3.heap.size, 0, none⟩) 1 1] 53)).mono HB3.out.size |>.trans (hb4.mono (by have := HB3.out.size; simp; omega))))
 clear hb4 A1' A2
 have HONE : Aside0 (kRow.C w4 (some ⟨w3.heap.size + 1, 0, none⟩) oneA_.length oneA_) := ⟨C_rows HG.out (by simp) (fun j row hj => by
  match j, hj with
  | 0, hj =>
   obtain rfl : [iV 2] = row := by simpa [oneA_] using hj
   exact ⟨_, 1, rfl, by simp, C_row1 (iV 2) HA1.out⟩
  | 1, hj =>
   obtain rfl : [iV 1] = row := by simpa [oneA_] using hj
   exact ⟨_, 1, rfl, by simp, C_row1 (iV 1) HA2.out⟩
  | 2, hj =>
   obtain rfl : [iV 1] = row := by simpa [oneA_] using hj
   exact ⟨_, 1, rfl, by simp, C_row1 (iV 1) HA3.out⟩
  | j + 3, hj => simp [oneA_] at hj)⟩
 clear HG HA1 HA2 HA3
 obtain ⟨g1, hg1⟩ : ∃ g1, g1 = w3.heap.size + 1 := ⟨_, rfl⟩
 rw [← hg1] at HONE
 rw [← hg1]
 clear hg1
 go_wp2_with fail
 refine (r1_Int.calls 3 1 3 ⟨#[]⟩ _ rfl).mono ?_
 rintro e w5 ⟨rfl, hb5⟩
 have A4 := Aside0.mk (kept_at (new_at w4 _ _) hb5)
 have HB5 := Aside0.mk (HB4.out.trans (((Below.refl w4.heap.size w4).alloc (Nat.le_refl _) (.cells #[.int .u8 1, .int .i64 1, .string ⟨#[]⟩] 36) |>.trans (hb5.mono (by simp))).mono HB4.out.size))
 have HONE5 := Aside0.mk (Kd.C_below HONE.out ((Below.refl w4.heap.size w4).alloc (Nat.le_refl _) (.cells #[.int .u8 1, .int .i64 1, .string ⟨#[]⟩] 36) |>.trans (hb5.mono (by simp))))
 clear hb5 HONE
 go_wp2_with fail
 have HG := Aside0.mk (new_at1 w5 (.cells #[.int .u8 1, .int .i64 3, .string ⟨#[]⟩] 36) #[.slice (some ⟨w4.heap.size, 0, none⟩) 1 1, .slice (some ⟨w5.heap.size, 0, none⟩) 1 1] 53)
 have HA5 := Aside0.mk (kept_alloc (new_at w5 #[.int .u8 1, .int .i64 3, .string ⟨#[]⟩] 36) (.cells #[.slice (some ⟨w4.heap.size, 0, none⟩) 1 1, .slice (some ⟨w5.heap.size, 0, none⟩) 1 1] 53))
 have HA4 := Aside0.mk (kept_alloc (kept_alloc A4.out (.cells #[.int .u8 1, .int .i64 3, .string ⟨#[]⟩] 36)) (.cells #[.slice (some ⟨w4.heap.size, 0, none⟩) 1 1, .slice (some ⟨w5.heap.size, 0, none⟩) 1 1] 53))
 have HB6 := Aside0.mk (HB5.out.trans ((below2 w5 (.cells #[.int .u8 1, .int .i64 3, .string ⟨#[]⟩] 36) (.cells #[.slice (some ⟨w4.heap.size, 0, none⟩) 1 1, .slice (some ⟨w5.heap.size, 0, none⟩) 1 1] 53)).mono HB5.out.size))
 have HONE6 := Aside0.mk (Kd.C_below HONE5.out (below2 w5 (.cells #[.int .u8 1, .int .i64 3, .string ⟨#[]⟩] 36) (.cells #[.slice (some ⟨w4.heap.size, 0, none⟩) 1 1, .slice (some ⟨w5.heap.size, 0, none⟩) 1 1] 53)))
 have HTWO : Aside0 (kRow.C ((w5.alloc (.cells #[.int .u8 1, .int .i64 3, .string ⟨#[]⟩] 36)).alloc (.cells #[.slice (some ⟨w4.heap.size, 0, none⟩) 1 1, .slice (some ⟨w5.heap.size, 0, none⟩) 1 1] 53)) (some ⟨w5.heap.size + 1, 0, none⟩) twoA_.length twoA_) := ⟨C_rows HG.out (by simp) (fun j row hj => by
  match j, hj with
  | 0, hj =>
   obtain rfl : [iV 1] = row := by simpa [twoA_] using hj
   exact ⟨_, 1, rfl, by simp, C_row1 (iV 1) HA4.out⟩
  | 1, hj =>
   obtain rfl : [iV 3] = row := by simpa [twoA_] using hj
   exact ⟨_, 1, rfl, by simp, C_row1 (iV 3) HA5.out⟩
  | j + 2, hj => simp [twoA_] at hj)⟩
 clear HG HA4 HA5 A4 HONE5
 obtain ⟨g2, hg2⟩ : ∃ g2, g2 = w5.heap.size + 1 := ⟨_, rfl⟩
 rw [← hg2] at HTWO
 rw [← hg2]
 clear hg2
 obtain ⟨W6, hW6⟩ : ∃ W6, W6 = (w5.alloc (.cells #[.int .u8 1, .int .i64 3, .string ⟨#[]⟩] 36)).alloc (.cells #[.slice (some ⟨w4.heap.size, 0, none⟩) 1 1, .slice (some ⟨w5.heap.size, 0, none⟩) 1 1] 53) := ⟨_, rfl⟩
 rw [← hW6] at HTWO HONE6 HB6
 rw [← hW6]
 clear hW6
 obtain ⟨met, left, hsp, hll⟩ := awake_except
 have HLL := Aside0.mk hll
 refine (split_Except _ _ oneA_ _ _ twoA_ met left 0 W6 HONE6.out (by simp) HTWO.out (by simp) (HT.out.below HB6.out) hsp).mono ?_
 rintro e w7 ⟨v0, rfl, ⟨Av, cv, hv0, hlv, hF⟩, hb7⟩
 rw [HLL.out] at hv0
 subst hv0
 have HB7 := Aside0.mk (HB6.out.trans (hb7.mono HB6.out.size))
 have HONE7 := Aside0.mk (Kd.C_below HONE6.out hb7)
 have HTWO7 := Aside0.mk (Kd.C_below HTWO.out hb7)
 clear hsp hll hlv hF hb7 HONE6 HTWO
 go_wp2_with fail
 have hBK : Below w7.heap.size w7 (w7.alloc (.cells #[.int .i64 0, .bool true] 64)) := (Below.refl _ w7).alloc (Nat.le_refl _) _
 have HB8 := Aside0.mk (HB7.out.trans (hBK.mono HB7.out.size))
 have HKY : Aside0 (kKey.C (w7.alloc (.cells #[.int .i64 0, .bool true] 64)) (some ⟨w7.heap.size, 0, none⟩) [(⟨0, true⟩ : KeyT)].length [⟨0, true⟩]) := ⟨C_one (⟨0, true⟩ : KeyT) (new_at w7 _ _) rfl (kKey.K_of_M (base := 0) (ok := fun _ => True) (k64_mkM _ _ _ ⟨0, true⟩))⟩
 have HONE8 := Aside0.mk (Kd.C_below HONE7.out hBK)
 have HTWO8 := Aside0.mk (Kd.C_below HTWO7.out hBK)
 clear HONE7 HTWO7 hBK
 refine (bag_Cut.calls (some ⟨g1, 0, none⟩) 3 oneA_ (some ⟨w7.heap.size, 0, none⟩) 1 [⟨0, true⟩] 0 1 [[iV 2]] 0 _ HONE8.out (by simp) HKY.out (by simp) awake_cut).mono ?_
 rintro e w9 ⟨v1, rfl, ⟨Ac, cc, hv1, hlc, hFc⟩, hb9⟩
 have hv1 : v1 = .slice Ac 1 cc := hv1
 subst hv1
 have HCUT := Aside0.mk (Kd.F_now hFc)
 have HCL := Aside0.mk hlc
 have HB9 := Aside0.mk (HB8.out.trans (hb9.mono HB8.out.size))
 have HONE9 := Aside0.mk (Kd.C_below HONE8.out hb9)
 have HTWO9 := Aside0.mk (Kd.C_below HTWO8.out hb9)
 clear hlc hFc hb9 HONE8 HTWO8 HKY
 go_wp2_with fail
 have hBG : Below w9.heap.size w9 ((w9.alloc (.cells #[.int .i64 0] 3)).alloc (.cells #[.int .u8 0, .int .i64 0, .bool false] 55)) := below2 w9 _ _
 have HB10 := Aside0.mk (HB9.out.trans (hBG.mono HB9.out.size))
 have HCO : Aside0 ((Kd.int .i64).C ((w9.alloc (.cells #[.int .i64 0] 3)).alloc (.cells #[.int .u8 0, .int .i64 0, .bool false] 55)) (some ⟨w9.heap.size, 0, none⟩) [(0 : Int)].length [0]) := ⟨C_one (d := Kd.int .i64) (0 : Int) (kept_alloc (new_at w9 _ _) _) rfl rfl⟩
 have HAG : Aside0 (kAgg.C ((w9.alloc (.cells #[.int .i64 0] 3)).alloc (.cells #[.int .u8 0, .int .i64 0, .bool false] 55)) (some ⟨w9.heap.size + 1, 0, none⟩) [(⟨0, 0, false⟩ : AggT)].length [⟨0, 0, false⟩]) := ⟨C_one (⟨0, 0, false⟩ : AggT) (new_at1 w9 _ _ _) rfl (kAgg.K_of_M (base := 0) (ok := fun _ => True) (k55_mkM _ _ _ ⟨0, 0, false⟩))⟩
 have HONE10 := Aside0.mk (Kd.C_below HONE9.out hBG)
 have HTWO10 := Aside0.mk (Kd.C_below HTWO9.out hBG)
 have HCUT10 := Aside0.mk (Kd.C_below HCUT.out hBG)
 clear hBG HONE9 HTWO9 HCUT
 have hgr := group_good (some ⟨g1, 0, none⟩) 3 oneA_ (some ⟨w9.heap.size, 0, none⟩) 1 [0] (some ⟨w9.heap.size + 1, 0, none⟩) 1 [⟨0, 0, false⟩] _ HONE10.out (by simp) HCO.out HAG.out (HT.out.below HB10.out) awake_groupOk one_valid (fun n hn => by
  obtain rfl : n = 0 := by simpa using hn
  decide)
 clear HCO HAG
 refine hgr.mono ?_
 clear hgr
 rintro e w11 ⟨v2, rfl, ⟨Ag, cg, hv2, hlg, hFg⟩, hb11⟩
 have hg := Kd.F_now hFg
 rw [show groupR [0] oneA_ [(⟨0, 0, false⟩ : AggT)].length = [[iV 1, iV 2], [iV 2, iV 1]] from awake_group] at hv2 hlg hg
 have hv2 : v2 = .slice Ag 2 cg := hv2
 subst hv2
 have HGR := Aside0.mk hg
 have HGL := Aside0.mk hlg
 have HB11 := Aside0.mk (HB10.out.trans (hb11.mono HB10.out.size))
 have HONE11 := Aside0.mk (Kd.C_below HONE10.out hb11)
 have HTWO11 := Aside0.mk (Kd.C_below HTWO10.out hb11)
 have HCUT11 := Aside0.mk (Kd.C_below HCUT10.out hb11)
 clear hlg hFg hg hb11 HONE10 HTWO10 HCUT10
 go_wp2_with fail
 have hBO : Below w11.heap.size w11 (w11.alloc (.cells #[.slice Ag 2 cg, .int .i64 0] 45)) := (Below.refl _ w11).alloc (Nat.le_refl _) _
 have HOC := Aside0.mk (new_at w11 #[.slice Ag 2 cg, .int .i64 0] 45)
 obtain ⟨W12, hW12⟩ : ∃ W12, W12 = w11.alloc (.cells #[.slice Ag 2 cg, .int .i64 0] 45) := ⟨_, rfl⟩
 obtain ⟨go, hgo⟩ : ∃ go, go = w11.heap.size := ⟨_, rfl⟩
 rw [← hW12] at hBO HOC
 rw [← hgo] at HOC
 rw [← hW12, ← hgo]
 have HB12 := Aside0.mk (HB11.out.trans (hBO.mono HB11.out.size))
 have HBW : Aside0 (Below w11.heap.size w11 W12) := ⟨hBO⟩
 clear hBO hW12 hgo
 refine (r1_Int.calls 9223372036854775807 1 9223372036854775807 ⟨#[]⟩ _ rfl).mono ?_
 rintro e w13 ⟨rfl, hb13⟩
 have HB13 := Aside0.mk hb13
 clear hb13
 go_wp2_with fail
 refine (r1_Int.calls 1 1 1 ⟨#[]⟩ _ rfl).mono ?_
 rintro e w14 ⟨rfl, hb14⟩
 have HB14 := Aside0.mk (HB13.out.trans (hb14.mono HB13.out.size))
 clear hb14 HB13
 go_wp2_with fail
 refine (r1_Int.calls (-1) 1 (-1) ⟨#[]⟩ _ rfl).mono ?_
 rintro e w15 ⟨rfl, hb15⟩
 have HB15 := Aside0.mk (HB14.out.trans (hb15.mono HB14.out.size))
 clear hb15 HB14
 go_wp2_with fail
 have hb16 : Below w15.heap.size w15 (w15.alloc (.cells #[.int .u8 1, .int .i64 9223372036854775807, .string ⟨#[]⟩, .int .u8 1, .int .i64 1, .string ⟨#[]⟩, .int .u8 1, .int .i64 (-1), .string ⟨#[]⟩] 36)) := (Below.refl _ w15).alloc (Nat.le_refl _) _
 have HB16 : Aside0 (Below W12.heap.size W12 (w15.alloc (.cells #[.int .u8 1, .int .i64 9223372036854775807, .string ⟨#[]⟩, .int .u8 1, .int .i64 1, .string ⟨#[]⟩, .int .u8 1, .int .i64 (-1), .string ⟨#[]⟩] 36))) := ⟨HB15.out.trans (hb16.mono HB15.out.size)⟩
 have hc3 := C_three 9223372036854775807 1 (-1) (new_at w15 #[.int .u8 1, .int .i64 9223372036854775807, .string ⟨#[]⟩, .int .u8 1, .int .i64 1, .string ⟨#[]⟩, .int .u8 1, .int .i64 (-1), .string ⟨#[]⟩] 36)
 clear hb16
 refine (bag_Aggregate.calls 2 false (some ⟨w15.heap.size, 0, none⟩) 3 [iV 9223372036854775807, iV 1, iV (-1)] 1 9223372036854775807 ⟨#[]⟩ 0 _ hc3 (by simp) (HT.out.below (HB12.out.trans (HB16.out.mono HB12.out.size))) awake_agg).mono ?_
 clear hc3
 rintro e w17 ⟨rfl, hb17⟩
 have HB17 := Aside0.mk (HB16.out.trans (hb17.mono HB16.out.size))
 clear hb17 HB16 HB15
 have HOC17 := Aside0.mk (kept_at HOC.out HB17.out)
 have o1 : w17.cell? ⟨go, 1, none⟩ = some (.int .i64 0) := (blk_cell HOC17.out 1).trans rfl
 have o0 : w17.cell? ⟨go, 0, none⟩ = some (.slice Ag 2 cg) := (blk_cell HOC17.out 0).trans rfl
 have hgs : go ≠ w17.heap.size := by have := blk_lt HOC17.out; omega
 have o2 : (w17.alloc (.cells #[.int .u8 1, .int .i64 9223372036854775807, .string ⟨#[]⟩, .int .i64 0] 38)).cell? ⟨go, 1, none⟩ = some (.int .i64 0) := (blk_cell (kept_alloc HOC17.out _) 1).trans rfl
 have o3 : (w17.alloc (.cells #[.int .u8 1, .int .i64 9223372036854775807, .string ⟨#[]⟩, .int .i64 0] 38)).cell? ⟨go, 0, none⟩ = some (.slice Ag 2 cg) := (blk_cell (kept_alloc HOC17.out _) 0).trans rfl
 go_wp2_with fail
 clear o0 o1 o2 o3 hgs
 have HOC20 := Aside0.mk (kept_alloc HOC17.out (.cells #[.int .u8 1, .int .i64 9223372036854775807, .string ⟨#[]⟩, .int .i64 0] 38))
 have HSC20 := Aside0.mk (new_at w17 #[.int .u8 1, .int .i64 9223372036854775807, .string ⟨#[]⟩, .int .i64 0] 38)
 have hb20 : Below w17.heap.size w17 (w17.alloc (.cells #[.int .u8 1, .int .i64 9223372036854775807, .string ⟨#[]⟩, .int .i64 0] 38)) := (Below.refl _ w17).alloc (Nat.le_refl _) _
 have hb1120 : Below w11.heap.size w11 (w17.alloc (.cells #[.int .u8 1, .int .i64 9223372036854775807, .string ⟨#[]⟩, .int .i64 0] 38)) := HBW.out.trans ((HB17.out.trans (hb20.mono HB17.out.size)).mono HBW.out.size)
 have HB20 := Aside0.mk (HB11.out.trans (hb1120.mono HB11.out.size))
 have HONE20 := Aside0.mk (Kd.C_below HONE11.out hb1120)
 have HTWO20 := Aside0.mk (Kd.C_below HTWO11.out hb1120)
 have HCUT20 := Aside0.mk (Kd.C_below HCUT11.out hb1120)
 have HGR20 := Aside0.mk (Kd.C_below HGR.out hb1120)
 clear hb20 hb1120
 obtain ⟨W20, hW20⟩ : ∃ W20, W20 = w17.alloc (.cells #[.int .u8 1, .int .i64 9223372036854775807, .string ⟨#[]⟩, .int .i64 0] 38) := ⟨_, rfl⟩
 obtain ⟨so, hso⟩ : ∃ so, so = w17.heap.size := ⟨_, rfl⟩
 rw [← hW20] at HOC20 HSC20 HB20 HONE20 HTWO20 HCUT20 HGR20
 rw [← hso] at HSC20
 rw [← hW20, ← hso]
 clear hW20 hso
 have HKEEP : Aside0 (∀ W', Below W20.heap.size W20 W' → W'.cell? ⟨so, 1, none⟩ = some (.int .i64 9223372036854775807) ∧ W'.cell? ⟨go, 0, none⟩ = some (.slice Ag 2 cg)) := ⟨fun W' hb => ⟨(blk_cell (kept_at HSC20.out hb) 1).trans rfl, (blk_cell (kept_at HOC20.out hb) 0).trans rfl⟩⟩
 have HTAKE : Aside0 (kRow.C W20 (some ⟨g1, 0, none⟩) 1 [[iV 2]]) := ⟨Kd.C_take (m := 1) HONE20.out (by simp)⟩
 have HTAKG : Aside0 (kRow.C W20 Ag 1 [[iV 1, iV 2]]) := ⟨Kd.C_take (m := 1) HGR20.out (by simp)⟩
 have HC1 : Aside0 (∀ W', Below W20.heap.size W20 W' → Calls Tryz.prog 19 #[.slice Ac 1 cc, .slice (some ⟨g1, 0, none⟩) 1 3] W' fun e w' => e = .returned (.bool true) ∧ Below W'.heap.size W' w') := ⟨fun W' hb => by
  obtain ⟨k, hk⟩ := (sameLists_refl [[iV 2]] (by simp) (by simp)).rounds
  exact r6_SameLists.calls k Ac cc [[iV 2]] (some ⟨g1, 0, none⟩) 3 [[iV 2]] true W' (Kd.C_below HCUT20.out hb) HCL.out (Kd.C_below HTAKE.out hb) (by simp) hk⟩
 have HC4 : Aside0 (∀ W' b, Below W20.heap.size W20 W' → kRow.C W' (some ⟨b, 0, none⟩) 1 [[iV 1, iV 2]] → Calls Tryz.prog 19 #[.slice Ag 1 cg, .slice (some ⟨b, 0, none⟩) 1 1] W' fun e w' => e = .returned (.bool true) ∧ Below W'.heap.size W' w') := ⟨fun W' b hb hc => by
  obtain ⟨k, hk⟩ := (sameLists_refl [[iV 1, iV 2]] (by simp) (by simp)).rounds
  exact r6_SameLists.calls k Ag cg [[iV 1, iV 2]] (some ⟨b, 0, none⟩) 1 [[iV 1, iV 2]] true W' (Kd.C_below HTAKG.out hb) (Nat.le_trans (by simp) HGL.out) hc (by simp) hk⟩
 have HC5 : Aside0 (∀ W', Below W20.heap.size W20 W' → Calls Tryz.prog 12 #[.slice (some ⟨g1, 0, none⟩) 3 3] W' fun e w' => e = .returned (.bool true) ∧ Below W'.heap.size W' w') := ⟨fun W' hb => by
  obtain ⟨k, hk⟩ := (valid_ev oneA_ one_ok.v).rounds
  rw [one_valid] at hk
  exact bag_Valid.calls k (some ⟨g1, 0, none⟩) 3 oneA_ true W' (Kd.C_below HONE20.out hb) (by simp) hk⟩
 have HC6 : Aside0 (∀ W', Below W20.heap.size W20 W' → Calls Tryz.prog 15 #[.slice (some ⟨g1, 0, none⟩) 3 3, .slice (some ⟨g2, 0, none⟩) 2 2] W' fun e w' => e = .returned (.bool false) ∧ Below W'.heap.size W' w') := ⟨fun W' hb =>
  bag_Same.calls (some ⟨g1, 0, none⟩) 3 oneA_ (some ⟨g2, 0, none⟩) 2 twoA_ false W' (Kd.C_below HONE20.out hb) (by simp) (Kd.C_below HTWO20.out hb) (by simp) (HT.out.below (HB20.out.trans (hb.mono HB20.out.size))) awake_same⟩
 have HNEW : Aside0 (∀ (w : World), kRow.C ((w.alloc (.cells #[.int .u8 1, .int .i64 1, .string ⟨#[]⟩, .int .u8 1, .int .i64 2, .string ⟨#[]⟩] 36)).alloc (.cells #[.slice (some ⟨w.heap.size, 0, none⟩) 2 2] 53)) (some ⟨w.heap.size + 1, 0, none⟩) 1 [[iV 1, iV 2]]) := ⟨fun w => by
  have h1 := new_at1 w (.cells #[.int .u8 1, .int .i64 1, .string ⟨#[]⟩, .int .u8 1, .int .i64 2, .string ⟨#[]⟩] 36) #[.slice (some ⟨w.heap.size, 0, none⟩) 2 2] 53
  have h2 := kept_alloc (new_at w #[.int .u8 1, .int .i64 1, .string ⟨#[]⟩, .int .u8 1, .int .i64 2, .string ⟨#[]⟩] 36) (.cells #[.slice (some ⟨w.heap.size, 0, none⟩) 2 2] 53)
  exact C_rows (l := [[iV 1, iV 2]]) h1 (by simp) (fun j row hj => by
   match j, hj with
   | 0, hj =>
    obtain rfl : [iV 1, iV 2] = row := by simpa using hj
    exact ⟨_, 2, rfl, by simp, C_two 1 2 h2⟩
   | j + 1, hj => simp at hj)⟩
 obtain ⟨i0, hi0, hzz⟩ := Option.map_eq_some_iff.1 infoRow
 simp only [Prod.mk.injEq] at hzz
 have hsl : ∀ W, (Instr.slice 22 (.slice Ag 2 cg) none (some (.int .i64 1)) none).run Tryz.prog W = .ok (.slice Ag 1 cg) W := (print_take_of (P := Tryz.prog) (Value.int .i64) (0 : Int) 22 53 .i64 Tryz.underlying22 hi0 hzz.2.1 Ag cg [0, 0] 1 (by omega) (by simp) HGL.out).1
 clear hzz hi0
 have HE : Aside0 (Below W20.heap.size W20 W20.drew) := ⟨(Below.refl _ W20).drew⟩
 have HE0 : Aside0 (Below W20.heap.size W20 W20) := ⟨Below.refl _ W20⟩
 go_region_held3 (fun W' => W'.cell? ⟨so, 1, none⟩ = some (.int .i64 9223372036854775807) ∧ W'.cell? ⟨go, 0, none⟩ = some (.slice Ag 2 cg)) (first | (with_reducible exact HKEEP.out _ HE0.out) | (with_reducible exact HKEEP.out _ HE.out) | (with_reducible exact HKEEP.out _ HBa.out) | (with_reducible exact HKEEP.out _ HBb.out) | (with_reducible exact HKEEP.out _ HBc.out) | (with_reducible exact HKEEP.out _ (HBc1.out _)) | (with_reducible exact HKEEP.out _ (HBc2.out _ _)) | (with_reducible exact HKEEP.out _ HBd.out) | (with_reducible exact HKEEP.out _ HBe.out) | (with_reducible exact HKEEP.out _ HBf.out)) (first
  | (go_at_call 19; (with_reducible refine (HC1.out W20.drew HE.out).mono ?_); rintro e wa ⟨rfl, hba⟩; have HBa := Aside0.mk (HE.out.trans (hba.mono HE.out.size)); clear hba)
  | (go_at_call 43; (with_reducible refine (r1_Int.calls 1 1 1 ⟨#[]⟩ wa rfl).mono ?_); rintro e wb ⟨rfl, hbb⟩; have HBb := Aside0.mk (HBa.out.trans (hbb.mono HBa.out.size)); clear hbb)
  | (go_at_call 43; (with_reducible refine (r1_Int.calls 2 1 2 ⟨#[]⟩ wa rfl).mono ?_); rintro e wb ⟨rfl, hbb⟩; have HBb := Aside0.mk (HBa.out.trans (hbb.mono HBa.out.size)); clear hbb)
  | (go_at_call 43; (with_reducible refine (r1_Int.calls 1 1 1 ⟨#[]⟩ wb rfl).mono ?_); rintro e wc ⟨rfl, hbc⟩; have HBc := Aside0.mk (HBb.out.trans (hbc.mono HBb.out.size)); have HBc1 : Aside0 (∀ o, Below W20.heap.size W20 (wc.alloc o)) := ⟨fun o => HBc.out.alloc HBc.out.size o⟩; have HBc2 : Aside0 (∀ o p, Below W20.heap.size W20 ((wc.alloc o).alloc p)) := ⟨fun o p => (HBc1.out o).alloc (HBc1.out o).size p⟩; clear hbc)
  | (go_at_call 43; (with_reducible refine (r1_Int.calls 2 1 2 ⟨#[]⟩ wb rfl).mono ?_); rintro e wc ⟨rfl, hbc⟩; have HBc := Aside0.mk (HBb.out.trans (hbc.mono HBb.out.size)); have HBc1 : Aside0 (∀ o, Below W20.heap.size W20 (wc.alloc o)) := ⟨fun o => HBc.out.alloc HBc.out.size o⟩; have HBc2 : Aside0 (∀ o p, Below W20.heap.size W20 ((wc.alloc o).alloc p)) := ⟨fun o p => (HBc1.out o).alloc (HBc1.out o).size p⟩; clear hbc)
  | (go_at_call 19; (with_reducible refine (HC4.out _ _ (HBc2.out _ _) (HNEW.out wc)).mono ?_); rintro e wd ⟨rfl, hbd⟩; have HBd := Aside0.mk ((HBc2.out _ _).trans (hbd.mono (HBc2.out _ _).size)); clear hbd)
  | (go_at_call 12; (with_reducible refine (HC5.out wd HBd.out).mono ?_); rintro e we ⟨rfl, hbe⟩; have HBe := Aside0.mk (HBd.out.trans (hbe.mono HBd.out.size)); clear hbe)
  | (go_at_call 15; (with_reducible refine (HC6.out we HBe.out).mono ?_); rintro e wf ⟨rfl, hbf⟩; have HBf := Aside0.mk (HBe.out.trans (hbf.mono HBe.out.size)); clear hbf))
 all_goals (go_wp2; go_ret; exact ⟨rfl, HB20.out.trans (HBf.out.mono HB20.out.size)⟩)
def w6_awake.f : Option Bool := some true
theorem w6_awake.calls (r : Bool) (w : World) (hT : LaidT w) (h : w6_awake.f = some r) : Calls Tryz.prog 13 #[] w fun e w' => e = .returned (.bool r) ∧ Below w.heap.size w w' := by
 obtain rfl : true = r := Option.some.inj h
 exact awake_calls w hT
end Go.Proofs.YtecgkcgfeghhgaaGreatDoor.PAll
namespace Go.Proofs.YtecgkcgfeghhgaaGreatDoor.PAll
open Go.RowKit Go.Proofs.YtecgkcgfeghhgaaGreatDoorW.PrintWords Go.Proofs.YtecgkcgfeghhgaaGreatDoorW.PrintLast Go.Proofs.YtecgkcgfeghhgaaGreatDoorW.PrintMore
attribute [local go_sem] max2_int min2_int max_two min_two max_three min_three max_four min_four
set_option linter.unusedVariables false
set_option linter.unusedSimpArgs false
noncomputable section
mutual
def w6_BagSets.j0 : Nat → List (List (S36)) → List (List (S36)) → Bool → Option (Bool)
 | 0, _, _, _ => none
 | k + 1, x0, x1, x30 => if x30 = true then (some false) else ((r6_Union.f k x0 x1).bind fun bt526 => ((bag_Union.f x0 x1).bind fun bt530 => (if bt530.2 = bt526.2 then ((r6_SameLists.f k bt530.1 bt526.1).bind fun t534 => (w6_BagSets.j1 k x0 x1 (!t534))) else (w6_BagSets.j1 k x0 x1 true))))
def w6_BagSets.j1 : Nat → List (List (S36)) → List (List (S36)) → Bool → Option (Bool)
 | 0, _, _, _ => none
 | k + 1, x0, x1, x51 => if x51 = true then (some false) else ((r6_Intersect.f k x0 x1).bind fun bt535 => ((bag_Intersect.f x0 x1).bind fun bt539 => (if bt539.2 = bt535.2 then ((r6_SameLists.f k bt539.1 bt535.1).bind fun t543 => (w6_BagSets.j2 k x0 x1 (!t543))) else (w6_BagSets.j2 k x0 x1 true))))
def w6_BagSets.j2 : Nat → List (List (S36)) → List (List (S36)) → Bool → Option (Bool)
 | 0, _, _, _ => none
 | k + 1, x0, x1, x72 => if x72 = true then (some false) else ((r6_Except.f k x0 x1).bind fun bt544 => ((bag_Except.f x0 x1).bind fun bt548 => (if bt548.2 = bt544.2 then ((r6_SameLists.f k bt548.1 bt544.1).bind fun t552 => (if t552 = true then ((w6_awake.f).bind fun t553 => (some t553)) else (some false))) else (some false))))
end
def w6_BagSets.f (k : Nat) (l0 : List (List (S36))) (l1 : List (List (S36))) : Option (Bool) := (r6_Distinct.f k l0).bind fun bt517 => ((bag_Distinct.f l0).bind fun bt521 => (if bt521.2 = bt517.2 then ((r6_SameLists.f k bt521.1 bt517.1).bind fun t525 => (w6_BagSets.j0 k l0 l1 (!t525))) else (w6_BagSets.j0 k l0 l1 true)))
theorem w6_BagSets.calls (k : Nat) (A0 : Option Addr) (c0 : Nat) (l0 : List (List (S36))) (A1 : Option Addr) (c1 : Nat) (l1 : List (List (S36))) (r : Bool) (w : World) (hr0 : Kd.C (Kd.slice 36 k36) w A0 l0.length l0) (hc0 : l0.length ≤ c0) (hr1 : Kd.C (Kd.slice 36 k36) w A1 l1.length l1) (hc1 : l1.length ≤ c1) (hT : LaidT w) (h : w6_BagSets.f k l0 l1 = some r) :
 Calls Tryz.prog 9 #[.slice A0 l0.length c0, .slice A1 l1.length c1] w fun e w' => e = .returned (.bool r) ∧ Below w.heap.size w w' := by
 have HT := Aside0.mk hT
 clear hT
 have HR0 := Aside0.mk hr0
 have HC0 := Aside0.mk hc0
 clear hr0 hc0
 have HR1 := Aside0.mk hr1
 have HC1 := Aside0.mk hc1
 clear hr1 hc1
 have HB := Aside0.mk (Below.refl w.heap.size w)
 have H : ((r6_Distinct.f k l0).bind fun bt517 => ((bag_Distinct.f l0).bind fun bt521 => (if bt521.2 = bt517.2 then ((r6_SameLists.f k bt521.1 bt517.1).bind fun t525 => (w6_BagSets.j0 k l0 l1 (!t525))) else (w6_BagSets.j0 k l0 l1 true)))) = some r := h
 clear h
 replace H := Option.bind_eq_some_iff.mp H
 obtain ⟨⟨t517, t520⟩, A30, H⟩ := H
 replace H : ((bag_Distinct.f l0).bind fun bt521 => (if bt521.2 = t520 then ((r6_SameLists.f k bt521.1 t517).bind fun t525 => (w6_BagSets.j0 k l0 l1 (!t525))) else (w6_BagSets.j0 k l0 l1 true))) = some r := H
 have A3 := Aside0.mk A30
 clear A30
 replace H := Option.bind_eq_some_iff.mp H
 obtain ⟨⟨t521, t524⟩, A40, H⟩ := H
 replace H : (if t524 = t520 then ((r6_SameLists.f k t521 t517).bind fun t525 => (w6_BagSets.j0 k l0 l1 (!t525))) else (w6_BagSets.j0 k l0 l1 true)) = some r := H
 have A4 := Aside0.mk A40
 clear A40
 have HC5 := Aside0.mk H
 clear H
 go_enter Tryz.func9, Tryz.ntmps9
 go_upto_region 3 with (first | ((with_reducible refine gate_callee (f := 30) rfl ?_); refine goesL_ (some 14) rfl rfl Tryz.func30 (by kernel_rfl) rfl #[.slice A0 l0.length c0] rfl (by (try simp only [List.map_toArray, List.map_cons, List.map_nil]); first | done | rfl | (simp only [List.length_drop, List.length_take]; rfl)) ?_; (with_reducible refine (r6_Distinct.calls k (fun k_ => k_ < w.heap.size) _ _ l0 t517 t520 _ ?side1 A3.out).mono ?_); (case side1 => exact Kd.V_mk HC0.out (Kd.F_below (Kd.C_F (Kd.heap_slice 36 k36_heap) HR0.out) (by repeat (first | (with_reducible first | exact HB.out | apply bA_ | apply bN_ | apply b1_) | exact HB.out)))); rintro e w6 ⟨v518, rfl, ho0, hb⟩; refine ⟨_, rfl, ?_⟩; have n0_ := Aside0.mk (Kd.V_lower (Kd.V_mono (ok' := fun k_ => True) ho0 (fun k_ hk_ => trivial)) (below_size (by repeat (first | (with_reducible first | exact HB.out | apply bA_ | apply bN_ | apply b1_) | exact HB.out)))); have n1_ := Aside0.mk (below_step (by repeat (first | (with_reducible first | exact HB.out | apply bA_ | apply bN_ | apply b1_) | exact HB.out)) hb); clear HB; have HO519 := n0_; have HB := n1_; clear n0_ n1_; (try clear hb); (try clear hb2); (try clear hk); (try clear hi); (try clear ho0)) | ((with_reducible refine gate_callee (f := 31) rfl ?_); refine goesL_ (some 19) rfl rfl Tryz.func31 (by kernel_rfl) rfl #[.slice A0 l0.length c0] rfl (by (try simp only [List.map_toArray, List.map_cons, List.map_nil]); first | done | rfl | (simp only [List.length_drop, List.length_take]; rfl)) ?_; (with_reducible refine (bag_Distinct.calls _ _ l0 t521 t524 _ ?side1 ?side2 ?sideT A4.out).mono ?_); (case sideT => exact LaidT.below HT.out (by repeat (first | (with_reducible first | exact HB.out | apply bA_ | apply bN_ | apply b1_) | exact HB.out))); (case side1 => repeat (first | exact (Kd.C_below HR0.out HB.out) | (with_reducible refine Kd.cA_ ?_ _) | (with_reducible refine Kd.cN_ ?_ _) | (with_reducible refine Kd.cD_ ?_))); (case side2 => exact HC0.out); rintro e w7 ⟨v522, rfl, ho0, hb⟩; refine ⟨_, rfl, ?_⟩; have n0_ := Aside0.mk (Kd.V_below (by (with_reducible repeat (first | apply Kd.vA_ | apply Kd.vN_ | apply Kd.vD_)); exact HO519.out) hb); have n1_ := Aside0.mk (Kd.V_lower (Kd.V_mono (ok' := fun k_ => True) ho0 (fun k_ hk_ => trivial)) (below_size (by repeat (first | (with_reducible first | exact HB.out | apply bA_ | apply bN_ | apply b1_) | exact HB.out)))); have n2_ := Aside0.mk (below_step (by repeat (first | (with_reducible first | exact HB.out | apply bA_ | apply bN_ | apply b1_) | exact HB.out)) hb); clear HO519; clear HB; have HO519 := n0_; have HO523 := n1_; have HB := n2_; clear n0_ n1_ n2_; (try clear hb); (try clear hb2); (try clear hk); (try clear hi); (try clear ho0)))
 (try simp only [Act.put, sTA_, sCZ_, sCS_])
 go_cut [30] (fun v30 wc => ∃ (kq : Nat) (x30_4 : Bool), v30 = .bool x30_4 ∧ Aside0 (w6_BagSets.j0 kq l0 l1 x30_4 = some r) ∧ Aside0 (kq ≤ k) ∧ Aside0 (Below w.heap.size w wc))
 case first =>
  have H := HC5.out
  clear HC5
  by_cases c8 : t524 = t520
  · rw [if_pos c8] at H
    have c8b0 : (t524 == t520) = true := beq_iff_eq.mpr c8
    have c8b1 : (t524 != t520) = false := bne_eq_false_iff_eq.mpr c8
    clear c8
    (first | rw [c8b0] | (simp only [i64_w, i32_w]; rw [c8b0]) | skip)
    replace H := Option.bind_eq_some_iff.mp H
    obtain ⟨t525, A90, H⟩ := H
    replace H : (w6_BagSets.j0 k l0 l1 (!t525)) = some r := H
    have A9 := Aside0.mk A90
    clear A90
    have H' := Aside0.mk H
    clear H
    obtain ⟨Ao10, co10, eo10⟩ := Kd.V_slice HO523.out
    subst eo10
    obtain ⟨Ao11, co11, eo11⟩ := Kd.V_slice HO519.out
    subst eo11
    go_wp2_with (first | (go_at_call 19; (with_reducible refine (r6_SameLists.calls k _ _ t521 _ _ t517 t525 _ ?side1 ?side2 ?side3 ?side4 A9.out).mono ?_); (case side1 => repeat (first | exact (Kd.V_reads' HO523.out).2.2 | (with_reducible refine Kd.cA_ ?_ _) | (with_reducible refine Kd.cN_ ?_ _) | (with_reducible refine Kd.cD_ ?_))); (case side2 => exact (Kd.V_reads' HO523.out).2.1); (case side3 => repeat (first | exact (Kd.V_reads' HO519.out).2.2 | (with_reducible refine Kd.cA_ ?_ _) | (with_reducible refine Kd.cN_ ?_ _) | (with_reducible refine Kd.cD_ ?_))); (case side4 => exact (Kd.V_reads' HO519.out).2.1); rintro e w12 ⟨rfl, hb⟩; have n0_ := Aside0.mk (Kd.V_below (by (with_reducible repeat (first | apply Kd.vA_ | apply Kd.vN_ | apply Kd.vD_)); exact HO519.out) hb); have n1_ := Aside0.mk (Kd.V_below (by (with_reducible repeat (first | apply Kd.vA_ | apply Kd.vN_ | apply Kd.vD_)); exact HO523.out) hb); have n2_ := Aside0.mk (below_step (by repeat (first | (with_reducible first | exact HB.out | apply bA_ | apply bN_ | apply b1_) | exact HB.out)) hb); clear HO519; clear HO523; clear HB; have HO519 := n0_; have HO523 := n1_; have HB := n2_; clear n0_ n1_ n2_; (try clear hb); (try clear hb2); (try clear hk); (try clear hi)))
    go_meet
    case rel => exact ⟨_, (!t525), (by first | rfl | (simp; done) | (simp [*]; done)), H', ⟨by first | omega | exact Nat.le_refl _⟩, ⟨by repeat (first | (with_reducible first | exact HB.out | apply bA_ | apply bN_ | apply b1_) | exact HB.out)⟩⟩
  · rw [if_neg c8] at H
    have c8b0 : (t524 == t520) = false := beq_eq_false_iff_ne.mpr c8
    have c8b1 : (t524 != t520) = true := bne_iff_ne.mpr c8
    (first | rw [c8b0] | (simp only [i64_w, i32_w]; rw [c8b0]) | skip)
    have H' := Aside0.mk H
    clear H
    go_wp2
    go_meet
    case rel => exact ⟨_, (true), (by first | rfl | (simp; done) | (simp [*]; done)), H', ⟨by first | omega | exact Nat.le_refl _⟩, ⟨by repeat (first | (with_reducible first | exact HB.out | apply bA_ | apply bN_ | apply b1_) | exact HB.out)⟩⟩
 case rest =>
  clear HC5
  try clear c1
  try clear p2
  try clear c3
  try clear c8
  try clear c8b0
  try clear c8b1
  try clear c9
  obtain ⟨kq, x30_4, rfl, HA, HJ4, HB⟩ := hcut
  cases kq with
  | zero => exact absurd HA.out (by simp [w6_BagSets.j0])
  | succ kj4 =>
   have H := HA.out
   clear HA
   simp only [w6_BagSets.j0] at H
   by_cases c13 : x30_4 = true
   · subst c13
     have H1 : (some false) = some r := by rw [if_pos rfl] at H; exact H
     clear H
     have H := H1
     clear H1
     obtain rfl := Option.some.inj H
     go_wp2
     go_ret
     exact ⟨by first | rfl | (simp [*, errW_none, errW_some] <;> rfl), by repeat (first | (with_reducible first | exact HB.out | apply bA_ | apply bN_ | apply b1_) | exact HB.out)⟩
   · replace c13 := Bool.eq_false_iff.mpr c13
     subst c13
     have H1 : ((r6_Union.f kj4 l0 l1).bind fun bt526 => ((bag_Union.f l0 l1).bind fun bt530 => (if bt530.2 = bt526.2 then ((r6_SameLists.f kj4 bt530.1 bt526.1).bind fun t534 => (w6_BagSets.j1 kj4 l0 l1 (!t534))) else (w6_BagSets.j1 kj4 l0 l1 true)))) = some r := by rw [if_neg (show ¬ (false = true) by decide)] at H; exact H
     clear H
     have H := H1
     clear H1
     replace H := Option.bind_eq_some_iff.mp H
     obtain ⟨⟨t526, t529⟩, A140, H⟩ := H
     replace H : ((bag_Union.f l0 l1).bind fun bt530 => (if bt530.2 = t529 then ((r6_SameLists.f kj4 bt530.1 t526).bind fun t534 => (w6_BagSets.j1 kj4 l0 l1 (!t534))) else (w6_BagSets.j1 kj4 l0 l1 true))) = some r := H
     have A14 := Aside0.mk A140
     clear A140
     replace H := Option.bind_eq_some_iff.mp H
     obtain ⟨⟨t530, t533⟩, A150, H⟩ := H
     replace H : (if t533 = t529 then ((r6_SameLists.f kj4 t530 t526).bind fun t534 => (w6_BagSets.j1 kj4 l0 l1 (!t534))) else (w6_BagSets.j1 kj4 l0 l1 true)) = some r := H
     have A15 := Aside0.mk A150
     clear A150
     have HC16 := Aside0.mk H
     clear H
     go_upto_region 7 with (first | ((with_reducible refine gate_callee (f := 32) rfl ?_); refine goesL_ (some 34) rfl rfl Tryz.func32 (by kernel_rfl) rfl #[.slice A0 l0.length c0, .slice A1 l1.length c1] rfl (by (try simp only [List.map_toArray, List.map_cons, List.map_nil]); first | done | rfl | (simp only [List.length_drop, List.length_take]; rfl)) ?_; (with_reducible refine (r6_Union.calls kj4 (fun k_ => k_ < w.heap.size) _ _ l0 (fun k_ => k_ < w.heap.size) _ _ l1 t526 t529 _ ?side1 ?side2 A14.out).mono ?_); (case side1 => exact Kd.V_mk HC0.out (Kd.F_below (Kd.C_F (Kd.heap_slice 36 k36_heap) HR0.out) (by repeat (first | (with_reducible first | exact HB.out | apply bA_ | apply bN_ | apply b1_) | exact HB.out)))); (case side2 => exact Kd.V_mk HC1.out (Kd.F_below (Kd.C_F (Kd.heap_slice 36 k36_heap) HR1.out) (by repeat (first | (with_reducible first | exact HB.out | apply bA_ | apply bN_ | apply b1_) | exact HB.out)))); rintro e w17 ⟨v527, rfl, ho0, hb⟩; refine ⟨_, rfl, ?_⟩; have n0_ := Aside0.mk (Kd.V_lower (Kd.V_mono (ok' := fun k_ => True) ho0 (fun k_ hk_ => trivial)) (below_size (by repeat (first | (with_reducible first | exact HB.out | apply bA_ | apply bN_ | apply b1_) | exact HB.out)))); have n1_ := Aside0.mk (below_step (by repeat (first | (with_reducible first | exact HB.out | apply bA_ | apply bN_ | apply b1_) | exact HB.out)) hb); clear HB; have HO528 := n0_; have HB := n1_; clear n0_ n1_; (try clear hb); (try clear hb2); (try clear hk); (try clear hi); (try clear ho0)) | ((with_reducible refine gate_callee (f := 33) rfl ?_); refine goesL_ (some 40) rfl rfl Tryz.func33 (by kernel_rfl) rfl #[.slice A0 l0.length c0, .slice A1 l1.length c1] rfl (by (try simp only [List.map_toArray, List.map_cons, List.map_nil]); first | done | rfl | (simp only [List.length_drop, List.length_take]; rfl)) ?_; (with_reducible refine (bag_Union.calls _ _ l0 _ _ l1 t530 t533 _ ?side1 ?side2 ?side3 ?side4 A15.out).mono ?_); (case side1 => repeat (first | exact (Kd.C_below HR0.out HB.out) | (with_reducible refine Kd.cA_ ?_ _) | (with_reducible refine Kd.cN_ ?_ _) | (with_reducible refine Kd.cD_ ?_))); (case side2 => exact HC0.out); (case side3 => repeat (first | exact (Kd.C_below HR1.out HB.out) | (with_reducible refine Kd.cA_ ?_ _) | (with_reducible refine Kd.cN_ ?_ _) | (with_reducible refine Kd.cD_ ?_))); (case side4 => exact HC1.out); rintro e w18 ⟨v531, rfl, ho0, hb⟩; refine ⟨_, rfl, ?_⟩; have n0_ := Aside0.mk (Kd.V_below (by (with_reducible repeat (first | apply Kd.vA_ | apply Kd.vN_ | apply Kd.vD_)); exact HO528.out) hb); have n1_ := Aside0.mk (Kd.V_lower (Kd.V_mono (ok' := fun k_ => True) ho0 (fun k_ hk_ => trivial)) (below_size (by repeat (first | (with_reducible first | exact HB.out | apply bA_ | apply bN_ | apply b1_) | exact HB.out)))); have n2_ := Aside0.mk (below_step (by repeat (first | (with_reducible first | exact HB.out | apply bA_ | apply bN_ | apply b1_) | exact HB.out)) hb); clear HO528; clear HB; have HO528 := n0_; have HO532 := n1_; have HB := n2_; clear n0_ n1_ n2_; (try clear hb); (try clear hb2); (try clear hk); (try clear hi); (try clear ho0)))
     (try simp only [Act.put, sTA_, sCZ_, sCS_])
     go_cut [51] (fun v51 wc => ∃ (kq : Nat) (x51_15 : Bool), v51 = .bool x51_15 ∧ Aside0 (w6_BagSets.j1 kq l0 l1 x51_15 = some r) ∧ Aside0 (kq ≤ kj4) ∧ Aside0 (Below w.heap.size w wc))
     case first =>
      have H := HC16.out
      clear HC16
      by_cases c19 : t533 = t529
      · rw [if_pos c19] at H
        have c19b0 : (t533 == t529) = true := beq_iff_eq.mpr c19
        have c19b1 : (t533 != t529) = false := bne_eq_false_iff_eq.mpr c19
        clear c19
        (first | rw [c19b0] | (simp only [i64_w, i32_w]; rw [c19b0]) | skip)
        replace H := Option.bind_eq_some_iff.mp H
        obtain ⟨t534, A200, H⟩ := H
        replace H : (w6_BagSets.j1 kj4 l0 l1 (!t534)) = some r := H
        have A20 := Aside0.mk A200
        clear A200
        have H' := Aside0.mk H
        clear H
        obtain ⟨Ao21, co21, eo21⟩ := Kd.V_slice HO532.out
        subst eo21
        obtain ⟨Ao22, co22, eo22⟩ := Kd.V_slice HO528.out
        subst eo22
        go_wp2_with (first | (go_at_call 19; (with_reducible refine (r6_SameLists.calls kj4 _ _ t530 _ _ t526 t534 _ ?side1 ?side2 ?side3 ?side4 A20.out).mono ?_); (case side1 => repeat (first | exact (Kd.V_reads' HO532.out).2.2 | (with_reducible refine Kd.cA_ ?_ _) | (with_reducible refine Kd.cN_ ?_ _) | (with_reducible refine Kd.cD_ ?_))); (case side2 => exact (Kd.V_reads' HO532.out).2.1); (case side3 => repeat (first | exact (Kd.V_reads' HO528.out).2.2 | (with_reducible refine Kd.cA_ ?_ _) | (with_reducible refine Kd.cN_ ?_ _) | (with_reducible refine Kd.cD_ ?_))); (case side4 => exact (Kd.V_reads' HO528.out).2.1); rintro e w23 ⟨rfl, hb⟩; have n0_ := Aside0.mk (Kd.V_below (by (with_reducible repeat (first | apply Kd.vA_ | apply Kd.vN_ | apply Kd.vD_)); exact HO528.out) hb); have n1_ := Aside0.mk (Kd.V_below (by (with_reducible repeat (first | apply Kd.vA_ | apply Kd.vN_ | apply Kd.vD_)); exact HO532.out) hb); have n2_ := Aside0.mk (below_step (by repeat (first | (with_reducible first | exact HB.out | apply bA_ | apply bN_ | apply b1_) | exact HB.out)) hb); clear HO528; clear HO532; clear HB; have HO528 := n0_; have HO532 := n1_; have HB := n2_; clear n0_ n1_ n2_; (try clear hb); (try clear hb2); (try clear hk); (try clear hi)))
        go_meet
        case rel => exact ⟨_, (!t534), (by first | rfl | (simp; done) | (simp [*]; done)), H', ⟨by have := HJ4.out; first | omega | exact Nat.le_refl _⟩, ⟨by repeat (first | (with_reducible first | exact HB.out | apply bA_ | apply bN_ | apply b1_) | exact HB.out)⟩⟩
      · rw [if_neg c19] at H
        have c19b0 : (t533 == t529) = false := beq_eq_false_iff_ne.mpr c19
        have c19b1 : (t533 != t529) = true := bne_iff_ne.mpr c19
        (first | rw [c19b0] | (simp only [i64_w, i32_w]; rw [c19b0]) | skip)
        have H' := Aside0.mk H
        clear H
        go_wp2
        go_meet
        case rel => exact ⟨_, (true), (by first | rfl | (simp; done) | (simp [*]; done)), H', ⟨by have := HJ4.out; first | omega | exact Nat.le_refl _⟩, ⟨by repeat (first | (with_reducible first | exact HB.out | apply bA_ | apply bN_ | apply b1_) | exact HB.out)⟩⟩
     case rest =>
      clear HC16
      try clear c1
      try clear p2
      try clear c3
      try clear c8
      try clear c8b0
      try clear c8b1
      try clear c9
      try clear c13
      try clear c19
      try clear c19b0
      try clear c19b1
      try clear p2
      obtain ⟨kq, x51_15, rfl, HA, HJ15, HB⟩ := hcut
      cases kq with
      | zero => exact absurd HA.out (by simp [w6_BagSets.j1])
      | succ kj15 =>
       have H := HA.out
       clear HA
       simp only [w6_BagSets.j1] at H
       by_cases c24 : x51_15 = true
       · subst c24
         have H1 : (some false) = some r := by rw [if_pos rfl] at H; exact H
         clear H
         have H := H1
         clear H1
         obtain rfl := Option.some.inj H
         go_wp2
         go_ret
         exact ⟨by first | rfl | (simp [*, errW_none, errW_some] <;> rfl), by repeat (first | (with_reducible first | exact HB.out | apply bA_ | apply bN_ | apply b1_) | exact HB.out)⟩
       · replace c24 := Bool.eq_false_iff.mpr c24
         subst c24
         have H1 : ((r6_Intersect.f kj15 l0 l1).bind fun bt535 => ((bag_Intersect.f l0 l1).bind fun bt539 => (if bt539.2 = bt535.2 then ((r6_SameLists.f kj15 bt539.1 bt535.1).bind fun t543 => (w6_BagSets.j2 kj15 l0 l1 (!t543))) else (w6_BagSets.j2 kj15 l0 l1 true)))) = some r := by rw [if_neg (show ¬ (false = true) by decide)] at H; exact H
         clear H
         have H := H1
         clear H1
         replace H := Option.bind_eq_some_iff.mp H
         obtain ⟨⟨t535, t538⟩, A250, H⟩ := H
         replace H : ((bag_Intersect.f l0 l1).bind fun bt539 => (if bt539.2 = t538 then ((r6_SameLists.f kj15 bt539.1 t535).bind fun t543 => (w6_BagSets.j2 kj15 l0 l1 (!t543))) else (w6_BagSets.j2 kj15 l0 l1 true))) = some r := H
         have A25 := Aside0.mk A250
         clear A250
         replace H := Option.bind_eq_some_iff.mp H
         obtain ⟨⟨t539, t542⟩, A260, H⟩ := H
         replace H : (if t542 = t538 then ((r6_SameLists.f kj15 t539 t535).bind fun t543 => (w6_BagSets.j2 kj15 l0 l1 (!t543))) else (w6_BagSets.j2 kj15 l0 l1 true)) = some r := H
         have A26 := Aside0.mk A260
         clear A260
         have HC27 := Aside0.mk H
         clear H
         go_upto_region 11 with (first | ((with_reducible refine gate_callee (f := 34) rfl ?_); refine goesL_ (some 55) rfl rfl Tryz.func34 (by kernel_rfl) rfl #[.slice A0 l0.length c0, .slice A1 l1.length c1] rfl (by (try simp only [List.map_toArray, List.map_cons, List.map_nil]); first | done | rfl | (simp only [List.length_drop, List.length_take]; rfl)) ?_; (with_reducible refine (r6_Intersect.calls kj15 (fun k_ => k_ < w.heap.size) _ _ l0 (fun k_ => k_ < w.heap.size) _ _ l1 t535 t538 _ ?side1 ?side2 A25.out).mono ?_); (case side1 => exact Kd.V_mk HC0.out (Kd.F_below (Kd.C_F (Kd.heap_slice 36 k36_heap) HR0.out) (by repeat (first | (with_reducible first | exact HB.out | apply bA_ | apply bN_ | apply b1_) | exact HB.out)))); (case side2 => exact Kd.V_mk HC1.out (Kd.F_below (Kd.C_F (Kd.heap_slice 36 k36_heap) HR1.out) (by repeat (first | (with_reducible first | exact HB.out | apply bA_ | apply bN_ | apply b1_) | exact HB.out)))); rintro e w28 ⟨v536, rfl, ho0, hb⟩; refine ⟨_, rfl, ?_⟩; have n0_ := Aside0.mk (Kd.V_lower (Kd.V_mono (ok' := fun k_ => True) ho0 (fun k_ hk_ => trivial)) (below_size (by repeat (first | (with_reducible first | exact HB.out | apply bA_ | apply bN_ | apply b1_) | exact HB.out)))); have n1_ := Aside0.mk (below_step (by repeat (first | (with_reducible first | exact HB.out | apply bA_ | apply bN_ | apply b1_) | exact HB.out)) hb); clear HB; have HO537 := n0_; have HB := n1_; clear n0_ n1_; (try clear hb); (try clear hb2); (try clear hk); (try clear hi); (try clear ho0)) | ((with_reducible refine gate_callee (f := 35) rfl ?_); refine goesL_ (some 61) rfl rfl Tryz.func35 (by kernel_rfl) rfl #[.slice A0 l0.length c0, .slice A1 l1.length c1] rfl (by (try simp only [List.map_toArray, List.map_cons, List.map_nil]); first | done | rfl | (simp only [List.length_drop, List.length_take]; rfl)) ?_; (with_reducible refine (bag_Intersect.calls _ _ l0 _ _ l1 t539 t542 _ ?side1 ?side2 ?side3 ?side4 ?sideT A26.out).mono ?_); (case sideT => exact LaidT.below HT.out (by repeat (first | (with_reducible first | exact HB.out | apply bA_ | apply bN_ | apply b1_) | exact HB.out))); (case side1 => repeat (first | exact (Kd.C_below HR0.out HB.out) | (with_reducible refine Kd.cA_ ?_ _) | (with_reducible refine Kd.cN_ ?_ _) | (with_reducible refine Kd.cD_ ?_))); (case side2 => exact HC0.out); (case side3 => repeat (first | exact (Kd.C_below HR1.out HB.out) | (with_reducible refine Kd.cA_ ?_ _) | (with_reducible refine Kd.cN_ ?_ _) | (with_reducible refine Kd.cD_ ?_))); (case side4 => exact HC1.out); rintro e w29 ⟨v540, rfl, ho0, hb⟩; refine ⟨_, rfl, ?_⟩; have n0_ := Aside0.mk (Kd.V_below (by (with_reducible repeat (first | apply Kd.vA_ | apply Kd.vN_ | apply Kd.vD_)); exact HO537.out) hb); have n1_ := Aside0.mk (Kd.V_lower (Kd.V_mono (ok' := fun k_ => True) ho0 (fun k_ hk_ => trivial)) (below_size (by repeat (first | (with_reducible first | exact HB.out | apply bA_ | apply bN_ | apply b1_) | exact HB.out)))); have n2_ := Aside0.mk (below_step (by repeat (first | (with_reducible first | exact HB.out | apply bA_ | apply bN_ | apply b1_) | exact HB.out)) hb); clear HO537; clear HB; have HO537 := n0_; have HO541 := n1_; have HB := n2_; clear n0_ n1_ n2_; (try clear hb); (try clear hb2); (try clear hk); (try clear hi); (try clear ho0)))
         (try simp only [Act.put, sTA_, sCZ_, sCS_])
         go_cut [72] (fun v72 wc => ∃ (kq : Nat) (x72_26 : Bool), v72 = .bool x72_26 ∧ Aside0 (w6_BagSets.j2 kq l0 l1 x72_26 = some r) ∧ Aside0 (kq ≤ kj15) ∧ Aside0 (Below w.heap.size w wc))
         case first =>
          have H := HC27.out
          clear HC27
          by_cases c30 : t542 = t538
          · rw [if_pos c30] at H
            have c30b0 : (t542 == t538) = true := beq_iff_eq.mpr c30
            have c30b1 : (t542 != t538) = false := bne_eq_false_iff_eq.mpr c30
            clear c30
            (first | rw [c30b0] | (simp only [i64_w, i32_w]; rw [c30b0]) | skip)
            replace H := Option.bind_eq_some_iff.mp H
            obtain ⟨t543, A310, H⟩ := H
            replace H : (w6_BagSets.j2 kj15 l0 l1 (!t543)) = some r := H
            have A31 := Aside0.mk A310
            clear A310
            have H' := Aside0.mk H
            clear H
            obtain ⟨Ao32, co32, eo32⟩ := Kd.V_slice HO541.out
            subst eo32
            obtain ⟨Ao33, co33, eo33⟩ := Kd.V_slice HO537.out
            subst eo33
            go_wp2_with (first | (go_at_call 19; (with_reducible refine (r6_SameLists.calls kj15 _ _ t539 _ _ t535 t543 _ ?side1 ?side2 ?side3 ?side4 A31.out).mono ?_); (case side1 => repeat (first | exact (Kd.V_reads' HO541.out).2.2 | (with_reducible refine Kd.cA_ ?_ _) | (with_reducible refine Kd.cN_ ?_ _) | (with_reducible refine Kd.cD_ ?_))); (case side2 => exact (Kd.V_reads' HO541.out).2.1); (case side3 => repeat (first | exact (Kd.V_reads' HO537.out).2.2 | (with_reducible refine Kd.cA_ ?_ _) | (with_reducible refine Kd.cN_ ?_ _) | (with_reducible refine Kd.cD_ ?_))); (case side4 => exact (Kd.V_reads' HO537.out).2.1); rintro e w34 ⟨rfl, hb⟩; have n0_ := Aside0.mk (Kd.V_below (by (with_reducible repeat (first | apply Kd.vA_ | apply Kd.vN_ | apply Kd.vD_)); exact HO537.out) hb); have n1_ := Aside0.mk (Kd.V_below (by (with_reducible repeat (first | apply Kd.vA_ | apply Kd.vN_ | apply Kd.vD_)); exact HO541.out) hb); have n2_ := Aside0.mk (below_step (by repeat (first | (with_reducible first | exact HB.out | apply bA_ | apply bN_ | apply b1_) | exact HB.out)) hb); clear HO537; clear HO541; clear HB; have HO537 := n0_; have HO541 := n1_; have HB := n2_; clear n0_ n1_ n2_; (try clear hb); (try clear hb2); (try clear hk); (try clear hi)))
            go_meet
            case rel => exact ⟨_, (!t543), (by first | rfl | (simp; done) | (simp [*]; done)), H', ⟨by have := HJ4.out; have := HJ15.out; first | omega | exact Nat.le_refl _⟩, ⟨by repeat (first | (with_reducible first | exact HB.out | apply bA_ | apply bN_ | apply b1_) | exact HB.out)⟩⟩
          · rw [if_neg c30] at H
            have c30b0 : (t542 == t538) = false := beq_eq_false_iff_ne.mpr c30
            have c30b1 : (t542 != t538) = true := bne_iff_ne.mpr c30
            (first | rw [c30b0] | (simp only [i64_w, i32_w]; rw [c30b0]) | skip)
            have H' := Aside0.mk H
            clear H
            go_wp2
            go_meet
            case rel => exact ⟨_, (true), (by first | rfl | (simp; done) | (simp [*]; done)), H', ⟨by have := HJ4.out; have := HJ15.out; first | omega | exact Nat.le_refl _⟩, ⟨by repeat (first | (with_reducible first | exact HB.out | apply bA_ | apply bN_ | apply b1_) | exact HB.out)⟩⟩
         case rest =>
          clear HC27
          try clear c1
          try clear c2
          try clear p2
          try clear c3
          try clear c8
          try clear c8b0
          try clear c8b1
          try clear c9
          try clear c13
          try clear c19
          try clear c19b0
          try clear c19b1
          try clear c24
          try clear c30
          try clear c30b0
          try clear c30b1
          try clear c31
          try clear c32
          try clear c33
          try clear c34
          try clear p2
          obtain ⟨kq, x72_26, rfl, HA, HJ26, HB⟩ := hcut
          cases kq with
          | zero => exact absurd HA.out (by simp [w6_BagSets.j2])
          | succ kj26 =>
           have H := HA.out
           clear HA
           simp only [w6_BagSets.j2] at H
           by_cases c35 : x72_26 = true
           · subst c35
             have H1 : (some false) = some r := by rw [if_pos rfl] at H; exact H
             clear H
             have H := H1
             clear H1
             obtain rfl := Option.some.inj H
             go_wp2
             go_ret
             exact ⟨by first | rfl | (simp [*, errW_none, errW_some] <;> rfl), by repeat (first | (with_reducible first | exact HB.out | apply bA_ | apply bN_ | apply b1_) | exact HB.out)⟩
           · replace c35 := Bool.eq_false_iff.mpr c35
             subst c35
             have H1 : ((r6_Except.f kj26 l0 l1).bind fun bt544 => ((bag_Except.f l0 l1).bind fun bt548 => (if bt548.2 = bt544.2 then ((r6_SameLists.f kj26 bt548.1 bt544.1).bind fun t552 => (if t552 = true then ((w6_awake.f).bind fun t553 => (some t553)) else (some false))) else (some false)))) = some r := by rw [if_neg (show ¬ (false = true) by decide)] at H; exact H
             clear H
             have H := H1
             clear H1
             replace H := Option.bind_eq_some_iff.mp H
             obtain ⟨⟨t544, t547⟩, A360, H⟩ := H
             replace H : ((bag_Except.f l0 l1).bind fun bt548 => (if bt548.2 = t547 then ((r6_SameLists.f kj26 bt548.1 t544).bind fun t552 => (if t552 = true then ((w6_awake.f).bind fun t553 => (some t553)) else (some false))) else (some false))) = some r := H
             have A36 := Aside0.mk A360
             clear A360
             replace H := Option.bind_eq_some_iff.mp H
             obtain ⟨⟨t548, t551⟩, A370, H⟩ := H
             replace H : (if t551 = t547 then ((r6_SameLists.f kj26 t548 t544).bind fun t552 => (if t552 = true then ((w6_awake.f).bind fun t553 => (some t553)) else (some false))) else (some false)) = some r := H
             have A37 := Aside0.mk A370
             clear A370
             by_cases c38 : t551 = t547
             · rw [if_pos c38] at H
               have c38b0 : (t551 == t547) = true := beq_iff_eq.mpr c38
               have c38b1 : (t551 != t547) = false := bne_eq_false_iff_eq.mpr c38
               clear c38
               replace H := Option.bind_eq_some_iff.mp H
               obtain ⟨t552, A390, H⟩ := H
               replace H : (if t552 = true then ((w6_awake.f).bind fun t553 => (some t553)) else (some false)) = some r := H
               have A39 := Aside0.mk A390
               clear A390
               by_cases c40 : t552 = true
               · subst c40
                 have H1 : ((w6_awake.f).bind fun t553 => (some t553)) = some r := by rw [if_pos rfl] at H; exact H
                 clear H
                 have H := H1
                 clear H1
                 replace H := Option.bind_eq_some_iff.mp H
                 obtain ⟨t553, A410, H⟩ := H
                 replace H : (some t553) = some r := H
                 have A41 := Aside0.mk A410
                 clear A410
                 obtain rfl := Option.some.inj H
                 go_wp2_with (first | ((with_reducible refine gate_callee (f := 36) rfl ?_); refine goesL_ (some 76) rfl rfl Tryz.func36 (by kernel_rfl) rfl #[.slice A0 l0.length c0, .slice A1 l1.length c1] rfl (by (try simp only [List.map_toArray, List.map_cons, List.map_nil]); first | done | rfl | (simp only [List.length_drop, List.length_take]; rfl)) ?_; (with_reducible refine (r6_Except.calls kj26 (fun k_ => k_ < w.heap.size) _ _ l0 (fun k_ => k_ < w.heap.size) _ _ l1 t544 t547 _ ?side1 ?side2 A36.out).mono ?_); (case side1 => exact Kd.V_mk HC0.out (Kd.F_below (Kd.C_F (Kd.heap_slice 36 k36_heap) HR0.out) (by repeat (first | (with_reducible first | exact HB.out | apply bA_ | apply bN_ | apply b1_) | exact HB.out)))); (case side2 => exact Kd.V_mk HC1.out (Kd.F_below (Kd.C_F (Kd.heap_slice 36 k36_heap) HR1.out) (by repeat (first | (with_reducible first | exact HB.out | apply bA_ | apply bN_ | apply b1_) | exact HB.out)))); rintro e w42 ⟨v545, rfl, ho0, hb⟩; refine ⟨_, rfl, ?_⟩; have n0_ := Aside0.mk (Kd.V_lower (Kd.V_mono (ok' := fun k_ => True) ho0 (fun k_ hk_ => trivial)) (below_size (by repeat (first | (with_reducible first | exact HB.out | apply bA_ | apply bN_ | apply b1_) | exact HB.out)))); have n1_ := Aside0.mk (below_step (by repeat (first | (with_reducible first | exact HB.out | apply bA_ | apply bN_ | apply b1_) | exact HB.out)) hb); clear HB; have HO546 := n0_; have HB := n1_; clear n0_ n1_; (try clear hb); (try clear hb2); (try clear hk); (try clear hi); (try clear ho0)) | ((with_reducible refine gate_callee (f := 37) rfl ?_); refine goesL_ (some 82) rfl rfl Tryz.func37 (by kernel_rfl) rfl #[.slice A0 l0.length c0, .slice A1 l1.length c1] rfl (by (try simp only [List.map_toArray, List.map_cons, List.map_nil]); first | done | rfl | (simp only [List.length_drop, List.length_take]; rfl)) ?_; (with_reducible refine (bag_Except.calls _ _ l0 _ _ l1 t548 t551 _ ?side1 ?side2 ?side3 ?side4 ?sideT A37.out).mono ?_); (case sideT => exact LaidT.below HT.out (by repeat (first | (with_reducible first | exact HB.out | apply bA_ | apply bN_ | apply b1_) | exact HB.out))); (case side1 => repeat (first | exact (Kd.C_below HR0.out HB.out) | (with_reducible refine Kd.cA_ ?_ _) | (with_reducible refine Kd.cN_ ?_ _) | (with_reducible refine Kd.cD_ ?_))); (case side2 => exact HC0.out); (case side3 => repeat (first | exact (Kd.C_below HR1.out HB.out) | (with_reducible refine Kd.cA_ ?_ _) | (with_reducible refine Kd.cN_ ?_ _) | (with_reducible refine Kd.cD_ ?_))); (case side4 => exact HC1.out); rintro e w43 ⟨v549, rfl, ho0, hb⟩; refine ⟨_, rfl, ?_⟩; have n0_ := Aside0.mk (Kd.V_below (by (with_reducible repeat (first | apply Kd.vA_ | apply Kd.vN_ | apply Kd.vD_)); exact HO546.out) hb); have n1_ := Aside0.mk (Kd.V_lower (Kd.V_mono (ok' := fun k_ => True) ho0 (fun k_ hk_ => trivial)) (below_size (by repeat (first | (with_reducible first | exact HB.out | apply bA_ | apply bN_ | apply b1_) | exact HB.out)))); have n2_ := Aside0.mk (below_step (by repeat (first | (with_reducible first | exact HB.out | apply bA_ | apply bN_ | apply b1_) | exact HB.out)) hb); clear HO546; clear HB; have HO546 := n0_; have HO550 := n1_; have HB := n2_; clear n0_ n1_ n2_; (try clear hb); (try clear hb2); (try clear hk); (try clear hi); (try clear ho0); obtain ⟨Ao44, co44, eo44⟩ := Kd.V_slice HO550.out; subst eo44; obtain ⟨Ao45, co45, eo45⟩ := Kd.V_slice HO546.out; subst eo45) | (go_at_call 19; (with_reducible refine (r6_SameLists.calls kj26 _ _ t548 _ _ t544 true _ ?side1 ?side2 ?side3 ?side4 A39.out).mono ?_); (case side1 => repeat (first | exact (Kd.V_reads' HO550.out).2.2 | (with_reducible refine Kd.cA_ ?_ _) | (with_reducible refine Kd.cN_ ?_ _) | (with_reducible refine Kd.cD_ ?_))); (case side2 => exact (Kd.V_reads' HO550.out).2.1); (case side3 => repeat (first | exact (Kd.V_reads' HO546.out).2.2 | (with_reducible refine Kd.cA_ ?_ _) | (with_reducible refine Kd.cN_ ?_ _) | (with_reducible refine Kd.cD_ ?_))); (case side4 => exact (Kd.V_reads' HO546.out).2.1); rintro e w46 ⟨rfl, hb⟩; have n0_ := Aside0.mk (Kd.V_below (by (with_reducible repeat (first | apply Kd.vA_ | apply Kd.vN_ | apply Kd.vD_)); exact HO546.out) hb); have n1_ := Aside0.mk (Kd.V_below (by (with_reducible repeat (first | apply Kd.vA_ | apply Kd.vN_ | apply Kd.vD_)); exact HO550.out) hb); have n2_ := Aside0.mk (below_step (by repeat (first | (with_reducible first | exact HB.out | apply bA_ | apply bN_ | apply b1_) | exact HB.out)) hb); clear HO546; clear HO550; clear HB; have HO546 := n0_; have HO550 := n1_; have HB := n2_; clear n0_ n1_ n2_; (try clear hb); (try clear hb2); (try clear hk); (try clear hi)) | (go_at_call 13; (with_reducible refine (w6_awake.calls  t553 _ ?sideT A41.out).mono ?_); (case sideT => exact LaidT.below HT.out (by repeat (first | (with_reducible first | exact HB.out | apply bA_ | apply bN_ | apply b1_) | exact HB.out))); rintro e w47 ⟨rfl, hb⟩; have n0_ := Aside0.mk (Kd.V_below (by (with_reducible repeat (first | apply Kd.vA_ | apply Kd.vN_ | apply Kd.vD_)); exact HO546.out) hb); have n1_ := Aside0.mk (Kd.V_below (by (with_reducible repeat (first | apply Kd.vA_ | apply Kd.vN_ | apply Kd.vD_)); exact HO550.out) hb); have n2_ := Aside0.mk (below_step (by repeat (first | (with_reducible first | exact HB.out | apply bA_ | apply bN_ | apply b1_) | exact HB.out)) hb); clear HO546; clear HO550; clear HB; have HO546 := n0_; have HO550 := n1_; have HB := n2_; clear n0_ n1_ n2_; (try clear hb); (try clear hb2); (try clear hk); (try clear hi)))
                 go_ret
                 exact ⟨by first | rfl | (simp [*, errW_none, errW_some] <;> rfl), by repeat (first | (with_reducible first | exact HB.out | apply bA_ | apply bN_ | apply b1_) | exact HB.out)⟩
               · replace c40 := Bool.eq_false_iff.mpr c40
                 subst c40
                 have H1 : (some false) = some r := by rw [if_neg (show ¬ (false = true) by decide)] at H; exact H
                 clear H
                 have H := H1
                 clear H1
                 obtain rfl := Option.some.inj H
                 go_wp2_with (first | ((with_reducible refine gate_callee (f := 36) rfl ?_); refine goesL_ (some 76) rfl rfl Tryz.func36 (by kernel_rfl) rfl #[.slice A0 l0.length c0, .slice A1 l1.length c1] rfl (by (try simp only [List.map_toArray, List.map_cons, List.map_nil]); first | done | rfl | (simp only [List.length_drop, List.length_take]; rfl)) ?_; (with_reducible refine (r6_Except.calls kj26 (fun k_ => k_ < w.heap.size) _ _ l0 (fun k_ => k_ < w.heap.size) _ _ l1 t544 t547 _ ?side1 ?side2 A36.out).mono ?_); (case side1 => exact Kd.V_mk HC0.out (Kd.F_below (Kd.C_F (Kd.heap_slice 36 k36_heap) HR0.out) (by repeat (first | (with_reducible first | exact HB.out | apply bA_ | apply bN_ | apply b1_) | exact HB.out)))); (case side2 => exact Kd.V_mk HC1.out (Kd.F_below (Kd.C_F (Kd.heap_slice 36 k36_heap) HR1.out) (by repeat (first | (with_reducible first | exact HB.out | apply bA_ | apply bN_ | apply b1_) | exact HB.out)))); rintro e w48 ⟨v545, rfl, ho0, hb⟩; refine ⟨_, rfl, ?_⟩; have n0_ := Aside0.mk (Kd.V_lower (Kd.V_mono (ok' := fun k_ => True) ho0 (fun k_ hk_ => trivial)) (below_size (by repeat (first | (with_reducible first | exact HB.out | apply bA_ | apply bN_ | apply b1_) | exact HB.out)))); have n1_ := Aside0.mk (below_step (by repeat (first | (with_reducible first | exact HB.out | apply bA_ | apply bN_ | apply b1_) | exact HB.out)) hb); clear HB; have HO546 := n0_; have HB := n1_; clear n0_ n1_; (try clear hb); (try clear hb2); (try clear hk); (try clear hi); (try clear ho0)) | ((with_reducible refine gate_callee (f := 37) rfl ?_); refine goesL_ (some 82) rfl rfl Tryz.func37 (by kernel_rfl) rfl #[.slice A0 l0.length c0, .slice A1 l1.length c1] rfl (by (try simp only [List.map_toArray, List.map_cons, List.map_nil]); first | done | rfl | (simp only [List.length_drop, List.length_take]; rfl)) ?_; (with_reducible refine (bag_Except.calls _ _ l0 _ _ l1 t548 t551 _ ?side1 ?side2 ?side3 ?side4 ?sideT A37.out).mono ?_); (case sideT => exact LaidT.below HT.out (by repeat (first | (with_reducible first | exact HB.out | apply bA_ | apply bN_ | apply b1_) | exact HB.out))); (case side1 => repeat (first | exact (Kd.C_below HR0.out HB.out) | (with_reducible refine Kd.cA_ ?_ _) | (with_reducible refine Kd.cN_ ?_ _) | (with_reducible refine Kd.cD_ ?_))); (case side2 => exact HC0.out); (case side3 => repeat (first | exact (Kd.C_below HR1.out HB.out) | (with_reducible refine Kd.cA_ ?_ _) | (with_reducible refine Kd.cN_ ?_ _) | (with_reducible refine Kd.cD_ ?_))); (case side4 => exact HC1.out); rintro e w49 ⟨v549, rfl, ho0, hb⟩; refine ⟨_, rfl, ?_⟩; have n0_ := Aside0.mk (Kd.V_below (by (with_reducible repeat (first | apply Kd.vA_ | apply Kd.vN_ | apply Kd.vD_)); exact HO546.out) hb); have n1_ := Aside0.mk (Kd.V_lower (Kd.V_mono (ok' := fun k_ => True) ho0 (fun k_ hk_ => trivial)) (below_size (by repeat (first | (with_reducible first | exact HB.out | apply bA_ | apply bN_ | apply b1_) | exact HB.out)))); have n2_ := Aside0.mk (below_step (by repeat (first | (with_reducible first | exact HB.out | apply bA_ | apply bN_ | apply b1_) | exact HB.out)) hb); clear HO546; clear HB; have HO546 := n0_; have HO550 := n1_; have HB := n2_; clear n0_ n1_ n2_; (try clear hb); (try clear hb2); (try clear hk); (try clear hi); (try clear ho0); obtain ⟨Ao50, co50, eo50⟩ := Kd.V_slice HO550.out; subst eo50; obtain ⟨Ao51, co51, eo51⟩ := Kd.V_slice HO546.out; subst eo51) | (go_at_call 19; (with_reducible refine (r6_SameLists.calls kj26 _ _ t548 _ _ t544 false _ ?side1 ?side2 ?side3 ?side4 A39.out).mono ?_); (case side1 => repeat (first | exact (Kd.V_reads' HO550.out).2.2 | (with_reducible refine Kd.cA_ ?_ _) | (with_reducible refine Kd.cN_ ?_ _) | (with_reducible refine Kd.cD_ ?_))); (case side2 => exact (Kd.V_reads' HO550.out).2.1); (case side3 => repeat (first | exact (Kd.V_reads' HO546.out).2.2 | (with_reducible refine Kd.cA_ ?_ _) | (with_reducible refine Kd.cN_ ?_ _) | (with_reducible refine Kd.cD_ ?_))); (case side4 => exact (Kd.V_reads' HO546.out).2.1); rintro e w52 ⟨rfl, hb⟩; have n0_ := Aside0.mk (Kd.V_below (by (with_reducible repeat (first | apply Kd.vA_ | apply Kd.vN_ | apply Kd.vD_)); exact HO546.out) hb); have n1_ := Aside0.mk (Kd.V_below (by (with_reducible repeat (first | apply Kd.vA_ | apply Kd.vN_ | apply Kd.vD_)); exact HO550.out) hb); have n2_ := Aside0.mk (below_step (by repeat (first | (with_reducible first | exact HB.out | apply bA_ | apply bN_ | apply b1_) | exact HB.out)) hb); clear HO546; clear HO550; clear HB; have HO546 := n0_; have HO550 := n1_; have HB := n2_; clear n0_ n1_ n2_; (try clear hb); (try clear hb2); (try clear hk); (try clear hi)))
                 go_ret
                 exact ⟨by first | rfl | (simp [*, errW_none, errW_some] <;> rfl), by repeat (first | (with_reducible first | exact HB.out | apply bA_ | apply bN_ | apply b1_) | exact HB.out)⟩
             · rw [if_neg c38] at H
               have c38b0 : (t551 == t547) = false := beq_eq_false_iff_ne.mpr c38
               have c38b1 : (t551 != t547) = true := bne_iff_ne.mpr c38
               obtain rfl := Option.some.inj H
               go_wp2_with (first | ((with_reducible refine gate_callee (f := 36) rfl ?_); refine goesL_ (some 76) rfl rfl Tryz.func36 (by kernel_rfl) rfl #[.slice A0 l0.length c0, .slice A1 l1.length c1] rfl (by (try simp only [List.map_toArray, List.map_cons, List.map_nil]); first | done | rfl | (simp only [List.length_drop, List.length_take]; rfl)) ?_; (with_reducible refine (r6_Except.calls kj26 (fun k_ => k_ < w.heap.size) _ _ l0 (fun k_ => k_ < w.heap.size) _ _ l1 t544 t547 _ ?side1 ?side2 A36.out).mono ?_); (case side1 => exact Kd.V_mk HC0.out (Kd.F_below (Kd.C_F (Kd.heap_slice 36 k36_heap) HR0.out) (by repeat (first | (with_reducible first | exact HB.out | apply bA_ | apply bN_ | apply b1_) | exact HB.out)))); (case side2 => exact Kd.V_mk HC1.out (Kd.F_below (Kd.C_F (Kd.heap_slice 36 k36_heap) HR1.out) (by repeat (first | (with_reducible first | exact HB.out | apply bA_ | apply bN_ | apply b1_) | exact HB.out)))); rintro e w53 ⟨v545, rfl, ho0, hb⟩; refine ⟨_, rfl, ?_⟩; have n0_ := Aside0.mk (Kd.V_lower (Kd.V_mono (ok' := fun k_ => True) ho0 (fun k_ hk_ => trivial)) (below_size (by repeat (first | (with_reducible first | exact HB.out | apply bA_ | apply bN_ | apply b1_) | exact HB.out)))); have n1_ := Aside0.mk (below_step (by repeat (first | (with_reducible first | exact HB.out | apply bA_ | apply bN_ | apply b1_) | exact HB.out)) hb); clear HB; have HO546 := n0_; have HB := n1_; clear n0_ n1_; (try clear hb); (try clear hb2); (try clear hk); (try clear hi); (try clear ho0)) | ((with_reducible refine gate_callee (f := 37) rfl ?_); refine goesL_ (some 82) rfl rfl Tryz.func37 (by kernel_rfl) rfl #[.slice A0 l0.length c0, .slice A1 l1.length c1] rfl (by (try simp only [List.map_toArray, List.map_cons, List.map_nil]); first | done | rfl | (simp only [List.length_drop, List.length_take]; rfl)) ?_; (with_reducible refine (bag_Except.calls _ _ l0 _ _ l1 t548 t551 _ ?side1 ?side2 ?side3 ?side4 ?sideT A37.out).mono ?_); (case sideT => exact LaidT.below HT.out (by repeat (first | (with_reducible first | exact HB.out | apply bA_ | apply bN_ | apply b1_) | exact HB.out))); (case side1 => repeat (first | exact (Kd.C_below HR0.out HB.out) | (with_reducible refine Kd.cA_ ?_ _) | (with_reducible refine Kd.cN_ ?_ _) | (with_reducible refine Kd.cD_ ?_))); (case side2 => exact HC0.out); (case side3 => repeat (first | exact (Kd.C_below HR1.out HB.out) | (with_reducible refine Kd.cA_ ?_ _) | (with_reducible refine Kd.cN_ ?_ _) | (with_reducible refine Kd.cD_ ?_))); (case side4 => exact HC1.out); rintro e w54 ⟨v549, rfl, ho0, hb⟩; refine ⟨_, rfl, ?_⟩; have n0_ := Aside0.mk (Kd.V_below (by (with_reducible repeat (first | apply Kd.vA_ | apply Kd.vN_ | apply Kd.vD_)); exact HO546.out) hb); have n1_ := Aside0.mk (Kd.V_lower (Kd.V_mono (ok' := fun k_ => True) ho0 (fun k_ hk_ => trivial)) (below_size (by repeat (first | (with_reducible first | exact HB.out | apply bA_ | apply bN_ | apply b1_) | exact HB.out)))); have n2_ := Aside0.mk (below_step (by repeat (first | (with_reducible first | exact HB.out | apply bA_ | apply bN_ | apply b1_) | exact HB.out)) hb); clear HO546; clear HB; have HO546 := n0_; have HO550 := n1_; have HB := n2_; clear n0_ n1_ n2_; (try clear hb); (try clear hb2); (try clear hk); (try clear hi); (try clear ho0)))
               go_ret
               exact ⟨by first | rfl | (simp [*, errW_none, errW_some] <;> rfl), by repeat (first | (with_reducible first | exact HB.out | apply bA_ | apply bN_ | apply b1_) | exact HB.out)⟩
end
end Go.Proofs.YtecgkcgfeghhgaaGreatDoor.PAll
set_option linter.unusedVariables false
namespace Go.Proofs.YtecgkcgfeghhgaaGreatDoor.PAll
open Go.RowKit Go.Proofs.YtecgkcgfeghhgaaGreatDoorW.PrintWords Go.Proofs.YtecgkcgfeghhgaaGreatDoorW.PrintLast Go.Proofs.YtecgkcgfeghhgaaGreatDoorW.PrintMore
theorem law_sets (a b : List (List V)) (ha : RowsOk a) (hb : RowsOk b) (hn : a.length + b.length ≤ 1099511627776) : ∃ k, w6_BagSets.f k a b = some true := by
 have hab : RowsOk (a ++ b) := ha.app hb hn
 have lens : ∀ (c : Bool) (x : List (List V)), (∀ r ∈ x, r ∈ a ++ b) → x.length ≤ a.length + b.length → (if c = true then (sortR [] x, (0 : Int)) else ([], 1)).1.length ≤ 1099511627776 ∧ ∀ r ∈ (if c = true then (sortR [] x, (0 : Int)) else ([], 1)).1, r.length ≤ 1099511627776 := fun c x hx hl => by
  cases c with
  | false => simp
  | true =>
   rw [if_pos rfl]
   refine ⟨?_, fun r hr => ?_⟩
   · show (sortR [] x).length ≤ _
     rw [(sortR_perm [] x).length_eq]
     omega
   · exact hab.len.2 r (hx r ((sortR_perm [] x).mem_iff.1 hr))
 have h : Ev (fun k => w6_BagSets.f k a b) true := by
  unfold w6_BagSets.f
  have e1 : bag_Distinct.f a = some (if validB a = true then (sortR [] (distR [] a), 0) else ([], 1)) := if_pos ha
  have e2 := union_ok hab.v
  have e3 := inter_ok hab
  have e4 := except_ok hab
  have l1 := lens (validB a) (distR [] a) (fun r hr => List.mem_append_left _ (distR_mem a [] r hr)) (by have := distR_len a []; omega)
  have l2 := lens (validB (a ++ b)) (a ++ b) (fun r hr => hr) (by rw [List.length_append]; omega)
  have sl := splitR_len a (cnt (b.map nameOf))
  have l3 := lens (validB (a ++ b)) (splitR (cnt (b.map nameOf)) a).1 (fun r hr => List.mem_append_left _ (met_mem hr)) (by omega)
  have l4 := lens (validB (a ++ b)) (splitR (cnt (b.map nameOf)) a).2 (fun r hr => List.mem_append_left _ (left_mem hr)) (by omega)
  have v1 := rdistinct_ev a ha.v
  have v2 := runion_ev a b hab.v
  have v3 := rintersect_ev a b hab.v
  have v4 := rexcept_ev a b hab.v
  obtain ⟨x1, hx1⟩ : ∃ x, x = (if validB a = true then (sortR [] (distR [] a), (0 : Int)) else ([], 1)) := ⟨_, rfl⟩
  obtain ⟨x2, hx2⟩ : ∃ x, x = (if validB (a ++ b) = true then (sortR [] (a ++ b), (0 : Int)) else ([], 1)) := ⟨_, rfl⟩
  obtain ⟨x3, hx3⟩ : ∃ x, x = (if validB (a ++ b) = true then (sortR [] (splitR (cnt (b.map nameOf)) a).1, (0 : Int)) else ([], 1)) := ⟨_, rfl⟩
  obtain ⟨x4, hx4⟩ : ∃ x, x = (if validB (a ++ b) = true then (sortR [] (splitR (cnt (b.map nameOf)) a).2, (0 : Int)) else ([], 1)) := ⟨_, rfl⟩
  rw [← hx1] at e1 v1 l1
  rw [← hx2] at e2 v2 l2
  rw [← hx3] at e3 v3 l3
  rw [← hx4] at e4 v4 l4
  refine Ev.bind v1 (Ev.congr (f := fun k => (r6_SameLists.f k x1.1 x1.1).bind fun t => w6_BagSets.j0 k a b (!t)) (fun k => by rw [e1]; simp only [Option.bind_some, if_true]) (Ev.bind (sameLists_refl _ l1.1 l1.2) ?_))
  refine Ev.step (f := fun k => (r6_Union.f k a b).bind fun s => (bag_Union.f a b).bind fun u => if u.2 = s.2 then (r6_SameLists.f k u.1 s.1).bind fun t => w6_BagSets.j1 k a b (!t) else w6_BagSets.j1 k a b true) (fun k => by simp only [w6_BagSets.j0]; rw [if_neg (by simp)]) ?_
  refine Ev.bind v2 (Ev.congr (f := fun k => (r6_SameLists.f k x2.1 x2.1).bind fun t => w6_BagSets.j1 k a b (!t)) (fun k => by rw [e2]; simp only [Option.bind_some, if_true]) (Ev.bind (sameLists_refl _ l2.1 l2.2) ?_))
  refine Ev.step (f := fun k => (r6_Intersect.f k a b).bind fun s => (bag_Intersect.f a b).bind fun u => if u.2 = s.2 then (r6_SameLists.f k u.1 s.1).bind fun t => w6_BagSets.j2 k a b (!t) else w6_BagSets.j2 k a b true) (fun k => by simp only [w6_BagSets.j1]; rw [if_neg (by simp)]) ?_
  refine Ev.bind v3 (Ev.congr (f := fun k => (r6_SameLists.f k x3.1 x3.1).bind fun t => w6_BagSets.j2 k a b (!t)) (fun k => by rw [e3]; simp only [Option.bind_some, if_true]) (Ev.bind (sameLists_refl _ l3.1 l3.2) ?_))
  refine Ev.step (f := fun k => (r6_Except.f k a b).bind fun s => (bag_Except.f a b).bind fun u => if u.2 = s.2 then (r6_SameLists.f k u.1 s.1).bind fun t => if t = true then (w6_awake.f).bind fun t553 => some t553 else some false else some false) (fun k => by simp only [w6_BagSets.j2]; rw [if_neg (by simp)]) ?_
  refine Ev.bind v4 (Ev.congr (f := fun k => (r6_SameLists.f k x4.1 x4.1).bind fun t => if t = true then (w6_awake.f).bind fun t553 => some t553 else some false) (fun k => by rw [e4]; simp only [Option.bind_some, if_true]) (Ev.bind (sameLists_refl _ l4.1 l4.2) (Ev.now true)))
 exact h.rounds
end Go.Proofs.YtecgkcgfeghhgaaGreatDoor.PAll
set_option linter.unusedVariables false
namespace Go.Proofs.YtecgkcgfeghhgaaGreatDoor.bagSets
open Go.ChangeShapes Go.WideShapes Go.ChangeAt Go.RowKit Go.Proofs.YtecgkcgfeghhgaaGreatDoor.PAll
open Go.Proofs.YtecgkcgfeghhgaaGreatDoorW.PrintWords Go.Proofs.YtecgkcgfeghhgaaGreatDoorW.PrintLast Go.Proofs.YtecgkcgfeghhgaaGreatDoorW.PrintMore
theorem laidOut : laidOutB Tryz.prog = true := by kernel_rfl
theorem own : ownKnob Tryz.prog.godebug = none := by kernel_rfl
theorem gTab : Tryz.prog.globalNamed "internal/strconv.uint64pow10" = some 0 := by kernel_rfl
theorem gTabType : (Tryz.prog.globals[0]?).map (·.type) = some 165 := by kernel_rfl
theorem uTab : Tryz.prog.underlying 165 = some (.array 20 99) ∧ Tryz.prog.underlying 99 = some (.int .u64) ∧ Tryz.prog.cellsOf 99 = 1 := ⟨by kernel_rfl, by kernel_rfl, by kernel_rfl⟩
theorem cTab : Tryz.prog.cellsOf 165 = 20 := by kernel_rfl
theorem tabEq {H : Type} : Rows.laid_internal_strconv_uint64pow10 (H := H) = Lib.tabData .u64 Lib.pow10Tab := by
 simp [Rows.laid_internal_strconv_uint64pow10, Lib.tabData, Lib.pow10Tab, List.range_succ]
theorem table {W : World} (h : laidMetH Tryz.prog Rows.bagSetsUptoRow.laid W) : LaidT W := by
 have h : laidMet Tryz.prog Rows.bagSetsUptoRow.laid W := h
 obtain ⟨ps, ⟨_, _, _, _, _, _, _, _, _, _, ⟨_, _, _, _, _, _, _, _, _, _, ⟨g', t', cs, fuel, p, q, hg', ht', hvar, hd, _, _⟩, _⟩, _⟩, _⟩ := h
 obtain ⟨he, hi, hc⟩ := uTab
 obtain rfl := Option.some.inj (gTab.symm.trans hg')
 obtain rfl := Option.some.inj (gTabType.symm.trans ht')
 rw [tabEq] at hd
 unfold LaidT Lib.TabIs
 rw [hvar, ← Lib.cells_of_tab he hi hc cTab hd]
theorem contract (H : Type) (enc : TypeId × Value → H) (W : World) (base : Nat) (args : Array Value) (ds gs : List (DataW H)) (before : List MemPlace)
 (hval : ∀ (j : Nat) t v, Tryz.f9.params[j]? = some t → args[j]? = some v → Value.okWide Tryz.prog W .any base t v)
 (hW : DataW.Whole enc Tryz.prog Tryz.f9.params.toList Rows.bagSetsSpec.vars false W args.toList ds gs before) (hk : Rows.uptoSmall H (ds ++ gs) = true) (hL : laidMetH Tryz.prog Rows.bagSetsUptoRow.laid W) :
 Calls Tryz.prog 9 args W fun e W' => ∃ v, e = .returned v ∧ Rows.bagSetsSpec.post enc Tryz.prog Tryz.f9 false true false false W args v W' := by
 have hW' := hW
 obtain ⟨p, q, hA0, hV, rfl, hfz, hnd⟩ := hW
 have hA : DataW.TrodAll enc Tryz.prog W 0 (fun _ => true) true Tryz.f9.params.toList args.toList ds p := hA0
 rw [Tryz.params9] at hA hval
 obtain ⟨v0, vs0, d0, ds0, p0, q0, hargs, rfl, rfl, h0, r0⟩ := trodAll_cons hA
 obtain ⟨v1, vs1, d1, ds1, p1, q1, rfl, rfl, rfl, h1, r1⟩ := trodAll_cons r0
 obtain ⟨rfl, rfl, rfl⟩ := trodAll_nil r1
 obtain rfl : args = #[v0, v1] := by cases args; simp_all
 obtain ⟨rfl, rfl⟩ := trodVars_none hV
 have h0k := h0
 have h1k := h1
 obtain ⟨fuel0, hf0⟩ := h0
 obtain ⟨fuel1, hf1⟩ := h1
 obtain ⟨a0, len0, cap0, rfl⟩ := okWide_slice Tryz.underlying22 (hval 0 22 v0 (by simp) (by simp))
 obtain ⟨A0, cp0, l0, hcs0, hlc0, _, hC0, hv0, hb0⟩ := rows_of_trod hf0
 simp [Value.cells] at hcs0
 obtain ⟨rfl, rfl, rfl⟩ := hcs0
 dsimp only at hb0
 obtain ⟨a1, len1, cap1, rfl⟩ := okWide_slice Tryz.underlying22 (hval 1 22 v1 (by simp) (by simp))
 obtain ⟨A1, cp1, l1, hcs1, hlc1, _, hC1, hv1, hb1⟩ := rows_of_trod hf1
 simp [Value.cells] at hcs1
 obtain ⟨rfl, rfl, rfl⟩ := hcs1
 dsimp only at hb1
 clear hA0
 simp only [List.append_nil] at hW' hk
 have hb : Rows.uptoBulkAll [d0, d1] ≤ 1048576 := of_decide_eq_true hk
 simp only [Rows.uptoBulkAll] at hb
 have hlt : ∀ x ∈ p0 ++ (p1), x.block < W.heap.size := fun x hx => hW'.lt x hx
 obtain ⟨k, hlaw⟩ : ∃ k, w6_BagSets.f k l0 l1 = some true := (law_sets l0 l1 (bulkL_rowsOk hv0 (by omega)) (bulkL_rowsOk hv1 (by omega)) (by have h0 := sum_len bulkR (fun r => by unfold bulkR; omega) l0; have h1 := sum_len bulkR (fun r => by unfold bulkR; omega) l1; unfold bulkL at hb0 hb1; omega))
 refine (w6_BagSets.calls k a0 cap0 l0 a1 cap1 l1 true W hC0 hlc0 hC1 hlc1 (table hL) hlaw).mono fun e W' ⟨he, hg⟩ => ?_
 subst he
 exact ⟨_, rfl, ⟨[d0, d1], [], _, [], _, [], hW', trodAll_mk1 (shut_bool Tryz.underlying4 _), trodAll_cons_mk (Below.trod laidOut (by kernel_rfl) (of_decide_eq_true (by kernel_rfl)) h0k hg (fun x hx => hlt x (List.mem_append_left _ hx))) (trodAll_mk1 (Below.trod laidOut (by kernel_rfl) (of_decide_eq_true (by kernel_rfl)) h1k hg (fun x hx => hlt x (List.mem_append_right _ (hx))))), rfl, hg.frame _, fun h => by cases h⟩⟩
noncomputable def laidWorld (os : Os) : World :=
 let w := World.holding Tryz.prog os ⟨#[], #[], []⟩
 { w with heap := ((w.heap.modify 0 fun
  | .cells _ t frozen => .cells ((Lib.pow10Tab.map (Value.int .u64)).toArray) t frozen
  | o => o).modify 2 fun
  | .cells _ t frozen => .cells #[.int .u8 0, .int .u8 1, .int .u8 28, .int .u8 2, .int .u8 29, .int .u8 14, .int .u8 24, .int .u8 3, .int .u8 30, .int .u8 22, .int .u8 20, .int .u8 15, .int .u8 25, .int .u8 17, .int .u8 4, .int .u8 8, .int .u8 31, .int .u8 27, .int .u8 13, .int .u8 23, .int .u8 21, .int .u8 19, .int .u8 16, .int .u8 7, .int .u8 26, .int .u8 12, .int .u8 18, .int .u8 6, .int .u8 11, .int .u8 5, .int .u8 10, .int .u8 9] t frozen
  | o => o).modify 3 fun
  | .cells _ t frozen => .cells #[.int .u8 0, .int .u8 1, .int .u8 56, .int .u8 2, .int .u8 57, .int .u8 49, .int .u8 28, .int .u8 3, .int .u8 61, .int .u8 58, .int .u8 42, .int .u8 50, .int .u8 38, .int .u8 29, .int .u8 17, .int .u8 4, .int .u8 62, .int .u8 47, .int .u8 59, .int .u8 36, .int .u8 45, .int .u8 43, .int .u8 51, .int .u8 22, .int .u8 53, .int .u8 39, .int .u8 33, .int .u8 30, .int .u8 24, .int .u8 18, .int .u8 12, .int .u8 5, .int .u8 63, .int .u8 55, .int .u8 48, .int .u8 27, .int .u8 60, .int .u8 41, .int .u8 37, .int .u8 16, .int .u8 46, .int .u8 35, .int .u8 44, .int .u8 21, .int .u8 52, .int .u8 32, .int .u8 23, .int .u8 11, .int .u8 54, .int .u8 26, .int .u8 40, .int .u8 15, .int .u8 34, .int .u8 20, .int .u8 31, .int .u8 10, .int .u8 25, .int .u8 14, .int .u8 19, .int .u8 9, .int .u8 13, .int .u8 8, .int .u8 7, .int .u8 6] t frozen
  | o => o }
theorem laid_met (os : Os) : laidMet Tryz.prog Rows.bagSetsUptoRow.laid ((laidWorld os).forCall (fun _ _ => 0) ⟨#[], #[.slice none 0 0, .slice none 0 0], []⟩).memory :=
 laidMet_of_run' 8 (by kernel_rfl) (by kernel_rfl)
theorem reads (os : Os) {H : Type} (enc : TypeId × Value → H) : ∃ places, DataW.whole enc Tryz.prog ((laidWorld os).forCall (fun _ _ => 0) ⟨#[], #[.slice none 0 0, .slice none 0 0], []⟩).memory Tryz.f9.params.toList Rows.bagSetsSpec.vars false (#[.slice none 0 0, .slice none 0 0] : Array Value).toList 8 = some ([.nil, .nil], [], places) :=
 ⟨[], by kernel_rfl⟩
theorem liftedUpto (os : Os) (started : os.Started) (H : Type) (enc : TypeId × Value → H) (F : Stop.Interp) :
 ReturnsInHanded {} Tryz.checked os 9 .any ((Rows.OpenSpec.upto Rows.bagSetsSpec).preRow enc Tryz.prog Tryz.f9 Rows.bagSetsUptoRow.domain false Rows.bagSetsUptoRow.laid) (((Rows.OpenSpec.upto Rows.bagSetsSpec).at F).post enc Tryz.prog Tryz.f9 false true false false) := by
 obtain ⟨places, hx⟩ := reads os enc
 refine returnsInHanded_of_row (C := Tryz.checked) (s := Rows.OpenSpec.upto Rows.bagSetsSpec) own started (by kernel_rfl) Tryz.func9
  (witness_row_at (enc := enc) (C := Tryz.checked) false (laidWorld os) #[.slice none 0 0, .slice none 0 0] rfl (by kernel_rfl) (by kernel_rfl) (by kernel_rfl)
   (OpenSpec.preRow_of_cond 8 hx (by kernel_rfl) (fun k hk => by cases hk; kernel_rfl) (by kernel_rfl) (laid_met os))) ?_
 intro W base args ds gs before hval hW _ hcond _ hL _ _
 exact contract H enc W base args ds gs before hval hW (hcond _ rfl) hL
theorem saidUpto : Rows.BagSetsUptoSaid :=
 OpenClaim.holds_of_cond 9 Tryz.f9 rfl rfl rfl rfl rfl rfl rfl ⟨rfl, rfl, rfl, rfl, rfl⟩ rfl rfl rfl rfl rfl (by kernel_rfl) Tryz.func9 (by kernel_rfl)
  (of_decide_eq_true (by kernel_rfl)) (by unfold Func.isWrapper; first | (rw [if_pos (by decide +kernel)]; kernel_rfl) | (rw [if_neg (by decide +kernel)]; exact ⟨rfl, rfl⟩))
  (fun os started H enc _ F => by rw [OpenClaim.pre_eq_preRow]; exact liftedUpto os started H enc F)
theorem plain (f : FuncId) (fn : Func) (hf : Tryz.pinned.checked.prog.funcNamed "jointer/jointerlaw06.BagSets" = some f) (hfn : Tryz.pinned.checked.prog.funcs[f]? = some fn) :
 false = Tryz.pinned.checked.prog.looks [] ∧ ∀ (j : Nat) t, fn.params[j]? = some t → Tryz.pinned.checked.prog.wantsStandIn t = false := by
 obtain rfl : f = 9 := Option.some.inj ((show Tryz.prog.funcNamed "jointer/jointerlaw06.BagSets" = some 9 by kernel_rfl).symm.trans hf) |>.symm
 obtain rfl : fn = Tryz.f9 := (Option.some.inj (Tryz.func9.symm.trans hfn)).symm
 refine ⟨by kernel_rfl, fun j t ht => ?_⟩
 rw [Tryz.params9] at ht
 have hm := Array.mem_of_getElem? ht
 simp only [List.mem_toArray, List.mem_cons, List.not_mem_nil, or_false] at hm
 rcases hm with rfl | rfl
 · exact (show Tryz.prog.wantsStandIn 22 = false by kernel_rfl)
 · exact (show Tryz.prog.wantsStandIn 22 = false by kernel_rfl)
theorem card : Rows.BagSetsUptoCardSaid :=
 Claim7.holds_tied_plain_at .later [] _ _ _ _ saidUpto (fun _ h => by cases h) (by kernel_rfl) (fun _ h => by cases h) bagSetsUpto_row_tie rfl ⟨rfl, rfl⟩ (by kernel_rfl) rfl plain (by kernel_rfl)
end Go.Proofs.YtecgkcgfeghhgaaGreatDoor.bagSets
