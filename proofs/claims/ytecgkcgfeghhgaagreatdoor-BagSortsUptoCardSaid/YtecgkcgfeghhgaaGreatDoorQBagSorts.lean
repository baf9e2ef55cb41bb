/- The row of BagSorts (second form: what it reads is of bulk at most 2^20) and its card. Joined by a program of this session out of its texts. -/
import Derived.Test.YtecgkcgfeghhgaaGreatDoorQBagSorts2
import Derived.WalkKit
import Derived.ProofKit
import Derived.OpenShut
import Derived.Carry
import Derived.Deep.DeepHandedRow
import Derived.Lib.LaidTab
namespace Go.Proofs.YtecgkcgfeghhgaaGreatDoor.PAll
open Go.RowKit Go.Proofs.YtecgkcgfeghhgaaGreatDoorW.PrintWords Go.Proofs.YtecgkcgfeghhgaaGreatDoorW.PrintLast Go.Proofs.YtecgkcgfeghhgaaGreatDoorW.PrintMore
attribute [local go_sem] max2_int min2_int max_two min_two max_three min_three max_four min_four
set_option linter.unusedVariables false
set_option linter.unusedSimpArgs false
noncomputable section
def jointerlaw06_BagSorts.j0 : Nat → List (List (S36)) → List (S64) → List (List (S36)) → Int → Bool → Option (Bool)
 | 0, _, _, _, _, _ => none
 | k + 1, x0, x1, x8, x9, x40 => if x40 = true then (some false) else (if x9 = 0 then ((bag_Sorted.f x8 x1).bind fun t456 => (if t456 = true then ((bag_Same.f x0 x8).bind fun t457 => (if t457 = true then ((jointerlaw06_awake.f).bind fun t458 => (some t458)) else (some false))) else (some false))) else ((jointerlaw06_awake.f).bind fun t459 => (if t459 = true then (some true) else (some false))))
def jointerlaw06_BagSorts.f (k : Nat) (l0 : List (List (S36))) (l1 : List (S64)) : Option (Bool) := (jointerref06_Sorted.f k l0 l1).bind fun t445 => ((jointerref06_Sort.f k l0 l1).bind fun bt446 => ((bag_Sort.f l0 l1).bind fun bt450 => (if bt450.2 = bt446.2 then ((jointerref06_SameLists.f k bt450.1 bt446.1).bind fun t454 => (if t454 = true then ((bag_Sorted.f l0 l1).bind fun t455 => (jointerlaw06_BagSorts.j0 k l0 l1 bt450.1 bt450.2 (t455 != t445))) else (jointerlaw06_BagSorts.j0 k l0 l1 bt450.1 bt450.2 true))) else (jointerlaw06_BagSorts.j0 k l0 l1 bt450.1 bt450.2 true))))
theorem jointerlaw06_BagSorts.mono_l : ∀ k, (∀ y0 y1 y2 y3 y4, LeO (jointerlaw06_BagSorts.j0 k y0 y1 y2 y3 y4) (jointerlaw06_BagSorts.j0 (k + 1) y0 y1 y2 y3 y4))
 | 0 => fun _ _ _ _ _ r h => by simp [jointerlaw06_BagSorts.j0] at h
 | k + 1 => by
  have ih0 := jointerlaw06_BagSorts.mono_l k
  · intro y0 y1 y2 y3 y4
    unfold jointerlaw06_BagSorts.j0
    repeat' first
    | (with_reducible exact ih0 _ _ _ _ _)
    | (with_reducible exact jointerref06_SameLists.mono _ _ _)
    | (with_reducible exact jointerref06_Sort.mono _ _ _)
    | (with_reducible exact jointerref06_Sorted.mono _ _ _)
    | (with_reducible exact LeO.refl _)
    | (with_reducible exact LeO.none _)
    | (with_reducible refine LeO.ite ?_ ?_)
    | (with_reducible refine LeO.bind ?_ (fun _ => ?_))
    | exact ih0 _ _ _ _ _
    | exact jointerref06_SameLists.mono _ _ _
    | exact jointerref06_Sort.mono _ _ _
    | exact jointerref06_Sorted.mono _ _ _
    | exact LeO.none _
    | refine LeO.ite ?_ ?_
    | refine LeO.bind ?_ (fun _ => ?_)
theorem jointerlaw06_BagSorts.mono : ∀ a0 a1 k, LeO (jointerlaw06_BagSorts.f k a0 a1) (jointerlaw06_BagSorts.f (k + 1) a0 a1) := by
 intro a0 a1 k
 have ih0 := jointerlaw06_BagSorts.mono_l k
 unfold jointerlaw06_BagSorts.f
 repeat' first
  | (with_reducible exact ih0 _ _ _ _ _)
  | (with_reducible exact jointerref06_SameLists.mono _ _ _)
  | (with_reducible exact jointerref06_Sort.mono _ _ _)
  | (with_reducible exact jointerref06_Sorted.mono _ _ _)
  | (with_reducible exact LeO.refl _)
  | (with_reducible exact LeO.none _)
  | (with_reducible refine LeO.ite ?_ ?_)
  | (with_reducible refine LeO.bind ?_ (fun _ => ?_))
  | exact ih0 _ _ _ _ _
  | exact jointerref06_SameLists.mono _ _ _
  | exact jointerref06_Sort.mono _ _ _
  | exact jointerref06_Sorted.mono _ _ _
  | exact LeO.none _
  | refine LeO.ite ?_ ?_
  | refine LeO.bind ?_ (fun _ => ?_)
set_option maxHeartbeats 8000000 in
set_option maxRecDepth 100000 in
theorem jointerlaw06_BagSorts.calls (k : Nat) (A0 : Option Addr) (c0 : Nat) (l0 : List (List (S36))) (A1 : Option Addr) (c1 : Nat) (l1 : List (S64)) (r : Bool) (w : World) (hr0 : Kd.C (Kd.slice 36 k36) w A0 l0.length l0) (hc0 : l0.length ≤ c0) (hr1 : Kd.C k64 w A1 l1.length l1) (hc1 : l1.length ≤ c1) (hT : LaidT w) (h : jointerlaw06_BagSorts.f k l0 l1 = some r) :
 Calls Tryz.prog 8 #[.slice A0 l0.length c0, .slice A1 l1.length c1] w fun e w' => e = .returned (.bool r) ∧ Below w.heap.size w w' := by
 have HT := Aside0.mk hT
 clear hT
 have HR0 := Aside0.mk hr0
 have HC0 := Aside0.mk hc0
 clear hr0 hc0
 have HR1 := Aside0.mk hr1
 have HC1 := Aside0.mk hc1
 clear hr1 hc1
 have HB := Aside0.mk (Below.refl w.heap.size w)
 have H : ((jointerref06_Sorted.f k l0 l1).bind fun t445 => ((jointerref06_Sort.f k l0 l1).bind fun bt446 => ((bag_Sort.f l0 l1).bind fun bt450 => (if bt450.2 = bt446.2 then ((jointerref06_SameLists.f k bt450.1 bt446.1).bind fun t454 => (if t454 = true then ((bag_Sorted.f l0 l1).bind fun t455 => (jointerlaw06_BagSorts.j0 k l0 l1 bt450.1 bt450.2 (t455 != t445))) else (jointerlaw06_BagSorts.j0 k l0 l1 bt450.1 bt450.2 true))) else (jointerlaw06_BagSorts.j0 k l0 l1 bt450.1 bt450.2 true))))) = some r := h
 clear h
 replace H := Option.bind_eq_some_iff.mp H
 obtain ⟨t445, A30, H⟩ := H
 replace H : ((jointerref06_Sort.f k l0 l1).bind fun bt446 => ((bag_Sort.f l0 l1).bind fun bt450 => (if bt450.2 = bt446.2 then ((jointerref06_SameLists.f k bt450.1 bt446.1).bind fun t454 => (if t454 = true then ((bag_Sorted.f l0 l1).bind fun t455 => (jointerlaw06_BagSorts.j0 k l0 l1 bt450.1 bt450.2 (t455 != t445))) else (jointerlaw06_BagSorts.j0 k l0 l1 bt450.1 bt450.2 true))) else (jointerlaw06_BagSorts.j0 k l0 l1 bt450.1 bt450.2 true)))) = some r := H
 have A3 := Aside0.mk A30
 clear A30
 replace H := Option.bind_eq_some_iff.mp H
 obtain ⟨⟨t446, t449⟩, A40, H⟩ := H
 replace H : ((bag_Sort.f l0 l1).bind fun bt450 => (if bt450.2 = t449 then ((jointerref06_SameLists.f k bt450.1 t446).bind fun t454 => (if t454 = true then ((bag_Sorted.f l0 l1).bind fun t455 => (jointerlaw06_BagSorts.j0 k l0 l1 bt450.1 bt450.2 (t455 != t445))) else (jointerlaw06_BagSorts.j0 k l0 l1 bt450.1 bt450.2 true))) else (jointerlaw06_BagSorts.j0 k l0 l1 bt450.1 bt450.2 true))) = some r := H
 have A4 := Aside0.mk A40
 clear A40
 replace H := Option.bind_eq_some_iff.mp H
 obtain ⟨⟨t450, t453⟩, A50, H⟩ := H
 replace H : (if t453 = t449 then ((jointerref06_SameLists.f k t450 t446).bind fun t454 => (if t454 = true then ((bag_Sorted.f l0 l1).bind fun t455 => (jointerlaw06_BagSorts.j0 k l0 l1 t450 t453 (t455 != t445))) else (jointerlaw06_BagSorts.j0 k l0 l1 t450 t453 true))) else (jointerlaw06_BagSorts.j0 k l0 l1 t450 t453 true)) = some r := H
 have A5 := Aside0.mk A50
 clear A50
 have HC6 := Aside0.mk H
 clear H
 go_enter Tryz.func8, Tryz.ntmps8
 go_upto_region 4 with (first | ((with_reducible refine gate_callee (f := 26) rfl ?_); refine goesL_ (some 12) rfl rfl Tryz.func26 (by kernel_rfl) rfl #[.slice A0 l0.length c0, .slice A1 l1.length c1] rfl (by (try simp only [List.map_toArray, List.map_cons, List.map_nil]); first | done | rfl | (simp only [List.length_drop, List.length_take]; rfl)) ?_; (with_reducible refine (jointerref06_Sorted.calls k _ _ l0 _ _ l1 t445 _ ?side1 ?side2 ?side3 ?side4 A3.out).mono ?_); (case side1 => repeat (first | exact HR0.out | (with_reducible refine Kd.C_alloc ?_ _) | (with_reducible refine Kd.C_drewN ?_ _) | (with_reducible refine Kd.C_drew ?_))); (case side2 => exact HC0.out); (case side3 => repeat (first | exact HR1.out | (with_reducible refine Kd.C_alloc ?_ _) | (with_reducible refine Kd.C_drewN ?_ _) | (with_reducible refine Kd.C_drew ?_))); (case side4 => exact HC1.out); rintro e w7 ⟨rfl, hb⟩; refine ⟨_, rfl, ?_⟩; have n0_ := Aside0.mk (below_step (by repeat (first | (with_reducible first | exact HB.out | apply below_alloc | apply pw_below_drewN | apply below_drew1) | exact HB.out)) hb); clear HB; have HB := n0_; clear n0_; (try clear hb); (try clear hb2); (try clear hk); (try clear hi)) | ((with_reducible refine gate_callee (f := 27) rfl ?_); refine goesL_ (some 16) rfl rfl Tryz.func27 (by kernel_rfl) rfl #[.slice A0 l0.length c0, .slice A1 l1.length c1] rfl (by (try simp only [List.map_toArray, List.map_cons, List.map_nil]); first | done | rfl | (simp only [List.length_drop, List.length_take]; rfl)) ?_; (with_reducible refine (jointerref06_Sort.calls k _ _ l0 _ _ l1 t446 t449 _ ?side1 ?side2 ?side3 ?side4 A4.out).mono ?_); (case side1 => repeat (first | exact (Kd.C_below HR0.out HB.out) | (with_reducible refine Kd.C_alloc ?_ _) | (with_reducible refine Kd.C_drewN ?_ _) | (with_reducible refine Kd.C_drew ?_))); (case side2 => exact HC0.out); (case side3 => repeat (first | exact (Kd.C_below HR1.out HB.out) | (with_reducible refine Kd.C_alloc ?_ _) | (with_reducible refine Kd.C_drewN ?_ _) | (with_reducible refine Kd.C_drew ?_))); (case side4 => exact HC1.out); rintro e w8 ⟨v447, rfl, ho0, hb⟩; refine ⟨_, rfl, ?_⟩; have n0_ := Aside0.mk (Kd.V_lower (Kd.V_mono (ok' := fun k_ => True) ho0 (fun k_ hk_ => trivial)) (below_size (by repeat (first | (with_reducible first | exact HB.out | apply below_alloc | apply pw_below_drewN | apply below_drew1) | exact HB.out)))); have n1_ := Aside0.mk (below_step (by repeat (first | (with_reducible first | exact HB.out | apply below_alloc | apply pw_below_drewN | apply below_drew1) | exact HB.out)) hb); clear HB; have HO448 := n0_; have HB := n1_; clear n0_ n1_; (try clear hb); (try clear hb2); (try clear hk); (try clear hi); (try clear ho0)) | ((with_reducible refine gate_callee (f := 28) rfl ?_); refine goesL_ (some 22) rfl rfl Tryz.func28 (by kernel_rfl) rfl #[.slice A0 l0.length c0, .slice A1 l1.length c1] rfl (by (try simp only [List.map_toArray, List.map_cons, List.map_nil]); first | done | rfl | (simp only [List.length_drop, List.length_take]; rfl)) ?_; (with_reducible refine (bag_Sort.calls _ _ l0 _ _ l1 t450 t453 _ ?side1 ?side2 ?side3 ?side4 A5.out).mono ?_); (case side1 => repeat (first | exact (Kd.C_below HR0.out HB.out) | (with_reducible refine Kd.C_alloc ?_ _) | (with_reducible refine Kd.C_drewN ?_ _) | (with_reducible refine Kd.C_drew ?_))); (case side2 => exact HC0.out); (case side3 => repeat (first | exact (Kd.C_below HR1.out HB.out) | (with_reducible refine Kd.C_alloc ?_ _) | (with_reducible refine Kd.C_drewN ?_ _) | (with_reducible refine Kd.C_drew ?_))); (case side4 => exact HC1.out); rintro e w9 ⟨v451, rfl, ho0, hb⟩; refine ⟨_, rfl, ?_⟩; have n0_ := Aside0.mk (Kd.V_below (by (with_reducible repeat (first | apply Kd.V_alloc | apply Kd.V_drewN | apply Kd.V_drew)); exact HO448.out) hb); have n1_ := Aside0.mk (Kd.V_lower (Kd.V_mono (ok' := fun k_ => True) ho0 (fun k_ hk_ => trivial)) (below_size (by repeat (first | (with_reducible first | exact HB.out | apply below_alloc | apply pw_below_drewN | apply below_drew1) | exact HB.out)))); have n2_ := Aside0.mk (below_step (by repeat (first | (with_reducible first | exact HB.out | apply below_alloc | apply pw_below_drewN | apply below_drew1) | exact HB.out)) hb); clear HO448; clear HB; have HO448 := n0_; have HO452 := n1_; have HB := n2_; clear n0_ n1_ n2_; (try clear hb); (try clear hb2); (try clear hk); (try clear hi); (try clear ho0)))
 (try simp only [Act.put, List.setIfInBounds_toArray, List.set_cons_zero, List.set_cons_succ])
 go_cut [40] (fun v40 wc => ∃ (kq : Nat) (x40_5 : Bool), v40 = .bool x40_5 ∧ Aside0 (jointerlaw06_BagSorts.j0 kq l0 l1 t450 t453 x40_5 = some r) ∧ Aside0 (kq ≤ k) ∧ Aside0 (Kd.V (Kd.slice 36 k36) 53 wc w.heap.size (fun _ => True) v451 t450) ∧ Aside0 (Below w.heap.size w wc))
 case first =>
  have H := HC6.out
  clear HC6
  by_cases c10 : t453 = t449
  · rw [if_pos c10] at H
    have c10b0 : (t453 == t449) = true := beq_iff_eq.mpr c10
    have c10b1 : (t453 != t449) = false := bne_eq_false_iff_eq.mpr c10
    clear c10
    (first | rw [c10b0] | (simp only [i64_w, i32_w]; rw [c10b0]) | skip)
    replace H := Option.bind_eq_some_iff.mp H
    obtain ⟨t454, A110, H⟩ := H
    replace H : (if t454 = true then ((bag_Sorted.f l0 l1).bind fun t455 => (jointerlaw06_BagSorts.j0 k l0 l1 t450 t453 (t455 != t445))) else (jointerlaw06_BagSorts.j0 k l0 l1 t450 t453 true)) = some r := H
    have A11 := Aside0.mk A110
    clear A110
    by_cases c12 : t454 = true
    · subst c12
      have H1 : ((bag_Sorted.f l0 l1).bind fun t455 => (jointerlaw06_BagSorts.j0 k l0 l1 t450 t453 (t455 != t445))) = some r := by rw [if_pos rfl] at H; exact H
      clear H
      have H := H1
      clear H1
      replace H := Option.bind_eq_some_iff.mp H
      obtain ⟨t455, A130, H⟩ := H
      replace H : (jointerlaw06_BagSorts.j0 k l0 l1 t450 t453 (t455 != t445)) = some r := H
      have A13 := Aside0.mk A130
      clear A130
      have H' := Aside0.mk H
      clear H
      obtain ⟨Ao14, co14, eo14⟩ := Kd.V_slice HO452.out
      subst eo14
      obtain ⟨Ao15, co15, eo15⟩ := Kd.V_slice HO448.out
      subst eo15
      go_wp2_with (first | (go_at_call 19; (with_reducible refine (jointerref06_SameLists.calls k _ _ t450 _ _ t446 true _ ?side1 ?side2 ?side3 ?side4 A11.out).mono ?_); (case side1 => repeat (first | exact (Kd.V_reads' HO452.out).2.2 | (with_reducible refine Kd.C_alloc ?_ _) | (with_reducible refine Kd.C_drewN ?_ _) | (with_reducible refine Kd.C_drew ?_))); (case side2 => exact (Kd.V_reads' HO452.out).2.1); (case side3 => repeat (first | exact (Kd.V_reads' HO448.out).2.2 | (with_reducible refine Kd.C_alloc ?_ _) | (with_reducible refine Kd.C_drewN ?_ _) | (with_reducible refine Kd.C_drew ?_))); (case side4 => exact (Kd.V_reads' HO448.out).2.1); rintro e w16 ⟨rfl, hb⟩; have n0_ := Aside0.mk (Kd.V_below (by (with_reducible repeat (first | apply Kd.V_alloc | apply Kd.V_drewN | apply Kd.V_drew)); exact HO448.out) hb); have n1_ := Aside0.mk (Kd.V_below (by (with_reducible repeat (first | apply Kd.V_alloc | apply Kd.V_drewN | apply Kd.V_drew)); exact HO452.out) hb); have n2_ := Aside0.mk (below_step (by repeat (first | (with_reducible first | exact HB.out | apply below_alloc | apply pw_below_drewN | apply below_drew1) | exact HB.out)) hb); clear HO448; clear HO452; clear HB; have HO448 := n0_; have HO452 := n1_; have HB := n2_; clear n0_ n1_ n2_; (try clear hb); (try clear hb2); (try clear hk); (try clear hi)) | (go_at_call 29; (with_reducible refine (bag_Sorted.calls _ _ l0 _ _ l1 t455 _ ?side1 ?side2 ?side3 ?side4 A13.out).mono ?_); (case side1 => repeat (first | exact (Kd.C_below HR0.out HB.out) | (with_reducible refine Kd.C_alloc ?_ _) | (with_reducible refine Kd.C_drewN ?_ _) | (with_reducible refine Kd.C_drew ?_))); (case side2 => exact HC0.out); (case side3 => repeat (first | exact (Kd.C_below HR1.out HB.out) | (with_reducible refine Kd.C_alloc ?_ _) | (with_reducible refine Kd.C_drewN ?_ _) | (with_reducible refine Kd.C_drew ?_))); (case side4 => exact HC1.out); rintro e w17 ⟨rfl, hb⟩; have n0_ := Aside0.mk (Kd.V_below (by (with_reducible repeat (first | apply Kd.V_alloc | apply Kd.V_drewN | apply Kd.V_drew)); exact HO448.out) hb); have n1_ := Aside0.mk (Kd.V_below (by (with_reducible repeat (first | apply Kd.V_alloc | apply Kd.V_drewN | apply Kd.V_drew)); exact HO452.out) hb); have n2_ := Aside0.mk (below_step (by repeat (first | (with_reducible first | exact HB.out | apply below_alloc | apply pw_below_drewN | apply below_drew1) | exact HB.out)) hb); clear HO448; clear HO452; clear HB; have HO448 := n0_; have HO452 := n1_; have HB := n2_; clear n0_ n1_ n2_; (try clear hb); (try clear hb2); (try clear hk); (try clear hi)))
      go_meet
      case rel => exact ⟨_, ((t455 != t445)), (by first | rfl | (simp; done) | (simp [*]; done)), H', ⟨by first | omega | exact Nat.le_refl _⟩, ⟨by (with_reducible repeat (first | apply Kd.V_alloc | apply Kd.V_drewN | apply Kd.V_drew)); exact HO452.out⟩, ⟨by repeat (first | (with_reducible first | exact HB.out | apply below_alloc | apply pw_below_drewN | apply below_drew1) | exact HB.out)⟩⟩
    · replace c12 := Bool.eq_false_iff.mpr c12
      subst c12
      have H1 : (jointerlaw06_BagSorts.j0 k l0 l1 t450 t453 true) = some r := by rw [if_neg (show ¬ (false = true) by decide)] at H; exact H
      clear H
      have H := H1
      clear H1
      have H' := Aside0.mk H
      clear H
      obtain ⟨Ao18, co18, eo18⟩ := Kd.V_slice HO452.out
      subst eo18
      obtain ⟨Ao19, co19, eo19⟩ := Kd.V_slice HO448.out
      subst eo19
      go_wp2_with (first | (go_at_call 19; (with_reducible refine (jointerref06_SameLists.calls k _ _ t450 _ _ t446 false _ ?side1 ?side2 ?side3 ?side4 A11.out).mono ?_); (case side1 => repeat (first | exact (Kd.V_reads' HO452.out).2.2 | (with_reducible refine Kd.C_alloc ?_ _) | (with_reducible refine Kd.C_drewN ?_ _) | (with_reducible refine Kd.C_drew ?_))); (case side2 => exact (Kd.V_reads' HO452.out).2.1); (case side3 => repeat (first | exact (Kd.V_reads' HO448.out).2.2 | (with_reducible refine Kd.C_alloc ?_ _) | (with_reducible refine Kd.C_drewN ?_ _) | (with_reducible refine Kd.C_drew ?_))); (case side4 => exact (Kd.V_reads' HO448.out).2.1); rintro e w20 ⟨rfl, hb⟩; have n0_ := Aside0.mk (Kd.V_below (by (with_reducible repeat (first | apply Kd.V_alloc | apply Kd.V_drewN | apply Kd.V_drew)); exact HO448.out) hb); have n1_ := Aside0.mk (Kd.V_below (by (with_reducible repeat (first | apply Kd.V_alloc | apply Kd.V_drewN | apply Kd.V_drew)); exact HO452.out) hb); have n2_ := Aside0.mk (below_step (by repeat (first | (with_reducible first | exact HB.out | apply below_alloc | apply pw_below_drewN | apply below_drew1) | exact HB.out)) hb); clear HO448; clear HO452; clear HB; have HO448 := n0_; have HO452 := n1_; have HB := n2_; clear n0_ n1_ n2_; (try clear hb); (try clear hb2); (try clear hk); (try clear hi)))
      go_meet
      case rel => exact ⟨_, (true), (by first | rfl | (simp; done) | (simp [*]; done)), H', ⟨by first | omega | exact Nat.le_refl _⟩, ⟨by (with_reducible repeat (first | apply Kd.V_alloc | apply Kd.V_drewN | apply Kd.V_drew)); exact HO452.out⟩, ⟨by repeat (first | (with_reducible first | exact HB.out | apply below_alloc | apply pw_below_drewN | apply below_drew1) | exact HB.out)⟩⟩
  · rw [if_neg c10] at H
    have c10b0 : (t453 == t449) = false := beq_eq_false_iff_ne.mpr c10
    have c10b1 : (t453 != t449) = true := bne_iff_ne.mpr c10
    (first | rw [c10b0] | (simp only [i64_w, i32_w]; rw [c10b0]) | skip)
    have H' := Aside0.mk H
    clear H
    go_wp2
    go_meet
    case rel => exact ⟨_, (true), (by first | rfl | (simp; done) | (simp [*]; done)), H', ⟨by first | omega | exact Nat.le_refl _⟩, ⟨by (with_reducible repeat (first | apply Kd.V_alloc | apply Kd.V_drewN | apply Kd.V_drew)); exact HO452.out⟩, ⟨by repeat (first | (with_reducible first | exact HB.out | apply below_alloc | apply pw_below_drewN | apply below_drew1) | exact HB.out)⟩⟩
 case rest =>
  clear HC6
  try clear c1
  try clear c2
  try clear p2
  try clear c8
  try clear c10
  try clear c10b0
  try clear c10b1
  try clear c12
  obtain ⟨kq, x40_5, rfl, HA, HJ5, HO_8, HB⟩ := hcut
  cases kq with
  | zero => exact absurd HA.out (by simp [jointerlaw06_BagSorts.j0])
  | succ kj5 =>
   have H := HA.out
   clear HA
   simp only [jointerlaw06_BagSorts.j0] at H
   by_cases c21 : x40_5 = true
   · subst c21
     have H1 : (some false) = some r := by rw [if_pos rfl] at H; exact H
     clear H
     have H := H1
     clear H1
     obtain rfl := Option.some.inj H
     go_wp2
     go_ret
     exact ⟨by first | rfl | (simp [errW_none, errW_some] <;> rfl) | (simp [*, errW_none, errW_some] <;> rfl), by repeat (first | (with_reducible first | exact HB.out | apply below_alloc | apply pw_below_drewN | apply below_drew1) | exact HB.out)⟩
   · replace c21 := Bool.eq_false_iff.mpr c21
     subst c21
     have H1 : (if t453 = 0 then ((bag_Sorted.f t450 l1).bind fun t456 => (if t456 = true then ((bag_Same.f l0 t450).bind fun t457 => (if t457 = true then ((jointerlaw06_awake.f).bind fun t458 => (some t458)) else (some false))) else (some false))) else ((jointerlaw06_awake.f).bind fun t459 => (if t459 = true then (some true) else (some false)))) = some r := by rw [if_neg (show ¬ (false = true) by decide)] at H; exact H
     clear H
     have H := H1
     clear H1
     by_cases c22 : t453 = 0
     · rw [if_pos c22] at H
       have c22b0 : (t453 == 0) = true := beq_iff_eq.mpr c22
       have c22b1 : (t453 != 0) = false := bne_eq_false_iff_eq.mpr c22
       clear c22
       replace H := Option.bind_eq_some_iff.mp H
       obtain ⟨t456, A230, H⟩ := H
       replace H : (if t456 = true then ((bag_Same.f l0 t450).bind fun t457 => (if t457 = true then ((jointerlaw06_awake.f).bind fun t458 => (some t458)) else (some false))) else (some false)) = some r := H
       have A23 := Aside0.mk A230
       clear A230
       by_cases c24 : t456 = true
       · subst c24
         have H1 : ((bag_Same.f l0 t450).bind fun t457 => (if t457 = true then ((jointerlaw06_awake.f).bind fun t458 => (some t458)) else (some false))) = some r := by rw [if_pos rfl] at H; exact H
         clear H
         have H := H1
         clear H1
         replace H := Option.bind_eq_some_iff.mp H
         obtain ⟨t457, A250, H⟩ := H
         replace H : (if t457 = true then ((jointerlaw06_awake.f).bind fun t458 => (some t458)) else (some false)) = some r := H
         have A25 := Aside0.mk A250
         clear A250
         by_cases c26 : t457 = true
         · subst c26
           have H1 : ((jointerlaw06_awake.f).bind fun t458 => (some t458)) = some r := by rw [if_pos rfl] at H; exact H
           clear H
           have H := H1
           clear H1
           replace H := Option.bind_eq_some_iff.mp H
           obtain ⟨t458, A270, H⟩ := H
           replace H : (some t458) = some r := H
           have A27 := Aside0.mk A270
           clear A270
           obtain rfl := Option.some.inj H
           obtain ⟨Ao28, co28, eo28⟩ := Kd.V_slice HO_8.out
           subst eo28
           go_wp2_with (first | (go_at_call 29; (with_reducible refine (bag_Sorted.calls _ _ t450 _ _ l1 true _ ?side1 ?side2 ?side3 ?side4 A23.out).mono ?_); (case side1 => repeat (first | exact (Kd.V_reads' HO_8.out).2.2 | (with_reducible refine Kd.C_alloc ?_ _) | (with_reducible refine Kd.C_drewN ?_ _) | (with_reducible refine Kd.C_drew ?_))); (case side2 => exact (Kd.V_reads' HO_8.out).2.1); (case side3 => repeat (first | exact (Kd.C_below HR1.out HB.out) | (with_reducible refine Kd.C_alloc ?_ _) | (with_reducible refine Kd.C_drewN ?_ _) | (with_reducible refine Kd.C_drew ?_))); (case side4 => exact HC1.out); rintro e w29 ⟨rfl, hb⟩; have n0_ := Aside0.mk (Kd.V_below (by (with_reducible repeat (first | apply Kd.V_alloc | apply Kd.V_drewN | apply Kd.V_drew)); exact HO_8.out) hb); have n1_ := Aside0.mk (below_step (by repeat (first | (with_reducible first | exact HB.out | apply below_alloc | apply pw_below_drewN | apply below_drew1) | exact HB.out)) hb); clear HO_8; clear HB; have HO_8 := n0_; have HB := n1_; clear n0_ n1_; (try clear hb); (try clear hb2); (try clear hk); (try clear hi)) | (go_at_call 15; (with_reducible refine (bag_Same.calls _ _ l0 _ _ t450 true _ ?side1 ?side2 ?side3 ?side4 ?sideT A25.out).mono ?_); (case sideT => exact LaidT.below HT.out (by repeat (first | (with_reducible first | exact HB.out | apply below_alloc | apply pw_below_drewN | apply below_drew1) | exact HB.out))); (case side1 => repeat (first | exact (Kd.C_below HR0.out HB.out) | (with_reducible refine Kd.C_alloc ?_ _) | (with_reducible refine Kd.C_drewN ?_ _) | (with_reducible refine Kd.C_drew ?_))); (case side2 => exact HC0.out); (case side3 => repeat (first | exact (Kd.V_reads' HO_8.out).2.2 | (with_reducible refine Kd.C_alloc ?_ _) | (with_reducible refine Kd.C_drewN ?_ _) | (with_reducible refine Kd.C_drew ?_))); (case side4 => exact (Kd.V_reads' HO_8.out).2.1); rintro e w30 ⟨rfl, hb⟩; have n0_ := Aside0.mk (Kd.V_below (by (with_reducible repeat (first | apply Kd.V_alloc | apply Kd.V_drewN | apply Kd.V_drew)); exact HO_8.out) hb); have n1_ := Aside0.mk (below_step (by repeat (first | (with_reducible first | exact HB.out | apply below_alloc | apply pw_below_drewN | apply below_drew1) | exact HB.out)) hb); clear HO_8; clear HB; have HO_8 := n0_; have HB := n1_; clear n0_ n1_; (try clear hb); (try clear hb2); (try clear hk); (try clear hi)) | (go_at_call 13; (with_reducible refine (jointerlaw06_awake.calls  t458 _ ?sideT A27.out).mono ?_); (case sideT => exact LaidT.below HT.out (by repeat (first | (with_reducible first | exact HB.out | apply below_alloc | apply pw_below_drewN | apply below_drew1) | exact HB.out))); rintro e w31 ⟨rfl, hb⟩; have n0_ := Aside0.mk (Kd.V_below (by (with_reducible repeat (first | apply Kd.V_alloc | apply Kd.V_drewN | apply Kd.V_drew)); exact HO_8.out) hb); have n1_ := Aside0.mk (below_step (by repeat (first | (with_reducible first | exact HB.out | apply below_alloc | apply pw_below_drewN | apply below_drew1) | exact HB.out)) hb); clear HO_8; clear HB; have HO_8 := n0_; have HB := n1_; clear n0_ n1_; (try clear hb); (try clear hb2); (try clear hk); (try clear hi)))
           go_ret
           exact ⟨by first | rfl | (simp [errW_none, errW_some] <;> rfl) | (simp [*, errW_none, errW_some] <;> rfl), by repeat (first | (with_reducible first | exact HB.out | apply below_alloc | apply pw_below_drewN | apply below_drew1) | exact HB.out)⟩
         · replace c26 := Bool.eq_false_iff.mpr c26
           subst c26
           have H1 : (some false) = some r := by rw [if_neg (show ¬ (false = true) by decide)] at H; exact H
           clear H
           have H := H1
           clear H1
           obtain rfl := Option.some.inj H
           obtain ⟨Ao32, co32, eo32⟩ := Kd.V_slice HO_8.out
           subst eo32
           go_wp2_with (first | (go_at_call 29; (with_reducible refine (bag_Sorted.calls _ _ t450 _ _ l1 true _ ?side1 ?side2 ?side3 ?side4 A23.out).mono ?_); (case side1 => repeat (first | exact (Kd.V_reads' HO_8.out).2.2 | (with_reducible refine Kd.C_alloc ?_ _) | (with_reducible refine Kd.C_drewN ?_ _) | (with_reducible refine Kd.C_drew ?_))); (case side2 => exact (Kd.V_reads' HO_8.out).2.1); (case side3 => repeat (first | exact (Kd.C_below HR1.out HB.out) | (with_reducible refine Kd.C_alloc ?_ _) | (with_reducible refine Kd.C_drewN ?_ _) | (with_reducible refine Kd.C_drew ?_))); (case side4 => exact HC1.out); rintro e w33 ⟨rfl, hb⟩; have n0_ := Aside0.mk (Kd.V_below (by (with_reducible repeat (first | apply Kd.V_alloc | apply Kd.V_drewN | apply Kd.V_drew)); exact HO_8.out) hb); have n1_ := Aside0.mk (below_step (by repeat (first | (with_reducible first | exact HB.out | apply below_alloc | apply pw_below_drewN | apply below_drew1) | exact HB.out)) hb); clear HO_8; clear HB; have HO_8 := n0_; have HB := n1_; clear n0_ n1_; (try clear hb); (try clear hb2); (try clear hk); (try clear hi)) | (go_at_call 15; (with_reducible refine (bag_Same.calls _ _ l0 _ _ t450 false _ ?side1 ?side2 ?side3 ?side4 ?sideT A25.out).mono ?_); (case sideT => exact LaidT.below HT.out (by repeat (first | (with_reducible first | exact HB.out | apply below_alloc | apply pw_below_drewN | apply below_drew1) | exact HB.out))); (case side1 => repeat (first | exact (Kd.C_below HR0.out HB.out) | (with_reducible refine Kd.C_alloc ?_ _) | (with_reducible refine Kd.C_drewN ?_ _) | (with_reducible refine Kd.C_drew ?_))); (case side2 => exact HC0.out); (case side3 => repeat (first | exact (Kd.V_reads' HO_8.out).2.2 | (with_reducible refine Kd.C_alloc ?_ _) | (with_reducible refine Kd.C_drewN ?_ _) | (with_reducible refine Kd.C_drew ?_))); (case side4 => exact (Kd.V_reads' HO_8.out).2.1); rintro e w34 ⟨rfl, hb⟩; have n0_ := Aside0.mk (Kd.V_below (by (with_reducible repeat (first | apply Kd.V_alloc | apply Kd.V_drewN | apply Kd.V_drew)); exact HO_8.out) hb); have n1_ := Aside0.mk (below_step (by repeat (first | (with_reducible first | exact HB.out | apply below_alloc | apply pw_below_drewN | apply below_drew1) | exact HB.out)) hb); clear HO_8; clear HB; have HO_8 := n0_; have HB := n1_; clear n0_ n1_; (try clear hb); (try clear hb2); (try clear hk); (try clear hi)))
           go_ret
           exact ⟨by first | rfl | (simp [errW_none, errW_some] <;> rfl) | (simp [*, errW_none, errW_some] <;> rfl), by repeat (first | (with_reducible first | exact HB.out | apply below_alloc | apply pw_below_drewN | apply below_drew1) | exact HB.out)⟩
       · replace c24 := Bool.eq_false_iff.mpr c24
         subst c24
         have H1 : (some false) = some r := by rw [if_neg (show ¬ (false = true) by decide)] at H; exact H
         clear H
         have H := H1
         clear H1
         obtain rfl := Option.some.inj H
         obtain ⟨Ao35, co35, eo35⟩ := Kd.V_slice HO_8.out
         subst eo35
         go_wp2_with (first | (go_at_call 29; (with_reducible refine (bag_Sorted.calls _ _ t450 _ _ l1 false _ ?side1 ?side2 ?side3 ?side4 A23.out).mono ?_); (case side1 => repeat (first | exact (Kd.V_reads' HO_8.out).2.2 | (with_reducible refine Kd.C_alloc ?_ _) | (with_reducible refine Kd.C_drewN ?_ _) | (with_reducible refine Kd.C_drew ?_))); (case side2 => exact (Kd.V_reads' HO_8.out).2.1); (case side3 => repeat (first | exact (Kd.C_below HR1.out HB.out) | (with_reducible refine Kd.C_alloc ?_ _) | (with_reducible refine Kd.C_drewN ?_ _) | (with_reducible refine Kd.C_drew ?_))); (case side4 => exact HC1.out); rintro e w36 ⟨rfl, hb⟩; have n0_ := Aside0.mk (Kd.V_below (by (with_reducible repeat (first | apply Kd.V_alloc | apply Kd.V_drewN | apply Kd.V_drew)); exact HO_8.out) hb); have n1_ := Aside0.mk (below_step (by repeat (first | (with_reducible first | exact HB.out | apply below_alloc | apply pw_below_drewN | apply below_drew1) | exact HB.out)) hb); clear HO_8; clear HB; have HO_8 := n0_; have HB := n1_; clear n0_ n1_; (try clear hb); (try clear hb2); (try clear hk); (try clear hi)))
         go_ret
         exact ⟨by first | rfl | (simp [errW_none, errW_some] <;> rfl) | (simp [*, errW_none, errW_some] <;> rfl), by repeat (first | (with_reducible first | exact HB.out | apply below_alloc | apply pw_below_drewN | apply below_drew1) | exact HB.out)⟩
     · rw [if_neg c22] at H
       have c22b0 : (t453 == 0) = false := beq_eq_false_iff_ne.mpr c22
       have c22b1 : (t453 != 0) = true := bne_iff_ne.mpr c22
       replace H := Option.bind_eq_some_iff.mp H
       obtain ⟨t459, A370, H⟩ := H
       replace H : (if t459 = true then (some true) else (some false)) = some r := H
       have A37 := Aside0.mk A370
       clear A370
       by_cases c38 : t459 = true
       · subst c38
         have H1 : (some true) = some r := by rw [if_pos rfl] at H; exact H
         clear H
         have H := H1
         clear H1
         obtain rfl := Option.some.inj H
         go_wp2_with (first | (go_at_call 13; (with_reducible refine (jointerlaw06_awake.calls  true _ ?sideT A37.out).mono ?_); (case sideT => exact LaidT.below HT.out (by repeat (first | (with_reducible first | exact HB.out | apply below_alloc | apply pw_below_drewN | apply below_drew1) | exact HB.out))); rintro e w39 ⟨rfl, hb⟩; have n0_ := Aside0.mk (Kd.V_below (by (with_reducible repeat (first | apply Kd.V_alloc | apply Kd.V_drewN | apply Kd.V_drew)); exact HO_8.out) hb); have n1_ := Aside0.mk (below_step (by repeat (first | (with_reducible first | exact HB.out | apply below_alloc | apply pw_below_drewN | apply below_drew1) | exact HB.out)) hb); clear HO_8; clear HB; have HO_8 := n0_; have HB := n1_; clear n0_ n1_; (try clear hb); (try clear hb2); (try clear hk); (try clear hi)))
         go_ret
         exact ⟨by first | rfl | (simp [errW_none, errW_some] <;> rfl) | (simp [*, errW_none, errW_some] <;> rfl), by repeat (first | (with_reducible first | exact HB.out | apply below_alloc | apply pw_below_drewN | apply below_drew1) | exact HB.out)⟩
       · replace c38 := Bool.eq_false_iff.mpr c38
         subst c38
         have H1 : (some false) = some r := by rw [if_neg (show ¬ (false = true) by decide)] at H; exact H
         clear H
         have H := H1
         clear H1
         obtain rfl := Option.some.inj H
         go_wp2_with (first | (go_at_call 13; (with_reducible refine (jointerlaw06_awake.calls  false _ ?sideT A37.out).mono ?_); (case sideT => exact LaidT.below HT.out (by repeat (first | (with_reducible first | exact HB.out | apply below_alloc | apply pw_below_drewN | apply below_drew1) | exact HB.out))); rintro e w40 ⟨rfl, hb⟩; have n0_ := Aside0.mk (Kd.V_below (by (with_reducible repeat (first | apply Kd.V_alloc | apply Kd.V_drewN | apply Kd.V_drew)); exact HO_8.out) hb); have n1_ := Aside0.mk (below_step (by repeat (first | (with_reducible first | exact HB.out | apply below_alloc | apply pw_below_drewN | apply below_drew1) | exact HB.out)) hb); clear HO_8; clear HB; have HO_8 := n0_; have HB := n1_; clear n0_ n1_; (try clear hb); (try clear hb2); (try clear hk); (try clear hi)))
         go_ret
         exact ⟨by first | rfl | (simp [errW_none, errW_some] <;> rfl) | (simp [*, errW_none, errW_some] <;> rfl), by repeat (first | (with_reducible first | exact HB.out | apply below_alloc | apply pw_below_drewN | apply below_drew1) | exact HB.out)⟩
end
end Go.Proofs.YtecgkcgfeghhgaaGreatDoor.PAll
set_option linter.unusedVariables false
namespace Go.Proofs.YtecgkcgfeghhgaaGreatDoor.PAll
open Go.RowKit Go.Proofs.YtecgkcgfeghhgaaGreatDoorW.PrintWords Go.Proofs.YtecgkcgfeghhgaaGreatDoorW.PrintLast Go.Proofs.YtecgkcgfeghhgaaGreatDoorW.PrintMore
theorem rsorted_l0 (l : List (List V)) (ks : List KeyT) (hG : ∀ row ∈ l, RowGood ks row) (hn : l.length ≤ 1099511627776) (hk : ks.length ≤ 1099511627776) : ∀ (d i : Nat), i + d = l.length →
    ((∀ j : Nat, i ≤ j → j + 1 < l.length → 0 ≤ cmpBy ks (rd_L4 l ((j + 1 : Nat) : Int)) (rd_L4 l (j : Int))) → Ev (fun k => jointerref06_Sorted.l0 k l ks ((i + 1 : Nat) : Int)) true) ∧
    (¬ (∀ j : Nat, i ≤ j → j + 1 < l.length → 0 ≤ cmpBy ks (rd_L4 l ((j + 1 : Nat) : Int)) (rd_L4 l (j : Int))) → Ev (fun k => jointerref06_Sorted.l0 k l ks ((i + 1 : Nat) : Int)) false) := by
  intro d
  induction d with
  | zero =>
    intro i hi
    refine ⟨fun _ => Ev.step (f := fun _ => some true) (fun k => ?_) (Ev.now _), fun h => absurd (fun j h1 h2 => by omega) h⟩
    simp only [jointerref06_Sorted.l0]
    rw [if_neg (by omega)]
  | succ d ih =>
    intro i hi
    by_cases hlt : i + 1 < l.length
    · obtain ⟨i1, i2⟩ := ih (i + 1) (by omega)
      have h0 : i < l.length := by omega
      have hw : wrap64 (((i + 1 : Nat) : Int) - 1) = (i : Int) := by unfold wrap64; omega
      have hw2 : wrap64 (((i + 1 : Nat) : Int) + 1) = ((i + 1 + 1 : Nat) : Int) := by unfold wrap64; omega
      have e1 : rd_L4 l ((i + 1 : Nat) : Int) = l[i + 1] := rdL_at hlt
      have e0 : rd_L4 l (i : Int) = l[i] := rdL_at h0
      have step : ∀ b, Ev (fun k => if cmpBy ks l[i + 1] l[i] < 0 then some false else jointerref06_Sorted.l0 k l ks ((i + 1 + 1 : Nat) : Int)) b → Ev (fun k => jointerref06_Sorted.l0 k l ks ((i + 1 : Nat) : Int)) b := fun b h => by
        refine Ev.step (f := fun k => (jointerref06_CompareBy.f k l[i + 1] l[i] ks).bind fun t => if t < 0 then some false else jointerref06_Sorted.l0 k l ks ((i + 1 + 1 : Nat) : Int)) (fun k => ?_) (Ev.bind (compareBy_ev l[i + 1] l[i] ks (hG _ (List.getElem_mem hlt)) (hG _ (List.getElem_mem h0)) hk) h)
        simp only [jointerref06_Sorted.l0]
        rw [if_pos (by omega), if_pos (by omega), hw, if_pos (by omega), if_pos (by omega), e1, e0, hw2]
      by_cases c : cmpBy ks l[i + 1] l[i] < 0
      · refine ⟨fun h => absurd (h i (Nat.le_refl _) hlt) (by rw [e1, e0]; omega), fun _ => step _ (Ev.congr (f := fun _ => some false) (fun k => if_pos c) (Ev.now _))⟩
      · refine ⟨fun h => step _ (Ev.congr (fun k => if_neg c) (i1 (fun j h1 h2 => h j (by omega) h2))), fun h => step _ (Ev.congr (fun k => if_neg c) (i2 (fun h2 => h (fun j h3 h4 => ?_))))⟩
        by_cases he : j = i
        · subst he
          rw [e1, e0]
          omega
        · exact h2 j (by omega) h4
    · refine ⟨fun _ => Ev.step (f := fun _ => some true) (fun k => ?_) (Ev.now _), fun h => absurd (fun j h1 h2 => by omega) h⟩
      simp only [jointerref06_Sorted.l0]
      rw [if_neg (by omega)]
theorem rsorted_ev (l : List (List V)) (ks : List KeyT) (hl : RowsV l) (hk : ks.length ≤ 1099511627776) : Ev (fun k => jointerref06_Sorted.f k l ks) (fitsB l ks && sortedB ks l) := by
  have bad : Ev (fun k => jointerref06_Sorted.j0 k l ks true) false := Ev.step (f := fun _ => some false) (fun k => by simp only [jointerref06_Sorted.j0]; rw [if_pos trivial]) (Ev.now _)
  unfold jointerref06_Sorted.f
  refine Ev.bind (rvalid_ev l hl) ?_
  cases hv : validB l with
  | false =>
    have e : fitsB l ks = false := by unfold fitsB; rw [hv]; rfl
    rw [e]
    exact Ev.congr (fun k => if_neg (by simp)) bad
  | true =>
    refine Ev.congr (fun k => if_pos rfl) (Ev.bind (keysFit_ev l ks hk) ?_)
    cases hf : keysB l ks with
    | false =>
      have e : fitsB l ks = false := by unfold fitsB; rw [hv, hf]; rfl
      rw [e]
      exact bad
    | true =>
      have e : fitsB l ks = true := by unfold fitsB; rw [hv, hf]; rfl
      rw [e, Bool.true_and]
      obtain ⟨i1, i2⟩ := rsorted_l0 l ks (fits_good hl e) hl.2 hk l.length 0 (by omega)
      refine Ev.step (f := fun k => jointerref06_Sorted.l0 k l ks ((0 + 1 : Nat) : Int)) (fun k => by simp only [jointerref06_Sorted.j0, Bool.not_true]; rw [if_neg (by simp)]; rfl) ?_
      by_cases c : SortedAt ks l 0
      · rw [sortedB_true c]; exact i1 c
      · rw [sortedB_false c]; exact i2 c
theorem bsorts_ok {l : List (List V)} {ks : List KeyT} (hl : RowsV l) (hk : ks.length ≤ 1099511627776) : bag_Sort.f l ks = some (sortA l ks) := by
  unfold bag_Sort.f sortA
  rw [fits_ok hl hk]
  simp only [Option.bind_some]
  by_cases c : fitsB l ks = true
  · rw [if_pos c, if_pos c, arranged_ok hl hk c]; rfl
  · rw [if_neg c, if_neg c]
theorem sorted_sorted (l : List (List V)) (ks : List KeyT) : SortedAt ks (sortR ks l) 0 := by
  intro i _ h
  have hp := List.pairwise_iff_getElem.1 (sortR_pair ks l) i (i + 1) (by omega) h (by omega)
  have e1 : rd_L4 (sortR ks l) ((i + 1 : Nat) : Int) = (sortR ks l)[i + 1] := rdL_at h
  have e0 : rd_L4 (sortR ks l) (i : Int) = (sortR ks l)[i] := rdL_at (by omega)
  rw [e1, e0]
  have hfl := (cmpBy_ord ks).flip (sortR ks l)[i + 1] (sortR ks l)[i]
  unfold cmpFull at hp
  split at hp <;> omega
theorem law_sorts (l : List (List V)) (ks : List KeyT) (hl : RowsOk l) (hk : ks.length ≤ 1099511627776) : ∃ k, jointerlaw06_BagSorts.f k l ks = some true := by
  have h : Ev (fun k => jointerlaw06_BagSorts.f k l ks) true := by
    unfold jointerlaw06_BagSorts.f
    have e1 := bsorts_ok hl.v hk
    have e2 : bag_Sorted.f l ks = some (fitsB l ks && sortedB ks l) := if_pos ⟨hl.v, hk⟩
    have hS := sortA_len hl.v ks
    have hr : Ev (fun k => jointerref06_Sort.f k l ks) (sortA l ks) := rsort_ev l ks hl.v hk
    refine Ev.bind (rsorted_ev l ks hl.v hk) (Ev.bind hr (Ev.congr (f := fun k => (jointerref06_SameLists.f k (sortA l ks).1 (sortA l ks).1).bind fun t => if t = true then jointerlaw06_BagSorts.j0 k l ks (sortA l ks).1 (sortA l ks).2 false else jointerlaw06_BagSorts.j0 k l ks (sortA l ks).1 (sortA l ks).2 true) (fun k => ?_) (Ev.bind (sameLists_refl _ hS.len.1 hS.len.2) (Ev.congr (fun k => if_pos rfl) ?_))))
    · rw [e1, e2]
      simp only [Option.bind_some, if_true, bne_self_eq_false]
    · by_cases c : fitsB l ks = true
      · have e4 : sortA l ks = (sortR ks l, 0) := if_pos c
        have hp := sortR_perm ks l
        have e5 : bag_Sorted.f (sortR ks l) ks = some true := by
          have e : bag_Sorted.f (sortR ks l) ks = some (fitsB (sortR ks l) ks && sortedB ks (sortR ks l)) := if_pos ⟨hl.v.perm hp, hk⟩
          rw [e, fitsB_perm hp, c, sortedB_true (sorted_sorted l ks)]
          rfl
        have e6 := same_ok hl (hl.perm hp)
        rw [(sameB_perm _ _).2 hp.symm] at e6
        refine Ev.step (f := fun _ => some true) (fun k => ?_) (Ev.now _)
        rw [e4]
        simp only [jointerlaw06_BagSorts.j0]
        rw [if_neg (by simp), if_pos trivial, e5]
        simp only [Option.bind_some, if_true]
        rw [e6]
        rfl
      · have e4 : sortA l ks = ([], 1) := if_neg c
        refine Ev.step (f := fun _ => some true) (fun k => ?_) (Ev.now _)
        rw [e4]
        simp only [jointerlaw06_BagSorts.j0]
        rw [if_neg (by simp), if_neg (by simp)]
        rfl
  exact h.rounds
end Go.Proofs.YtecgkcgfeghhgaaGreatDoor.PAll
set_option linter.unusedVariables false
namespace Go.Proofs.YtecgkcgfeghhgaaGreatDoor.bagSorts
open Go.ChangeShapes Go.WideShapes Go.ChangeAt Go.RowKit Go.Proofs.YtecgkcgfeghhgaaGreatDoor.PAll
open Go.Proofs.YtecgkcgfeghhgaaGreatDoorW.PrintWords Go.Proofs.YtecgkcgfeghhgaaGreatDoorW.PrintLast Go.Proofs.YtecgkcgfeghhgaaGreatDoorW.PrintMore
theorem laidOut : laidOutB Tryz.prog = true := by kernel_rfl
theorem own : ownKnob Tryz.prog.godebug = none := by kernel_rfl
theorem gTab : Tryz.prog.globalNamed "internal/strconv.uint64pow10" = some 0 := by kernel_rfl
theorem gTabType : (Tryz.prog.globals[0]?).map (·.type) = some 165 := by kernel_rfl
theorem uTab : Tryz.prog.underlying 165 = some (.array 20 99) ∧ Tryz.prog.underlying 99 = some (.int .u64) ∧ Tryz.prog.cellsOf 99 = 1 := ⟨by kernel_rfl, by kernel_rfl, by kernel_rfl⟩
theorem cTab : Tryz.prog.cellsOf 165 = 20 := by kernel_rfl
theorem tabEq {H : Type} : Rows.laid_internal_strconv_uint64pow10 (H := H) = Lib.tabData .u64 Lib.pow10Tab := by
  simp [Rows.laid_internal_strconv_uint64pow10, Lib.tabData, Lib.pow10Tab, List.range_succ]
theorem table {W : World} (h : laidMetH Tryz.prog Rows.bagSortsUptoRow.laid W) : LaidT W := by
  have h : laidMet Tryz.prog Rows.bagSortsUptoRow.laid W := h
  obtain ⟨ps, ⟨_, _, _, _, _, _, _, _, _, _, ⟨_, _, _, _, _, _, _, _, _, _, ⟨g', t', cs, fuel, p, q, hg', ht', hvar, hd, _, _⟩, _⟩, _⟩, _⟩ := h
  obtain ⟨he, hi, hc⟩ := uTab
  obtain rfl := Option.some.inj (gTab.symm.trans hg')
  obtain rfl := Option.some.inj (gTabType.symm.trans ht')
  rw [tabEq] at hd
  unfold LaidT Lib.TabIs
  rw [hvar, ← Lib.cells_of_tab he hi hc cTab hd]
set_option maxRecDepth 100000 in
theorem contract (H : Type) (enc : TypeId × Value → H) (W : World) (base : Nat) (args : Array Value) (ds gs : List (DataW H)) (before : List MemPlace)
    (hval : ∀ (j : Nat) t v, Tryz.f8.params[j]? = some t → args[j]? = some v → Value.okWide Tryz.prog W .any base t v)
    (hW : DataW.Whole enc Tryz.prog Tryz.f8.params.toList Rows.bagSortsSpec.vars false W args.toList ds gs before) (hk : Rows.uptoSmall H (ds ++ gs) = true) (hL : laidMetH Tryz.prog Rows.bagSortsUptoRow.laid W) :
    Calls Tryz.prog 8 args W fun e W' => ∃ v, e = .returned v ∧ Rows.bagSortsSpec.post enc Tryz.prog Tryz.f8 false true false false W args v W' := by
  have hW' := hW
  obtain ⟨p, q, hA0, hV, rfl, hfz, hnd⟩ := hW
  have hA : DataW.TrodAll enc Tryz.prog W 0 (fun _ => true) true Tryz.f8.params.toList args.toList ds p := hA0
  rw [Tryz.params8] at hA hval
  obtain ⟨v0, vs0, d0, ds0, p0, q0, hargs, rfl, rfl, h0, r0⟩ := trodAll_cons hA
  obtain ⟨v1, vs1, d1, ds1, p1, q1, rfl, rfl, rfl, h1, r1⟩ := trodAll_cons r0
  obtain ⟨rfl, rfl, rfl⟩ := trodAll_nil r1
  obtain rfl : args = #[v0, v1] := by cases args; simp_all
  obtain ⟨rfl, rfl⟩ := trodVars_none hV
  have h0k := h0
  have h1k := h1
  obtain ⟨fuel0, hf0⟩ := h0
  obtain ⟨fuel1, hf1⟩ := h1
  obtain ⟨a0, len0, cap0, rfl⟩ := okWide_slice Tryz.underlying22 (hval 0 22 v0 (by simp) (by simp))
  obtain ⟨A0, cp0, l0, hcs0, hlc0, _, hC0, hv0, hb0⟩ := rows_of_trod hf0
  simp [Value.cells] at hcs0
  obtain ⟨rfl, rfl, rfl⟩ := hcs0
  dsimp only at hb0
  obtain ⟨a1, len1, cap1, rfl⟩ := okWide_slice Tryz.underlying27 (hval 1 27 v1 (by simp) (by simp))
  obtain ⟨A1, cp1, l1, hcs1, hlc1, _, hC1, hb1⟩ := keys_of_trod hf1
  simp [Value.cells] at hcs1
  obtain ⟨rfl, rfl, rfl⟩ := hcs1
  dsimp only at hb1
  clear hA0
  simp only [List.append_nil] at hW' hk
  have hb : Rows.uptoBulkAll [d0, d1] ≤ 1048576 := of_decide_eq_true hk
  simp only [Rows.uptoBulkAll] at hb
  have hlt : ∀ x ∈ p0 ++ (p1), x.block < W.heap.size := fun x hx => hW'.lt x hx
  obtain ⟨k, hlaw⟩ : ∃ k, jointerlaw06_BagSorts.f k l0 l1 = some true := (law_sorts l0 l1 (bulkL_rowsOk hv0 (by omega)) (by omega))
  refine (jointerlaw06_BagSorts.calls k a0 cap0 l0 a1 cap1 l1 true W hC0 hlc0 hC1 hlc1 (table hL) hlaw).mono fun e W' ⟨he, hg⟩ => ?_
  subst he
  exact ⟨_, rfl, ⟨[d0, d1], [], _, [], _, [], hW', trodAll_mk1 (shut_bool Tryz.underlying4 _), trodAll_cons_mk (Below.trod laidOut (by kernel_rfl) (of_decide_eq_true (by kernel_rfl)) h0k hg (fun x hx => hlt x (List.mem_append_left _ hx))) (trodAll_mk1 (Below.trod laidOut (by kernel_rfl) (of_decide_eq_true (by kernel_rfl)) h1k hg (fun x hx => hlt x (List.mem_append_right _ (hx))))), rfl, hg.frame _, fun h => by cases h⟩⟩
noncomputable def laidWorld (os : Os) : World :=
  let w := World.holding Tryz.prog os ⟨#[], #[], []⟩
  { w with heap := ((w.heap.modify 0 fun
      | .cells _ t frozen => .cells ((Lib.pow10Tab.map (Value.int .u64)).toArray) t frozen
      | o => o).modify 2 fun
      | .cells _ t frozen => .cells #[.int .u8 0, .int .u8 1, .int .u8 28, .int .u8 2, .int .u8 29, .int .u8 14, .int .u8 24, .int .u8 3, .int .u8 30, .int .u8 22, .int .u8 20, .int .u8 15, .int .u8 25, .int .u8 17, .int .u8 4, .int .u8 8, .int .u8 31, .int .u8 27, .int .u8 13, .int .u8 23, .int .u8 21, .int .u8 19, .int .u8 16, .int .u8 7, .int .u8 26, .int .u8 12, .int .u8 18, .int .u8 6, .int .u8 11, .int .u8 5, .int .u8 10, .int .u8 9] t frozen
      | o => o).modify 3 fun
      | .cells _ t frozen => .cells #[.int .u8 0, .int .u8 1, .int .u8 56, .int .u8 2, .int .u8 57, .int .u8 49, .int .u8 28, .int .u8 3, .int .u8 61, .int .u8 58, .int .u8 42, .int .u8 50, .int .u8 38, .int .u8 29, .int .u8 17, .int .u8 4, .int .u8 62, .int .u8 47, .int .u8 59, .int .u8 36, .int .u8 45, .int .u8 43, .int .u8 51, .int .u8 22, .int .u8 53, .int .u8 39, .int .u8 33, .int .u8 30, .int .u8 24, .int .u8 18, .int .u8 12, .int .u8 5, .int .u8 63, .int .u8 55, .int .u8 48, .int .u8 27, .int .u8 60, .int .u8 41, .int .u8 37, .int .u8 16, .int .u8 46, .int .u8 35, .int .u8 44, .int .u8 21, .int .u8 52, .int .u8 32, .int .u8 23, .int .u8 11, .int .u8 54, .int .u8 26, .int .u8 40, .int .u8 15, .int .u8 34, .int .u8 20, .int .u8 31, .int .u8 10, .int .u8 25, .int .u8 14, .int .u8 19, .int .u8 9, .int .u8 13, .int .u8 8, .int .u8 7, .int .u8 6] t frozen
      | o => o }
theorem laid_met (os : Os) : laidMet Tryz.prog Rows.bagSortsUptoRow.laid ((laidWorld os).forCall (fun _ _ => 0) ⟨#[], #[.slice none 0 0, .slice none 0 0], []⟩).memory :=
  laidMet_of_run' 8 (by kernel_rfl) (by kernel_rfl)
theorem reads (os : Os) {H : Type} (enc : TypeId × Value → H) : ∃ places, DataW.whole enc Tryz.prog ((laidWorld os).forCall (fun _ _ => 0) ⟨#[], #[.slice none 0 0, .slice none 0 0], []⟩).memory Tryz.f8.params.toList Rows.bagSortsSpec.vars false (#[.slice none 0 0, .slice none 0 0] : Array Value).toList 8 = some ([.nil, .nil], [], places) :=
  ⟨[], by kernel_rfl⟩
set_option maxRecDepth 100000 in
theorem liftedUpto (os : Os) (started : os.Started) (H : Type) (enc : TypeId × Value → H) (F : Stop.Interp) :
    ReturnsInHanded {} Tryz.checked os 8 .any ((Rows.OpenSpec.upto Rows.bagSortsSpec).preRow enc Tryz.prog Tryz.f8 Rows.bagSortsUptoRow.domain false Rows.bagSortsUptoRow.laid) (((Rows.OpenSpec.upto Rows.bagSortsSpec).at F).post enc Tryz.prog Tryz.f8 false true false false) := by
  obtain ⟨places, hx⟩ := reads os enc
  refine returnsInHanded_of_row (C := Tryz.checked) (s := Rows.OpenSpec.upto Rows.bagSortsSpec) own started (by kernel_rfl) Tryz.func8
    (witness_row_at (enc := enc) (C := Tryz.checked) false (laidWorld os) #[.slice none 0 0, .slice none 0 0] rfl (by kernel_rfl) (by kernel_rfl) (by kernel_rfl)
      (OpenSpec.preRow_of_cond 8 hx (by kernel_rfl) (fun k hk => by cases hk; kernel_rfl) (by kernel_rfl) (laid_met os))) ?_
  intro W base args ds gs before hval hW _ hcond _ hL _ _
  exact contract H enc W base args ds gs before hval hW (hcond _ rfl) hL
theorem saidUpto : Rows.BagSortsUptoSaid :=
  OpenClaim.holds_of_cond 8 Tryz.f8 rfl rfl rfl rfl rfl rfl rfl ⟨rfl, rfl, rfl, rfl, rfl⟩ rfl rfl rfl rfl rfl (by kernel_rfl) Tryz.func8 (by kernel_rfl)
    (of_decide_eq_true (by kernel_rfl)) (by unfold Func.isWrapper; first | (rw [if_pos (by decide +kernel)]; kernel_rfl) | (rw [if_neg (by decide +kernel)]; exact ⟨rfl, rfl⟩))
    (fun os started H enc _ F => by rw [OpenClaim.pre_eq_preRow]; exact liftedUpto os started H enc F)
theorem plain (f : FuncId) (fn : Func) (hf : Tryz.pinned.checked.prog.funcNamed "jointer/jointerlaw06.BagSorts" = some f) (hfn : Tryz.pinned.checked.prog.funcs[f]? = some fn) :
    false = Tryz.pinned.checked.prog.looks [] ∧ ∀ (j : Nat) t, fn.params[j]? = some t → Tryz.pinned.checked.prog.wantsStandIn t = false := by
  obtain rfl : f = 8 := Option.some.inj ((show Tryz.prog.funcNamed "jointer/jointerlaw06.BagSorts" = some 8 by kernel_rfl).symm.trans hf) |>.symm
  obtain rfl : fn = Tryz.f8 := (Option.some.inj (Tryz.func8.symm.trans hfn)).symm
  refine ⟨by kernel_rfl, fun j t ht => ?_⟩
  rw [Tryz.params8] at ht
  have hm := Array.mem_of_getElem? ht
  simp only [List.mem_toArray, List.mem_cons, List.not_mem_nil, or_false] at hm
  rcases hm with rfl | rfl
  · exact (show Tryz.prog.wantsStandIn 22 = false by kernel_rfl)
  · exact (show Tryz.prog.wantsStandIn 27 = false by kernel_rfl)
theorem card : Rows.BagSortsUptoCardSaid :=
  Claim7.holds_tied_plain_at .later [] _ _ _ _ saidUpto (fun _ h => by cases h) (by kernel_rfl) (fun _ h => by cases h) bagSortsUpto_row_tie rfl ⟨rfl, rfl⟩ (by kernel_rfl) rfl plain (by kernel_rfl)
end Go.Proofs.YtecgkcgfeghhgaaGreatDoor.bagSorts
