/- The row of BagCuts (second form: what it reads is of bulk at most 2^20) and its card. Joined by a program of this session out of its texts. -/
import Derived.Test.YtecgkcgfeghhgaaGreatDoorQBagCuts1
import Derived.WalkKit
import Derived.ProofKit
import Derived.OpenShut
import Derived.Carry
import Derived.Deep.DeepHandedRow
import Derived.Lib.LaidTab
namespace Go.Proofs.YtecgkcgfeghhgaaGreatDoor.PAll
open Go.RowKit Go.Proofs.YtecgkcgfeghhgaaGreatDoorW.PrintWords Go.Proofs.YtecgkcgfeghhgaaGreatDoorW.PrintLast Go.Proofs.YtecgkcgfeghhgaaGreatDoorW.PrintMore
attribute [local go_sem] max2_int min2_int max_two min_two max_three min_three max_four min_four
set_option linter.unusedVariables false
set_option linter.unusedSimpArgs false
mutual
def jointerref06_merge.l0 : Nat → List (List (S36)) → List (List (S36)) → List (S64) → List (List (S36)) → Int → Int → Option ((List (List (S36))))
 | 0, _, _, _, _, _, _ => none
 | k + 1, x0, x1, x2, x7, x8, x9 => if x8 < (x0.length : Int) then (jointerref06_merge.j1 k x0 x1 x2 x7 x8 x9 true) else (jointerref06_merge.j1 k x0 x1 x2 x7 x8 x9 (decide (x9 < (x1.length : Int))))
def jointerref06_merge.j1 : Nat → List (List (S36)) → List (List (S36)) → List (S64) → List (List (S36)) → Int → Int → Bool → Option ((List (List (S36))))
 | 0, _, _, _, _, _, _, _ => none
 | k + 1, x0, x1, x2, x7, x8, x9, x19 => if x19 = true then (if x9 ≥ (x1.length : Int) then (if 0 ≤ x8 then (if x8 < (x0.length : Int) then (if x7.length < 5864062014805 then (jointerref06_merge.l0 k x0 x1 x2 (x7 ++ [rd_L4 x0 x8]) (wrap64 (x8 + 1)) x9) else (none)) else (none)) else (none)) else (if x8 < (x0.length : Int) then (if 0 ≤ x9 then (if x9 < (x1.length : Int) then (if 0 ≤ x8 then ((jointerref06_before.f k (rd_L4 x1 x9) (rd_L4 x0 x8) x2).bind fun t204 => (if t204 = true then (if x7.length < 5864062014805 then (jointerref06_merge.l0 k x0 x1 x2 (x7 ++ [rd_L4 x1 x9]) x8 (wrap64 (x9 + 1))) else (none)) else (if x7.length < 5864062014805 then (jointerref06_merge.l0 k x0 x1 x2 (x7 ++ [rd_L4 x0 x8]) (wrap64 (x8 + 1)) x9) else (none)))) else (none)) else (none)) else (none)) else (if 0 ≤ x9 then (if x9 < (x1.length : Int) then (if x7.length < 5864062014805 then (jointerref06_merge.l0 k x0 x1 x2 (x7 ++ [rd_L4 x1 x9]) x8 (wrap64 (x9 + 1))) else (none)) else (none)) else (none)))) else (some x7)
end
def jointerref06_merge.f (k : Nat) (l0 : List (List (S36))) (l1 : List (List (S36))) (l2 : List (S64)) : Option ((List (List (S36)))) := jointerref06_merge.l0 k l0 l1 l2 ([] : List (List (S36))) 0 0
theorem jointerref06_merge.mono_l : ∀ k, (∀ y0 y1 y2 y3 y4 y5, LeO (jointerref06_merge.l0 k y0 y1 y2 y3 y4 y5) (jointerref06_merge.l0 (k + 1) y0 y1 y2 y3 y4 y5)) ∧ (∀ y0 y1 y2 y3 y4 y5 y6, LeO (jointerref06_merge.j1 k y0 y1 y2 y3 y4 y5 y6) (jointerref06_merge.j1 (k + 1) y0 y1 y2 y3 y4 y5 y6))
 | 0 => ⟨fun _ _ _ _ _ _ r h => by simp [jointerref06_merge.l0] at h, fun _ _ _ _ _ _ _ r h => by simp [jointerref06_merge.j1] at h⟩
 | k + 1 => by
  obtain ⟨ih0, ih1⟩ := jointerref06_merge.mono_l k
  refine ⟨?_, ?_⟩
  · intro y0 y1 y2 y3 y4 y5
    unfold jointerref06_merge.l0
    repeat' first
    | (with_reducible exact ih0 _ _ _ _ _ _)
    | (with_reducible exact ih1 _ _ _ _ _ _ _)
    | (with_reducible exact jointerref06_before.mono _ _ _ _)
    | (with_reducible exact LeO.refl _)
    | (with_reducible exact LeO.none _)
    | (with_reducible refine LeO.ite ?_ ?_)
    | (with_reducible refine LeO.bind ?_ (fun _ => ?_))
    | exact ih0 _ _ _ _ _ _
    | exact ih1 _ _ _ _ _ _ _
    | exact jointerref06_before.mono _ _ _ _
    | exact LeO.none _
    | refine LeO.ite ?_ ?_
    | refine LeO.bind ?_ (fun _ => ?_)
  · intro y0 y1 y2 y3 y4 y5 y6
    unfold jointerref06_merge.j1
    repeat' first
    | (with_reducible exact ih0 _ _ _ _ _ _)
    | (with_reducible exact ih1 _ _ _ _ _ _ _)
    | (with_reducible exact jointerref06_before.mono _ _ _ _)
    | (with_reducible exact LeO.refl _)
    | (with_reducible exact LeO.none _)
    | (with_reducible refine LeO.ite ?_ ?_)
    | (with_reducible refine LeO.bind ?_ (fun _ => ?_))
    | exact ih0 _ _ _ _ _ _
    | exact ih1 _ _ _ _ _ _ _
    | exact jointerref06_before.mono _ _ _ _
    | exact LeO.none _
    | refine LeO.ite ?_ ?_
    | refine LeO.bind ?_ (fun _ => ?_)
theorem jointerref06_merge.mono : ∀ a0 a1 a2 k, LeO (jointerref06_merge.f k a0 a1 a2) (jointerref06_merge.f (k + 1) a0 a1 a2) := by
 intro a0 a1 a2 k
 obtain ⟨ih0, ih1⟩ := jointerref06_merge.mono_l k
 unfold jointerref06_merge.f
 repeat' first
  | (with_reducible exact ih0 _ _ _ _ _ _)
  | (with_reducible exact ih1 _ _ _ _ _ _ _)
  | (with_reducible exact jointerref06_before.mono _ _ _ _)
  | (with_reducible exact LeO.refl _)
  | (with_reducible exact LeO.none _)
  | (with_reducible refine LeO.ite ?_ ?_)
  | (with_reducible refine LeO.bind ?_ (fun _ => ?_))
  | exact ih0 _ _ _ _ _ _
  | exact ih1 _ _ _ _ _ _ _
  | exact jointerref06_before.mono _ _ _ _
  | exact LeO.none _
  | refine LeO.ite ?_ ?_
  | refine LeO.bind ?_ (fun _ => ?_)
def jointerref06_merge.T4 : Bool × List (List Nat × List Nat) := (true, [([], []), ([], []), ([1], [1]), ([0, 2], [0, 2]), ([3], [3]), ([4], [4]), ([4], [4]), ([6, 4], [4, 6]), ([5, 7, 4], [4, 5, 7]), ([8, 4, 4], [4, 8]), ([9], [9]), ([9], [9]), ([10, 11, 9], [9, 10, 11]), ([12, 9], [9, 12]), ([9], [9]), ([9], [9]), ([14, 15, 9], [9, 14, 15]), ([16, 9], [9, 16]), ([9], [9]), ([13, 17, 18, 9, 9], [9, 13, 17, 18]), ([19, 9], [9, 19]), ([9, 20, 4], [4, 9, 20]), ([4, 21], [4, 21])])
def jointerref06_merge.B4 : List Nat := [0, 0, 2, 7, 15, 31, 31, 95, 255, 511, 1023, 1023, 4095, 8191, 1023, 1023, 50175, 115711, 1023, 524287, 1048575, 2097151, 4194303]
theorem jointerref06_merge.tab4 : rtab .any (opsOf Tryz.f89 4) = jointerref06_merge.T4 := by kernel_rfl
theorem jointerref06_merge.bits4 : waitsOk jointerref06_merge.T4.2 jointerref06_merge.B4 = true := by kernel_rfl
set_option maxHeartbeats 8000000 in
set_option maxRecDepth 100000 in
theorem jointerref06_merge.calls (k : Nat) (P0_ : Nat → Prop) (A0 : Option Addr) (c0 : Nat) (l0 : List (List (S36))) (P1_ : Nat → Prop) (A1 : Option Addr) (c1 : Nat) (l1 : List (List (S36))) (A2 : Option Addr) (c2 : Nat) (l2 : List (S64)) (r : List (List (S36))) (w : World) (hs0 : Kd.V (Kd.slice 36 k36) 53 w w.heap.size (fun k_ => P0_ k_) (.slice A0 l0.length c0) l0) (hs1 : Kd.V (Kd.slice 36 k36) 53 w w.heap.size (fun k_ => P1_ k_) (.slice A1 l1.length c1) l1) (hr2 : Kd.C k64 w A2 l2.length l2) (hc2 : l2.length ≤ c2) (h : jointerref06_merge.f k l0 l1 l2 = some r) :
 Calls Tryz.prog 89 #[.slice A0 l0.length c0, .slice A1 l1.length c1, .slice A2 l2.length c2] w fun e w' => ∃ v0_ : Value, e = .returned (v0_) ∧ Kd.N (Kd.slice 36 k36) 53 w' w.heap.size (fun k_ => ((P0_ k_ ∨ P1_ k_) ∨ w.heap.size ≤ k_)) v0_ r ∧ Below w.heap.size w w' := by
 have HO0 := Aside0.mk (show Kd.V (Kd.slice 36 k36) 53 w w.heap.size (fun k_ => ((P0_ k_ ∨ P1_ k_) ∨ w.heap.size ≤ k_)) (.slice A0 l0.length c0) l0 from Kd.V_mono hs0 (fun k_ hk => .inl (.inl hk)))
 have HO1 := Aside0.mk (show Kd.V (Kd.slice 36 k36) 53 w w.heap.size (fun k_ => ((P0_ k_ ∨ P1_ k_) ∨ w.heap.size ≤ k_)) (.slice A1 l1.length c1) l1 from Kd.V_mono hs1 (fun k_ hk => .inl (.inr hk)))
 have HR2 := Aside0.mk hr2
 have HC2 := Aside0.mk hc2
 clear hr2 hc2
 have HB := Aside0.mk (Below.refl w.heap.size w)
 have H : (jointerref06_merge.l0 k l0 l1 l2 ([] : List (List (S36))) 0 0) = some r := h
 clear h
 have H' := Aside0.mk H
 clear H
 go_enter Tryz.func89, Tryz.ntmps89
 go_wp2
 go_loopg [7, 8, 9] k (fun kq v7 v8 v9 w' => ∃ (x7_1 : List (List (S36))) (x8_1 : Int) (x9_1 : Int), v8 = .int .i64 x8_1 ∧ v9 = .int .i64 x9_1 ∧ Aside0 (jointerref06_merge.l0 kq l0 l1 l2 x7_1 x8_1 x9_1 = some r) ∧ Aside0 (kq ≤ k) ∧ Aside0 (Kd.V (Kd.slice 36 k36) 53 w' w.heap.size (fun k_ => ((P0_ k_ ∨ P1_ k_) ∨ w.heap.size ≤ k_) ∧ some k_ ≠ (v7 : Value).ownBlock) (.slice A0 l0.length c0) l0) ∧ Aside0 (Kd.V (Kd.slice 36 k36) 53 w' w.heap.size (fun k_ => ((P0_ k_ ∨ P1_ k_) ∨ w.heap.size ≤ k_) ∧ some k_ ≠ (v7 : Value).ownBlock) (.slice A1 l1.length c1) l1) ∧ Aside0 (Kd.N (Kd.slice 36 k36) 53 w' w.heap.size (fun k_ => ((P0_ k_ ∨ P1_ k_) ∨ w.heap.size ≤ k_)) v7 x7_1) ∧ Aside0 (Below w.heap.size w w'))
 case atStart => exact ⟨(([] : List (List (S36)))), (0), (0), (by first | rfl | (simp; done) | (simp [*]; done)), (by first | rfl | (simp; done) | (simp [*]; done)), H', ⟨Nat.le_refl _⟩, ⟨by (with_reducible repeat (first | apply Kd.V_alloc | apply Kd.V_drewN | apply Kd.V_drew)); exact Kd.V_mono HO0.out (fun _ hk => ⟨hk, (by simp [Value.ownBlock])⟩)⟩, ⟨by (with_reducible repeat (first | apply Kd.V_alloc | apply Kd.V_drewN | apply Kd.V_drew)); exact Kd.V_mono HO1.out (fun _ hk => ⟨hk, (by simp [Value.ownBlock])⟩)⟩, ⟨by first | exact Kd.S_nil _ _ _ _ _ | exact Kd.N_nil _ _ _ _ _ | exact Kd.V_nil _ _ _ _ _ | exact Kd.Q_nil _ _ _ _ _ | exact Kd.R_nil _ _ _ _ _⟩, ⟨by repeat (first | (with_reducible first | exact HB.out | apply below_alloc | apply pw_below_drewN | apply below_drew1) | exact HB.out)⟩⟩
 case round =>
  clear H'
  try clear c1
  try clear c2
  try clear p2
  obtain ⟨x7_1, x8_1, x9_1, rfl, rfl, HA, HK1, HO_0, HO_1, HO_7, HB⟩ := hrel
  cases gk with
  | zero => exact absurd HA.out (by simp [jointerref06_merge.l0])
  | succ k1 =>
   have H := HA.out
   clear HA
   simp only [jointerref06_merge.l0] at H
   have HC4 := Aside0.mk H
   clear H
   go_upto_region 3 with (fail)
   go_cut [19] (fun v19 wc => ∃ (kq : Nat) (x19_3 : Bool), v19 = .bool x19_3 ∧ Aside0 (jointerref06_merge.j1 kq l0 l1 l2 x7_1 x8_1 x9_1 x19_3 = some r) ∧ Aside0 (kq ≤ k1) ∧ Aside0 (Kd.V (Kd.slice 36 k36) 53 wc w.heap.size (fun k_ => ((P0_ k_ ∨ P1_ k_) ∨ w.heap.size ≤ k_) ∧ some k_ ≠ (u7 : Value).ownBlock) (.slice A0 l0.length c0) l0) ∧ Aside0 (Kd.V (Kd.slice 36 k36) 53 wc w.heap.size (fun k_ => ((P0_ k_ ∨ P1_ k_) ∨ w.heap.size ≤ k_) ∧ some k_ ≠ (u7 : Value).ownBlock) (.slice A1 l1.length c1) l1) ∧ Aside0 (Kd.N (Kd.slice 36 k36) 53 wc w.heap.size (fun k_ => ((P0_ k_ ∨ P1_ k_) ∨ w.heap.size ≤ k_)) u7 x7_1) ∧ Aside0 (Below w.heap.size w wc))
   case first =>
    have H := HC4.out
    clear HC4
    by_cases c5 : x8_1 < (l0.length : Int)
    · rw [if_pos c5] at H
      have c5b0 : decide (x8_1 < (l0.length : Int)) = true := decide_eq_true c5
      clear c5
      (first | rw [c5b0] | (simp only [i64_w, i32_w]; rw [c5b0]) | skip)
      have H' := Aside0.mk H
      clear H
      go_wp2
      go_meet
      case rel => exact ⟨_, (true), (by first | rfl | (simp; done) | (simp [*]; done)), H', ⟨by have := HK1.out; first | omega | exact Nat.le_refl _⟩, ⟨by (with_reducible repeat (first | apply Kd.V_alloc | apply Kd.V_drewN | apply Kd.V_drew)); exact HO_0.out⟩, ⟨by (with_reducible repeat (first | apply Kd.V_alloc | apply Kd.V_drewN | apply Kd.V_drew)); exact HO_1.out⟩, ⟨by (with_reducible repeat (first | apply Kd.N_alloc | apply Kd.N_drewN | apply Kd.N_drew)); exact HO_7.out⟩, ⟨by repeat (first | (with_reducible first | exact HB.out | apply below_alloc | apply pw_below_drewN | apply below_drew1) | exact HB.out)⟩⟩
    · rw [if_neg c5] at H
      have c5b0 : decide (x8_1 < (l0.length : Int)) = false := decide_eq_false c5
      clear c5
      (first | rw [c5b0] | (simp only [i64_w, i32_w]; rw [c5b0]) | skip)
      have H' := Aside0.mk H
      clear H
      go_wp2
      go_meet
      case rel => exact ⟨_, (decide (x9_1 < (l1.length : Int))), (by first | rfl | (simp; done) | (simp [*]; done)), H', ⟨by have := HK1.out; first | omega | exact Nat.le_refl _⟩, ⟨by (with_reducible repeat (first | apply Kd.V_alloc | apply Kd.V_drewN | apply Kd.V_drew)); exact HO_0.out⟩, ⟨by (with_reducible repeat (first | apply Kd.V_alloc | apply Kd.V_drewN | apply Kd.V_drew)); exact HO_1.out⟩, ⟨by (with_reducible repeat (first | apply Kd.N_alloc | apply Kd.N_drewN | apply Kd.N_drew)); exact HO_7.out⟩, ⟨by repeat (first | (with_reducible first | exact HB.out | apply below_alloc | apply pw_below_drewN | apply below_drew1) | exact HB.out)⟩⟩
   case rest =>
    clear HC4
    try clear c1
    try clear c2
    try clear p2
    try clear c5
    try clear c5b0
    try clear p2
    obtain ⟨kq, x19_3, rfl, HA, HJ3, HO_0, HO_1, HO_7, HB⟩ := hcut
    cases kq with
    | zero => exact absurd HA.out (by simp [jointerref06_merge.j1])
    | succ kj3 =>
     have H := HA.out
     clear HA
     simp only [jointerref06_merge.j1] at H
     by_cases c6 : x19_3 = true
     · subst c6
       have H1 : (if x9_1 ≥ (l1.length : Int) then (if 0 ≤ x8_1 then (if x8_1 < (l0.length : Int) then (if x7_1.length < 5864062014805 then (jointerref06_merge.l0 kj3 l0 l1 l2 (x7_1 ++ [rd_L4 l0 x8_1]) (wrap64 (x8_1 + 1)) x9_1) else (none)) else (none)) else (none)) else (if x8_1 < (l0.length : Int) then (if 0 ≤ x9_1 then (if x9_1 < (l1.length : Int) then (if 0 ≤ x8_1 then ((jointerref06_before.f kj3 (rd_L4 l1 x9_1) (rd_L4 l0 x8_1) l2).bind fun t204 => (if t204 = true then (if x7_1.length < 5864062014805 then (jointerref06_merge.l0 kj3 l0 l1 l2 (x7_1 ++ [rd_L4 l1 x9_1]) x8_1 (wrap64 (x9_1 + 1))) else (none)) else (if x7_1.length < 5864062014805 then (jointerref06_merge.l0 kj3 l0 l1 l2 (x7_1 ++ [rd_L4 l0 x8_1]) (wrap64 (x8_1 + 1)) x9_1) else (none)))) else (none)) else (none)) else (none)) else (if 0 ≤ x9_1 then (if x9_1 < (l1.length : Int) then (if x7_1.length < 5864062014805 then (jointerref06_merge.l0 kj3 l0 l1 l2 (x7_1 ++ [rd_L4 l1 x9_1]) x8_1 (wrap64 (x9_1 + 1))) else (none)) else (none)) else (none)))) = some r := by rw [if_pos rfl] at H; exact H
       clear H
       have H := H1
       clear H1
       by_cases c7 : x9_1 ≥ (l1.length : Int)
       · rw [if_pos c7] at H
         have c7b0 : decide ((l1.length : Int) ≤ x9_1) = true := decide_eq_true c7
         clear c7
         by_cases c8 : 0 ≤ x8_1
         · rw [if_pos c8] at H
           have c8b0 : decide (0 ≤ x8_1) = true := decide_eq_true c8
           clear c8
           by_cases c9 : x8_1 < (l0.length : Int)
           · rw [if_pos c9] at H
             have c9b0 : decide (x8_1 < (l0.length : Int)) = true := decide_eq_true c9
             clear c9
             by_cases c10 : x7_1.length < 5864062014805
             · rw [if_pos c10] at H
               have LMc10 := Aside0.mk c10
               clear c10
               obtain ⟨y199, hy199⟩ : ∃ y_ : List (List (S36)), y_ = (x7_1 ++ [rd_L4 l0 x8_1]) := ⟨_, rfl⟩
               replace H : (jointerref06_merge.l0 kj3 l0 l1 l2 y199 (wrap64 (x8_1 + 1)) x9_1) = some r := by first | (rw [hy199]; with_reducible exact H) | (have H2_ := (Option.bind_some _ _).symm.trans H; rw [hy199]; with_reducible exact H2_) | (have H2_ := (Option.bind_some _ _).symm.trans H; with_reducible exact H2_) | with_reducible exact H | (rw [hy199]; exact H) | exact H
               have Ny199 := Aside0.mk hy199
               clear hy199
               have H' := Aside0.mk H
               clear H
               try go_wp2
               have n0_ := Aside0.mk (Kd.V_drew HO_0.out)
               have n1_ := Aside0.mk (Kd.V_drew HO_1.out)
               have n2_ := Aside0.mk (Kd.N_drew HO_7.out)
               have n3_ := Aside0.mk (below_drew1 HB.out)
               clear HO_0
               clear HO_1
               clear HO_7
               clear HB
               have HO_0 := n0_
               have HO_1 := n1_
               have HO_7 := n2_
               have HB := n3_
               clear n0_ n1_ n2_ n3_
               refine start_ (n := 23) (S := fun w' => True) (ds := []) #[false, false, false, false, false, false, false, false, false, false, false, false, false, false, false, false, false, false, false, false, false, false, false] (by kernel_rfl) rfl rfl trivial (fun hHeld => ?_); refine with_tabW jointerref06_merge.tab4 jointerref06_merge.bits4 (fun HT_ HW_ => ?_)
               generalize wc.drew = w11 at HO_0 HO_1 HO_7 HB hHeld ⊢
               refine pure_ (i := 0) (N := some 20) (v := ?_) (a' := ?_) #[true, false, false, false, false, false, false, false, false, false, false, false, false, false, false, false, false, false, false, false, false, false, false] rfl rfl (any_of HT_.out (by kernel_rfl)) (fun _ _ _ h => h) (Or.inl ⟨by rfl, ?_⟩) ?_ ?_
               rotate_left
               · intro w'
                 go_simp
                 with_reducible rfl
               rotate_left
               · simp only [Act.put, List.setIfInBounds_toArray, List.set_cons_zero, List.set_cons_succ, i64_w, i32_w]
                 rfl
               refine pure_ (i := 1) (N := some 21) (v := ?_) (a' := ?_) #[true, true, false, false, false, false, false, false, false, false, false, false, false, false, false, false, false, false, false, false, false, false, false] rfl rfl (any_of HT_.out (by kernel_rfl)) (fun _ _ _ h => h) (Or.inl ⟨by rfl, ?_⟩) ?_ ?_
               rotate_left
               · intro w'
                 go_simp
                 with_reducible rfl
               rotate_left
               · simp only [Act.put, List.setIfInBounds_toArray, List.set_cons_zero, List.set_cons_succ, i64_w, i32_w]
                 rfl
               refine pure_ (i := 2) (N := some 22) (v := ?_) (a' := ?_) #[true, true, true, false, false, false, false, false, false, false, false, false, false, false, false, false, false, false, false, false, false, false, false] rfl rfl (any_of HT_.out (by kernel_rfl)) (fun _ _ _ h => h) (Or.inl ⟨by rfl, ?_⟩) ?_ ?_
               rotate_left
               · intro w'
                 go_simp
                 with_reducible rfl
               rotate_left
               · simp only [Act.put, List.setIfInBounds_toArray, List.set_cons_zero, List.set_cons_succ, i64_w, i32_w]
                 rfl
               refine pure_ (i := 3) (N := some 23) (v := ?_) (a' := ?_) #[true, true, true, true, false, false, false, false, false, false, false, false, false, false, false, false, false, false, false, false, false, false, false] rfl rfl (any_of HT_.out (by kernel_rfl)) (fun _ _ _ h => h) (Or.inl ⟨by rfl, ?_⟩) ?_ ?_
               rotate_left
               · intro w'
                 go_simp
                 with_reducible rfl
               rotate_left
               · simp only [Act.put, List.setIfInBounds_toArray, List.set_cons_zero, List.set_cons_succ, i64_w, i32_w]
                 rfl
               refine pure_ (i := 4) (N := some 24) (v := ?_) (a' := ?_) #[true, true, true, true, true, false, false, false, false, false, false, false, false, false, false, false, false, false, false, false, false, false, false] rfl rfl (any_of HT_.out (by kernel_rfl)) (fun _ _ _ h => h) (Or.inl ⟨by rfl, ?_⟩) ?_ ?_
               rotate_left
               · intro w'
                 go_simp
                 with_reducible rfl
               rotate_left
               · simp only [Act.put, List.setIfInBounds_toArray, List.set_cons_zero, List.set_cons_succ, i64_w, i32_w]
                 rfl
               refine pure_ (i := 5) (N := some 25) (v := undef) (a' := ?_) #[true, true, true, true, true, true, false, false, false, false, false, false, false, false, false, false, false, false, false, false, false, false, false] rfl rfl (any_of HT_.out (by kernel_rfl)) (fun _ _ _ h => h) (Or.inr ⟨by rfl, rfl⟩) ?_ ?_
               rotate_left
               · simp only [Act.put, List.setIfInBounds_toArray, List.set_cons_zero, List.set_cons_succ, i64_w, i32_w]
                 rfl
               refine pure_ (i := 6) (N := some 26) (v := undef) (a' := ?_) #[true, true, true, true, true, true, true, false, false, false, false, false, false, false, false, false, false, false, false, false, false, false, false] rfl rfl (any_of HT_.out (by kernel_rfl)) (fun _ _ _ h => h) (Or.inr ⟨by rfl, rfl⟩) ?_ ?_
               rotate_left
               · simp only [Act.put, List.setIfInBounds_toArray, List.set_cons_zero, List.set_cons_succ, i64_w, i32_w]
                 rfl
               refine pure_ (i := 7) (N := some 27) (v := undef) (a' := ?_) #[true, true, true, true, true, true, true, true, false, false, false, false, false, false, false, false, false, false, false, false, false, false, false] rfl rfl (any_of HT_.out (by kernel_rfl)) (fun _ _ _ h => h) (Or.inr ⟨by rfl, rfl⟩) ?_ ?_
               rotate_left
               · simp only [Act.put, List.setIfInBounds_toArray, List.set_cons_zero, List.set_cons_succ, i64_w, i32_w]
                 rfl
               refine pure_ (i := 8) (N := some 28) (v := undef) (a' := ?_) #[true, true, true, true, true, true, true, true, true, false, false, false, false, false, false, false, false, false, false, false, false, false, false] rfl rfl (any_of HT_.out (by kernel_rfl)) (fun _ _ _ h => h) (Or.inr ⟨by rfl, rfl⟩) ?_ ?_
               rotate_left
               · simp only [Act.put, List.setIfInBounds_toArray, List.set_cons_zero, List.set_cons_succ, i64_w, i32_w]
                 rfl
               refine pure_ (i := 9) (N := some 29) (v := undef) (a' := ?_) #[true, true, true, true, true, true, true, true, true, true, false, false, false, false, false, false, false, false, false, false, false, false, false] rfl rfl (any_of HT_.out (by kernel_rfl)) (fun _ _ _ h => h) (Or.inr ⟨by rfl, rfl⟩) ?_ ?_
               rotate_left
               · simp only [Act.put, List.setIfInBounds_toArray, List.set_cons_zero, List.set_cons_succ, i64_w, i32_w]
                 rfl
               refine pure_ (i := 10) (N := some 30) (v := undef) (a' := ?_) #[true, true, true, true, true, true, true, true, true, true, true, false, false, false, false, false, false, false, false, false, false, false, false] rfl rfl (any_of HT_.out (by kernel_rfl)) (fun _ _ _ h => h) (Or.inr ⟨by rfl, rfl⟩) ?_ ?_
               rotate_left
               · simp only [Act.put, List.setIfInBounds_toArray, List.set_cons_zero, List.set_cons_succ, i64_w, i32_w]
                 rfl
               refine pure_ (i := 11) (N := some 31) (v := undef) (a' := ?_) #[true, true, true, true, true, true, true, true, true, true, true, true, false, false, false, false, false, false, false, false, false, false, false] rfl rfl (any_of HT_.out (by kernel_rfl)) (fun _ _ _ h => h) (Or.inr ⟨by rfl, rfl⟩) ?_ ?_
               rotate_left
               · simp only [Act.put, List.setIfInBounds_toArray, List.set_cons_zero, List.set_cons_succ, i64_w, i32_w]
                 rfl
               refine pure_ (i := 12) (N := some 32) (v := undef) (a' := ?_) #[true, true, true, true, true, true, true, true, true, true, true, true, true, false, false, false, false, false, false, false, false, false, false] rfl rfl (any_of HT_.out (by kernel_rfl)) (fun _ _ _ h => h) (Or.inr ⟨by rfl, rfl⟩) ?_ ?_
               rotate_left
               · simp only [Act.put, List.setIfInBounds_toArray, List.set_cons_zero, List.set_cons_succ, i64_w, i32_w]
                 rfl
               refine pure_ (i := 13) (N := some 33) (v := undef) (a' := ?_) #[true, true, true, true, true, true, true, true, true, true, true, true, true, true, false, false, false, false, false, false, false, false, false] rfl rfl (any_of HT_.out (by kernel_rfl)) (fun _ _ _ h => h) (Or.inr ⟨by rfl, rfl⟩) ?_ ?_
               rotate_left
               · simp only [Act.put, List.setIfInBounds_toArray, List.set_cons_zero, List.set_cons_succ, i64_w, i32_w]
                 rfl
               refine pure_ (i := 14) (N := some 34) (v := undef) (a' := ?_) #[true, true, true, true, true, true, true, true, true, true, true, true, true, true, true, false, false, false, false, false, false, false, false] rfl rfl (any_of HT_.out (by kernel_rfl)) (fun _ _ _ h => h) (Or.inr ⟨by rfl, rfl⟩) ?_ ?_
               rotate_left
               · simp only [Act.put, List.setIfInBounds_toArray, List.set_cons_zero, List.set_cons_succ, i64_w, i32_w]
                 rfl
               refine pure_ (i := 15) (N := some 35) (v := undef) (a' := ?_) #[true, true, true, true, true, true, true, true, true, true, true, true, true, true, true, true, false, false, false, false, false, false, false] rfl rfl (any_of HT_.out (by kernel_rfl)) (fun _ _ _ h => h) (Or.inr ⟨by rfl, rfl⟩) ?_ ?_
               rotate_left
               · simp only [Act.put, List.setIfInBounds_toArray, List.set_cons_zero, List.set_cons_succ, i64_w, i32_w]
                 rfl
               refine pure_ (i := 16) (N := some 36) (v := undef) (a' := ?_) #[true, true, true, true, true, true, true, true, true, true, true, true, true, true, true, true, true, false, false, false, false, false, false] rfl rfl (any_of HT_.out (by kernel_rfl)) (fun _ _ _ h => h) (Or.inr ⟨by rfl, rfl⟩) ?_ ?_
               rotate_left
               · simp only [Act.put, List.setIfInBounds_toArray, List.set_cons_zero, List.set_cons_succ, i64_w, i32_w]
                 rfl
               refine pure_ (i := 17) (N := some 37) (v := undef) (a' := ?_) #[true, true, true, true, true, true, true, true, true, true, true, true, true, true, true, true, true, true, false, false, false, false, false] rfl rfl (any_of HT_.out (by kernel_rfl)) (fun _ _ _ h => h) (Or.inr ⟨by rfl, rfl⟩) ?_ ?_
               rotate_left
               · simp only [Act.put, List.setIfInBounds_toArray, List.set_cons_zero, List.set_cons_succ, i64_w, i32_w]
                 rfl
               refine pure_ (i := 18) (N := some 38) (v := undef) (a' := ?_) #[true, true, true, true, true, true, true, true, true, true, true, true, true, true, true, true, true, true, true, false, false, false, false] rfl rfl (any_of HT_.out (by kernel_rfl)) (fun _ _ _ h => h) (Or.inr ⟨by rfl, rfl⟩) ?_ ?_
               rotate_left
               · simp only [Act.put, List.setIfInBounds_toArray, List.set_cons_zero, List.set_cons_succ, i64_w, i32_w]
                 rfl
               refine pure_ (i := 19) (N := some 39) (v := undef) (a' := ?_) #[true, true, true, true, true, true, true, true, true, true, true, true, true, true, true, true, true, true, true, true, false, false, false] rfl rfl (any_of HT_.out (by kernel_rfl)) (fun _ _ _ h => h) (Or.inr ⟨by rfl, rfl⟩) ?_ ?_
               rotate_left
               · simp only [Act.put, List.setIfInBounds_toArray, List.set_cons_zero, List.set_cons_succ, i64_w, i32_w]
                 rfl
               refine pure_ (i := 20) (N := some 40) (v := undef) (a' := ?_) #[true, true, true, true, true, true, true, true, true, true, true, true, true, true, true, true, true, true, true, true, true, false, false] rfl rfl (any_of HT_.out (by kernel_rfl)) (fun _ _ _ h => h) (Or.inr ⟨by rfl, rfl⟩) ?_ ?_
               rotate_left
               · simp only [Act.put, List.setIfInBounds_toArray, List.set_cons_zero, List.set_cons_succ, i64_w, i32_w]
                 rfl
               refine pure_ (i := 21) (N := some 41) (v := undef) (a' := ?_) #[true, true, true, true, true, true, true, true, true, true, true, true, true, true, true, true, true, true, true, true, true, true, false] rfl rfl (any_of HT_.out (by kernel_rfl)) (fun _ _ _ h => h) (Or.inr ⟨by rfl, rfl⟩) ?_ ?_
               rotate_left
               · simp only [Act.put, List.setIfInBounds_toArray, List.set_cons_zero, List.set_cons_succ, i64_w, i32_w]
                 rfl
               refine pure_ (i := 22) (N := some 42) (v := ?_) (a' := ?_) #[true, true, true, true, true, true, true, true, true, true, true, true, true, true, true, true, true, true, true, true, true, true, true] rfl rfl (any_of HT_.out (by kernel_rfl)) (fun _ _ _ h => h) (Or.inl ⟨by rfl, ?_⟩) ?_ ?_
               rotate_left
               · intro w'
                 go_simp
                 with_reducible rfl
               rotate_left
               · simp only [Act.put, List.setIfInBounds_toArray, List.set_cons_zero, List.set_cons_succ, i64_w, i32_w]
                 rfl
               refine done_ (done_of HT_.out (by kernel_rfl)) ?_
               have p198 : 0 ≤ (x8_1 : Int) := of_decide_eq_true (by first | (with_reducible assumption) | assumption)
               have q198 : x8_1 < (l0.length : Int) := of_decide_eq_true (by first | (with_reducible assumption) | assumption)
               obtain ⟨ad198, A198_0, c198_0, e198, hx198_0, hl198_0, hi198_0⟩ := at_L4 (Kd.V_reads' HO_0.out).2.2 x8_1 p198 q198
               cases e198
               obtain ⟨ce198, hce198, hMe198, hcc198⟩ := Kd.V_get HO_0.out [] x8_1 p198 (by first | exact q198 | exact of_decide_eq_true (by first | (with_reducible assumption) | assumption) | (have e_ := (Kd.V_reads' HO_0.out).1; omega))
               obtain ⟨ua198_0, uc198_0, rfl, ul198_0, ge198_0⟩ := Kd.FK_slice_open hMe198
               have hv198_0 := hcc198 0 _ rfl
               rw [Nat.add_zero, show ((Kd.slice 36 k36)).sz = 1 from rfl, Nat.mul_one] at hv198_0
               replace hv198_0 := Option.some.inj (hv198_0.symm.trans hx198_0)
               injection hv198_0 with hva_ hvn_ hvc_
               rw [hva_] at ge198_0
               rw [hvc_] at ul198_0
               have HL198_0 := Aside0.mk (show Kd.V k36 36 _ w.heap.size _ _ (rd_L4 l0 x8_1) from Kd.V_mk ul198_0 ge198_0)
               clear hva_ hvn_ hvc_ ge198_0 ul198_0
               clear hcc198 hce198
               have HR198_0 := Aside0.mk hi198_0
               have HC198_0 := Aside0.mk hl198_0
               clear hi198_0 hl198_0
               replace p198 := eq_true p198
               replace q198 := eq_true q198
               try go_wp2_with (first | ((with_reducible refine gate_builtin (b := .append) (xs := #[.tmp 43, .tmp 48]) rfl ?_); (try (refine gate_guard (by rfl) ?_; dsimp only)); at_builtin; refine Kd.N_append (Kd.slice 36 k36) (w0 := w) w.heap.size rfl (.tmp 43) (.tmp 48) 22 53 (.slice none 0 0) 24 rfl Tryz.underlying22 info53 rfl (by decide) (by omega) u7 x7_1 (rd_L4 l0 x8_1) [.slice A198_0 (rd_L4 l0 x8_1).length c198_0] (fun k_ => ((P0_ k_ ∨ P1_ k_) ∨ w.heap.size ≤ k_)) (fun k_ => ((fun k_ => ((P0_ k_ ∨ P1_ k_) ∨ w.heap.size ≤ k_))) k_ ∧ some k_ ≠ (u7 : Value).ownBlock) rfl rfl ?aP (fun _ hk => hk) ?aF ?aO ?aB ?aS ?aL ?_; (case aP => exact (Kd.FK_slice_mk (Kd.V_reads' (Kd.V_mono (ok' := (fun k_ => ((fun k_ => ((P0_ k_ ∨ P1_ k_) ∨ w.heap.size ≤ k_))) k_ ∧ some k_ ≠ (u7 : Value).ownBlock)) (HL198_0.out) (fun k_ hk => ⟨hk.1, hk.2⟩))).2.1 (Kd.V_F (Kd.V_mono (ok' := (fun k_ => ((fun k_ => ((P0_ k_ ∨ P1_ k_) ∨ w.heap.size ≤ k_))) k_ ∧ some k_ ≠ (u7 : Value).ownBlock)) (HL198_0.out) (fun k_ hk => ⟨hk.1, hk.2⟩))))); (case aB => exact (by repeat (first | (with_reducible first | exact HB.out | apply below_alloc | apply pw_below_drewN | apply below_drew1) | exact HB.out))); (case aF => exact (fun k_ hk => (.inr (Nat.le_trans (below_size (by repeat (first | (with_reducible first | exact HB.out | apply below_alloc | apply pw_below_drewN | apply below_drew1) | exact HB.out))) hk)))); (case aO => exact (by (with_reducible repeat (first | apply Kd.N_alloc | apply Kd.N_drewN | apply Kd.N_drew)); exact HO_7.out)); (case aS => exact (below_size (by repeat (first | (with_reducible first | exact HB.out | apply below_alloc | apply pw_below_drewN | apply below_drew1) | exact HB.out)))); (case aL => have := LMc10.out; omega); intro v200 w12 ho hb hg hat; rw [← Ny199.out] at ho; have n0_ := Aside0.mk (Kd.V_afterv (ok := (fun k_ => ((P0_ k_ ∨ P1_ k_) ∨ w.heap.size ≤ k_))) (by (with_reducible repeat (first | apply Kd.V_alloc | apply Kd.V_drewN | apply Kd.V_drew)); exact HO_0.out) hg hat); have n1_ := Aside0.mk (Kd.V_afterv (ok := (fun k_ => ((P0_ k_ ∨ P1_ k_) ∨ w.heap.size ≤ k_))) (by (with_reducible repeat (first | apply Kd.V_alloc | apply Kd.V_drewN | apply Kd.V_drew)); exact HO_1.out) hg hat); have n2_ := Aside0.mk (Kd.V_afterv (ok := (fun k_ => ((P0_ k_ ∨ P1_ k_) ∨ w.heap.size ≤ k_))) (by (with_reducible repeat (first | apply Kd.V_alloc | apply Kd.V_drewN | apply Kd.V_drew)); exact HL198_0.out) hg hat); have n3_ := Aside0.mk (hb); have n4_ := Aside0.mk (ho); clear HO_0; clear HO_1; clear HL198_0; clear HB; clear HO_7; have HO_0 := n0_; have HO_1 := n1_; have HL198_0 := n2_; have HB := n3_; have HO201 := n4_; clear n0_ n1_ n2_ n3_ n4_; clear ho hb hg hat))
               go_roundg kj3
               case measure => have := HK1.out; have := HJ3.out; omega
               case rel => exact ⟨(y199), (wrap64 (x8_1 + 1)), (x9_1), (by first | rfl | (simp; done) | (simp [*]; done)), (by first | rfl | (simp; done) | (simp [*]; done)), H', ⟨by have := HK1.out; have := HJ3.out; omega⟩, ⟨by (with_reducible repeat (first | apply Kd.V_alloc | apply Kd.V_drewN | apply Kd.V_drew)); exact HO_0.out⟩, ⟨by (with_reducible repeat (first | apply Kd.V_alloc | apply Kd.V_drewN | apply Kd.V_drew)); exact HO_1.out⟩, ⟨by (with_reducible repeat (first | apply Kd.N_alloc | apply Kd.N_drewN | apply Kd.N_drew)); exact HO201.out⟩, ⟨by repeat (first | (with_reducible first | exact HB.out | apply below_alloc | apply pw_below_drewN | apply below_drew1) | exact HB.out)⟩⟩
             · rw [if_neg c10] at H
               exact absurd H (by simp)
           · rw [if_neg c9] at H
             exact absurd H (by simp)
         · rw [if_neg c8] at H
           exact absurd H (by simp)
       · rw [if_neg c7] at H
         have c7b0 : decide ((l1.length : Int) ≤ x9_1) = false := decide_eq_false c7
         clear c7
         by_cases c13 : x8_1 < (l0.length : Int)
         · rw [if_pos c13] at H
           have c13b0 : decide (x8_1 < (l0.length : Int)) = true := decide_eq_true c13
           clear c13
           by_cases c14 : 0 ≤ x9_1
           · rw [if_pos c14] at H
             have c14b0 : decide (0 ≤ x9_1) = true := decide_eq_true c14
             clear c14
             by_cases c15 : x9_1 < (l1.length : Int)
             · rw [if_pos c15] at H
               have c15b0 : decide (x9_1 < (l1.length : Int)) = true := decide_eq_true c15
               clear c15
               by_cases c16 : 0 ≤ x8_1
               · rw [if_pos c16] at H
                 have c16b0 : decide (0 ≤ x8_1) = true := decide_eq_true c16
                 clear c16
                 replace H := Option.bind_eq_some_iff.mp H
                 obtain ⟨t204, A170, H⟩ := H
                 replace H : (if t204 = true then (if x7_1.length < 5864062014805 then (jointerref06_merge.l0 kj3 l0 l1 l2 (x7_1 ++ [rd_L4 l1 x9_1]) x8_1 (wrap64 (x9_1 + 1))) else (none)) else (if x7_1.length < 5864062014805 then (jointerref06_merge.l0 kj3 l0 l1 l2 (x7_1 ++ [rd_L4 l0 x8_1]) (wrap64 (x8_1 + 1)) x9_1) else (none))) = some r := H
                 have A17 := Aside0.mk A170
                 clear A170
                 by_cases c18 : t204 = true
                 · subst c18
                   have H1 : (if x7_1.length < 5864062014805 then (jointerref06_merge.l0 kj3 l0 l1 l2 (x7_1 ++ [rd_L4 l1 x9_1]) x8_1 (wrap64 (x9_1 + 1))) else (none)) = some r := by rw [if_pos rfl] at H; exact H
                   clear H
                   have H := H1
                   clear H1
                   by_cases c19 : x7_1.length < 5864062014805
                   · rw [if_pos c19] at H
                     have LMc19 := Aside0.mk c19
                     clear c19
                     obtain ⟨y206, hy206⟩ : ∃ y_ : List (List (S36)), y_ = (x7_1 ++ [rd_L4 l1 x9_1]) := ⟨_, rfl⟩
                     replace H : (jointerref06_merge.l0 kj3 l0 l1 l2 y206 x8_1 (wrap64 (x9_1 + 1))) = some r := by first | (rw [hy206]; with_reducible exact H) | (have H2_ := (Option.bind_some _ _).symm.trans H; rw [hy206]; with_reducible exact H2_) | (have H2_ := (Option.bind_some _ _).symm.trans H; with_reducible exact H2_) | with_reducible exact H | (rw [hy206]; exact H) | exact H
                     have Ny206 := Aside0.mk hy206
                     clear hy206
                     have H' := Aside0.mk H
                     clear H
                     try go_wp2
                     have n0_ := Aside0.mk (Kd.V_drew HO_0.out)
                     have n1_ := Aside0.mk (Kd.V_drew HO_1.out)
                     have n2_ := Aside0.mk (Kd.N_drew HO_7.out)
                     have n3_ := Aside0.mk (below_drew1 HB.out)
                     clear HO_0
                     clear HO_1
                     clear HO_7
                     clear HB
                     have HO_0 := n0_
                     have HO_1 := n1_
                     have HO_7 := n2_
                     have HB := n3_
                     clear n0_ n1_ n2_ n3_
                     have p202 : 0 ≤ (x9_1 : Int) := of_decide_eq_true (by first | (with_reducible assumption) | assumption)
                     have q202 : x9_1 < (l1.length : Int) := of_decide_eq_true (by first | (with_reducible assumption) | assumption)
                     obtain ⟨ad202, A202_0, c202_0, e202, hx202_0, hl202_0, hi202_0⟩ := at_L4 (Kd.V_reads' HO_1.out).2.2 x9_1 p202 q202
                     cases e202
                     obtain ⟨ce202, hce202, hMe202, hcc202⟩ := Kd.V_get HO_1.out [] x9_1 p202 (by first | exact q202 | exact of_decide_eq_true (by first | (with_reducible assumption) | assumption) | (have e_ := (Kd.V_reads' HO_1.out).1; omega))
                     obtain ⟨ua202_0, uc202_0, rfl, ul202_0, ge202_0⟩ := Kd.FK_slice_open hMe202
                     have hv202_0 := hcc202 0 _ rfl
                     rw [Nat.add_zero, show ((Kd.slice 36 k36)).sz = 1 from rfl, Nat.mul_one] at hv202_0
                     replace hv202_0 := Option.some.inj (hv202_0.symm.trans hx202_0)
                     injection hv202_0 with hva_ hvn_ hvc_
                     rw [hva_] at ge202_0
                     rw [hvc_] at ul202_0
                     have HL202_0 := Aside0.mk (show Kd.V k36 36 _ w.heap.size _ _ (rd_L4 l1 x9_1) from Kd.V_mk ul202_0 ge202_0)
                     clear hva_ hvn_ hvc_ ge202_0 ul202_0
                     clear hcc202 hce202
                     have HR202_0 := Aside0.mk hi202_0
                     have HC202_0 := Aside0.mk hl202_0
                     clear hi202_0 hl202_0
                     replace p202 := eq_true p202
                     replace q202 := eq_true q202
                     have p203 : 0 ≤ (x8_1 : Int) := of_decide_eq_true (by first | (with_reducible assumption) | assumption)
                     have q203 : x8_1 < (l0.length : Int) := of_decide_eq_true (by first | (with_reducible assumption) | assumption)
                     obtain ⟨ad203, A203_0, c203_0, e203, hx203_0, hl203_0, hi203_0⟩ := at_L4 (Kd.V_reads' HO_0.out).2.2 x8_1 p203 q203
                     cases e203
                     obtain ⟨ce203, hce203, hMe203, hcc203⟩ := Kd.V_get HO_0.out [] x8_1 p203 (by first | exact q203 | exact of_decide_eq_true (by first | (with_reducible assumption) | assumption) | (have e_ := (Kd.V_reads' HO_0.out).1; omega))
                     obtain ⟨ua203_0, uc203_0, rfl, ul203_0, ge203_0⟩ := Kd.FK_slice_open hMe203
                     have hv203_0 := hcc203 0 _ rfl
                     rw [Nat.add_zero, show ((Kd.slice 36 k36)).sz = 1 from rfl, Nat.mul_one] at hv203_0
                     replace hv203_0 := Option.some.inj (hv203_0.symm.trans hx203_0)
                     injection hv203_0 with hva_ hvn_ hvc_
                     rw [hva_] at ge203_0
                     rw [hvc_] at ul203_0
                     have HL203_0 := Aside0.mk (show Kd.V k36 36 _ w.heap.size _ _ (rd_L4 l0 x8_1) from Kd.V_mk ul203_0 ge203_0)
                     clear hva_ hvn_ hvc_ ge203_0 ul203_0
                     clear hcc203 hce203
                     have HR203_0 := Aside0.mk hi203_0
                     have HC203_0 := Aside0.mk hl203_0
                     clear hi203_0 hl203_0
                     replace p203 := eq_true p203
                     replace q203 := eq_true q203
                     refine start_ (n := 23) (S := fun w' => w'.cell? (ad202.add (x9_1).toNat) = some (.slice A202_0 (rd_L4 l1 x9_1).length c202_0) ∧ w'.cell? (ad203.add (x8_1).toNat) = some (.slice A203_0 (rd_L4 l0 x8_1).length c203_0)) (ds := []) #[false, false, false, false, false, false, false, false, false, false, false, false, false, false, false, false, false, false, false, false, false, false, false] (by kernel_rfl) rfl rfl ⟨hx202_0, hx203_0⟩ (fun hHeld => ?_); refine with_tabW jointerref06_merge.tab4 jointerref06_merge.bits4 (fun HT_ HW_ => ?_)
                     generalize wc.drew = w20 at HO_0 HO_1 HO_7 HB HL202_0 HL203_0 HR202_0 HR203_0 hx202_0 hx203_0 hHeld ⊢
                     refine pure_ (i := 0) (N := some 20) (v := ?_) (a' := ?_) #[true, false, false, false, false, false, false, false, false, false, false, false, false, false, false, false, false, false, false, false, false, false, false] rfl rfl (any_of HT_.out (by kernel_rfl)) (fun _ _ _ h => h) (Or.inl ⟨by rfl, ?_⟩) ?_ ?_
                     rotate_left
                     · intro w'
                       go_simp
                       with_reducible rfl
                     rotate_left
                     · simp only [Act.put, List.setIfInBounds_toArray, List.set_cons_zero, List.set_cons_succ, i64_w, i32_w]
                       rfl
                     refine pure_ (i := 1) (N := some 21) (v := ?_) (a' := ?_) #[true, true, false, false, false, false, false, false, false, false, false, false, false, false, false, false, false, false, false, false, false, false, false] rfl rfl (any_of HT_.out (by kernel_rfl)) (fun _ _ _ h => h) (Or.inl ⟨by rfl, ?_⟩) ?_ ?_
                     rotate_left
                     · intro w'
                       go_simp
                       with_reducible rfl
                     rotate_left
                     · simp only [Act.put, List.setIfInBounds_toArray, List.set_cons_zero, List.set_cons_succ, i64_w, i32_w]
                       rfl
                     refine pure_ (i := 2) (N := some 22) (v := ?_) (a' := ?_) #[true, true, true, false, false, false, false, false, false, false, false, false, false, false, false, false, false, false, false, false, false, false, false] rfl rfl (any_of HT_.out (by kernel_rfl)) (fun _ _ _ h => h) (Or.inl ⟨by rfl, ?_⟩) ?_ ?_
                     rotate_left
                     · intro w'
                       go_simp
                       with_reducible rfl
                     rotate_left
                     · simp only [Act.put, List.setIfInBounds_toArray, List.set_cons_zero, List.set_cons_succ, i64_w, i32_w]
                       rfl
                     refine pure_ (i := 3) (N := some 23) (v := ?_) (a' := ?_) #[true, true, true, true, false, false, false, false, false, false, false, false, false, false, false, false, false, false, false, false, false, false, false] rfl rfl (any_of HT_.out (by kernel_rfl)) (fun _ _ _ h => h) (Or.inl ⟨by rfl, ?_⟩) ?_ ?_
                     rotate_left
                     · intro w'
                       go_simp
                       with_reducible rfl
                     rotate_left
                     · simp only [Act.put, List.setIfInBounds_toArray, List.set_cons_zero, List.set_cons_succ, i64_w, i32_w]
                       rfl
                     refine pure_ (i := 4) (N := some 24) (v := ?_) (a' := ?_) #[true, true, true, true, true, false, false, false, false, false, false, false, false, false, false, false, false, false, false, false, false, false, false] rfl rfl (any_of HT_.out (by kernel_rfl)) (fun _ _ _ h => h) (Or.inl ⟨by rfl, ?_⟩) ?_ ?_
                     rotate_left
                     · intro w'
                       go_simp
                       with_reducible rfl
                     rotate_left
                     · simp only [Act.put, List.setIfInBounds_toArray, List.set_cons_zero, List.set_cons_succ, i64_w, i32_w]
                       rfl
                     refine pure_ (i := 5) (N := some 25) (v := ?_) (a' := ?_) #[true, true, true, true, true, true, false, false, false, false, false, false, false, false, false, false, false, false, false, false, false, false, false] rfl rfl (any_of HT_.out (by kernel_rfl)) (fun _ _ _ h => h) (Or.inl ⟨by rfl, ?_⟩) ?_ ?_
                     rotate_left
                     · intro w'
                       go_simp
                       with_reducible rfl
                     rotate_left
                     · simp only [Act.put, List.setIfInBounds_toArray, List.set_cons_zero, List.set_cons_succ, i64_w, i32_w]
                       rfl
                     refine pure_ (i := 6) (N := some 26) (v := ?_) (a' := ?_) #[true, true, true, true, true, true, true, false, false, false, false, false, false, false, false, false, false, false, false, false, false, false, false] rfl rfl (any_of HT_.out (by kernel_rfl)) (fun _ _ _ h => h) (Or.inl ⟨by rfl, ?_⟩) ?_ ?_
                     rotate_left
                     · intro w'
                       go_simp
                       with_reducible rfl
                     rotate_left
                     · simp only [Act.put, List.setIfInBounds_toArray, List.set_cons_zero, List.set_cons_succ, i64_w, i32_w]
                       rfl
                     refine pure_ (i := 7) (N := some 27) (v := ?_) (a' := ?_) #[true, true, true, true, true, true, true, true, false, false, false, false, false, false, false, false, false, false, false, false, false, false, false] rfl rfl (any_of HT_.out (by kernel_rfl)) (fun _ _ _ h => h) (Or.inl ⟨by rfl, ?_⟩) ?_ ?_
                     rotate_left
                     · intro w'
                       go_simp
                       with_reducible rfl
                     rotate_left
                     · simp only [Act.put, List.setIfInBounds_toArray, List.set_cons_zero, List.set_cons_succ, i64_w, i32_w]
                       rfl
                     refine pure_ (i := 8) (N := some 28) (v := ?_) (a' := ?_) #[true, true, true, true, true, true, true, true, true, false, false, false, false, false, false, false, false, false, false, false, false, false, false] rfl rfl (any_of HT_.out (by kernel_rfl)) (fun _ _ _ h => h) (Or.inl ⟨by rfl, ?_⟩) ?_ ?_
                     rotate_left
                     · intro w'
                       go_simp
                       with_reducible rfl
                     rotate_left
                     · simp only [Act.put, List.setIfInBounds_toArray, List.set_cons_zero, List.set_cons_succ, i64_w, i32_w]
                       rfl
                     refine pure_ (i := 9) (N := some 29) (v := ?_) (a' := ?_) #[true, true, true, true, true, true, true, true, true, true, false, false, false, false, false, false, false, false, false, false, false, false, false] rfl rfl (any_of HT_.out (by kernel_rfl)) (fun _ _ _ h => h) (Or.inl ⟨by rfl, ?_⟩) ?_ ?_
                     rotate_left
                     · intro w'
                       go_simp
                       with_reducible rfl
                     rotate_left
                     · simp only [Act.put, List.setIfInBounds_toArray, List.set_cons_zero, List.set_cons_succ, i64_w, i32_w]
                       rfl
                     refine pure_ (i := 10) (N := some 30) (v := ?_) (a' := ?_) #[true, true, true, true, true, true, true, true, true, true, true, false, false, false, false, false, false, false, false, false, false, false, false] rfl rfl (any_of HT_.out (by kernel_rfl)) (fun _ _ _ h => h) (Or.inl ⟨by rfl, ?_⟩) ?_ ?_
                     rotate_left
                     · intro w'
                       go_simp
                       with_reducible rfl
                     rotate_left
                     · simp only [Act.put, List.setIfInBounds_toArray, List.set_cons_zero, List.set_cons_succ, i64_w, i32_w]
                       rfl
                     refine pure_ (i := 11) (N := some 31) (v := ?_) (a' := ?_) #[true, true, true, true, true, true, true, true, true, true, true, true, false, false, false, false, false, false, false, false, false, false, false] rfl rfl (any_of HT_.out (by kernel_rfl)) (fun _ _ _ h => h) (Or.inl ⟨by rfl, ?_⟩) ?_ ?_
                     rotate_left
                     · intro w'
                       go_simp
                       with_reducible rfl
                     rotate_left
                     · simp only [Act.put, List.setIfInBounds_toArray, List.set_cons_zero, List.set_cons_succ, i64_w, i32_w]
                       rfl
                     refine pure_ (i := 12) (N := some 32) (v := ?_) (a' := ?_) #[true, true, true, true, true, true, true, true, true, true, true, true, true, false, false, false, false, false, false, false, false, false, false] rfl rfl (any_of HT_.out (by kernel_rfl)) (fun _ _ _ h => h) (Or.inl ⟨by rfl, ?_⟩) ?_ ?_
                     rotate_left
                     · intro w'
                       go_simp
                       with_reducible rfl
                     rotate_left
                     · simp only [Act.put, List.setIfInBounds_toArray, List.set_cons_zero, List.set_cons_succ, i64_w, i32_w]
                       rfl
                     refine pure_ (i := 14) (N := some 34) (v := ?_) (a' := ?_) #[true, true, true, true, true, true, true, true, true, true, true, true, true, false, true, false, false, false, false, false, false, false, false] rfl rfl (any_of HT_.out (by kernel_rfl)) (fun _ _ _ h => h) (Or.inl ⟨by rfl, ?_⟩) ?_ ?_
                     rotate_left
                     · intro w'
                       go_simp
                       with_reducible rfl
                     rotate_left
                     · simp only [Act.put, List.setIfInBounds_toArray, List.set_cons_zero, List.set_cons_succ, i64_w, i32_w]
                       rfl
                     refine pure_ (i := 15) (N := some 35) (v := ?_) (a' := ?_) #[true, true, true, true, true, true, true, true, true, true, true, true, true, false, true, true, false, false, false, false, false, false, false] rfl rfl (any_of HT_.out (by kernel_rfl)) (fun _ _ _ h => h) (Or.inl ⟨by rfl, ?_⟩) ?_ ?_
                     rotate_left
                     · intro w'
                       go_simp
                       with_reducible rfl
                     rotate_left
                     · simp only [Act.put, List.setIfInBounds_toArray, List.set_cons_zero, List.set_cons_succ, i64_w, i32_w]
                       rfl
                     refine pure_ (i := 16) (N := some 36) (v := ?_) (a' := ?_) #[true, true, true, true, true, true, true, true, true, true, true, true, true, false, true, true, true, false, false, false, false, false, false] rfl rfl (any_of HT_.out (by kernel_rfl)) (fun _ _ _ h => h) (Or.inl ⟨by rfl, ?_⟩) ?_ ?_
                     rotate_left
                     · intro w'
                       go_simp
                       with_reducible rfl
                     rotate_left
                     · simp only [Act.put, List.setIfInBounds_toArray, List.set_cons_zero, List.set_cons_succ, i64_w, i32_w]
                       rfl
                     refine pure_ (i := 18) (N := some 38) (v := ?_) (a' := ?_) #[true, true, true, true, true, true, true, true, true, true, true, true, true, false, true, true, true, false, true, false, false, false, false] rfl rfl (any_of HT_.out (by kernel_rfl)) (fun _ _ _ h => h) (Or.inl ⟨by rfl, ?_⟩) ?_ ?_
                     rotate_left
                     · intro w'
                       go_simp
                       with_reducible rfl
                     rotate_left
                     · simp only [Act.put, List.setIfInBounds_toArray, List.set_cons_zero, List.set_cons_succ, i64_w, i32_w]
                       rfl
                     refine take_ (i := 13) (N := some 33) (v := ?_) (a' := ?_) #[true, true, true, true, true, true, true, true, true, true, true, true, true, true, true, true, true, false, true, false, false, false, false] rfl rfl (take_ofW HT_.out HW_.out (by kernel_rfl)) (fun _ _ _ h => h) (Or.inl ⟨by rfl, ?_⟩) hHeld ?_ ?_
                     rotate_left
                     · rintro w' ⟨s0, s1⟩
                       go_simp
                       with_reducible rfl
                     rotate_left
                     · simp only [Act.put, List.setIfInBounds_toArray, List.set_cons_zero, List.set_cons_succ, i64_w, i32_w]
                       rfl
                     refine take_ (i := 17) (N := some 37) (v := ?_) (a' := ?_) #[true, true, true, true, true, true, true, true, true, true, true, true, true, true, true, true, true, true, true, false, false, false, false] rfl rfl (take_ofW HT_.out HW_.out (by kernel_rfl)) (fun _ _ _ h => h) (Or.inl ⟨by rfl, ?_⟩) hHeld ?_ ?_
                     rotate_left
                     · rintro w' ⟨s0, s1⟩
                       go_simp
                       with_reducible rfl
                     rotate_left
                     · simp only [Act.put, List.setIfInBounds_toArray, List.set_cons_zero, List.set_cons_succ, i64_w, i32_w]
                       rfl
                     refine one_ (i := 19) (N := some 39) #[true, true, true, true, true, true, true, true, true, true, true, true, true, true, true, true, true, true, true, true, false, false, false] rfl rfl (one_of HT_.out (by kernel_rfl)) (by decide) (fun K hK => ?_)
                     refine goes_ Tryz.func102 (by kernel_rfl) rfl #[.slice A202_0 (rd_L4 l1 x9_1).length c202_0, .slice A203_0 (rd_L4 l0 x8_1).length c203_0, .slice A2 l2.length c2] (by rfl) rfl rfl (by (try simp only [List.map_toArray, List.map_cons, List.map_nil]); first | done | rfl | (simp only [List.length_drop, List.length_take]; rfl)) ?_
                     with_reducible refine (jointerref06_before.calls kj3 _ _ (rd_L4 l1 x9_1) _ _ (rd_L4 l0 x8_1) _ _ l2 true _ ?side1 ?side2 ?side3 ?side4 ?side5 ?side6 A17.out).mono ?_
                     (case side1 => repeat (first | exact (by repeat (first | (with_reducible exact HR202_0.out) | (with_reducible refine Kd.C_alloc ?_ _) | (with_reducible refine Kd.C_drewN ?_ _) | (with_reducible refine Kd.C_drew ?_) | exact HR202_0.out)) | (with_reducible refine Kd.C_alloc ?_ _) | (with_reducible refine Kd.C_drewN ?_ _) | (with_reducible refine Kd.C_drew ?_)))
                     (case side2 => exact HC202_0.out)
                     (case side3 => repeat (first | exact (by repeat (first | (with_reducible exact HR203_0.out) | (with_reducible refine Kd.C_alloc ?_ _) | (with_reducible refine Kd.C_drewN ?_ _) | (with_reducible refine Kd.C_drew ?_) | exact HR203_0.out)) | (with_reducible refine Kd.C_alloc ?_ _) | (with_reducible refine Kd.C_drewN ?_ _) | (with_reducible refine Kd.C_drew ?_)))
                     (case side4 => exact HC203_0.out)
                     (case side5 => repeat (first | exact (Kd.C_below HR2.out HB.out) | (with_reducible refine Kd.C_alloc ?_ _) | (with_reducible refine Kd.C_drewN ?_ _) | (with_reducible refine Kd.C_drew ?_)))
                     (case side6 => exact HC2.out)
                     rintro e w21 ⟨rfl, hb⟩
                     have HS0_ := (hb.cell (World.block_lt_of_cell? _ _ (hHeld.1))).trans (hHeld.1)
                     have HS1_ := (hb.cell (World.block_lt_of_cell? _ _ (hHeld.2))).trans (hHeld.2)
                     refine ⟨_, rfl, ?_⟩
                     have n0_ := Aside0.mk (Kd.V_below (by (with_reducible repeat (first | apply Kd.V_alloc | apply Kd.V_drewN | apply Kd.V_drew)); exact HO_0.out) hb)
                     have n1_ := Aside0.mk (Kd.V_below (by (with_reducible repeat (first | apply Kd.V_alloc | apply Kd.V_drewN | apply Kd.V_drew)); exact HO_1.out) hb)
                     have n2_ := Aside0.mk (Kd.N_below (by (with_reducible repeat (first | apply Kd.N_alloc | apply Kd.N_drewN | apply Kd.N_drew)); exact HO_7.out) hb)
                     have n3_ := Aside0.mk (Kd.V_below (by (with_reducible repeat (first | apply Kd.V_alloc | apply Kd.V_drewN | apply Kd.V_drew)); exact HL202_0.out) hb)
                     have n4_ := Aside0.mk (Kd.V_below (by (with_reducible repeat (first | apply Kd.V_alloc | apply Kd.V_drewN | apply Kd.V_drew)); exact HL203_0.out) hb)
                     have n5_ := Aside0.mk (Kd.C_below (by repeat (first | (with_reducible exact HR202_0.out) | (with_reducible refine Kd.C_alloc ?_ _) | (with_reducible refine Kd.C_drewN ?_ _) | (with_reducible refine Kd.C_drew ?_) | exact HR202_0.out)) hb)
                     have n6_ := Aside0.mk (Kd.C_below (by repeat (first | (with_reducible exact HR203_0.out) | (with_reducible refine Kd.C_alloc ?_ _) | (with_reducible refine Kd.C_drewN ?_ _) | (with_reducible refine Kd.C_drew ?_) | exact HR203_0.out)) hb)
                     have n7_ := Aside0.mk (below_step (by repeat (first | (with_reducible first | exact HB.out | apply below_alloc | apply pw_below_drewN | apply below_drew1) | exact HB.out)) hb)
                     clear HO_0
                     clear HO_1
                     clear HO_7
                     clear HL202_0
                     clear HL203_0
                     clear HR202_0
                     clear HR203_0
                     clear HB
                     have HO_0 := n0_
                     have HO_1 := n1_
                     have HO_7 := n2_
                     have HL202_0 := n3_
                     have HL203_0 := n4_
                     have HR202_0 := n5_
                     have HR203_0 := n6_
                     have HB := n7_
                     clear n0_ n1_ n2_ n3_ n4_ n5_ n6_ n7_
                     (try clear hb)
                     (try clear hb2)
                     (try clear hk)
                     (try clear hi)
                     refine hK.out _ _ ⟨HS0_, HS1_⟩ (fun hHeld => ?_)
                     clear hK K
                     refine norm_ (a' := ?_) ?_ ?_
                     rotate_left
                     · show Act.put _ (some 39) _ = _
                       simp only [Act.put, List.setIfInBounds_toArray, List.set_cons_zero, List.set_cons_succ, i64_w, i32_w]
                       rfl
                     refine pure_ (i := 20) (N := some 40) (v := ?_) (a' := ?_) #[true, true, true, true, true, true, true, true, true, true, true, true, true, true, true, true, true, true, true, true, true, false, false] rfl rfl (any_of HT_.out (by kernel_rfl)) (fun _ _ _ h => h) (Or.inl ⟨by rfl, ?_⟩) ?_ ?_
                     rotate_left
                     · intro w'
                       go_simp
                       with_reducible rfl
                     rotate_left
                     · simp only [Act.put, List.setIfInBounds_toArray, List.set_cons_zero, List.set_cons_succ, i64_w, i32_w]
                       rfl
                     refine pure_ (i := 21) (N := some 41) (v := ?_) (a' := ?_) #[true, true, true, true, true, true, true, true, true, true, true, true, true, true, true, true, true, true, true, true, true, true, false] rfl rfl (any_of HT_.out (by kernel_rfl)) (fun _ _ _ h => h) (Or.inl ⟨by rfl, ?_⟩) ?_ ?_
                     rotate_left
                     · intro w'
                       go_simp
                       with_reducible rfl
                     rotate_left
                     · simp only [Act.put, List.setIfInBounds_toArray, List.set_cons_zero, List.set_cons_succ, i64_w, i32_w]
                       rfl
                     refine pure_ (i := 22) (N := some 42) (v := ?_) (a' := ?_) #[true, true, true, true, true, true, true, true, true, true, true, true, true, true, true, true, true, true, true, true, true, true, true] rfl rfl (any_of HT_.out (by kernel_rfl)) (fun _ _ _ h => h) (Or.inl ⟨by rfl, ?_⟩) ?_ ?_
                     rotate_left
                     · intro w'
                       go_simp
                       with_reducible rfl
                     rotate_left
                     · simp only [Act.put, List.setIfInBounds_toArray, List.set_cons_zero, List.set_cons_succ, i64_w, i32_w]
                       rfl
                     refine done_ (done_of HT_.out (by kernel_rfl)) ?_
                     have p205 : 0 ≤ (x9_1 : Int) := of_decide_eq_true (by first | (with_reducible assumption) | assumption)
                     have q205 : x9_1 < (l1.length : Int) := of_decide_eq_true (by first | (with_reducible assumption) | assumption)
                     obtain ⟨ad205, A205_0, c205_0, e205, hx205_0, hl205_0, hi205_0⟩ := at_L4 (Kd.V_reads' HO_1.out).2.2 x9_1 p205 q205
                     obtain rfl : ad202 = ad205 := (by injection e205)
                     obtain ⟨ce205, hce205, hMe205, hcc205⟩ := Kd.V_get HO_1.out [] x9_1 p205 (by first | exact q205 | exact of_decide_eq_true (by first | (with_reducible assumption) | assumption) | (have e_ := (Kd.V_reads' HO_1.out).1; omega))
                     obtain ⟨ua205_0, uc205_0, rfl, ul205_0, ge205_0⟩ := Kd.FK_slice_open hMe205
                     have hv205_0 := hcc205 0 _ rfl
                     rw [Nat.add_zero, show ((Kd.slice 36 k36)).sz = 1 from rfl, Nat.mul_one] at hv205_0
                     replace hv205_0 := Option.some.inj (hv205_0.symm.trans hx205_0)
                     injection hv205_0 with hva_ hvn_ hvc_
                     rw [hva_] at ge205_0
                     rw [hvc_] at ul205_0
                     have HL205_0 := Aside0.mk (show Kd.V k36 36 _ w.heap.size _ _ (rd_L4 l1 x9_1) from Kd.V_mk ul205_0 ge205_0)
                     clear hva_ hvn_ hvc_ ge205_0 ul205_0
                     clear hcc205 hce205
                     have HR205_0 := Aside0.mk hi205_0
                     have HC205_0 := Aside0.mk hl205_0
                     clear hi205_0 hl205_0
                     replace p205 := eq_true p205
                     replace q205 := eq_true q205
                     clear HS0_ HS1_ hHeld
                     try go_wp2_with (first | ((with_reducible refine gate_builtin (b := .append) (xs := #[.tmp 52, .tmp 57]) rfl ?_); (try (refine gate_guard (by rfl) ?_; dsimp only)); at_builtin; refine Kd.N_append (Kd.slice 36 k36) (w0 := w) w.heap.size rfl (.tmp 52) (.tmp 57) 22 53 (.slice none 0 0) 24 rfl Tryz.underlying22 info53 rfl (by decide) (by omega) u7 x7_1 (rd_L4 l1 x9_1) [.slice A205_0 (rd_L4 l1 x9_1).length c205_0] (fun k_ => ((P0_ k_ ∨ P1_ k_) ∨ w.heap.size ≤ k_)) (fun k_ => ((fun k_ => ((P0_ k_ ∨ P1_ k_) ∨ w.heap.size ≤ k_))) k_ ∧ some k_ ≠ (u7 : Value).ownBlock) rfl rfl ?aP (fun _ hk => hk) ?aF ?aO ?aB ?aS ?aL ?_; (case aP => exact (Kd.FK_slice_mk (Kd.V_reads' (Kd.V_mono (ok' := (fun k_ => ((fun k_ => ((P0_ k_ ∨ P1_ k_) ∨ w.heap.size ≤ k_))) k_ ∧ some k_ ≠ (u7 : Value).ownBlock)) (HL205_0.out) (fun k_ hk => ⟨hk.1, hk.2⟩))).2.1 (Kd.V_F (Kd.V_mono (ok' := (fun k_ => ((fun k_ => ((P0_ k_ ∨ P1_ k_) ∨ w.heap.size ≤ k_))) k_ ∧ some k_ ≠ (u7 : Value).ownBlock)) (HL205_0.out) (fun k_ hk => ⟨hk.1, hk.2⟩))))); (case aB => exact (by repeat (first | (with_reducible first | exact HB.out | apply below_alloc | apply pw_below_drewN | apply below_drew1) | exact HB.out))); (case aF => exact (fun k_ hk => (.inr (Nat.le_trans (below_size (by repeat (first | (with_reducible first | exact HB.out | apply below_alloc | apply pw_below_drewN | apply below_drew1) | exact HB.out))) hk)))); (case aO => exact (by (with_reducible repeat (first | apply Kd.N_alloc | apply Kd.N_drewN | apply Kd.N_drew)); exact HO_7.out)); (case aS => exact (below_size (by repeat (first | (with_reducible first | exact HB.out | apply below_alloc | apply pw_below_drewN | apply below_drew1) | exact HB.out)))); (case aL => have := LMc19.out; omega); intro v207 w22 ho hb hg hat; rw [← Ny206.out] at ho; have n0_ := Aside0.mk (Kd.V_afterv (ok := (fun k_ => ((P0_ k_ ∨ P1_ k_) ∨ w.heap.size ≤ k_))) (by (with_reducible repeat (first | apply Kd.V_alloc | apply Kd.V_drewN | apply Kd.V_drew)); exact HO_0.out) hg hat); have n1_ := Aside0.mk (Kd.V_afterv (ok := (fun k_ => ((P0_ k_ ∨ P1_ k_) ∨ w.heap.size ≤ k_))) (by (with_reducible repeat (first | apply Kd.V_alloc | apply Kd.V_drewN | apply Kd.V_drew)); exact HO_1.out) hg hat); have n2_ := Aside0.mk (Kd.V_afterv (ok := (fun k_ => ((P0_ k_ ∨ P1_ k_) ∨ w.heap.size ≤ k_))) (by (with_reducible repeat (first | apply Kd.V_alloc | apply Kd.V_drewN | apply Kd.V_drew)); exact HL202_0.out) hg hat); have n3_ := Aside0.mk (Kd.V_afterv (ok := (fun k_ => ((P0_ k_ ∨ P1_ k_) ∨ w.heap.size ≤ k_))) (by (with_reducible repeat (first | apply Kd.V_alloc | apply Kd.V_drewN | apply Kd.V_drew)); exact HL203_0.out) hg hat); have n4_ := Aside0.mk (Kd.V_afterv (ok := (fun k_ => ((P0_ k_ ∨ P1_ k_) ∨ w.heap.size ≤ k_))) (by (with_reducible repeat (first | apply Kd.V_alloc | apply Kd.V_drewN | apply Kd.V_drew)); exact HL205_0.out) hg hat); have n5_ := Aside0.mk (hb); have n6_ := Aside0.mk (ho); clear HO_0; clear HO_1; clear HL202_0; clear HL203_0; clear HL205_0; clear HB; clear HO_7; have HO_0 := n0_; have HO_1 := n1_; have HL202_0 := n2_; have HL203_0 := n3_; have HL205_0 := n4_; have HB := n5_; have HO208 := n6_; clear n0_ n1_ n2_ n3_ n4_ n5_ n6_; clear ho hb hg hat))
                     go_roundg kj3
                     case measure => have := HK1.out; have := HJ3.out; omega
                     case rel => exact ⟨(y206), (x8_1), (wrap64 (x9_1 + 1)), (by first | rfl | (simp; done) | (simp [*]; done)), (by first | rfl | (simp; done) | (simp [*]; done)), H', ⟨by have := HK1.out; have := HJ3.out; omega⟩, ⟨by (with_reducible repeat (first | apply Kd.V_alloc | apply Kd.V_drewN | apply Kd.V_drew)); exact HO_0.out⟩, ⟨by (with_reducible repeat (first | apply Kd.V_alloc | apply Kd.V_drewN | apply Kd.V_drew)); exact HO_1.out⟩, ⟨by (with_reducible repeat (first | apply Kd.N_alloc | apply Kd.N_drewN | apply Kd.N_drew)); exact HO208.out⟩, ⟨by repeat (first | (with_reducible first | exact HB.out | apply below_alloc | apply pw_below_drewN | apply below_drew1) | exact HB.out)⟩⟩
                   · rw [if_neg c19] at H
                     exact absurd H (by simp)
                 · replace c18 := Bool.eq_false_iff.mpr c18
                   subst c18
                   have H1 : (if x7_1.length < 5864062014805 then (jointerref06_merge.l0 kj3 l0 l1 l2 (x7_1 ++ [rd_L4 l0 x8_1]) (wrap64 (x8_1 + 1)) x9_1) else (none)) = some r := by rw [if_neg (show ¬ (false = true) by decide)] at H; exact H
                   clear H
                   have H := H1
                   clear H1
                   by_cases c23 : x7_1.length < 5864062014805
                   · rw [if_pos c23] at H
                     have LMc23 := Aside0.mk c23
                     clear c23
                     obtain ⟨y210, hy210⟩ : ∃ y_ : List (List (S36)), y_ = (x7_1 ++ [rd_L4 l0 x8_1]) := ⟨_, rfl⟩
                     replace H : (jointerref06_merge.l0 kj3 l0 l1 l2 y210 (wrap64 (x8_1 + 1)) x9_1) = some r := by first | (rw [hy210]; with_reducible exact H) | (have H2_ := (Option.bind_some _ _).symm.trans H; rw [hy210]; with_reducible exact H2_) | (have H2_ := (Option.bind_some _ _).symm.trans H; with_reducible exact H2_) | with_reducible exact H | (rw [hy210]; exact H) | exact H
                     have Ny210 := Aside0.mk hy210
                     clear hy210
                     have H' := Aside0.mk H
                     clear H
                     try go_wp2
                     have n0_ := Aside0.mk (Kd.V_drew HO_0.out)
                     have n1_ := Aside0.mk (Kd.V_drew HO_1.out)
                     have n2_ := Aside0.mk (Kd.N_drew HO_7.out)
                     have n3_ := Aside0.mk (below_drew1 HB.out)
                     clear HO_0
                     clear HO_1
                     clear HO_7
                     clear HB
                     have HO_0 := n0_
                     have HO_1 := n1_
                     have HO_7 := n2_
                     have HB := n3_
                     clear n0_ n1_ n2_ n3_
                     have p202 : 0 ≤ (x9_1 : Int) := of_decide_eq_true (by first | (with_reducible assumption) | assumption)
                     have q202 : x9_1 < (l1.length : Int) := of_decide_eq_true (by first | (with_reducible assumption) | assumption)
                     obtain ⟨ad202, A202_0, c202_0, e202, hx202_0, hl202_0, hi202_0⟩ := at_L4 (Kd.V_reads' HO_1.out).2.2 x9_1 p202 q202
                     cases e202
                     obtain ⟨ce202, hce202, hMe202, hcc202⟩ := Kd.V_get HO_1.out [] x9_1 p202 (by first | exact q202 | exact of_decide_eq_true (by first | (with_reducible assumption) | assumption) | (have e_ := (Kd.V_reads' HO_1.out).1; omega))
                     obtain ⟨ua202_0, uc202_0, rfl, ul202_0, ge202_0⟩ := Kd.FK_slice_open hMe202
                     have hv202_0 := hcc202 0 _ rfl
                     rw [Nat.add_zero, show ((Kd.slice 36 k36)).sz = 1 from rfl, Nat.mul_one] at hv202_0
                     replace hv202_0 := Option.some.inj (hv202_0.symm.trans hx202_0)
                     injection hv202_0 with hva_ hvn_ hvc_
                     rw [hva_] at ge202_0
                     rw [hvc_] at ul202_0
                     have HL202_0 := Aside0.mk (show Kd.V k36 36 _ w.heap.size _ _ (rd_L4 l1 x9_1) from Kd.V_mk ul202_0 ge202_0)
                     clear hva_ hvn_ hvc_ ge202_0 ul202_0
                     clear hcc202 hce202
                     have HR202_0 := Aside0.mk hi202_0
                     have HC202_0 := Aside0.mk hl202_0
                     clear hi202_0 hl202_0
                     replace p202 := eq_true p202
                     replace q202 := eq_true q202
                     have p203 : 0 ≤ (x8_1 : Int) := of_decide_eq_true (by first | (with_reducible assumption) | assumption)
                     have q203 : x8_1 < (l0.length : Int) := of_decide_eq_true (by first | (with_reducible assumption) | assumption)
                     obtain ⟨ad203, A203_0, c203_0, e203, hx203_0, hl203_0, hi203_0⟩ := at_L4 (Kd.V_reads' HO_0.out).2.2 x8_1 p203 q203
                     cases e203
                     obtain ⟨ce203, hce203, hMe203, hcc203⟩ := Kd.V_get HO_0.out [] x8_1 p203 (by first | exact q203 | exact of_decide_eq_true (by first | (with_reducible assumption) | assumption) | (have e_ := (Kd.V_reads' HO_0.out).1; omega))
                     obtain ⟨ua203_0, uc203_0, rfl, ul203_0, ge203_0⟩ := Kd.FK_slice_open hMe203
                     have hv203_0 := hcc203 0 _ rfl
                     rw [Nat.add_zero, show ((Kd.slice 36 k36)).sz = 1 from rfl, Nat.mul_one] at hv203_0
                     replace hv203_0 := Option.some.inj (hv203_0.symm.trans hx203_0)
                     injection hv203_0 with hva_ hvn_ hvc_
                     rw [hva_] at ge203_0
                     rw [hvc_] at ul203_0
                     have HL203_0 := Aside0.mk (show Kd.V k36 36 _ w.heap.size _ _ (rd_L4 l0 x8_1) from Kd.V_mk ul203_0 ge203_0)
                     clear hva_ hvn_ hvc_ ge203_0 ul203_0
                     clear hcc203 hce203
                     have HR203_0 := Aside0.mk hi203_0
                     have HC203_0 := Aside0.mk hl203_0
                     clear hi203_0 hl203_0
                     replace p203 := eq_true p203
                     replace q203 := eq_true q203
                     refine start_ (n := 23) (S := fun w' => w'.cell? (ad202.add (x9_1).toNat) = some (.slice A202_0 (rd_L4 l1 x9_1).length c202_0) ∧ w'.cell? (ad203.add (x8_1).toNat) = some (.slice A203_0 (rd_L4 l0 x8_1).length c203_0)) (ds := []) #[false, false, false, false, false, false, false, false, false, false, false, false, false, false, false, false, false, false, false, false, false, false, false] (by kernel_rfl) rfl rfl ⟨hx202_0, hx203_0⟩ (fun hHeld => ?_); refine with_tabW jointerref06_merge.tab4 jointerref06_merge.bits4 (fun HT_ HW_ => ?_)
                     generalize wc.drew = w24 at HO_0 HO_1 HO_7 HB HL202_0 HL203_0 HR202_0 HR203_0 hx202_0 hx203_0 hHeld ⊢
                     refine pure_ (i := 0) (N := some 20) (v := ?_) (a' := ?_) #[true, false, false, false, false, false, false, false, false, false, false, false, false, false, false, false, false, false, false, false, false, false, false] rfl rfl (any_of HT_.out (by kernel_rfl)) (fun _ _ _ h => h) (Or.inl ⟨by rfl, ?_⟩) ?_ ?_
                     rotate_left
                     · intro w'
                       go_simp
                       with_reducible rfl
                     rotate_left
                     · simp only [Act.put, List.setIfInBounds_toArray, List.set_cons_zero, List.set_cons_succ, i64_w, i32_w]
                       rfl
                     refine pure_ (i := 1) (N := some 21) (v := ?_) (a' := ?_) #[true, true, false, false, false, false, false, false, false, false, false, false, false, false, false, false, false, false, false, false, false, false, false] rfl rfl (any_of HT_.out (by kernel_rfl)) (fun _ _ _ h => h) (Or.inl ⟨by rfl, ?_⟩) ?_ ?_
                     rotate_left
                     · intro w'
                       go_simp
                       with_reducible rfl
                     rotate_left
                     · simp only [Act.put, List.setIfInBounds_toArray, List.set_cons_zero, List.set_cons_succ, i64_w, i32_w]
                       rfl
                     refine pure_ (i := 2) (N := some 22) (v := ?_) (a' := ?_) #[true, true, true, false, false, false, false, false, false, false, false, false, false, false, false, false, false, false, false, false, false, false, false] rfl rfl (any_of HT_.out (by kernel_rfl)) (fun _ _ _ h => h) (Or.inl ⟨by rfl, ?_⟩) ?_ ?_
                     rotate_left
                     · intro w'
                       go_simp
                       with_reducible rfl
                     rotate_left
                     · simp only [Act.put, List.setIfInBounds_toArray, List.set_cons_zero, List.set_cons_succ, i64_w, i32_w]
                       rfl
                     refine pure_ (i := 3) (N := some 23) (v := ?_) (a' := ?_) #[true, true, true, true, false, false, false, false, false, false, false, false, false, false, false, false, false, false, false, false, false, false, false] rfl rfl (any_of HT_.out (by kernel_rfl)) (fun _ _ _ h => h) (Or.inl ⟨by rfl, ?_⟩) ?_ ?_
                     rotate_left
                     · intro w'
                       go_simp
                       with_reducible rfl
                     rotate_left
                     · simp only [Act.put, List.setIfInBounds_toArray, List.set_cons_zero, List.set_cons_succ, i64_w, i32_w]
                       rfl
                     refine pure_ (i := 4) (N := some 24) (v := ?_) (a' := ?_) #[true, true, true, true, true, false, false, false, false, false, false, false, false, false, false, false, false, false, false, false, false, false, false] rfl rfl (any_of HT_.out (by kernel_rfl)) (fun _ _ _ h => h) (Or.inl ⟨by rfl, ?_⟩) ?_ ?_
                     rotate_left
                     · intro w'
                       go_simp
                       with_reducible rfl
                     rotate_left
                     · simp only [Act.put, List.setIfInBounds_toArray, List.set_cons_zero, List.set_cons_succ, i64_w, i32_w]
                       rfl
                     refine pure_ (i := 5) (N := some 25) (v := ?_) (a' := ?_) #[true, true, true, true, true, true, false, false, false, false, false, false, false, false, false, false, false, false, false, false, false, false, false] rfl rfl (any_of HT_.out (by kernel_rfl)) (fun _ _ _ h => h) (Or.inl ⟨by rfl, ?_⟩) ?_ ?_
                     rotate_left
                     · intro w'
                       go_simp
                       with_reducible rfl
                     rotate_left
                     · simp only [Act.put, List.setIfInBounds_toArray, List.set_cons_zero, List.set_cons_succ, i64_w, i32_w]
                       rfl
                     refine pure_ (i := 6) (N := some 26) (v := ?_) (a' := ?_) #[true, true, true, true, true, true, true, false, false, false, false, false, false, false, false, false, false, false, false, false, false, false, false] rfl rfl (any_of HT_.out (by kernel_rfl)) (fun _ _ _ h => h) (Or.inl ⟨by rfl, ?_⟩) ?_ ?_
                     rotate_left
                     · intro w'
                       go_simp
                       with_reducible rfl
                     rotate_left
                     · simp only [Act.put, List.setIfInBounds_toArray, List.set_cons_zero, List.set_cons_succ, i64_w, i32_w]
                       rfl
                     refine pure_ (i := 7) (N := some 27) (v := ?_) (a' := ?_) #[true, true, true, true, true, true, true, true, false, false, false, false, false, false, false, false, false, false, false, false, false, false, false] rfl rfl (any_of HT_.out (by kernel_rfl)) (fun _ _ _ h => h) (Or.inl ⟨by rfl, ?_⟩) ?_ ?_
                     rotate_left
                     · intro w'
                       go_simp
                       with_reducible rfl
                     rotate_left
                     · simp only [Act.put, List.setIfInBounds_toArray, List.set_cons_zero, List.set_cons_succ, i64_w, i32_w]
                       rfl
                     refine pure_ (i := 8) (N := some 28) (v := ?_) (a' := ?_) #[true, true, true, true, true, true, true, true, true, false, false, false, false, false, false, false, false, false, false, false, false, false, false] rfl rfl (any_of HT_.out (by kernel_rfl)) (fun _ _ _ h => h) (Or.inl ⟨by rfl, ?_⟩) ?_ ?_
                     rotate_left
                     · intro w'
                       go_simp
                       with_reducible rfl
                     rotate_left
                     · simp only [Act.put, List.setIfInBounds_toArray, List.set_cons_zero, List.set_cons_succ, i64_w, i32_w]
                       rfl
                     refine pure_ (i := 9) (N := some 29) (v := ?_) (a' := ?_) #[true, true, true, true, true, true, true, true, true, true, false, false, false, false, false, false, false, false, false, false, false, false, false] rfl rfl (any_of HT_.out (by kernel_rfl)) (fun _ _ _ h => h) (Or.inl ⟨by rfl, ?_⟩) ?_ ?_
                     rotate_left
                     · intro w'
                       go_simp
                       with_reducible rfl
                     rotate_left
                     · simp only [Act.put, List.setIfInBounds_toArray, List.set_cons_zero, List.set_cons_succ, i64_w, i32_w]
                       rfl
                     refine pure_ (i := 10) (N := some 30) (v := ?_) (a' := ?_) #[true, true, true, true, true, true, true, true, true, true, true, false, false, false, false, false, false, false, false, false, false, false, false] rfl rfl (any_of HT_.out (by kernel_rfl)) (fun _ _ _ h => h) (Or.inl ⟨by rfl, ?_⟩) ?_ ?_
                     rotate_left
                     · intro w'
                       go_simp
                       with_reducible rfl
                     rotate_left
                     · simp only [Act.put, List.setIfInBounds_toArray, List.set_cons_zero, List.set_cons_succ, i64_w, i32_w]
                       rfl
                     refine pure_ (i := 11) (N := some 31) (v := ?_) (a' := ?_) #[true, true, true, true, true, true, true, true, true, true, true, true, false, false, false, false, false, false, false, false, false, false, false] rfl rfl (any_of HT_.out (by kernel_rfl)) (fun _ _ _ h => h) (Or.inl ⟨by rfl, ?_⟩) ?_ ?_
                     rotate_left
                     · intro w'
                       go_simp
                       with_reducible rfl
                     rotate_left
                     · simp only [Act.put, List.setIfInBounds_toArray, List.set_cons_zero, List.set_cons_succ, i64_w, i32_w]
                       rfl
                     refine pure_ (i := 12) (N := some 32) (v := ?_) (a' := ?_) #[true, true, true, true, true, true, true, true, true, true, true, true, true, false, false, false, false, false, false, false, false, false, false] rfl rfl (any_of HT_.out (by kernel_rfl)) (fun _ _ _ h => h) (Or.inl ⟨by rfl, ?_⟩) ?_ ?_
                     rotate_left
                     · intro w'
                       go_simp
                       with_reducible rfl
                     rotate_left
                     · simp only [Act.put, List.setIfInBounds_toArray, List.set_cons_zero, List.set_cons_succ, i64_w, i32_w]
                       rfl
                     refine pure_ (i := 14) (N := some 34) (v := ?_) (a' := ?_) #[true, true, true, true, true, true, true, true, true, true, true, true, true, false, true, false, false, false, false, false, false, false, false] rfl rfl (any_of HT_.out (by kernel_rfl)) (fun _ _ _ h => h) (Or.inl ⟨by rfl, ?_⟩) ?_ ?_
                     rotate_left
                     · intro w'
                       go_simp
                       with_reducible rfl
                     rotate_left
                     · simp only [Act.put, List.setIfInBounds_toArray, List.set_cons_zero, List.set_cons_succ, i64_w, i32_w]
                       rfl
                     refine pure_ (i := 15) (N := some 35) (v := ?_) (a' := ?_) #[true, true, true, true, true, true, true, true, true, true, true, true, true, false, true, true, false, false, false, false, false, false, false] rfl rfl (any_of HT_.out (by kernel_rfl)) (fun _ _ _ h => h) (Or.inl ⟨by rfl, ?_⟩) ?_ ?_
                     rotate_left
                     · intro w'
                       go_simp
                       with_reducible rfl
                     rotate_left
                     · simp only [Act.put, List.setIfInBounds_toArray, List.set_cons_zero, List.set_cons_succ, i64_w, i32_w]
                       rfl
                     refine pure_ (i := 16) (N := some 36) (v := ?_) (a' := ?_) #[true, true, true, true, true, true, true, true, true, true, true, true, true, false, true, true, true, false, false, false, false, false, false] rfl rfl (any_of HT_.out (by kernel_rfl)) (fun _ _ _ h => h) (Or.inl ⟨by rfl, ?_⟩) ?_ ?_
                     rotate_left
                     · intro w'
                       go_simp
                       with_reducible rfl
                     rotate_left
                     · simp only [Act.put, List.setIfInBounds_toArray, List.set_cons_zero, List.set_cons_succ, i64_w, i32_w]
                       rfl
                     refine pure_ (i := 18) (N := some 38) (v := ?_) (a' := ?_) #[true, true, true, true, true, true, true, true, true, true, true, true, true, false, true, true, true, false, true, false, false, false, false] rfl rfl (any_of HT_.out (by kernel_rfl)) (fun _ _ _ h => h) (Or.inl ⟨by rfl, ?_⟩) ?_ ?_
                     rotate_left
                     · intro w'
                       go_simp
                       with_reducible rfl
                     rotate_left
                     · simp only [Act.put, List.setIfInBounds_toArray, List.set_cons_zero, List.set_cons_succ, i64_w, i32_w]
                       rfl
                     refine take_ (i := 13) (N := some 33) (v := ?_) (a' := ?_) #[true, true, true, true, true, true, true, true, true, true, true, true, true, true, true, true, true, false, true, false, false, false, false] rfl rfl (take_ofW HT_.out HW_.out (by kernel_rfl)) (fun _ _ _ h => h) (Or.inl ⟨by rfl, ?_⟩) hHeld ?_ ?_
                     rotate_left
                     · rintro w' ⟨s0, s1⟩
                       go_simp
                       with_reducible rfl
                     rotate_left
                     · simp only [Act.put, List.setIfInBounds_toArray, List.set_cons_zero, List.set_cons_succ, i64_w, i32_w]
                       rfl
                     refine take_ (i := 17) (N := some 37) (v := ?_) (a' := ?_) #[true, true, true, true, true, true, true, true, true, true, true, true, true, true, true, true, true, true, true, false, false, false, false] rfl rfl (take_ofW HT_.out HW_.out (by kernel_rfl)) (fun _ _ _ h => h) (Or.inl ⟨by rfl, ?_⟩) hHeld ?_ ?_
                     rotate_left
                     · rintro w' ⟨s0, s1⟩
                       go_simp
                       with_reducible rfl
                     rotate_left
                     · simp only [Act.put, List.setIfInBounds_toArray, List.set_cons_zero, List.set_cons_succ, i64_w, i32_w]
                       rfl
                     refine one_ (i := 19) (N := some 39) #[true, true, true, true, true, true, true, true, true, true, true, true, true, true, true, true, true, true, true, true, false, false, false] rfl rfl (one_of HT_.out (by kernel_rfl)) (by decide) (fun K hK => ?_)
                     refine goes_ Tryz.func102 (by kernel_rfl) rfl #[.slice A202_0 (rd_L4 l1 x9_1).length c202_0, .slice A203_0 (rd_L4 l0 x8_1).length c203_0, .slice A2 l2.length c2] (by rfl) rfl rfl (by (try simp only [List.map_toArray, List.map_cons, List.map_nil]); first | done | rfl | (simp only [List.length_drop, List.length_take]; rfl)) ?_
                     with_reducible refine (jointerref06_before.calls kj3 _ _ (rd_L4 l1 x9_1) _ _ (rd_L4 l0 x8_1) _ _ l2 false _ ?side1 ?side2 ?side3 ?side4 ?side5 ?side6 A17.out).mono ?_
                     (case side1 => repeat (first | exact (by repeat (first | (with_reducible exact HR202_0.out) | (with_reducible refine Kd.C_alloc ?_ _) | (with_reducible refine Kd.C_drewN ?_ _) | (with_reducible refine Kd.C_drew ?_) | exact HR202_0.out)) | (with_reducible refine Kd.C_alloc ?_ _) | (with_reducible refine Kd.C_drewN ?_ _) | (with_reducible refine Kd.C_drew ?_)))
                     (case side2 => exact HC202_0.out)
                     (case side3 => repeat (first | exact (by repeat (first | (with_reducible exact HR203_0.out) | (with_reducible refine Kd.C_alloc ?_ _) | (with_reducible refine Kd.C_drewN ?_ _) | (with_reducible refine Kd.C_drew ?_) | exact HR203_0.out)) | (with_reducible refine Kd.C_alloc ?_ _) | (with_reducible refine Kd.C_drewN ?_ _) | (with_reducible refine Kd.C_drew ?_)))
                     (case side4 => exact HC203_0.out)
                     (case side5 => repeat (first | exact (Kd.C_below HR2.out HB.out) | (with_reducible refine Kd.C_alloc ?_ _) | (with_reducible refine Kd.C_drewN ?_ _) | (with_reducible refine Kd.C_drew ?_)))
                     (case side6 => exact HC2.out)
                     rintro e w25 ⟨rfl, hb⟩
                     have HS0_ := (hb.cell (World.block_lt_of_cell? _ _ (hHeld.1))).trans (hHeld.1)
                     have HS1_ := (hb.cell (World.block_lt_of_cell? _ _ (hHeld.2))).trans (hHeld.2)
                     refine ⟨_, rfl, ?_⟩
                     have n0_ := Aside0.mk (Kd.V_below (by (with_reducible repeat (first | apply Kd.V_alloc | apply Kd.V_drewN | apply Kd.V_drew)); exact HO_0.out) hb)
                     have n1_ := Aside0.mk (Kd.V_below (by (with_reducible repeat (first | apply Kd.V_alloc | apply Kd.V_drewN | apply Kd.V_drew)); exact HO_1.out) hb)
                     have n2_ := Aside0.mk (Kd.N_below (by (with_reducible repeat (first | apply Kd.N_alloc | apply Kd.N_drewN | apply Kd.N_drew)); exact HO_7.out) hb)
                     have n3_ := Aside0.mk (Kd.V_below (by (with_reducible repeat (first | apply Kd.V_alloc | apply Kd.V_drewN | apply Kd.V_drew)); exact HL202_0.out) hb)
                     have n4_ := Aside0.mk (Kd.V_below (by (with_reducible repeat (first | apply Kd.V_alloc | apply Kd.V_drewN | apply Kd.V_drew)); exact HL203_0.out) hb)
                     have n5_ := Aside0.mk (Kd.C_below (by repeat (first | (with_reducible exact HR202_0.out) | (with_reducible refine Kd.C_alloc ?_ _) | (with_reducible refine Kd.C_drewN ?_ _) | (with_reducible refine Kd.C_drew ?_) | exact HR202_0.out)) hb)
                     have n6_ := Aside0.mk (Kd.C_below (by repeat (first | (with_reducible exact HR203_0.out) | (with_reducible refine Kd.C_alloc ?_ _) | (with_reducible refine Kd.C_drewN ?_ _) | (with_reducible refine Kd.C_drew ?_) | exact HR203_0.out)) hb)
                     have n7_ := Aside0.mk (below_step (by repeat (first | (with_reducible first | exact HB.out | apply below_alloc | apply pw_below_drewN | apply below_drew1) | exact HB.out)) hb)
                     clear HO_0
                     clear HO_1
                     clear HO_7
                     clear HL202_0
                     clear HL203_0
                     clear HR202_0
                     clear HR203_0
                     clear HB
                     have HO_0 := n0_
                     have HO_1 := n1_
                     have HO_7 := n2_
                     have HL202_0 := n3_
                     have HL203_0 := n4_
                     have HR202_0 := n5_
                     have HR203_0 := n6_
                     have HB := n7_
                     clear n0_ n1_ n2_ n3_ n4_ n5_ n6_ n7_
                     (try clear hb)
                     (try clear hb2)
                     (try clear hk)
                     (try clear hi)
                     refine hK.out _ _ ⟨HS0_, HS1_⟩ (fun hHeld => ?_)
                     clear hK K
                     refine norm_ (a' := ?_) ?_ ?_
                     rotate_left
                     · show Act.put _ (some 39) _ = _
                       simp only [Act.put, List.setIfInBounds_toArray, List.set_cons_zero, List.set_cons_succ, i64_w, i32_w]
                       rfl
                     refine pure_ (i := 20) (N := some 40) (v := ?_) (a' := ?_) #[true, true, true, true, true, true, true, true, true, true, true, true, true, true, true, true, true, true, true, true, true, false, false] rfl rfl (any_of HT_.out (by kernel_rfl)) (fun _ _ _ h => h) (Or.inl ⟨by rfl, ?_⟩) ?_ ?_
                     rotate_left
                     · intro w'
                       go_simp
                       with_reducible rfl
                     rotate_left
                     · simp only [Act.put, List.setIfInBounds_toArray, List.set_cons_zero, List.set_cons_succ, i64_w, i32_w]
                       rfl
                     refine pure_ (i := 21) (N := some 41) (v := ?_) (a' := ?_) #[true, true, true, true, true, true, true, true, true, true, true, true, true, true, true, true, true, true, true, true, true, true, false] rfl rfl (any_of HT_.out (by kernel_rfl)) (fun _ _ _ h => h) (Or.inl ⟨by rfl, ?_⟩) ?_ ?_
                     rotate_left
                     · intro w'
                       go_simp
                       with_reducible rfl
                     rotate_left
                     · simp only [Act.put, List.setIfInBounds_toArray, List.set_cons_zero, List.set_cons_succ, i64_w, i32_w]
                       rfl
                     refine pure_ (i := 22) (N := some 42) (v := ?_) (a' := ?_) #[true, true, true, true, true, true, true, true, true, true, true, true, true, true, true, true, true, true, true, true, true, true, true] rfl rfl (any_of HT_.out (by kernel_rfl)) (fun _ _ _ h => h) (Or.inl ⟨by rfl, ?_⟩) ?_ ?_
                     rotate_left
                     · intro w'
                       go_simp
                       with_reducible rfl
                     rotate_left
                     · simp only [Act.put, List.setIfInBounds_toArray, List.set_cons_zero, List.set_cons_succ, i64_w, i32_w]
                       rfl
                     refine done_ (done_of HT_.out (by kernel_rfl)) ?_
                     have p209 : 0 ≤ (x8_1 : Int) := of_decide_eq_true (by first | (with_reducible assumption) | assumption)
                     have q209 : x8_1 < (l0.length : Int) := of_decide_eq_true (by first | (with_reducible assumption) | assumption)
                     obtain ⟨ad209, A209_0, c209_0, e209, hx209_0, hl209_0, hi209_0⟩ := at_L4 (Kd.V_reads' HO_0.out).2.2 x8_1 p209 q209
                     obtain rfl : ad203 = ad209 := (by injection e209)
                     obtain ⟨ce209, hce209, hMe209, hcc209⟩ := Kd.V_get HO_0.out [] x8_1 p209 (by first | exact q209 | exact of_decide_eq_true (by first | (with_reducible assumption) | assumption) | (have e_ := (Kd.V_reads' HO_0.out).1; omega))
                     obtain ⟨ua209_0, uc209_0, rfl, ul209_0, ge209_0⟩ := Kd.FK_slice_open hMe209
                     have hv209_0 := hcc209 0 _ rfl
                     rw [Nat.add_zero, show ((Kd.slice 36 k36)).sz = 1 from rfl, Nat.mul_one] at hv209_0
                     replace hv209_0 := Option.some.inj (hv209_0.symm.trans hx209_0)
                     injection hv209_0 with hva_ hvn_ hvc_
                     rw [hva_] at ge209_0
                     rw [hvc_] at ul209_0
                     have HL209_0 := Aside0.mk (show Kd.V k36 36 _ w.heap.size _ _ (rd_L4 l0 x8_1) from Kd.V_mk ul209_0 ge209_0)
                     clear hva_ hvn_ hvc_ ge209_0 ul209_0
                     clear hcc209 hce209
                     have HR209_0 := Aside0.mk hi209_0
                     have HC209_0 := Aside0.mk hl209_0
                     clear hi209_0 hl209_0
                     replace p209 := eq_true p209
                     replace q209 := eq_true q209
                     clear HS0_ HS1_ hHeld
                     try go_wp2_with (first | ((with_reducible refine gate_builtin (b := .append) (xs := #[.tmp 43, .tmp 48]) rfl ?_); (try (refine gate_guard (by rfl) ?_; dsimp only)); at_builtin; refine Kd.N_append (Kd.slice 36 k36) (w0 := w) w.heap.size rfl (.tmp 43) (.tmp 48) 22 53 (.slice none 0 0) 24 rfl Tryz.underlying22 info53 rfl (by decide) (by omega) u7 x7_1 (rd_L4 l0 x8_1) [.slice A209_0 (rd_L4 l0 x8_1).length c209_0] (fun k_ => ((P0_ k_ ∨ P1_ k_) ∨ w.heap.size ≤ k_)) (fun k_ => ((fun k_ => ((P0_ k_ ∨ P1_ k_) ∨ w.heap.size ≤ k_))) k_ ∧ some k_ ≠ (u7 : Value).ownBlock) rfl rfl ?aP (fun _ hk => hk) ?aF ?aO ?aB ?aS ?aL ?_; (case aP => exact (Kd.FK_slice_mk (Kd.V_reads' (Kd.V_mono (ok' := (fun k_ => ((fun k_ => ((P0_ k_ ∨ P1_ k_) ∨ w.heap.size ≤ k_))) k_ ∧ some k_ ≠ (u7 : Value).ownBlock)) (HL209_0.out) (fun k_ hk => ⟨hk.1, hk.2⟩))).2.1 (Kd.V_F (Kd.V_mono (ok' := (fun k_ => ((fun k_ => ((P0_ k_ ∨ P1_ k_) ∨ w.heap.size ≤ k_))) k_ ∧ some k_ ≠ (u7 : Value).ownBlock)) (HL209_0.out) (fun k_ hk => ⟨hk.1, hk.2⟩))))); (case aB => exact (by repeat (first | (with_reducible first | exact HB.out | apply below_alloc | apply pw_below_drewN | apply below_drew1) | exact HB.out))); (case aF => exact (fun k_ hk => (.inr (Nat.le_trans (below_size (by repeat (first | (with_reducible first | exact HB.out | apply below_alloc | apply pw_below_drewN | apply below_drew1) | exact HB.out))) hk)))); (case aO => exact (by (with_reducible repeat (first | apply Kd.N_alloc | apply Kd.N_drewN | apply Kd.N_drew)); exact HO_7.out)); (case aS => exact (below_size (by repeat (first | (with_reducible first | exact HB.out | apply below_alloc | apply pw_below_drewN | apply below_drew1) | exact HB.out)))); (case aL => have := LMc23.out; omega); intro v211 w26 ho hb hg hat; rw [← Ny210.out] at ho; have n0_ := Aside0.mk (Kd.V_afterv (ok := (fun k_ => ((P0_ k_ ∨ P1_ k_) ∨ w.heap.size ≤ k_))) (by (with_reducible repeat (first | apply Kd.V_alloc | apply Kd.V_drewN | apply Kd.V_drew)); exact HO_0.out) hg hat); have n1_ := Aside0.mk (Kd.V_afterv (ok := (fun k_ => ((P0_ k_ ∨ P1_ k_) ∨ w.heap.size ≤ k_))) (by (with_reducible repeat (first | apply Kd.V_alloc | apply Kd.V_drewN | apply Kd.V_drew)); exact HO_1.out) hg hat); have n2_ := Aside0.mk (Kd.V_afterv (ok := (fun k_ => ((P0_ k_ ∨ P1_ k_) ∨ w.heap.size ≤ k_))) (by (with_reducible repeat (first | apply Kd.V_alloc | apply Kd.V_drewN | apply Kd.V_drew)); exact HL202_0.out) hg hat); have n3_ := Aside0.mk (Kd.V_afterv (ok := (fun k_ => ((P0_ k_ ∨ P1_ k_) ∨ w.heap.size ≤ k_))) (by (with_reducible repeat (first | apply Kd.V_alloc | apply Kd.V_drewN | apply Kd.V_drew)); exact HL203_0.out) hg hat); have n4_ := Aside0.mk (Kd.V_afterv (ok := (fun k_ => ((P0_ k_ ∨ P1_ k_) ∨ w.heap.size ≤ k_))) (by (with_reducible repeat (first | apply Kd.V_alloc | apply Kd.V_drewN | apply Kd.V_drew)); exact HL209_0.out) hg hat); have n5_ := Aside0.mk (hb); have n6_ := Aside0.mk (ho); clear HO_0; clear HO_1; clear HL202_0; clear HL203_0; clear HL209_0; clear HB; clear HO_7; have HO_0 := n0_; have HO_1 := n1_; have HL202_0 := n2_; have HL203_0 := n3_; have HL209_0 := n4_; have HB := n5_; have HO212 := n6_; clear n0_ n1_ n2_ n3_ n4_ n5_ n6_; clear ho hb hg hat))
                     go_roundg kj3
                     case measure => have := HK1.out; have := HJ3.out; omega
                     case rel => exact ⟨(y210), (wrap64 (x8_1 + 1)), (x9_1), (by first | rfl | (simp; done) | (simp [*]; done)), (by first | rfl | (simp; done) | (simp [*]; done)), H', ⟨by have := HK1.out; have := HJ3.out; omega⟩, ⟨by (with_reducible repeat (first | apply Kd.V_alloc | apply Kd.V_drewN | apply Kd.V_drew)); exact HO_0.out⟩, ⟨by (with_reducible repeat (first | apply Kd.V_alloc | apply Kd.V_drewN | apply Kd.V_drew)); exact HO_1.out⟩, ⟨by (with_reducible repeat (first | apply Kd.N_alloc | apply Kd.N_drewN | apply Kd.N_drew)); exact HO212.out⟩, ⟨by repeat (first | (with_reducible first | exact HB.out | apply below_alloc | apply pw_below_drewN | apply below_drew1) | exact HB.out)⟩⟩
                   · rw [if_neg c23] at H
                     exact absurd H (by simp)
               · rw [if_neg c16] at H
                 exact absurd H (by simp)
             · rw [if_neg c15] at H
               exact absurd H (by simp)
           · rw [if_neg c14] at H
             exact absurd H (by simp)
         · rw [if_neg c13] at H
           have c13b0 : decide (x8_1 < (l0.length : Int)) = false := decide_eq_false c13
           clear c13
           by_cases c27 : 0 ≤ x9_1
           · rw [if_pos c27] at H
             have c27b0 : decide (0 ≤ x9_1) = true := decide_eq_true c27
             clear c27
             by_cases c28 : x9_1 < (l1.length : Int)
             · rw [if_pos c28] at H
               have c28b0 : decide (x9_1 < (l1.length : Int)) = true := decide_eq_true c28
               clear c28
               by_cases c29 : x7_1.length < 5864062014805
               · rw [if_pos c29] at H
                 have LMc29 := Aside0.mk c29
                 clear c29
                 obtain ⟨y214, hy214⟩ : ∃ y_ : List (List (S36)), y_ = (x7_1 ++ [rd_L4 l1 x9_1]) := ⟨_, rfl⟩
                 replace H : (jointerref06_merge.l0 kj3 l0 l1 l2 y214 x8_1 (wrap64 (x9_1 + 1))) = some r := by first | (rw [hy214]; with_reducible exact H) | (have H2_ := (Option.bind_some _ _).symm.trans H; rw [hy214]; with_reducible exact H2_) | (have H2_ := (Option.bind_some _ _).symm.trans H; with_reducible exact H2_) | with_reducible exact H | (rw [hy214]; exact H) | exact H
                 have Ny214 := Aside0.mk hy214
                 clear hy214
                 have H' := Aside0.mk H
                 clear H
                 try go_wp2
                 have n0_ := Aside0.mk (Kd.V_drew HO_0.out)
                 have n1_ := Aside0.mk (Kd.V_drew HO_1.out)
                 have n2_ := Aside0.mk (Kd.N_drew HO_7.out)
                 have n3_ := Aside0.mk (below_drew1 HB.out)
                 clear HO_0
                 clear HO_1
                 clear HO_7
                 clear HB
                 have HO_0 := n0_
                 have HO_1 := n1_
                 have HO_7 := n2_
                 have HB := n3_
                 clear n0_ n1_ n2_ n3_
                 refine start_ (n := 23) (S := fun w' => True) (ds := []) #[false, false, false, false, false, false, false, false, false, false, false, false, false, false, false, false, false, false, false, false, false, false, false] (by kernel_rfl) rfl rfl trivial (fun hHeld => ?_); refine with_tabW jointerref06_merge.tab4 jointerref06_merge.bits4 (fun HT_ HW_ => ?_)
                 generalize wc.drew = w30 at HO_0 HO_1 HO_7 HB hHeld ⊢
                 refine pure_ (i := 0) (N := some 20) (v := ?_) (a' := ?_) #[true, false, false, false, false, false, false, false, false, false, false, false, false, false, false, false, false, false, false, false, false, false, false] rfl rfl (any_of HT_.out (by kernel_rfl)) (fun _ _ _ h => h) (Or.inl ⟨by rfl, ?_⟩) ?_ ?_
                 rotate_left
                 · intro w'
                   go_simp
                   with_reducible rfl
                 rotate_left
                 · simp only [Act.put, List.setIfInBounds_toArray, List.set_cons_zero, List.set_cons_succ, i64_w, i32_w]
                   rfl
                 refine pure_ (i := 1) (N := some 21) (v := ?_) (a' := ?_) #[true, true, false, false, false, false, false, false, false, false, false, false, false, false, false, false, false, false, false, false, false, false, false] rfl rfl (any_of HT_.out (by kernel_rfl)) (fun _ _ _ h => h) (Or.inl ⟨by rfl, ?_⟩) ?_ ?_
                 rotate_left
                 · intro w'
                   go_simp
                   with_reducible rfl
                 rotate_left
                 · simp only [Act.put, List.setIfInBounds_toArray, List.set_cons_zero, List.set_cons_succ, i64_w, i32_w]
                   rfl
                 refine pure_ (i := 2) (N := some 22) (v := ?_) (a' := ?_) #[true, true, true, false, false, false, false, false, false, false, false, false, false, false, false, false, false, false, false, false, false, false, false] rfl rfl (any_of HT_.out (by kernel_rfl)) (fun _ _ _ h => h) (Or.inl ⟨by rfl, ?_⟩) ?_ ?_
                 rotate_left
                 · intro w'
                   go_simp
                   with_reducible rfl
                 rotate_left
                 · simp only [Act.put, List.setIfInBounds_toArray, List.set_cons_zero, List.set_cons_succ, i64_w, i32_w]
                   rfl
                 refine pure_ (i := 3) (N := some 23) (v := ?_) (a' := ?_) #[true, true, true, true, false, false, false, false, false, false, false, false, false, false, false, false, false, false, false, false, false, false, false] rfl rfl (any_of HT_.out (by kernel_rfl)) (fun _ _ _ h => h) (Or.inl ⟨by rfl, ?_⟩) ?_ ?_
                 rotate_left
                 · intro w'
                   go_simp
                   with_reducible rfl
                 rotate_left
                 · simp only [Act.put, List.setIfInBounds_toArray, List.set_cons_zero, List.set_cons_succ, i64_w, i32_w]
                   rfl
                 refine pure_ (i := 4) (N := some 24) (v := ?_) (a' := ?_) #[true, true, true, true, true, false, false, false, false, false, false, false, false, false, false, false, false, false, false, false, false, false, false] rfl rfl (any_of HT_.out (by kernel_rfl)) (fun _ _ _ h => h) (Or.inl ⟨by rfl, ?_⟩) ?_ ?_
                 rotate_left
                 · intro w'
                   go_simp
                   with_reducible rfl
                 rotate_left
                 · simp only [Act.put, List.setIfInBounds_toArray, List.set_cons_zero, List.set_cons_succ, i64_w, i32_w]
                   rfl
                 refine pure_ (i := 5) (N := some 25) (v := ?_) (a' := ?_) #[true, true, true, true, true, true, false, false, false, false, false, false, false, false, false, false, false, false, false, false, false, false, false] rfl rfl (any_of HT_.out (by kernel_rfl)) (fun _ _ _ h => h) (Or.inl ⟨by rfl, ?_⟩) ?_ ?_
                 rotate_left
                 · intro w'
                   go_simp
                   with_reducible rfl
                 rotate_left
                 · simp only [Act.put, List.setIfInBounds_toArray, List.set_cons_zero, List.set_cons_succ, i64_w, i32_w]
                   rfl
                 refine pure_ (i := 6) (N := some 26) (v := ?_) (a' := ?_) #[true, true, true, true, true, true, true, false, false, false, false, false, false, false, false, false, false, false, false, false, false, false, false] rfl rfl (any_of HT_.out (by kernel_rfl)) (fun _ _ _ h => h) (Or.inl ⟨by rfl, ?_⟩) ?_ ?_
                 rotate_left
                 · intro w'
                   go_simp
                   with_reducible rfl
                 rotate_left
                 · simp only [Act.put, List.setIfInBounds_toArray, List.set_cons_zero, List.set_cons_succ, i64_w, i32_w]
                   rfl
                 refine pure_ (i := 7) (N := some 27) (v := ?_) (a' := ?_) #[true, true, true, true, true, true, true, true, false, false, false, false, false, false, false, false, false, false, false, false, false, false, false] rfl rfl (any_of HT_.out (by kernel_rfl)) (fun _ _ _ h => h) (Or.inl ⟨by rfl, ?_⟩) ?_ ?_
                 rotate_left
                 · intro w'
                   go_simp
                   with_reducible rfl
                 rotate_left
                 · simp only [Act.put, List.setIfInBounds_toArray, List.set_cons_zero, List.set_cons_succ, i64_w, i32_w]
                   rfl
                 refine pure_ (i := 8) (N := some 28) (v := ?_) (a' := ?_) #[true, true, true, true, true, true, true, true, true, false, false, false, false, false, false, false, false, false, false, false, false, false, false] rfl rfl (any_of HT_.out (by kernel_rfl)) (fun _ _ _ h => h) (Or.inl ⟨by rfl, ?_⟩) ?_ ?_
                 rotate_left
                 · intro w'
                   go_simp
                   with_reducible rfl
                 rotate_left
                 · simp only [Act.put, List.setIfInBounds_toArray, List.set_cons_zero, List.set_cons_succ, i64_w, i32_w]
                   rfl
                 refine pure_ (i := 9) (N := some 29) (v := ?_) (a' := ?_) #[true, true, true, true, true, true, true, true, true, true, false, false, false, false, false, false, false, false, false, false, false, false, false] rfl rfl (any_of HT_.out (by kernel_rfl)) (fun _ _ _ h => h) (Or.inl ⟨by rfl, ?_⟩) ?_ ?_
                 rotate_left
                 · intro w'
                   go_simp
                   with_reducible rfl
                 rotate_left
                 · simp only [Act.put, List.setIfInBounds_toArray, List.set_cons_zero, List.set_cons_succ, i64_w, i32_w]
                   rfl
                 refine pure_ (i := 10) (N := some 30) (v := undef) (a' := ?_) #[true, true, true, true, true, true, true, true, true, true, true, false, false, false, false, false, false, false, false, false, false, false, false] rfl rfl (any_of HT_.out (by kernel_rfl)) (fun _ _ _ h => h) (Or.inr ⟨by rfl, rfl⟩) ?_ ?_
                 rotate_left
                 · simp only [Act.put, List.setIfInBounds_toArray, List.set_cons_zero, List.set_cons_succ, i64_w, i32_w]
                   rfl
                 refine pure_ (i := 11) (N := some 31) (v := undef) (a' := ?_) #[true, true, true, true, true, true, true, true, true, true, true, true, false, false, false, false, false, false, false, false, false, false, false] rfl rfl (any_of HT_.out (by kernel_rfl)) (fun _ _ _ h => h) (Or.inr ⟨by rfl, rfl⟩) ?_ ?_
                 rotate_left
                 · simp only [Act.put, List.setIfInBounds_toArray, List.set_cons_zero, List.set_cons_succ, i64_w, i32_w]
                   rfl
                 refine pure_ (i := 12) (N := some 32) (v := undef) (a' := ?_) #[true, true, true, true, true, true, true, true, true, true, true, true, true, false, false, false, false, false, false, false, false, false, false] rfl rfl (any_of HT_.out (by kernel_rfl)) (fun _ _ _ h => h) (Or.inr ⟨by rfl, rfl⟩) ?_ ?_
                 rotate_left
                 · simp only [Act.put, List.setIfInBounds_toArray, List.set_cons_zero, List.set_cons_succ, i64_w, i32_w]
                   rfl
                 refine pure_ (i := 13) (N := some 33) (v := undef) (a' := ?_) #[true, true, true, true, true, true, true, true, true, true, true, true, true, true, false, false, false, false, false, false, false, false, false] rfl rfl (any_of HT_.out (by kernel_rfl)) (fun _ _ _ h => h) (Or.inr ⟨by rfl, rfl⟩) ?_ ?_
                 rotate_left
                 · simp only [Act.put, List.setIfInBounds_toArray, List.set_cons_zero, List.set_cons_succ, i64_w, i32_w]
                   rfl
                 refine pure_ (i := 14) (N := some 34) (v := undef) (a' := ?_) #[true, true, true, true, true, true, true, true, true, true, true, true, true, true, true, false, false, false, false, false, false, false, false] rfl rfl (any_of HT_.out (by kernel_rfl)) (fun _ _ _ h => h) (Or.inr ⟨by rfl, rfl⟩) ?_ ?_
                 rotate_left
                 · simp only [Act.put, List.setIfInBounds_toArray, List.set_cons_zero, List.set_cons_succ, i64_w, i32_w]
                   rfl
                 refine pure_ (i := 15) (N := some 35) (v := undef) (a' := ?_) #[true, true, true, true, true, true, true, true, true, true, true, true, true, true, true, true, false, false, false, false, false, false, false] rfl rfl (any_of HT_.out (by kernel_rfl)) (fun _ _ _ h => h) (Or.inr ⟨by rfl, rfl⟩) ?_ ?_
                 rotate_left
                 · simp only [Act.put, List.setIfInBounds_toArray, List.set_cons_zero, List.set_cons_succ, i64_w, i32_w]
                   rfl
                 refine pure_ (i := 16) (N := some 36) (v := undef) (a' := ?_) #[true, true, true, true, true, true, true, true, true, true, true, true, true, true, true, true, true, false, false, false, false, false, false] rfl rfl (any_of HT_.out (by kernel_rfl)) (fun _ _ _ h => h) (Or.inr ⟨by rfl, rfl⟩) ?_ ?_
                 rotate_left
                 · simp only [Act.put, List.setIfInBounds_toArray, List.set_cons_zero, List.set_cons_succ, i64_w, i32_w]
                   rfl
                 refine pure_ (i := 17) (N := some 37) (v := undef) (a' := ?_) #[true, true, true, true, true, true, true, true, true, true, true, true, true, true, true, true, true, true, false, false, false, false, false] rfl rfl (any_of HT_.out (by kernel_rfl)) (fun _ _ _ h => h) (Or.inr ⟨by rfl, rfl⟩) ?_ ?_
                 rotate_left
                 · simp only [Act.put, List.setIfInBounds_toArray, List.set_cons_zero, List.set_cons_succ, i64_w, i32_w]
                   rfl
                 refine pure_ (i := 18) (N := some 38) (v := undef) (a' := ?_) #[true, true, true, true, true, true, true, true, true, true, true, true, true, true, true, true, true, true, true, false, false, false, false] rfl rfl (any_of HT_.out (by kernel_rfl)) (fun _ _ _ h => h) (Or.inr ⟨by rfl, rfl⟩) ?_ ?_
                 rotate_left
                 · simp only [Act.put, List.setIfInBounds_toArray, List.set_cons_zero, List.set_cons_succ, i64_w, i32_w]
                   rfl
                 refine pure_ (i := 19) (N := some 39) (v := undef) (a' := ?_) #[true, true, true, true, true, true, true, true, true, true, true, true, true, true, true, true, true, true, true, true, false, false, false] rfl rfl (any_of HT_.out (by kernel_rfl)) (fun _ _ _ h => h) (Or.inr ⟨by rfl, rfl⟩) ?_ ?_
                 rotate_left
                 · simp only [Act.put, List.setIfInBounds_toArray, List.set_cons_zero, List.set_cons_succ, i64_w, i32_w]
                   rfl
                 refine pure_ (i := 20) (N := some 40) (v := undef) (a' := ?_) #[true, true, true, true, true, true, true, true, true, true, true, true, true, true, true, true, true, true, true, true, true, false, false] rfl rfl (any_of HT_.out (by kernel_rfl)) (fun _ _ _ h => h) (Or.inr ⟨by rfl, rfl⟩) ?_ ?_
                 rotate_left
                 · simp only [Act.put, List.setIfInBounds_toArray, List.set_cons_zero, List.set_cons_succ, i64_w, i32_w]
                   rfl
                 refine pure_ (i := 21) (N := some 41) (v := ?_) (a' := ?_) #[true, true, true, true, true, true, true, true, true, true, true, true, true, true, true, true, true, true, true, true, true, true, false] rfl rfl (any_of HT_.out (by kernel_rfl)) (fun _ _ _ h => h) (Or.inl ⟨by rfl, ?_⟩) ?_ ?_
                 rotate_left
                 · intro w'
                   go_simp
                   with_reducible rfl
                 rotate_left
                 · simp only [Act.put, List.setIfInBounds_toArray, List.set_cons_zero, List.set_cons_succ, i64_w, i32_w]
                   rfl
                 refine pure_ (i := 22) (N := some 42) (v := ?_) (a' := ?_) #[true, true, true, true, true, true, true, true, true, true, true, true, true, true, true, true, true, true, true, true, true, true, true] rfl rfl (any_of HT_.out (by kernel_rfl)) (fun _ _ _ h => h) (Or.inl ⟨by rfl, ?_⟩) ?_ ?_
                 rotate_left
                 · intro w'
                   go_simp
                   with_reducible rfl
                 rotate_left
                 · simp only [Act.put, List.setIfInBounds_toArray, List.set_cons_zero, List.set_cons_succ, i64_w, i32_w]
                   rfl
                 refine done_ (done_of HT_.out (by kernel_rfl)) ?_
                 have p213 : 0 ≤ (x9_1 : Int) := of_decide_eq_true (by first | (with_reducible assumption) | assumption)
                 have q213 : x9_1 < (l1.length : Int) := of_decide_eq_true (by first | (with_reducible assumption) | assumption)
                 obtain ⟨ad213, A213_0, c213_0, e213, hx213_0, hl213_0, hi213_0⟩ := at_L4 (Kd.V_reads' HO_1.out).2.2 x9_1 p213 q213
                 cases e213
                 obtain ⟨ce213, hce213, hMe213, hcc213⟩ := Kd.V_get HO_1.out [] x9_1 p213 (by first | exact q213 | exact of_decide_eq_true (by first | (with_reducible assumption) | assumption) | (have e_ := (Kd.V_reads' HO_1.out).1; omega))
                 obtain ⟨ua213_0, uc213_0, rfl, ul213_0, ge213_0⟩ := Kd.FK_slice_open hMe213
                 have hv213_0 := hcc213 0 _ rfl
                 rw [Nat.add_zero, show ((Kd.slice 36 k36)).sz = 1 from rfl, Nat.mul_one] at hv213_0
                 replace hv213_0 := Option.some.inj (hv213_0.symm.trans hx213_0)
                 injection hv213_0 with hva_ hvn_ hvc_
                 rw [hva_] at ge213_0
                 rw [hvc_] at ul213_0
                 have HL213_0 := Aside0.mk (show Kd.V k36 36 _ w.heap.size _ _ (rd_L4 l1 x9_1) from Kd.V_mk ul213_0 ge213_0)
                 clear hva_ hvn_ hvc_ ge213_0 ul213_0
                 clear hcc213 hce213
                 have HR213_0 := Aside0.mk hi213_0
                 have HC213_0 := Aside0.mk hl213_0
                 clear hi213_0 hl213_0
                 replace p213 := eq_true p213
                 replace q213 := eq_true q213
                 try go_wp2_with (first | ((with_reducible refine gate_builtin (b := .append) (xs := #[.tmp 52, .tmp 57]) rfl ?_); (try (refine gate_guard (by rfl) ?_; dsimp only)); at_builtin; refine Kd.N_append (Kd.slice 36 k36) (w0 := w) w.heap.size rfl (.tmp 52) (.tmp 57) 22 53 (.slice none 0 0) 24 rfl Tryz.underlying22 info53 rfl (by decide) (by omega) u7 x7_1 (rd_L4 l1 x9_1) [.slice A213_0 (rd_L4 l1 x9_1).length c213_0] (fun k_ => ((P0_ k_ ∨ P1_ k_) ∨ w.heap.size ≤ k_)) (fun k_ => ((fun k_ => ((P0_ k_ ∨ P1_ k_) ∨ w.heap.size ≤ k_))) k_ ∧ some k_ ≠ (u7 : Value).ownBlock) rfl rfl ?aP (fun _ hk => hk) ?aF ?aO ?aB ?aS ?aL ?_; (case aP => exact (Kd.FK_slice_mk (Kd.V_reads' (Kd.V_mono (ok' := (fun k_ => ((fun k_ => ((P0_ k_ ∨ P1_ k_) ∨ w.heap.size ≤ k_))) k_ ∧ some k_ ≠ (u7 : Value).ownBlock)) (HL213_0.out) (fun k_ hk => ⟨hk.1, hk.2⟩))).2.1 (Kd.V_F (Kd.V_mono (ok' := (fun k_ => ((fun k_ => ((P0_ k_ ∨ P1_ k_) ∨ w.heap.size ≤ k_))) k_ ∧ some k_ ≠ (u7 : Value).ownBlock)) (HL213_0.out) (fun k_ hk => ⟨hk.1, hk.2⟩))))); (case aB => exact (by repeat (first | (with_reducible first | exact HB.out | apply below_alloc | apply pw_below_drewN | apply below_drew1) | exact HB.out))); (case aF => exact (fun k_ hk => (.inr (Nat.le_trans (below_size (by repeat (first | (with_reducible first | exact HB.out | apply below_alloc | apply pw_below_drewN | apply below_drew1) | exact HB.out))) hk)))); (case aO => exact (by (with_reducible repeat (first | apply Kd.N_alloc | apply Kd.N_drewN | apply Kd.N_drew)); exact HO_7.out)); (case aS => exact (below_size (by repeat (first | (with_reducible first | exact HB.out | apply below_alloc | apply pw_below_drewN | apply below_drew1) | exact HB.out)))); (case aL => have := LMc29.out; omega); intro v215 w31 ho hb hg hat; rw [← Ny214.out] at ho; have n0_ := Aside0.mk (Kd.V_afterv (ok := (fun k_ => ((P0_ k_ ∨ P1_ k_) ∨ w.heap.size ≤ k_))) (by (with_reducible repeat (first | apply Kd.V_alloc | apply Kd.V_drewN | apply Kd.V_drew)); exact HO_0.out) hg hat); have n1_ := Aside0.mk (Kd.V_afterv (ok := (fun k_ => ((P0_ k_ ∨ P1_ k_) ∨ w.heap.size ≤ k_))) (by (with_reducible repeat (first | apply Kd.V_alloc | apply Kd.V_drewN | apply Kd.V_drew)); exact HO_1.out) hg hat); have n2_ := Aside0.mk (Kd.V_afterv (ok := (fun k_ => ((P0_ k_ ∨ P1_ k_) ∨ w.heap.size ≤ k_))) (by (with_reducible repeat (first | apply Kd.V_alloc | apply Kd.V_drewN | apply Kd.V_drew)); exact HL213_0.out) hg hat); have n3_ := Aside0.mk (hb); have n4_ := Aside0.mk (ho); clear HO_0; clear HO_1; clear HL213_0; clear HB; clear HO_7; have HO_0 := n0_; have HO_1 := n1_; have HL213_0 := n2_; have HB := n3_; have HO216 := n4_; clear n0_ n1_ n2_ n3_ n4_; clear ho hb hg hat))
                 go_roundg kj3
                 case measure => have := HK1.out; have := HJ3.out; omega
                 case rel => exact ⟨(y214), (x8_1), (wrap64 (x9_1 + 1)), (by first | rfl | (simp; done) | (simp [*]; done)), (by first | rfl | (simp; done) | (simp [*]; done)), H', ⟨by have := HK1.out; have := HJ3.out; omega⟩, ⟨by (with_reducible repeat (first | apply Kd.V_alloc | apply Kd.V_drewN | apply Kd.V_drew)); exact HO_0.out⟩, ⟨by (with_reducible repeat (first | apply Kd.V_alloc | apply Kd.V_drewN | apply Kd.V_drew)); exact HO_1.out⟩, ⟨by (with_reducible repeat (first | apply Kd.N_alloc | apply Kd.N_drewN | apply Kd.N_drew)); exact HO216.out⟩, ⟨by repeat (first | (with_reducible first | exact HB.out | apply below_alloc | apply pw_below_drewN | apply below_drew1) | exact HB.out)⟩⟩
               · rw [if_neg c29] at H
                 exact absurd H (by simp)
             · rw [if_neg c28] at H
               exact absurd H (by simp)
           · rw [if_neg c27] at H
             exact absurd H (by simp)
     · replace c6 := Bool.eq_false_iff.mpr c6
       subst c6
       have H1 : (some x7_1) = some r := by rw [if_neg (show ¬ (false = true) by decide)] at H; exact H
       clear H
       have H := H1
       clear H1
       obtain rfl := Option.some.inj H
       go_wp2
       go_ret
       exact ⟨_, by first | rfl | (simp [errW_none, errW_some] <;> rfl) | (simp [*, errW_none, errW_some] <;> rfl), by (with_reducible repeat (first | apply Kd.N_alloc | apply Kd.N_drewN | apply Kd.N_drew)); exact HO_7.out, by repeat (first | (with_reducible first | exact HB.out | apply below_alloc | apply pw_below_drewN | apply below_drew1) | exact HB.out)⟩
end Go.Proofs.YtecgkcgfeghhgaaGreatDoor.PAll
namespace Go.Proofs.YtecgkcgfeghhgaaGreatDoor.PAll
open Go.RowKit Go.Proofs.YtecgkcgfeghhgaaGreatDoorW.PrintWords Go.Proofs.YtecgkcgfeghhgaaGreatDoorW.PrintLast Go.Proofs.YtecgkcgfeghhgaaGreatDoorW.PrintMore
attribute [local go_sem] max2_int min2_int max_two min_two max_three min_three max_four min_four
set_option linter.unusedVariables false
set_option linter.unusedSimpArgs false
mutual
def jointerref06_full.l0 : Nat → List (List (S36)) → List (S64) → List (List (List (S36))) → Int → Option ((List (List (S36))))
 | 0, _, _, _, _ => none
 | k + 1, x0, x1, x5, x6 => if x6 < (x0.length : Int) then (if 0 ≤ x6 then ((jointerref06_copyOf.f k (rd_L4 x0 x6)).bind fun t218 => (if x5.length < 5864062014805 then (jointerref06_full.l0 k x0 x1 (x5 ++ [(([t218] : List (List (S36))))]) (wrap64 (x6 + 1))) else (none))) else (none)) else (jointerref06_full.l1 k x1 x5)
def jointerref06_full.l1 : Nat → List (S64) → List (List (List (S36))) → Option ((List (List (S36))))
 | 0, _, _ => none
 | k + 1, x1, x5 => if (x5.length : Int) > 1 then (jointerref06_full.l2 k x1 x5 ([] : List (List (List (S36)))) 0) else (if (x5.length : Int) = 0 then (some ([] : List (List (S36)))) else (if 0 < (x5.length : Int) then (some (rd_L7 x5 0)) else (none)))
def jointerref06_full.l2 : Nat → List (S64) → List (List (List (S36))) → List (List (List (S36))) → Int → Option ((List (List (S36))))
 | 0, _, _, _, _ => none
 | k + 1, x1, x5, x7, x8 => if x8 < (x5.length : Int) then (if (wrap64 (x8 + 1)) < (x5.length : Int) then (if 0 ≤ x8 then (if 0 ≤ (wrap64 (x8 + 1)) then ((jointerref06_merge.f k (rd_L7 x5 x8) (rd_L7 x5 (wrap64 (x8 + 1))) x1).bind fun t230 => (if x7.length < 5864062014805 then (jointerref06_full.l2 k x1 x5 (x7 ++ [t230]) (wrap64 (x8 + 2))) else (none))) else (none)) else (none)) else (if 0 ≤ x8 then (if x7.length < 5864062014805 then (jointerref06_full.l2 k x1 x5 (x7 ++ [rd_L7 x5 x8]) (wrap64 (x8 + 2))) else (none)) else (none))) else (jointerref06_full.l1 k x1 x7)
end
def jointerref06_full.f (k : Nat) (l0 : List (List (S36))) (l1 : List (S64)) : Option ((List (List (S36)))) := jointerref06_full.l0 k l0 l1 ([] : List (List (List (S36)))) 0
theorem jointerref06_full.mono_l : ∀ k, (∀ y0 y1 y2 y3, LeO (jointerref06_full.l0 k y0 y1 y2 y3) (jointerref06_full.l0 (k + 1) y0 y1 y2 y3)) ∧ (∀ y0 y1, LeO (jointerref06_full.l1 k y0 y1) (jointerref06_full.l1 (k + 1) y0 y1)) ∧ (∀ y0 y1 y2 y3, LeO (jointerref06_full.l2 k y0 y1 y2 y3) (jointerref06_full.l2 (k + 1) y0 y1 y2 y3))
 | 0 => ⟨fun _ _ _ _ r h => by simp [jointerref06_full.l0] at h, fun _ _ r h => by simp [jointerref06_full.l1] at h, fun _ _ _ _ r h => by simp [jointerref06_full.l2] at h⟩
 | k + 1 => by
  obtain ⟨ih0, ih1, ih2⟩ := jointerref06_full.mono_l k
  refine ⟨?_, ?_, ?_⟩
  · intro y0 y1 y2 y3
    unfold jointerref06_full.l0
    repeat' first
    | (with_reducible exact ih0 _ _ _ _)
    | (with_reducible exact ih1 _ _)
    | (with_reducible exact ih2 _ _ _ _)
    | (with_reducible exact jointerref06_copyOf.mono _ _)
    | (with_reducible exact jointerref06_merge.mono _ _ _ _)
    | (with_reducible exact LeO.refl _)
    | (with_reducible exact LeO.none _)
    | (with_reducible refine LeO.ite ?_ ?_)
    | (with_reducible refine LeO.bind ?_ (fun _ => ?_))
    | exact ih0 _ _ _ _
    | exact ih1 _ _
    | exact ih2 _ _ _ _
    | exact jointerref06_copyOf.mono _ _
    | exact jointerref06_merge.mono _ _ _ _
    | exact LeO.none _
    | refine LeO.ite ?_ ?_
    | refine LeO.bind ?_ (fun _ => ?_)
  · intro y0 y1
    unfold jointerref06_full.l1
    repeat' first
    | (with_reducible exact ih0 _ _ _ _)
    | (with_reducible exact ih1 _ _)
    | (with_reducible exact ih2 _ _ _ _)
    | (with_reducible exact jointerref06_copyOf.mono _ _)
    | (with_reducible exact jointerref06_merge.mono _ _ _ _)
    | (with_reducible exact LeO.refl _)
    | (with_reducible exact LeO.none _)
    | (with_reducible refine LeO.ite ?_ ?_)
    | (with_reducible refine LeO.bind ?_ (fun _ => ?_))
    | exact ih0 _ _ _ _
    | exact ih1 _ _
    | exact ih2 _ _ _ _
    | exact jointerref06_copyOf.mono _ _
    | exact jointerref06_merge.mono _ _ _ _
    | exact LeO.none _
    | refine LeO.ite ?_ ?_
    | refine LeO.bind ?_ (fun _ => ?_)
  · intro y0 y1 y2 y3
    unfold jointerref06_full.l2
    repeat' first
    | (with_reducible exact ih0 _ _ _ _)
    | (with_reducible exact ih1 _ _)
    | (with_reducible exact ih2 _ _ _ _)
    | (with_reducible exact jointerref06_copyOf.mono _ _)
    | (with_reducible exact jointerref06_merge.mono _ _ _ _)
    | (with_reducible exact LeO.refl _)
    | (with_reducible exact LeO.none _)
    | (with_reducible refine LeO.ite ?_ ?_)
    | (with_reducible refine LeO.bind ?_ (fun _ => ?_))
    | exact ih0 _ _ _ _
    | exact ih1 _ _
    | exact ih2 _ _ _ _
    | exact jointerref06_copyOf.mono _ _
    | exact jointerref06_merge.mono _ _ _ _
    | exact LeO.none _
    | refine LeO.ite ?_ ?_
    | refine LeO.bind ?_ (fun _ => ?_)
theorem jointerref06_full.mono : ∀ a0 a1 k, LeO (jointerref06_full.f k a0 a1) (jointerref06_full.f (k + 1) a0 a1) := by
 intro a0 a1 k
 obtain ⟨ih0, ih1, ih2⟩ := jointerref06_full.mono_l k
 unfold jointerref06_full.f
 repeat' first
  | (with_reducible exact ih0 _ _ _ _)
  | (with_reducible exact ih1 _ _)
  | (with_reducible exact ih2 _ _ _ _)
  | (with_reducible exact jointerref06_copyOf.mono _ _)
  | (with_reducible exact jointerref06_merge.mono _ _ _ _)
  | (with_reducible exact LeO.refl _)
  | (with_reducible exact LeO.none _)
  | (with_reducible refine LeO.ite ?_ ?_)
  | (with_reducible refine LeO.bind ?_ (fun _ => ?_))
  | exact ih0 _ _ _ _
  | exact ih1 _ _
  | exact ih2 _ _ _ _
  | exact jointerref06_copyOf.mono _ _
  | exact jointerref06_merge.mono _ _ _ _
  | exact LeO.none _
  | refine LeO.ite ?_ ?_
  | refine LeO.bind ?_ (fun _ => ?_)
def jointerref06_full.T12 : Bool × List (List Nat × List Nat) := (true, [([], []), ([], []), ([], []), ([1, 2], [1, 2]), ([3], [3]), ([], []), ([], []), ([6], [6]), ([5, 7], [5, 7]), ([8], [8]), ([], []), ([4, 9, 10], [4, 9, 10]), ([11], [11]), ([0, 12, 11], [0, 12]), ([13, 13, 0, 1, 2, 3, 4, 5, 6, 7, 8, 9, 10, 11, 12, 13], [0, 13])])
def jointerref06_full.B12 : List Nat := [0, 0, 0, 6, 14, 0, 0, 64, 224, 480, 0, 2046, 4094, 8191, 16383]
theorem jointerref06_full.tab12 : rtab .any (opsOf Tryz.f67 12) = jointerref06_full.T12 := by kernel_rfl
theorem jointerref06_full.bits12 : waitsOk jointerref06_full.T12.2 jointerref06_full.B12 = true := by kernel_rfl
set_option maxHeartbeats 8000000 in
set_option maxRecDepth 100000 in
theorem jointerref06_full.calls (k : Nat) (A0 : Option Addr) (c0 : Nat) (l0 : List (List (S36))) (A1 : Option Addr) (c1 : Nat) (l1 : List (S64)) (r : List (List (S36))) (w : World) (hr0 : Kd.C (Kd.slice 36 k36) w A0 l0.length l0) (hc0 : l0.length ≤ c0) (hr1 : Kd.C k64 w A1 l1.length l1) (hc1 : l1.length ≤ c1) (h : jointerref06_full.f k l0 l1 = some r) :
 Calls Tryz.prog 67 #[.slice A0 l0.length c0, .slice A1 l1.length c1] w fun e w' => ∃ v0_ : Value, e = .returned (v0_) ∧ Kd.V (Kd.slice 36 k36) 53 w' w.heap.size (fun k_ => (w.heap.size ≤ k_)) v0_ r ∧ Below w.heap.size w w' := by
 have HR0 := Aside0.mk hr0
 have HC0 := Aside0.mk hc0
 clear hr0 hc0
 have HR1 := Aside0.mk hr1
 have HC1 := Aside0.mk hc1
 clear hr1 hc1
 have HB := Aside0.mk (Below.refl w.heap.size w)
 have H : (jointerref06_full.l0 k l0 l1 ([] : List (List (List (S36)))) 0) = some r := h
 clear h
 have H' := Aside0.mk H
 clear H
 go_enter Tryz.func67, Tryz.ntmps67
 go_wp2
 go_loopg [5, 6] k (fun kq v5 v6 w' => ∃ (x5_1 : List (List (List (S36)))) (x6_1 : Int), v6 = .int .i64 x6_1 ∧ Aside0 (jointerref06_full.l0 kq l0 l1 x5_1 x6_1 = some r) ∧ Aside0 (kq ≤ k) ∧ Aside0 (Kd.N (Kd.slice 53 (Kd.slice 36 k36)) 22 w' w.heap.size (fun k_ => (w.heap.size ≤ k_)) v5 x5_1) ∧ Aside0 (Below w.heap.size w w'))
 case atStart => exact ⟨(([] : List (List (List (S36))))), (0), (by first | rfl | (simp; done) | (simp [*]; done)), H', ⟨Nat.le_refl _⟩, ⟨by first | exact Kd.R_nil _ _ _ _ _ | exact Kd.N_nil _ _ _ _ _ | exact Kd.V_nil _ _ _ _ _ | exact Kd.Q_nil _ _ _ _ _ | exact Kd.S_nil _ _ _ _ _⟩, ⟨by repeat (first | (with_reducible first | exact HB.out | apply below_alloc | apply pw_below_drewN | apply below_drew1) | exact HB.out)⟩⟩
 case round =>
  clear H'
  try clear c1
  try clear p2
  obtain ⟨x5_1, x6_1, rfl, HA, HK1, HO_5, HB⟩ := hrel
  cases gk with
  | zero => exact absurd HA.out (by simp [jointerref06_full.l0])
  | succ k1 =>
   have H := HA.out
   clear HA
   simp only [jointerref06_full.l0] at H
   by_cases c3 : x6_1 < (l0.length : Int)
   · rw [if_pos c3] at H
     have c3b0 : decide (x6_1 < (l0.length : Int)) = true := decide_eq_true c3
     clear c3
     by_cases c4 : 0 ≤ x6_1
     · rw [if_pos c4] at H
       have c4b0 : decide (0 ≤ x6_1) = true := decide_eq_true c4
       clear c4
       replace H := Option.bind_eq_some_iff.mp H
       obtain ⟨t218, A50, H⟩ := H
       replace H : (if x5_1.length < 5864062014805 then (jointerref06_full.l0 k1 l0 l1 (x5_1 ++ [(([t218] : List (List (S36))))]) (wrap64 (x6_1 + 1))) else (none)) = some r := H
       have A5 := Aside0.mk A50
       clear A50
       obtain ⟨y221, hy221⟩ : ∃ y_ : List (List (S36)), y_ = (([t218] : List (List (S36)))) := ⟨_, rfl⟩
       replace H : (if x5_1.length < 5864062014805 then (jointerref06_full.l0 k1 l0 l1 (x5_1 ++ [y221]) (wrap64 (x6_1 + 1))) else (none)) = some r := by first | (rw [hy221]; with_reducible exact H) | (have H2_ := (Option.bind_some _ _).symm.trans H; rw [hy221]; with_reducible exact H2_) | (have H2_ := (Option.bind_some _ _).symm.trans H; with_reducible exact H2_) | with_reducible exact H | (rw [hy221]; exact H) | exact H
       have Ny221 := Aside0.mk hy221
       clear hy221
       by_cases c6 : x5_1.length < 5864062014805
       · rw [if_pos c6] at H
         have LMc6 := Aside0.mk c6
         clear c6
         obtain ⟨y224, hy224⟩ : ∃ y_ : List (List (List (S36))), y_ = (x5_1 ++ [y221]) := ⟨_, rfl⟩
         replace H : (jointerref06_full.l0 k1 l0 l1 y224 (wrap64 (x6_1 + 1))) = some r := by first | (rw [hy224]; with_reducible exact H) | (have H2_ := (Option.bind_some _ _).symm.trans H; rw [hy224]; with_reducible exact H2_) | (have H2_ := (Option.bind_some _ _).symm.trans H; with_reducible exact H2_) | with_reducible exact H | (rw [hy224]; exact H) | exact H
         have Ny224 := Aside0.mk hy224
         clear hy224
         have H' := Aside0.mk H
         clear H
         have p217 : 0 ≤ (x6_1 : Int) := of_decide_eq_true (by first | (with_reducible assumption) | assumption)
         have q217 : x6_1 < (l0.length : Int) := of_decide_eq_true (by first | (with_reducible assumption) | assumption)
         obtain ⟨ad217, A217_0, c217_0, e217, hx217_0, hl217_0, hi217_0⟩ := at_L4 HR0.out x6_1 p217 q217
         cases e217
         replace hx217_0 := (HB.out.cell (World.block_lt_of_cell? w _ hx217_0)).trans hx217_0
         have HR217_0 := Aside0.mk hi217_0
         have HC217_0 := Aside0.mk hl217_0
         clear hi217_0 hl217_0
         replace p217 := eq_true p217
         replace q217 := eq_true q217
         go_wp2_with (first | ((with_reducible refine gate_callee (f := 88) rfl ?_); refine goesL_ (some 20) rfl rfl Tryz.func88 (by kernel_rfl) rfl #[.slice A217_0 (rd_L4 l0 x6_1).length c217_0] rfl (by (try simp only [List.map_toArray, List.map_cons, List.map_nil]); first | done | rfl | (simp only [List.length_drop, List.length_take]; rfl)) ?_; (with_reducible refine (jointerref06_copyOf.calls k1 _ _ (rd_L4 l0 x6_1) t218 _ ?side1 ?side2 A5.out).mono ?_); (case side1 => repeat (first | exact (Kd.C_below HR217_0.out HB.out) | (with_reducible refine Kd.C_alloc ?_ _) | (with_reducible refine Kd.C_drewN ?_ _) | (with_reducible refine Kd.C_drew ?_))); (case side2 => exact HC217_0.out); rintro e w7 ⟨v219, rfl, ho0, hb⟩; refine ⟨_, rfl, ?_⟩; have n0_ := Aside0.mk (Kd.N_elder' (by (with_reducible repeat (first | apply Kd.N_alloc | apply Kd.N_drewN | apply Kd.N_drew)); exact HO_5.out) (Kd.R_base ho0) hb); have n1_ := Aside0.mk (Kd.R_lower (Kd.R_newM (M := fun k_ => (w.heap.size ≤ k_)) ho0 (below_size (by repeat (first | (with_reducible first | exact HB.out | apply below_alloc | apply pw_below_drewN | apply below_drew1) | exact HB.out))) (fun k_ h_ => h_)) (below_size (by repeat (first | (with_reducible first | exact HB.out | apply below_alloc | apply pw_below_drewN | apply below_drew1) | exact HB.out)))); have n2_ := Aside0.mk (below_step (by repeat (first | (with_reducible first | exact HB.out | apply below_alloc | apply pw_below_drewN | apply below_drew1) | exact HB.out)) hb); clear HO_5; clear HB; have HO_5 := n0_; have HO220 := n1_; have HB := n2_; clear n0_ n1_ n2_; (try clear hb); (try clear hb2); (try clear hk); (try clear hi); (try clear ho0); obtain ⟨Ao8, co8, eo8⟩ := Kd.R_slice HO220.out; subst eo8) | ((with_reducible refine gate_dst (N := 21) rfl ?_); refine Kd.N_lit (Kd.slice 36 k36) _ 53 ?hg (N' := 21) ?hd (xs := ([t218] : List (List (S36)))) (inner := [.slice Ao8 t218.length co8]) (ok := (fun k_ => (w.heap.size ≤ k_) ∧ some k_ ≠ (u5 : Value).ownBlock)) (okp := (fun k_ => (w.heap.size ≤ k_) ∧ some k_ ≠ (u5 : Value).ownBlock)) ?hr ?hp (fun _ hk => hk) ((show ∀ k_, w7.heap.size ≤ k_ → (fun k_ => (w.heap.size ≤ k_) ∧ some k_ ≠ (u5 : Value).ownBlock) k_ from fun k_ hk => ⟨(Nat.le_trans (below_size (by repeat (first | (with_reducible first | exact HB.out | apply below_alloc | apply pw_below_drewN | apply below_drew1) | exact HB.out))) hk), Kd.fresh' (Kd.N_lt (by (with_reducible repeat (first | apply Kd.N_alloc | apply Kd.N_drewN | apply Kd.N_drew)); exact HO_5.out)) k_ hk⟩) _ (Nat.le_refl _)) (Below.refl _ _) (Nat.le_refl _) (by simp) ?_; (case hd => rfl); (case hg => rfl); (case hr => first | (go_simp; done) | (go_simp; rfl)); (case hp => exact (Reps.one (show Kd.FK (Kd.slice 36 k36) _ _ t218 [.slice Ao8 t218.length co8] from (Kd.FK_slice_mk (Kd.R_reads' (Kd.R_mono (ok' := (fun k_ => (w.heap.size ≤ k_) ∧ some k_ ≠ (u5 : Value).ownBlock)) (Kd.R_apart' (HO220.out) (Kd.N_typed HO_5.out) (by decide)) (fun k_ hk => ⟨hk.1.1, hk.2⟩))).2.1 (Kd.R_F (Kd.R_mono (ok' := (fun k_ => (w.heap.size ≤ k_) ∧ some k_ ≠ (u5 : Value).ownBlock)) (Kd.R_apart' (HO220.out) (Kd.N_typed HO_5.out) (by decide)) (fun k_ hk => ⟨hk.1.1, hk.2⟩))))) (Reps.none _ _))); intro v222 w9 ho10 hb hg_ hnew_; clear hg_ hnew_; (first | rw [← Ny221.out] at ho10 | (simp only [Int.reduceToNat] at ho10; rw [← Ny221.out] at ho10)); have n0_ := Aside0.mk (Kd.N_elder' (by (with_reducible repeat (first | apply Kd.N_alloc | apply Kd.N_drewN | apply Kd.N_drew)); exact HO_5.out) (Kd.N_base ho10) hb); have n1_ := Aside0.mk (Kd.N_lower ho10 (below_size (by repeat (first | (with_reducible first | exact HB.out | apply below_alloc | apply pw_below_drewN | apply below_drew1) | exact HB.out)))); have n2_ := Aside0.mk (below_step (by repeat (first | (with_reducible first | exact HB.out | apply below_alloc | apply pw_below_drewN | apply below_drew1) | exact HB.out)) hb); clear HO_5; clear HB; clear HO220; have HO_5 := n0_; have HO223 := n1_; have HB := n2_; clear n0_ n1_ n2_; clear hb ho10; obtain ⟨Ao12, co12, eo12⟩ := Kd.N_slice HO223.out; subst eo12) | ((with_reducible refine gate_builtin (b := .append) (xs := #[.tmp 15, .tmp 22]) rfl ?_); at_builtin; refine Kd.N_append (Kd.slice 53 (Kd.slice 36 k36)) (w0 := w) w.heap.size rfl (.tmp 15) (.tmp 22) 56 22 (.slice none 0 0) 24 rfl Tryz.underlying56 info22 rfl (by decide) (by omega) u5 x5_1 y221 [.slice Ao12 y221.length co12] (fun k_ => (w.heap.size ≤ k_)) (fun k_ => ((fun k_ => (w.heap.size ≤ k_))) k_ ∧ some k_ ≠ (u5 : Value).ownBlock) rfl rfl ?aP (fun _ hk => hk) ?aF ?aO ?aB ?aS ?aL ?_; (case aP => exact (Kd.FK_slice_mk (Kd.N_reads' (Kd.N_mono (ok' := (fun k_ => ((fun k_ => (w.heap.size ≤ k_))) k_ ∧ some k_ ≠ (u5 : Value).ownBlock)) (HO223.out) (fun k_ hk => ⟨hk.1, hk.2⟩))).2.1 (Kd.N_F (Kd.N_mono (ok' := (fun k_ => ((fun k_ => (w.heap.size ≤ k_))) k_ ∧ some k_ ≠ (u5 : Value).ownBlock)) (HO223.out) (fun k_ hk => ⟨hk.1, hk.2⟩))))); (case aB => exact (by repeat (first | (with_reducible first | exact HB.out | apply below_alloc | apply pw_below_drewN | apply below_drew1) | exact HB.out))); (case aF => exact (fun k_ hk => (Nat.le_trans (below_size (by repeat (first | (with_reducible first | exact HB.out | apply below_alloc | apply pw_below_drewN | apply below_drew1) | exact HB.out))) hk))); (case aO => exact (by (with_reducible repeat (first | apply Kd.N_alloc | apply Kd.N_drewN | apply Kd.N_drew)); exact Kd.N_mono HO_5.out (fun _ hk => hk.1.1))); (case aS => exact (below_size (by repeat (first | (with_reducible first | exact HB.out | apply below_alloc | apply pw_below_drewN | apply below_drew1) | exact HB.out)))); (case aL => have := LMc6.out; omega); intro v225 w11 ho hb hg hat; rw [← Ny224.out] at ho; have n0_ := Aside0.mk (hb); have n1_ := Aside0.mk (ho); clear HB; clear HO_5; clear HO223; have HB := n0_; have HO226 := n1_; clear n0_ n1_; clear ho hb hg hat))
         go_roundg k1
         case measure => have := HK1.out; omega
         case rel => exact ⟨(y224), (wrap64 (x6_1 + 1)), (by first | rfl | (simp; done) | (simp [*]; done)), H', ⟨by have := HK1.out; omega⟩, ⟨by (with_reducible repeat (first | apply Kd.N_alloc | apply Kd.N_drewN | apply Kd.N_drew)); exact HO226.out⟩, ⟨by repeat (first | (with_reducible first | exact HB.out | apply below_alloc | apply pw_below_drewN | apply below_drew1) | exact HB.out)⟩⟩
       · rw [if_neg c6] at H
         exact absurd H (by simp)
     · rw [if_neg c4] at H
       exact absurd H (by simp)
   · rw [if_neg c3] at H
     have c3b0 : decide (x6_1 < (l0.length : Int)) = false := decide_eq_false c3
     clear c3
     have H' := Aside0.mk H
     clear H
     go_wp2
     go_loopg [5] k1 (fun kq v5 w' => ∃ (x5_2 : List (List (List (S36)))), Aside0 (jointerref06_full.l1 kq l1 x5_2 = some r) ∧ Aside0 (kq ≤ k1) ∧ Aside0 (Kd.N (Kd.slice 53 (Kd.slice 36 k36)) 22 w' w.heap.size (fun k_ => (w.heap.size ≤ k_)) v5 x5_2) ∧ Aside0 (Below w.heap.size w w'))
     case atStart => exact ⟨(x5_1), H', ⟨Nat.le_refl _⟩, ⟨by (with_reducible repeat (first | apply Kd.N_alloc | apply Kd.N_drewN | apply Kd.N_drew)); exact HO_5.out⟩, ⟨by repeat (first | (with_reducible first | exact HB.out | apply below_alloc | apply pw_below_drewN | apply below_drew1) | exact HB.out)⟩⟩
     case round =>
      clear H'
      try clear c1
      try clear c2
      try clear p2
      try clear q2
      try clear hx2
      try clear c3
      try clear c3b0
      try clear c4
      try clear c4b0
      try clear c6
      try clear p6
      try clear c8
      try clear hx217_0
      try clear p2
      try clear p217
      try clear q217
      obtain ⟨x5_2, HA, HK2, HO_5, HB⟩ := hrel
      cases gk with
      | zero => exact absurd HA.out (by simp [jointerref06_full.l1])
      | succ k2 =>
       have H := HA.out
       clear HA
       simp only [jointerref06_full.l1] at H
       by_cases c13 : (x5_2.length : Int) > 1
       · rw [if_pos c13] at H
         have c13b0 : decide (1 < (x5_2.length : Int)) = true := decide_eq_true c13
         have c13b1 : decide (1 < x5_2.length) = true := decide_eq_true (by omega)
         clear c13
         have H' := Aside0.mk H
         clear H
         obtain ⟨Ao14, co14, eo14⟩ := Kd.N_slice HO_5.out
         subst eo14
         go_wp2
         go_loopg [7, 8] k2 (fun kq v7 v8 w' => ∃ (x7_3 : List (List (List (S36)))) (x8_3 : Int), v8 = .int .i64 x8_3 ∧ Aside0 (jointerref06_full.l2 kq l1 x5_2 x7_3 x8_3 = some r) ∧ Aside0 (kq ≤ k2) ∧ Aside0 (Kd.N (Kd.slice 53 (Kd.slice 36 k36)) 22 w' w.heap.size (fun k_ => (w.heap.size ≤ k_) ∧ some k_ ≠ (v7 : Value).ownBlock) (.slice Ao14 x5_2.length co14) x5_2) ∧ Aside0 (Kd.N (Kd.slice 53 (Kd.slice 36 k36)) 22 w' w.heap.size (fun k_ => (w.heap.size ≤ k_) ∧ some k_ ≠ ((.slice Ao14 x5_2.length co14) : Value).ownBlock) v7 x7_3) ∧ Aside0 (Below w.heap.size w w'))
         case atStart => exact ⟨(([] : List (List (List (S36))))), (0), (by first | rfl | (simp; done) | (simp [*]; done)), H', ⟨Nat.le_refl _⟩, ⟨by (with_reducible repeat (first | apply Kd.N_alloc | apply Kd.N_drewN | apply Kd.N_drew)); exact Kd.N_mono HO_5.out (fun _ hk => ⟨hk, (by simp [Value.ownBlock])⟩)⟩, ⟨by first | exact Kd.R_nil _ _ _ _ _ | exact Kd.N_nil _ _ _ _ _ | exact Kd.V_nil _ _ _ _ _ | exact Kd.Q_nil _ _ _ _ _ | exact Kd.S_nil _ _ _ _ _⟩, ⟨by repeat (first | (with_reducible first | exact HB.out | apply below_alloc | apply pw_below_drewN | apply below_drew1) | exact HB.out)⟩⟩
         case round =>
          clear H'
          try clear c1
          try clear c2
          try clear p2
          try clear q2
          try clear hx2
          try clear c3
          try clear c3b0
          try clear c4
          try clear c4b0
          try clear c6
          try clear p6
          try clear c8
          try clear c13
          try clear c13b0
          try clear c13b1
          try clear hx217_0
          try clear p2
          try clear p217
          try clear p6
          try clear q2
          try clear q217
          obtain ⟨x7_3, x8_3, rfl, HA, HK3, HO_5, HO_7, HB⟩ := hrel
          cases gk with
          | zero => exact absurd HA.out (by simp [jointerref06_full.l2])
          | succ k3 =>
           have H := HA.out
           clear HA
           simp only [jointerref06_full.l2] at H
           by_cases c15 : x8_3 < (x5_2.length : Int)
           · rw [if_pos c15] at H
             have c15b0 : decide (x8_3 < (x5_2.length : Int)) = true := decide_eq_true c15
             clear c15
             by_cases c16 : (wrap64 (x8_3 + 1)) < (x5_2.length : Int)
             · rw [if_pos c16] at H
               have c16b0 : decide ((wrap64 (x8_3 + 1)) < (x5_2.length : Int)) = true := decide_eq_true c16
               clear c16
               by_cases c17 : 0 ≤ x8_3
               · rw [if_pos c17] at H
                 have c17b0 : decide (0 ≤ x8_3) = true := decide_eq_true c17
                 clear c17
                 obtain ⟨ji18, hji18⟩ : ∃ j_ : Int, (wrap64 (x8_3 + 1)) = j_ := ⟨_, rfl⟩
                 replace H : (if 0 ≤ (ji18) then ((jointerref06_merge.f k3 (rd_L7 x5_2 x8_3) (rd_L7 x5_2 (ji18)) l1).bind fun t230 => (if x7_3.length < 5864062014805 then (jointerref06_full.l2 k3 l1 x5_2 (x7_3 ++ [t230]) (wrap64 (x8_3 + 2))) else (none))) else (none)) = some r := by first | (rw [hji18] at H; exact H) | (simp only [hji18] at H ⊢; exact H)
                 (try rw [hji18] at c16b0)
                 have hji18w : (IntKind.i64.wrap (x8_3 + 1)) = ji18 := (i64_w _).trans hji18
                 by_cases c19 : 0 ≤ (ji18)
                 · rw [if_pos c19] at H
                   have c19b0 : decide (0 ≤ (ji18)) = true := decide_eq_true c19
                   clear c19
                   replace H := Option.bind_eq_some_iff.mp H
                   obtain ⟨t230, A200, H⟩ := H
                   replace H : (if x7_3.length < 5864062014805 then (jointerref06_full.l2 k3 l1 x5_2 (x7_3 ++ [t230]) (wrap64 (x8_3 + 2))) else (none)) = some r := H
                   have A20 := Aside0.mk A200
                   clear A200
                   by_cases c21 : x7_3.length < 5864062014805
                   · rw [if_pos c21] at H
                     have LMc21 := Aside0.mk c21
                     clear c21
                     obtain ⟨y233, hy233⟩ : ∃ y_ : List (List (List (S36))), y_ = (x7_3 ++ [t230]) := ⟨_, rfl⟩
                     replace H : (jointerref06_full.l2 k3 l1 x5_2 y233 (wrap64 (x8_3 + 2))) = some r := by first | (rw [hy233]; with_reducible exact H) | (have H2_ := (Option.bind_some _ _).symm.trans H; rw [hy233]; with_reducible exact H2_) | (have H2_ := (Option.bind_some _ _).symm.trans H; with_reducible exact H2_) | with_reducible exact H | (rw [hy233]; exact H) | exact H
                     have Ny233 := Aside0.mk hy233
                     clear hy233
                     have H' := Aside0.mk H
                     clear H
                     try go_wp2
                     have n0_ := Aside0.mk (Kd.N_drew HO_5.out)
                     have n1_ := Aside0.mk (Kd.N_drew HO_7.out)
                     have n2_ := Aside0.mk (below_drew1 HB.out)
                     clear HO_5
                     clear HO_7
                     clear HB
                     have HO_5 := n0_
                     have HO_7 := n1_
                     have HB := n2_
                     clear n0_ n1_ n2_
                     have p228 : 0 ≤ (x8_3 : Int) := of_decide_eq_true (by first | (with_reducible assumption) | assumption)
                     have q228 : x8_3 < (x5_2.length : Int) := of_decide_eq_true (by first | (with_reducible assumption) | assumption)
                     obtain ⟨ad228, A228_0, c228_0, e228, hx228_0, hl228_0, hi228_0⟩ := at_L7 (Kd.N_reads' HO_5.out).2.2 x8_3 p228 q228
                     cases e228
                     obtain ⟨ce228, hce228, hMe228, hcc228⟩ := Kd.N_get HO_5.out [] x8_3 p228 (by first | exact q228 | exact of_decide_eq_true (by first | (with_reducible assumption) | assumption) | (have e_ := (Kd.N_reads' HO_5.out).1; omega))
                     obtain ⟨ua228_0, uc228_0, rfl, ul228_0, ge228_0⟩ := Kd.FK_slice_open hMe228
                     have hv228_0 := hcc228 0 _ rfl
                     rw [Nat.add_zero, show ((Kd.slice 53 (Kd.slice 36 k36))).sz = 1 from rfl, Nat.mul_one] at hv228_0
                     replace hv228_0 := Option.some.inj (hv228_0.symm.trans hx228_0)
                     injection hv228_0 with hva_ hvn_ hvc_
                     rw [hva_] at ge228_0
                     rw [hvc_] at ul228_0
                     have HL228_0 := Aside0.mk (show Kd.V (Kd.slice 36 k36) 53 _ w.heap.size _ _ (rd_L7 x5_2 x8_3) from Kd.V_mk ul228_0 ge228_0)
                     clear hva_ hvn_ hvc_ ge228_0 ul228_0
                     clear hcc228 hce228
                     have HR228_0 := Aside0.mk hi228_0
                     have HC228_0 := Aside0.mk hl228_0
                     clear hi228_0 hl228_0
                     replace p228 := eq_true p228
                     replace q228 := eq_true q228
                     have p229 : 0 ≤ ((ji18) : Int) := of_decide_eq_true (by first | (with_reducible assumption) | assumption)
                     have q229 : (ji18) < (x5_2.length : Int) := of_decide_eq_true (by first | (with_reducible assumption) | assumption)
                     obtain ⟨ad229, A229_0, c229_0, e229, hx229_0, hl229_0, hi229_0⟩ := at_L7 (Kd.N_reads' HO_5.out).2.2 (ji18) p229 q229
                     obtain rfl : ad228 = ad229 := (by injection e229)
                     obtain ⟨ce229, hce229, hMe229, hcc229⟩ := Kd.N_get HO_5.out [] (ji18) p229 (by first | exact q229 | exact of_decide_eq_true (by first | (with_reducible assumption) | assumption) | (have e_ := (Kd.N_reads' HO_5.out).1; omega))
                     obtain ⟨ua229_0, uc229_0, rfl, ul229_0, ge229_0⟩ := Kd.FK_slice_open hMe229
                     have hv229_0 := hcc229 0 _ rfl
                     rw [Nat.add_zero, show ((Kd.slice 53 (Kd.slice 36 k36))).sz = 1 from rfl, Nat.mul_one] at hv229_0
                     replace hv229_0 := Option.some.inj (hv229_0.symm.trans hx229_0)
                     injection hv229_0 with hva_ hvn_ hvc_
                     rw [hva_] at ge229_0
                     rw [hvc_] at ul229_0
                     have HL229_0 := Aside0.mk (show Kd.V (Kd.slice 36 k36) 53 _ w.heap.size _ _ (rd_L7 x5_2 (ji18)) from Kd.V_mk ul229_0 ge229_0)
                     clear hva_ hvn_ hvc_ ge229_0 ul229_0
                     clear hcc229 hce229
                     have HR229_0 := Aside0.mk hi229_0
                     have HC229_0 := Aside0.mk hl229_0
                     clear hi229_0 hl229_0
                     replace p229 := eq_true p229
                     replace q229 := eq_true q229
                     refine start_ (n := 15) (S := fun w' => w'.cell? (ad228.add (x8_3).toNat) = some (.slice A228_0 (rd_L7 x5_2 x8_3).length c228_0) ∧ w'.cell? (ad228.add ((ji18)).toNat) = some (.slice A229_0 (rd_L7 x5_2 (ji18)).length c229_0)) (ds := [12, 13]) #[false, false, false, false, false, false, false, false, false, false, false, false, false, false, false] (by kernel_rfl) rfl rfl ⟨hx228_0, hx229_0⟩ (fun hHeld => ?_); refine with_tabW jointerref06_full.tab12 jointerref06_full.bits12 (fun HT_ HW_ => ?_)
                     generalize wr.drew = w22 at HO_5 HO_7 HB HL228_0 HL229_0 HR228_0 HR229_0 hx228_0 hx229_0 hHeld ⊢
                     refine pure_ (i := 0) (N := some 38) (v := ?_) (a' := ?_) #[true, false, false, false, false, false, false, false, false, false, false, false, false, false, false] rfl rfl (any_of HT_.out (by kernel_rfl)) (fun _ _ _ h => h) (Or.inl ⟨by rfl, ?_⟩) ?_ ?_
                     rotate_left
                     · intro w'
                       go_simp
                       with_reducible rfl
                     rotate_left
                     · simp only [Act.put, List.setIfInBounds_toArray, List.set_cons_zero, List.set_cons_succ, i64_w, i32_w]
                       rfl
                     refine pure_ (i := 1) (N := some 39) (v := ?_) (a' := ?_) #[true, true, false, false, false, false, false, false, false, false, false, false, false, false, false] rfl rfl (any_of HT_.out (by kernel_rfl)) (fun _ _ _ h => h) (Or.inl ⟨by rfl, ?_⟩) ?_ ?_
                     rotate_left
                     · intro w'
                       go_simp
                       with_reducible rfl
                     rotate_left
                     · simp only [Act.put, List.setIfInBounds_toArray, List.set_cons_zero, List.set_cons_succ, i64_w, i32_w]
                       rfl
                     refine pure_ (i := 2) (N := some 40) (v := ?_) (a' := ?_) #[true, true, true, false, false, false, false, false, false, false, false, false, false, false, false] rfl rfl (any_of HT_.out (by kernel_rfl)) (fun _ _ _ h => h) (Or.inl ⟨by rfl, ?_⟩) ?_ ?_
                     rotate_left
                     · intro w'
                       go_simp
                       with_reducible rfl
                     rotate_left
                     · simp only [Act.put, List.setIfInBounds_toArray, List.set_cons_zero, List.set_cons_succ, i64_w, i32_w]
                       rfl
                     refine pure_ (i := 3) (N := some 41) (v := ?_) (a' := ?_) #[true, true, true, true, false, false, false, false, false, false, false, false, false, false, false] rfl rfl (any_of HT_.out (by kernel_rfl)) (fun _ _ _ h => h) (Or.inl ⟨by rfl, ?_⟩) ?_ ?_
                     rotate_left
                     · intro w'
                       go_simp
                       with_reducible rfl
                     rotate_left
                     · simp only [Act.put, List.setIfInBounds_toArray, List.set_cons_zero, List.set_cons_succ, i64_w, i32_w]
                       rfl
                     refine pure_ (i := 5) (N := some 43) (v := ?_) (a' := ?_) #[true, true, true, true, false, true, false, false, false, false, false, false, false, false, false] rfl rfl (any_of HT_.out (by kernel_rfl)) (fun _ _ _ h => h) (Or.inl ⟨by rfl, ?_⟩) ?_ ?_
                     rotate_left
                     · intro w'
                       go_simp
                       with_reducible rfl
                     rotate_left
                     · simp only [Act.put, List.setIfInBounds_toArray, List.set_cons_zero, List.set_cons_succ, i64_w, i32_w]
                       rfl
                     refine pure_ (i := 6) (N := some 44) (v := ?_) (a' := ?_) #[true, true, true, true, false, true, true, false, false, false, false, false, false, false, false] rfl rfl (any_of HT_.out (by kernel_rfl)) (fun _ _ _ h => h) (Or.inl ⟨by rfl, ?_⟩) ?_ ?_
                     rotate_left
                     · intro w'
                       go_simp
                       with_reducible rfl
                     rotate_left
                     · simp only [Act.put, List.setIfInBounds_toArray, List.set_cons_zero, List.set_cons_succ, i64_w, i32_w]
                       rfl
                     refine pure_ (i := 7) (N := some 45) (v := ?_) (a' := ?_) #[true, true, true, true, false, true, true, true, false, false, false, false, false, false, false] rfl rfl (any_of HT_.out (by kernel_rfl)) (fun _ _ _ h => h) (Or.inl ⟨by rfl, ?_⟩) ?_ ?_
                     rotate_left
                     · intro w'
                       go_simp
                       with_reducible rfl
                     rotate_left
                     · simp only [Act.put, List.setIfInBounds_toArray, List.set_cons_zero, List.set_cons_succ, i64_w, i32_w]
                       rfl
                     refine pure_ (i := 8) (N := some 46) (v := ?_) (a' := ?_) #[true, true, true, true, false, true, true, true, true, false, false, false, false, false, false] rfl rfl (any_of HT_.out (by kernel_rfl)) (fun _ _ _ h => h) (Or.inl ⟨by rfl, ?_⟩) ?_ ?_
                     rotate_left
                     · intro w'
                       go_simp
                       with_reducible rfl
                     rotate_left
                     · simp only [Act.put, List.setIfInBounds_toArray, List.set_cons_zero, List.set_cons_succ, i64_w, i32_w]
                       rfl
                     refine pure_ (i := 10) (N := some 48) (v := ?_) (a' := ?_) #[true, true, true, true, false, true, true, true, true, false, true, false, false, false, false] rfl rfl (any_of HT_.out (by kernel_rfl)) (fun _ _ _ h => h) (Or.inl ⟨by rfl, ?_⟩) ?_ ?_
                     rotate_left
                     · intro w'
                       go_simp
                       with_reducible rfl
                     rotate_left
                     · simp only [Act.put, List.setIfInBounds_toArray, List.set_cons_zero, List.set_cons_succ, i64_w, i32_w]
                       rfl
                     refine take_ (i := 4) (N := some 42) (v := ?_) (a' := ?_) #[true, true, true, true, true, true, true, true, true, false, true, false, false, false, false] rfl rfl (take_ofW HT_.out HW_.out (by kernel_rfl)) (fun _ _ _ h => h) (Or.inl ⟨by rfl, ?_⟩) hHeld ?_ ?_
                     rotate_left
                     · rintro w' ⟨s0, s1⟩
                       go_simp
                       with_reducible rfl
                     rotate_left
                     · simp only [Act.put, List.setIfInBounds_toArray, List.set_cons_zero, List.set_cons_succ, i64_w, i32_w]
                       rfl
                     refine take_ (i := 9) (N := some 47) (v := ?_) (a' := ?_) #[true, true, true, true, true, true, true, true, true, true, true, false, false, false, false] rfl rfl (take_ofW HT_.out HW_.out (by kernel_rfl)) (fun _ _ _ h => h) (Or.inl ⟨by rfl, ?_⟩) hHeld ?_ ?_
                     rotate_left
                     · rintro w' ⟨s0, s1⟩
                       go_simp
                       with_reducible rfl
                     rotate_left
                     · simp only [Act.put, List.setIfInBounds_toArray, List.set_cons_zero, List.set_cons_succ, i64_w, i32_w]
                       rfl
                     refine one_ (i := 11) (N := some 49) #[true, true, true, true, true, true, true, true, true, true, true, true, false, false, false] rfl rfl (one_of HT_.out (by kernel_rfl)) (by decide) (fun K hK => ?_)
                     refine goes_ Tryz.func89 (by kernel_rfl) rfl #[.slice A228_0 (rd_L7 x5_2 x8_3).length c228_0, .slice A229_0 (rd_L7 x5_2 (ji18)).length c229_0, .slice A1 l1.length c1] (by rfl) rfl rfl (by (try simp only [List.map_toArray, List.map_cons, List.map_nil]); first | done | (simp only [hji18]; rfl) | rfl | (simp only [List.length_drop, List.length_take]; rfl)) ?_
                     with_reducible refine (jointerref06_merge.calls k3 (fun k_ => (((w.heap.size ≤ k_) ∧ some k_ ≠ (u7 : Value).ownBlock) ∧ some k_ ≠ (.slice (some ad228) x5_2.length co14 : Value).ownBlock)) _ _ (rd_L7 x5_2 x8_3) (fun k_ => (((w.heap.size ≤ k_) ∧ some k_ ≠ (u7 : Value).ownBlock) ∧ some k_ ≠ (.slice (some ad228) x5_2.length co14 : Value).ownBlock)) _ _ (rd_L7 x5_2 (ji18)) _ _ l1 t230 _ ?side1 ?side2 ?side3 ?side4 A20.out).mono ?_
                     (case side1 => exact HL228_0.out)
                     (case side2 => exact HL229_0.out)
                     (case side3 => repeat (first | exact (Kd.C_below HR1.out HB.out) | (with_reducible refine Kd.C_alloc ?_ _) | (with_reducible refine Kd.C_drewN ?_ _) | (with_reducible refine Kd.C_drew ?_)))
                     (case side4 => exact HC1.out)
                     rintro e w23 ⟨v231, rfl, ho0, hb⟩
                     have HS0_ := (hb.cell (World.block_lt_of_cell? _ _ (hHeld.1))).trans (hHeld.1)
                     have HS1_ := (hb.cell (World.block_lt_of_cell? _ _ (hHeld.2))).trans (hHeld.2)
                     refine ⟨_, rfl, ?_⟩
                     have n0_ := Aside0.mk (Kd.N_elder' (by (with_reducible repeat (first | apply Kd.N_alloc | apply Kd.N_drewN | apply Kd.N_drew)); exact HO_5.out) (Kd.N_base ho0) hb)
                     have n1_ := Aside0.mk (Kd.N_elder' (by (with_reducible repeat (first | apply Kd.N_alloc | apply Kd.N_drewN | apply Kd.N_drew)); exact HO_7.out) (Kd.N_base ho0) hb)
                     have n2_ := Aside0.mk (Kd.V_elder' (by (with_reducible repeat (first | apply Kd.V_alloc | apply Kd.V_drewN | apply Kd.V_drew)); exact HL228_0.out) (Kd.N_base ho0) hb)
                     have n3_ := Aside0.mk (Kd.V_elder' (by (with_reducible repeat (first | apply Kd.V_alloc | apply Kd.V_drewN | apply Kd.V_drew)); exact HL229_0.out) (Kd.N_base ho0) hb)
                     have n4_ := Aside0.mk (Kd.N_lower (Kd.N_mono (ok' := fun k_ => (w.heap.size ≤ k_) ∧ some k_ ≠ (.slice (some ad228) x5_2.length co14 : Value).ownBlock ∧ some k_ ≠ (u7 : Value).ownBlock) ho0 (fun k_ hk_ => ⟨Or.elim hk_ (fun hs_ => Or.elim hs_ (fun hs_ => hs_.1.1) (fun hs_ => hs_.1.1)) (fun hn_ => (Nat.le_trans (below_size (by repeat (first | (with_reducible first | exact HB.out | apply below_alloc | apply pw_below_drewN | apply below_drew1) | exact HB.out))) hn_)), Or.elim hk_ (fun hs_ => Or.elim hs_ (fun hs_ => hs_.2) (fun hs_ => hs_.2)) (fun hn_ => (Kd.fresh' (Kd.N_lt (by (with_reducible repeat (first | apply Kd.N_alloc | apply Kd.N_drewN | apply Kd.N_drew)); exact HO_5.out)) k_ hn_)), Or.elim hk_ (fun hs_ => Or.elim hs_ (fun hs_ => hs_.1.2) (fun hs_ => hs_.1.2)) (fun hn_ => (Kd.fresh' (Kd.N_lt (by (with_reducible repeat (first | apply Kd.N_alloc | apply Kd.N_drewN | apply Kd.N_drew)); exact HO_7.out)) k_ hn_))⟩)) (below_size (by repeat (first | (with_reducible first | exact HB.out | apply below_alloc | apply pw_below_drewN | apply below_drew1) | exact HB.out))))
                     have n5_ := Aside0.mk (Kd.C_below (by repeat (first | (with_reducible exact HR228_0.out) | (with_reducible refine Kd.C_alloc ?_ _) | (with_reducible refine Kd.C_drewN ?_ _) | (with_reducible refine Kd.C_drew ?_) | exact HR228_0.out)) hb)
                     have n6_ := Aside0.mk (Kd.C_below (by repeat (first | (with_reducible exact HR229_0.out) | (with_reducible refine Kd.C_alloc ?_ _) | (with_reducible refine Kd.C_drewN ?_ _) | (with_reducible refine Kd.C_drew ?_) | exact HR229_0.out)) hb)
                     have n7_ := Aside0.mk (below_step (by repeat (first | (with_reducible first | exact HB.out | apply below_alloc | apply pw_below_drewN | apply below_drew1) | exact HB.out)) hb)
                     clear HO_5
                     clear HO_7
                     clear HL228_0
                     clear HL229_0
                     clear HR228_0
                     clear HR229_0
                     clear HB
                     have HO_5 := n0_
                     have HO_7 := n1_
                     have HL228_0 := n2_
                     have HL229_0 := n3_
                     have HO232 := n4_
                     have HR228_0 := n5_
                     have HR229_0 := n6_
                     have HB := n7_
                     clear n0_ n1_ n2_ n3_ n4_ n5_ n6_ n7_
                     (try clear hb)
                     (try clear hb2)
                     (try clear hk)
                     (try clear hi)
                     (try clear ho0)
                     obtain ⟨Ao25, co25, eo25⟩ := Kd.N_slice HO232.out
                     (first | subst eo25 | (injection eo25 with f1_ f2_ f3_; have f4_ := f1_.symm; have f5_ := f3_.symm; clear f1_ f2_ f3_; subst f4_; subst f5_))
                     refine hK.out _ _ ⟨HS0_, HS1_⟩ (fun hHeld => ?_)
                     clear hK K
                     refine norm_ (a' := ?_) ?_ ?_
                     rotate_left
                     · show Act.put _ (some 49) _ = _
                       simp only [Act.put, List.setIfInBounds_toArray, List.set_cons_zero, List.set_cons_succ, i64_w, i32_w]
                       rfl
                     refine last_ (i := 12) (N := some 50) #[true, true, true, true, true, true, true, true, true, true, true, true, true, false, false] rfl rfl (one_of HT_.out (by kernel_rfl)) (by decide) (fun K hK => ?_)
                     refine value_ (w1 := ?_) (v := ?_) (by rfl) rfl ?_ ?_
                     rotate_left 2
                     · go_simp
                       constructor
                       · rfl
                       · rfl
                     refine hK.out _ _ ?_
                     clear hK K
                     refine norm_ (a' := ?_) ?_ ?_
                     rotate_left
                     · show Act.put _ (some 50) _ = _
                       simp only [Act.put, List.setIfInBounds_toArray, List.set_cons_zero, List.set_cons_succ, i64_w, i32_w]
                       rfl
                     refine last_ (i := 13) (N := some 51) #[true, true, true, true, true, true, true, true, true, true, true, true, true, true, false] rfl rfl (one_of HT_.out (by kernel_rfl)) (by decide) (fun K hK => ?_)
                     refine Kd.N_append_step (Kd.slice 53 (Kd.slice 36 k36)) (w0 := w) w.heap.size (by rfl) (.tmp 38) (.tmp 50) 56 22 (.slice none 0 0) 24 rfl Tryz.underlying56 info22 rfl (by decide) (by omega) u7 x7_3 t230 [.slice Ao25 t230.length co25] (fun k_ => (w.heap.size ≤ k_) ∧ some k_ ≠ (.slice (some ad228) x5_2.length co14 : Value).ownBlock) (fun k_ => ((fun k_ => (w.heap.size ≤ k_) ∧ some k_ ≠ (.slice (some ad228) x5_2.length co14 : Value).ownBlock)) k_ ∧ some k_ ≠ (u7 : Value).ownBlock) rfl rfl ?aP (fun _ hk => hk) ?aF ?aO ?aB ?aS ?aL ?_
                     (case aP => exact (Kd.FK_slice_mk (Kd.N_reads' (Kd.N_mono (ok' := (fun k_ => ((fun k_ => (w.heap.size ≤ k_) ∧ some k_ ≠ (.slice (some ad228) x5_2.length co14 : Value).ownBlock)) k_ ∧ some k_ ≠ (u7 : Value).ownBlock)) (HO232.out) (fun k_ hk => ⟨⟨hk.1, hk.2.1⟩, hk.2.2⟩))).2.1 (Kd.N_F (Kd.N_mono (ok' := (fun k_ => ((fun k_ => (w.heap.size ≤ k_) ∧ some k_ ≠ (.slice (some ad228) x5_2.length co14 : Value).ownBlock)) k_ ∧ some k_ ≠ (u7 : Value).ownBlock)) (HO232.out) (fun k_ hk => ⟨⟨hk.1, hk.2.1⟩, hk.2.2⟩)))))
                     (case aB => exact (by repeat (first | (with_reducible first | exact HB.out | apply below_alloc | apply pw_below_drewN | apply below_drew1) | exact HB.out)))
                     (case aF => exact (fun k_ hk => ⟨(Nat.le_trans (below_size (by repeat (first | (with_reducible first | exact HB.out | apply below_alloc | apply pw_below_drewN | apply below_drew1) | exact HB.out))) hk), Kd.fresh' (Kd.N_lt (by (with_reducible repeat (first | apply Kd.N_alloc | apply Kd.N_drewN | apply Kd.N_drew)); exact HO_5.out)) k_ hk⟩))
                     (case aO => exact (by (with_reducible repeat (first | apply Kd.N_alloc | apply Kd.N_drewN | apply Kd.N_drew)); exact Kd.N_mono HO_7.out (fun _ hk => ⟨hk.1.1, hk.1.2⟩)))
                     (case aS => exact (below_size (by repeat (first | (with_reducible first | exact HB.out | apply below_alloc | apply pw_below_drewN | apply below_drew1) | exact HB.out))))
                     (case aL => have := LMc21.out; omega)
                     intro v234 w24 ho hb hg hat
                     rw [← Ny233.out] at ho
                     have n0_ := Aside0.mk (Kd.N_afterv (ok := (fun k_ => (w.heap.size ≤ k_) ∧ some k_ ≠ (.slice Ao25 t230.length co25 : Value).ownBlock)) (by (with_reducible repeat (first | apply Kd.N_alloc | apply Kd.N_drewN | apply Kd.N_drew)); exact Kd.N_mono HO_5.out (fun _ hk => ⟨⟨hk.1.1, hk.2⟩, hk.1.2⟩)) hg hat)
                     have n1_ := Aside0.mk (Kd.V_afterv (ok := (fun k_ => (w.heap.size ≤ k_) ∧ some k_ ≠ (.slice (some ad228) x5_2.length co14 : Value).ownBlock ∧ some k_ ≠ (.slice Ao25 t230.length co25 : Value).ownBlock)) (by (with_reducible repeat (first | apply Kd.V_alloc | apply Kd.V_drewN | apply Kd.V_drew)); exact Kd.V_mono HL228_0.out (fun _ hk => ⟨⟨hk.1.1.1, ⟨hk.1.2, hk.2⟩⟩, hk.1.1.2⟩)) hg hat)
                     have n2_ := Aside0.mk (Kd.V_afterv (ok := (fun k_ => (w.heap.size ≤ k_) ∧ some k_ ≠ (.slice (some ad228) x5_2.length co14 : Value).ownBlock ∧ some k_ ≠ (.slice Ao25 t230.length co25 : Value).ownBlock)) (by (with_reducible repeat (first | apply Kd.V_alloc | apply Kd.V_drewN | apply Kd.V_drew)); exact Kd.V_mono HL229_0.out (fun _ hk => ⟨⟨hk.1.1.1, ⟨hk.1.2, hk.2⟩⟩, hk.1.1.2⟩)) hg hat)
                     have n3_ := Aside0.mk (hb)
                     have n4_ := Aside0.mk (ho)
                     clear HO_5
                     clear HL228_0
                     clear HL229_0
                     clear HB
                     clear HO_7
                     clear HO232
                     have HO_5 := n0_
                     have HL228_0 := n1_
                     have HL229_0 := n2_
                     have HB := n3_
                     have HO235 := n4_
                     clear n0_ n1_ n2_ n3_ n4_
                     clear ho hb hg hat
                     refine hK.out _ _ ?_
                     clear hK K
                     refine norm_ (a' := ?_) ?_ ?_
                     rotate_left
                     · show Act.put _ (some 51) _ = _
                       simp only [Act.put, List.setIfInBounds_toArray, List.set_cons_zero, List.set_cons_succ, i64_w, i32_w]
                       rfl
                     refine pure_ (i := 14) (N := some 7) (v := ?_) (a' := ?_) #[true, true, true, true, true, true, true, true, true, true, true, true, true, true, true] rfl rfl (any_of HT_.out (by kernel_rfl)) (fun _ _ _ h => h) (Or.inl ⟨by rfl, ?_⟩) ?_ ?_
                     rotate_left
                     · intro w'
                       go_simp
                       with_reducible rfl
                     rotate_left
                     · simp only [Act.put, List.setIfInBounds_toArray, List.set_cons_zero, List.set_cons_succ, i64_w, i32_w]
                       rfl
                     refine done_ (done_of HT_.out (by kernel_rfl)) ?_
                     try go_wp2
                     go_roundg k3
                     case measure => have := HK1.out; have := HK2.out; have := HK3.out; omega
                     case rel => exact ⟨(y233), (wrap64 (x8_3 + 2)), (by first | rfl | (simp; done) | (simp [*]; done)), H', ⟨by have := HK1.out; have := HK2.out; have := HK3.out; omega⟩, ⟨by (with_reducible repeat (first | apply Kd.N_alloc | apply Kd.N_drewN | apply Kd.N_drew)); exact Kd.N_mono HO_5.out (fun _ hk => ⟨hk.1.1, hk.2⟩)⟩, ⟨by (with_reducible repeat (first | apply Kd.N_alloc | apply Kd.N_drewN | apply Kd.N_drew)); exact HO235.out⟩, ⟨by repeat (first | (with_reducible first | exact HB.out | apply below_alloc | apply pw_below_drewN | apply below_drew1) | exact HB.out)⟩⟩
                   · rw [if_neg c21] at H
                     exact absurd H (by simp)
                 · rw [if_neg c19] at H
                   exact absurd H (by simp)
               · rw [if_neg c17] at H
                 exact absurd H (by simp)
             · rw [if_neg c16] at H
               have c16b0 : decide ((wrap64 (x8_3 + 1)) < (x5_2.length : Int)) = false := decide_eq_false c16
               clear c16
               by_cases c26 : 0 ≤ x8_3
               · rw [if_pos c26] at H
                 have c26b0 : decide (0 ≤ x8_3) = true := decide_eq_true c26
                 clear c26
                 by_cases c27 : x7_3.length < 5864062014805
                 · rw [if_pos c27] at H
                   have LMc27 := Aside0.mk c27
                   clear c27
                   obtain ⟨y237, hy237⟩ : ∃ y_ : List (List (List (S36))), y_ = (x7_3 ++ [rd_L7 x5_2 x8_3]) := ⟨_, rfl⟩
                   replace H : (jointerref06_full.l2 k3 l1 x5_2 y237 (wrap64 (x8_3 + 2))) = some r := by first | (rw [hy237]; with_reducible exact H) | (have H2_ := (Option.bind_some _ _).symm.trans H; rw [hy237]; with_reducible exact H2_) | (have H2_ := (Option.bind_some _ _).symm.trans H; with_reducible exact H2_) | with_reducible exact H | (rw [hy237]; exact H) | exact H
                   have Ny237 := Aside0.mk hy237
                   clear hy237
                   have H' := Aside0.mk H
                   clear H
                   have p236 : 0 ≤ (x8_3 : Int) := of_decide_eq_true (by first | (with_reducible assumption) | assumption)
                   have q236 : x8_3 < (x5_2.length : Int) := of_decide_eq_true (by first | (with_reducible assumption) | assumption)
                   obtain ⟨ad236, A236_0, c236_0, e236, hx236_0, hl236_0, hi236_0⟩ := at_L7 (Kd.N_reads' HO_5.out).2.2 x8_3 p236 q236
                   cases e236
                   obtain ⟨ce236, hce236, hMe236, hcc236⟩ := Kd.N_get HO_5.out [] x8_3 p236 (by first | exact q236 | exact of_decide_eq_true (by first | (with_reducible assumption) | assumption) | (have e_ := (Kd.N_reads' HO_5.out).1; omega))
                   obtain ⟨ua236_0, uc236_0, rfl, ul236_0, ge236_0⟩ := Kd.FK_slice_open hMe236
                   have hv236_0 := hcc236 0 _ rfl
                   rw [Nat.add_zero, show ((Kd.slice 53 (Kd.slice 36 k36))).sz = 1 from rfl, Nat.mul_one] at hv236_0
                   replace hv236_0 := Option.some.inj (hv236_0.symm.trans hx236_0)
                   injection hv236_0 with hva_ hvn_ hvc_
                   rw [hva_] at ge236_0
                   rw [hvc_] at ul236_0
                   have HL236_0 := Aside0.mk (show Kd.V (Kd.slice 36 k36) 53 _ w.heap.size _ _ (rd_L7 x5_2 x8_3) from Kd.V_mk ul236_0 ge236_0)
                   clear hva_ hvn_ hvc_ ge236_0 ul236_0
                   clear hcc236 hce236
                   have HR236_0 := Aside0.mk hi236_0
                   have HC236_0 := Aside0.mk hl236_0
                   clear hi236_0 hl236_0
                   replace p236 := eq_true p236
                   replace q236 := eq_true q236
                   go_wp2_with (first | ((with_reducible refine gate_builtin (b := .append) (xs := #[.tmp 52, .tmp 57]) rfl ?_); at_builtin; refine Kd.N_append (Kd.slice 53 (Kd.slice 36 k36)) (w0 := w) w.heap.size rfl (.tmp 52) (.tmp 57) 56 22 (.slice none 0 0) 24 rfl Tryz.underlying56 info22 rfl (by decide) (by omega) u7 x7_3 (rd_L7 x5_2 x8_3) [.slice A236_0 (rd_L7 x5_2 x8_3).length c236_0] (fun k_ => (w.heap.size ≤ k_) ∧ some k_ ≠ (.slice (some ad236) x5_2.length co14 : Value).ownBlock) (fun k_ => ((fun k_ => (w.heap.size ≤ k_) ∧ some k_ ≠ (.slice (some ad236) x5_2.length co14 : Value).ownBlock)) k_ ∧ some k_ ≠ (u7 : Value).ownBlock) rfl rfl ?aP (fun _ hk => hk) ?aF ?aO ?aB ?aS ?aL ?_; (case aP => exact (Kd.FK_slice_mk (Kd.V_reads' (Kd.V_mono (ok' := (fun k_ => ((fun k_ => (w.heap.size ≤ k_) ∧ some k_ ≠ (.slice (some ad236) x5_2.length co14 : Value).ownBlock)) k_ ∧ some k_ ≠ (u7 : Value).ownBlock)) (HL236_0.out) (fun k_ hk => ⟨⟨hk.1.1, hk.2⟩, hk.1.2⟩))).2.1 (Kd.V_F (Kd.V_mono (ok' := (fun k_ => ((fun k_ => (w.heap.size ≤ k_) ∧ some k_ ≠ (.slice (some ad236) x5_2.length co14 : Value).ownBlock)) k_ ∧ some k_ ≠ (u7 : Value).ownBlock)) (HL236_0.out) (fun k_ hk => ⟨⟨hk.1.1, hk.2⟩, hk.1.2⟩))))); (case aB => exact (by repeat (first | (with_reducible first | exact HB.out | apply below_alloc | apply pw_below_drewN | apply below_drew1) | exact HB.out))); (case aF => exact (fun k_ hk => ⟨(Nat.le_trans (below_size (by repeat (first | (with_reducible first | exact HB.out | apply below_alloc | apply pw_below_drewN | apply below_drew1) | exact HB.out))) hk), Kd.fresh' (Kd.N_lt (by (with_reducible repeat (first | apply Kd.N_alloc | apply Kd.N_drewN | apply Kd.N_drew)); exact HO_5.out)) k_ hk⟩)); (case aO => exact (by (with_reducible repeat (first | apply Kd.N_alloc | apply Kd.N_drewN | apply Kd.N_drew)); exact HO_7.out)); (case aS => exact (below_size (by repeat (first | (with_reducible first | exact HB.out | apply below_alloc | apply pw_below_drewN | apply below_drew1) | exact HB.out)))); (case aL => have := LMc27.out; omega); intro v238 w28 ho hb hg hat; rw [← Ny237.out] at ho; have n0_ := Aside0.mk (Kd.N_afterv (ok := (fun k_ => (w.heap.size ≤ k_))) (by (with_reducible repeat (first | apply Kd.N_alloc | apply Kd.N_drewN | apply Kd.N_drew)); exact HO_5.out) hg hat); have n1_ := Aside0.mk (Kd.V_afterv (ok := (fun k_ => (w.heap.size ≤ k_) ∧ some k_ ≠ (.slice (some ad236) x5_2.length co14 : Value).ownBlock)) (by (with_reducible repeat (first | apply Kd.V_alloc | apply Kd.V_drewN | apply Kd.V_drew)); exact Kd.V_mono HL236_0.out (fun _ hk => ⟨⟨hk.1.1, hk.2⟩, hk.1.2⟩)) hg hat); have n2_ := Aside0.mk (hb); have n3_ := Aside0.mk (ho); clear HO_5; clear HL236_0; clear HB; clear HO_7; have HO_5 := n0_; have HL236_0 := n1_; have HB := n2_; have HO239 := n3_; clear n0_ n1_ n2_ n3_; clear ho hb hg hat))
                   go_roundg k3
                   case measure => have := HK1.out; have := HK2.out; have := HK3.out; omega
                   case rel => exact ⟨(y237), (wrap64 (x8_3 + 2)), (by first | rfl | (simp; done) | (simp [*]; done)), H', ⟨by have := HK1.out; have := HK2.out; have := HK3.out; omega⟩, ⟨by (with_reducible repeat (first | apply Kd.N_alloc | apply Kd.N_drewN | apply Kd.N_drew)); exact HO_5.out⟩, ⟨by (with_reducible repeat (first | apply Kd.N_alloc | apply Kd.N_drewN | apply Kd.N_drew)); exact HO239.out⟩, ⟨by repeat (first | (with_reducible first | exact HB.out | apply below_alloc | apply pw_below_drewN | apply below_drew1) | exact HB.out)⟩⟩
                 · rw [if_neg c27] at H
                   exact absurd H (by simp)
               · rw [if_neg c26] at H
                 exact absurd H (by simp)
           · rw [if_neg c15] at H
             have c15b0 : decide (x8_3 < (x5_2.length : Int)) = false := decide_eq_false c15
             clear c15
             have H' := Aside0.mk H
             clear H
             go_wp2
             go_roundg k3
             case measure => have := HK1.out; have := HK2.out; have := HK3.out; omega
             case rel => exact ⟨(x7_3), H', ⟨by have := HK1.out; have := HK2.out; have := HK3.out; omega⟩, ⟨by (with_reducible repeat (first | apply Kd.N_alloc | apply Kd.N_drewN | apply Kd.N_drew)); exact Kd.N_mono HO_7.out (fun _ hk => hk.1)⟩, ⟨by repeat (first | (with_reducible first | exact HB.out | apply below_alloc | apply pw_below_drewN | apply below_drew1) | exact HB.out)⟩⟩
       · rw [if_neg c13] at H
         have c13b0 : decide (1 < (x5_2.length : Int)) = false := decide_eq_false c13
         have c13b1 : decide (1 < x5_2.length) = false := decide_eq_false (by omega)
         clear c13
         by_cases c29 : (x5_2.length : Int) = 0
         · rw [if_pos c29] at H
           have c29b0 : ((x5_2.length : Int) == 0) = true := beq_iff_eq.mpr c29
           have c29b1 : ((x5_2.length : Int) != 0) = false := bne_eq_false_iff_eq.mpr c29
           clear c29
           obtain rfl := Option.some.inj H
           obtain ⟨Ao30, co30, eo30⟩ := Kd.N_slice HO_5.out
           subst eo30
           go_wp2
           go_ret
           exact ⟨.slice none 0 0, by first | rfl | (simp [errW_none, errW_some] <;> rfl) | (simp [*, errW_none, errW_some] <;> rfl), Kd.V_nil _ _ _ _ _, by repeat (first | (with_reducible first | exact HB.out | apply below_alloc | apply pw_below_drewN | apply below_drew1) | exact HB.out)⟩
         · rw [if_neg c29] at H
           have c29b0 : ((x5_2.length : Int) == 0) = false := beq_eq_false_iff_ne.mpr c29
           have c29b1 : ((x5_2.length : Int) != 0) = true := bne_iff_ne.mpr c29
           have c29b2 : ¬ (x5_2 = []) := fun h_ => c29 (by rw [h_]; rfl)
           by_cases c31 : 0 < (x5_2.length : Int)
           · rw [if_pos c31] at H
             have c31b0 : decide (0 < (x5_2.length : Int)) = true := decide_eq_true c31
             have c31b1 : decide (0 < x5_2.length) = true := decide_eq_true (by omega)
             clear c31
             obtain rfl := Option.some.inj H
             obtain ⟨Ao32, co32, eo32⟩ := Kd.N_slice HO_5.out
             subst eo32
             have p227 : 0 ≤ (0 : Int) := (by omega)
             have q227 : 0 < (x5_2.length : Int) := of_decide_eq_true (by first | (with_reducible assumption) | assumption)
             obtain ⟨ad227, A227_0, c227_0, e227, hx227_0, hl227_0, hi227_0⟩ := at_L7 (Kd.N_reads' HO_5.out).2.2 0 p227 q227
             cases e227
             obtain ⟨ce227, hce227, hMe227, hcc227⟩ := Kd.N_get HO_5.out [] 0 p227 (by first | exact q227 | exact of_decide_eq_true (by first | (with_reducible assumption) | assumption) | (have e_ := (Kd.N_reads' HO_5.out).1; omega))
             obtain ⟨ua227_0, uc227_0, rfl, ul227_0, ge227_0⟩ := Kd.FK_slice_open hMe227
             have hv227_0 := hcc227 0 _ rfl
             rw [Nat.add_zero, show ((Kd.slice 53 (Kd.slice 36 k36))).sz = 1 from rfl, Nat.mul_one] at hv227_0
             replace hv227_0 := Option.some.inj (hv227_0.symm.trans hx227_0)
             injection hv227_0 with hva_ hvn_ hvc_
             rw [hva_] at ge227_0
             rw [hvc_] at ul227_0
             have HL227_0 := Aside0.mk (show Kd.V (Kd.slice 36 k36) 53 _ w.heap.size _ _ (rd_L7 x5_2 0) from Kd.V_mk ul227_0 ge227_0)
             clear hva_ hvn_ hvc_ ge227_0 ul227_0
             clear hcc227 hce227
             have qi227 : (0 < x5_2.length) = True := eq_true (by omega)
             (try rw [show ((0 : Int)).toNat = 0 from rfl] at hx227_0)
             (try rw [Addr.add_zero'] at hx227_0)
             have HR227_0 := Aside0.mk hi227_0
             have HC227_0 := Aside0.mk hl227_0
             clear hi227_0 hl227_0
             replace p227 := eq_true p227
             replace q227 := eq_true q227
             go_wp2
             go_ret
             exact ⟨_, by first | rfl | (simp [errW_none, errW_some] <;> rfl) | (simp [*, errW_none, errW_some] <;> rfl), by (with_reducible repeat (first | apply Kd.V_alloc | apply Kd.V_drewN | apply Kd.V_drew)); exact Kd.V_mono HL227_0.out (fun _ hk => hk.1), by repeat (first | (with_reducible first | exact HB.out | apply below_alloc | apply pw_below_drewN | apply below_drew1) | exact HB.out)⟩
           · rw [if_neg c31] at H
             exact absurd H (by simp)
end Go.Proofs.YtecgkcgfeghhgaaGreatDoor.PAll
namespace Go.Proofs.YtecgkcgfeghhgaaGreatDoor.PAll
open Go.RowKit Go.Proofs.YtecgkcgfeghhgaaGreatDoorW.PrintWords Go.Proofs.YtecgkcgfeghhgaaGreatDoorW.PrintLast Go.Proofs.YtecgkcgfeghhgaaGreatDoorW.PrintMore
attribute [local go_sem] max2_int min2_int max_two min_two max_three min_three max_four min_four
set_option linter.unusedVariables false
set_option linter.unusedSimpArgs false
def jointerref06_Sort.f (k : Nat) (l0 : List (List (S36))) (l1 : List (S64)) : Option ((List (List (S36))) × Int) := (jointerref06_Valid.f k l0).bind fun t240 => (if t240 = true then ((jointerref06_keysFit.f k l0 l1).bind fun t241 => (if t241 = true then ((jointerref06_full.f k l0 l1).bind fun t242 => (some (t242, 0))) else (some (([] : List (List (S36))), 1)))) else (some (([] : List (List (S36))), 1)))
theorem jointerref06_Sort.mono : ∀ a0 a1 k, LeO (jointerref06_Sort.f k a0 a1) (jointerref06_Sort.f (k + 1) a0 a1) := by
 intro a0 a1 k
 unfold jointerref06_Sort.f
 repeat' first
  | (with_reducible exact jointerref06_Valid.mono _ _)
  | (with_reducible exact jointerref06_full.mono _ _ _)
  | (with_reducible exact jointerref06_keysFit.mono _ _ _)
  | (with_reducible exact LeO.refl _)
  | (with_reducible exact LeO.none _)
  | (with_reducible refine LeO.ite ?_ ?_)
  | (with_reducible refine LeO.bind ?_ (fun _ => ?_))
  | exact jointerref06_Valid.mono _ _
  | exact jointerref06_full.mono _ _ _
  | exact jointerref06_keysFit.mono _ _ _
  | exact LeO.none _
  | refine LeO.ite ?_ ?_
  | refine LeO.bind ?_ (fun _ => ?_)
set_option maxHeartbeats 8000000 in
set_option maxRecDepth 100000 in
theorem jointerref06_Sort.calls (k : Nat) (A0 : Option Addr) (c0 : Nat) (l0 : List (List (S36))) (A1 : Option Addr) (c1 : Nat) (l1 : List (S64)) (r1 : List (List (S36))) (r2 : Int) (w : World) (hr0 : Kd.C (Kd.slice 36 k36) w A0 l0.length l0) (hc0 : l0.length ≤ c0) (hr1 : Kd.C k64 w A1 l1.length l1) (hc1 : l1.length ≤ c1) (h : jointerref06_Sort.f k l0 l1 = some (r1, r2)) :
 Calls Tryz.prog 27 #[.slice A0 l0.length c0, .slice A1 l1.length c1] w fun e w' => ∃ v0_ : Value, e = .returned (.tuple #[v0_, .int .i64 r2]) ∧ Kd.V (Kd.slice 36 k36) 53 w' w.heap.size (fun k_ => (w.heap.size ≤ k_)) v0_ r1 ∧ Below w.heap.size w w' := by
 have HR0 := Aside0.mk hr0
 have HC0 := Aside0.mk hc0
 clear hr0 hc0
 have HR1 := Aside0.mk hr1
 have HC1 := Aside0.mk hc1
 clear hr1 hc1
 have HB := Aside0.mk (Below.refl w.heap.size w)
 have H : ((jointerref06_Valid.f k l0).bind fun t240 => (if t240 = true then ((jointerref06_keysFit.f k l0 l1).bind fun t241 => (if t241 = true then ((jointerref06_full.f k l0 l1).bind fun t242 => (some (t242, 0))) else (some (([] : List (List (S36))), 1)))) else (some (([] : List (List (S36))), 1)))) = some (r1, r2) := h
 clear h
 replace H := Option.bind_eq_some_iff.mp H
 obtain ⟨t240, A30, H⟩ := H
 replace H : (if t240 = true then ((jointerref06_keysFit.f k l0 l1).bind fun t241 => (if t241 = true then ((jointerref06_full.f k l0 l1).bind fun t242 => (some (t242, 0))) else (some (([] : List (List (S36))), 1)))) else (some (([] : List (List (S36))), 1))) = some (r1, r2) := H
 have A3 := Aside0.mk A30
 clear A30
 by_cases c4 : t240 = true
 · subst c4
   have H1 : ((jointerref06_keysFit.f k l0 l1).bind fun t241 => (if t241 = true then ((jointerref06_full.f k l0 l1).bind fun t242 => (some (t242, 0))) else (some (([] : List (List (S36))), 1)))) = some (r1, r2) := by rw [if_pos rfl] at H; exact H
   clear H
   have H := H1
   clear H1
   replace H := Option.bind_eq_some_iff.mp H
   obtain ⟨t241, A50, H⟩ := H
   replace H : (if t241 = true then ((jointerref06_full.f k l0 l1).bind fun t242 => (some (t242, 0))) else (some (([] : List (List (S36))), 1))) = some (r1, r2) := H
   have A5 := Aside0.mk A50
   clear A50
   by_cases c6 : t241 = true
   · subst c6
     have H1 : ((jointerref06_full.f k l0 l1).bind fun t242 => (some (t242, 0))) = some (r1, r2) := by rw [if_pos rfl] at H; exact H
     clear H
     have H := H1
     clear H1
     replace H := Option.bind_eq_some_iff.mp H
     obtain ⟨t242, A70, H⟩ := H
     replace H : (some (t242, 0)) = some (r1, r2) := H
     have A7 := Aside0.mk A70
     clear A70
     simp only [Option.some.injEq, Prod.mk.injEq] at H
     obtain ⟨rfl, rfl⟩ := H
     go_enter Tryz.func27, Tryz.ntmps27
     go_wp2_with (first | ((with_reducible refine gate_callee (f := 11) rfl ?_); refine goesL_ (some 7) rfl rfl Tryz.func11 (by kernel_rfl) rfl #[.slice A0 l0.length c0] rfl (by (try simp only [List.map_toArray, List.map_cons, List.map_nil]); first | done | rfl | (simp only [List.length_drop, List.length_take]; rfl)) ?_; (with_reducible refine (jointerref06_Valid.calls k _ _ l0 true _ ?side1 ?side2 A3.out).mono ?_); (case side1 => repeat (first | exact HR0.out | (with_reducible refine Kd.C_alloc ?_ _) | (with_reducible refine Kd.C_drewN ?_ _) | (with_reducible refine Kd.C_drew ?_))); (case side2 => exact HC0.out); rintro e w8 ⟨rfl, hb⟩; refine ⟨_, rfl, ?_⟩; have n0_ := Aside0.mk (below_step (by repeat (first | (with_reducible first | exact HB.out | apply below_alloc | apply pw_below_drewN | apply below_drew1) | exact HB.out)) hb); clear HB; have HB := n0_; clear n0_; (try clear hb); (try clear hb2); (try clear hk); (try clear hi)) | (go_at_call 65; (with_reducible refine (jointerref06_keysFit.calls k _ _ l0 _ _ l1 true _ ?side1 ?side2 ?side3 ?side4 A5.out).mono ?_); (case side1 => repeat (first | exact (Kd.C_below HR0.out HB.out) | (with_reducible refine Kd.C_alloc ?_ _) | (with_reducible refine Kd.C_drewN ?_ _) | (with_reducible refine Kd.C_drew ?_))); (case side2 => exact HC0.out); (case side3 => repeat (first | exact (Kd.C_below HR1.out HB.out) | (with_reducible refine Kd.C_alloc ?_ _) | (with_reducible refine Kd.C_drewN ?_ _) | (with_reducible refine Kd.C_drew ?_))); (case side4 => exact HC1.out); rintro e w' ⟨rfl, ⟨nd, rfl⟩⟩) | ((with_reducible refine gate_callee (f := 67) rfl ?_); refine goesL_ (some 17) rfl rfl Tryz.func67 (by kernel_rfl) rfl #[.slice A0 l0.length c0, .slice A1 l1.length c1] rfl (by (try simp only [List.map_toArray, List.map_cons, List.map_nil]); first | done | rfl | (simp only [List.length_drop, List.length_take]; rfl)) ?_; (with_reducible refine (jointerref06_full.calls k _ _ l0 _ _ l1 t242 _ ?side1 ?side2 ?side3 ?side4 A7.out).mono ?_); (case side1 => repeat (first | exact (Kd.C_below HR0.out (by repeat (first | (with_reducible first | exact HB.out | apply below_alloc | apply pw_below_drewN | apply below_drew1) | exact HB.out))) | (with_reducible refine Kd.C_alloc ?_ _) | (with_reducible refine Kd.C_drewN ?_ _) | (with_reducible refine Kd.C_drew ?_))); (case side2 => exact HC0.out); (case side3 => repeat (first | exact (Kd.C_below HR1.out (by repeat (first | (with_reducible first | exact HB.out | apply below_alloc | apply pw_below_drewN | apply below_drew1) | exact HB.out))) | (with_reducible refine Kd.C_alloc ?_ _) | (with_reducible refine Kd.C_drewN ?_ _) | (with_reducible refine Kd.C_drew ?_))); (case side4 => exact HC1.out); rintro e w9 ⟨v243, rfl, ho0, hb⟩; refine ⟨_, rfl, ?_⟩; have n0_ := Aside0.mk (Kd.V_lower (Kd.V_mono (ok' := fun k_ => (w.heap.size ≤ k_)) ho0 (fun k_ hk_ => (Nat.le_trans (below_size (by repeat (first | (with_reducible first | exact HB.out | apply below_alloc | apply pw_below_drewN | apply below_drew1) | exact HB.out))) hk_))) (below_size (by repeat (first | (with_reducible first | exact HB.out | apply below_alloc | apply pw_below_drewN | apply below_drew1) | exact HB.out)))); have n1_ := Aside0.mk (below_step (by repeat (first | (with_reducible first | exact HB.out | apply below_alloc | apply pw_below_drewN | apply below_drew1) | exact HB.out)) hb); clear HB; have HO244 := n0_; have HB := n1_; clear n0_ n1_; (try clear hb); (try clear hb2); (try clear hk); (try clear hi); (try clear ho0)))
     go_ret2
     exact ⟨_, by first | rfl | (simp [errW_none, errW_some] <;> rfl) | (simp [*, errW_none, errW_some] <;> rfl), by (with_reducible repeat (first | apply Kd.V_alloc | apply Kd.V_drewN | apply Kd.V_drew)); exact HO244.out, by repeat (first | (with_reducible first | exact HB.out | apply below_alloc | apply pw_below_drewN | apply below_drew1) | exact HB.out)⟩
   · replace c6 := Bool.eq_false_iff.mpr c6
     subst c6
     have H1 : (some (([] : List (List (S36))), 1)) = some (r1, r2) := by rw [if_neg (show ¬ (false = true) by decide)] at H; exact H
     clear H
     have H := H1
     clear H1
     simp only [Option.some.injEq, Prod.mk.injEq] at H
     obtain ⟨rfl, rfl⟩ := H
     go_enter Tryz.func27, Tryz.ntmps27
     go_wp2_with (first | ((with_reducible refine gate_callee (f := 11) rfl ?_); refine goesL_ (some 7) rfl rfl Tryz.func11 (by kernel_rfl) rfl #[.slice A0 l0.length c0] rfl (by (try simp only [List.map_toArray, List.map_cons, List.map_nil]); first | done | rfl | (simp only [List.length_drop, List.length_take]; rfl)) ?_; (with_reducible refine (jointerref06_Valid.calls k _ _ l0 true _ ?side1 ?side2 A3.out).mono ?_); (case side1 => repeat (first | exact HR0.out | (with_reducible refine Kd.C_alloc ?_ _) | (with_reducible refine Kd.C_drewN ?_ _) | (with_reducible refine Kd.C_drew ?_))); (case side2 => exact HC0.out); rintro e w10 ⟨rfl, hb⟩; refine ⟨_, rfl, ?_⟩; have n0_ := Aside0.mk (below_step (by repeat (first | (with_reducible first | exact HB.out | apply below_alloc | apply pw_below_drewN | apply below_drew1) | exact HB.out)) hb); clear HB; have HB := n0_; clear n0_; (try clear hb); (try clear hb2); (try clear hk); (try clear hi)) | (go_at_call 65; (with_reducible refine (jointerref06_keysFit.calls k _ _ l0 _ _ l1 false _ ?side1 ?side2 ?side3 ?side4 A5.out).mono ?_); (case side1 => repeat (first | exact (Kd.C_below HR0.out HB.out) | (with_reducible refine Kd.C_alloc ?_ _) | (with_reducible refine Kd.C_drewN ?_ _) | (with_reducible refine Kd.C_drew ?_))); (case side2 => exact HC0.out); (case side3 => repeat (first | exact (Kd.C_below HR1.out HB.out) | (with_reducible refine Kd.C_alloc ?_ _) | (with_reducible refine Kd.C_drewN ?_ _) | (with_reducible refine Kd.C_drew ?_))); (case side4 => exact HC1.out); rintro e w' ⟨rfl, ⟨nd, rfl⟩⟩))
     go_ret2
     exact ⟨.slice none 0 0, by first | rfl | (simp [errW_none, errW_some] <;> rfl) | (simp [*, errW_none, errW_some] <;> rfl), Kd.V_nil _ _ _ _ _, by repeat (first | (with_reducible first | exact HB.out | apply below_alloc | apply pw_below_drewN | apply below_drew1) | exact HB.out)⟩
 · replace c4 := Bool.eq_false_iff.mpr c4
   subst c4
   have H1 : (some (([] : List (List (S36))), 1)) = some (r1, r2) := by rw [if_neg (show ¬ (false = true) by decide)] at H; exact H
   clear H
   have H := H1
   clear H1
   simp only [Option.some.injEq, Prod.mk.injEq] at H
   obtain ⟨rfl, rfl⟩ := H
   go_enter Tryz.func27, Tryz.ntmps27
   go_wp2_with (first | ((with_reducible refine gate_callee (f := 11) rfl ?_); refine goesL_ (some 7) rfl rfl Tryz.func11 (by kernel_rfl) rfl #[.slice A0 l0.length c0] rfl (by (try simp only [List.map_toArray, List.map_cons, List.map_nil]); first | done | rfl | (simp only [List.length_drop, List.length_take]; rfl)) ?_; (with_reducible refine (jointerref06_Valid.calls k _ _ l0 false _ ?side1 ?side2 A3.out).mono ?_); (case side1 => repeat (first | exact HR0.out | (with_reducible refine Kd.C_alloc ?_ _) | (with_reducible refine Kd.C_drewN ?_ _) | (with_reducible refine Kd.C_drew ?_))); (case side2 => exact HC0.out); rintro e w11 ⟨rfl, hb⟩; refine ⟨_, rfl, ?_⟩; have n0_ := Aside0.mk (below_step (by repeat (first | (with_reducible first | exact HB.out | apply below_alloc | apply pw_below_drewN | apply below_drew1) | exact HB.out)) hb); clear HB; have HB := n0_; clear n0_; (try clear hb); (try clear hb2); (try clear hk); (try clear hi)))
   go_ret2
   exact ⟨.slice none 0 0, by first | rfl | (simp [errW_none, errW_some] <;> rfl) | (simp [*, errW_none, errW_some] <;> rfl), Kd.V_nil _ _ _ _ _, by repeat (first | (with_reducible first | exact HB.out | apply below_alloc | apply pw_below_drewN | apply below_drew1) | exact HB.out)⟩
end Go.Proofs.YtecgkcgfeghhgaaGreatDoor.PAll
namespace Go.Proofs.YtecgkcgfeghhgaaGreatDoor.PAll
open Go.RowKit Go.Proofs.YtecgkcgfeghhgaaGreatDoorW.PrintWords Go.Proofs.YtecgkcgfeghhgaaGreatDoorW.PrintLast Go.Proofs.YtecgkcgfeghhgaaGreatDoorW.PrintMore
attribute [local go_sem] max2_int min2_int max_two min_two max_three min_three max_four min_four
set_option linter.unusedVariables false
set_option linter.unusedSimpArgs false
mutual
def jointerref06_Cut.j0 : Nat → Int → Int → List (List (S36)) → Bool → Option ((List (List (S36))) × Int)
 | 0, _, _, _, _ => none
 | k + 1, x2, x3, x10, x29 => if x29 = true then (some (([] : List (List (S36))), 1)) else (jointerref06_Cut.l0 k x2 x3 x10 ([] : List (List (S36))) 0)
def jointerref06_Cut.l0 : Nat → Int → Int → List (List (S36)) → List (List (S36)) → Int → Option ((List (List (S36))) × Int)
 | 0, _, _, _, _, _ => none
 | k + 1, x2, x3, x10, x12, x13 => if x13 < (x10.length : Int) then (if x13 ≥ x2 then (if (wrap64 (x13 - x2)) < x3 then (if 0 ≤ x13 then (if x12.length < 5864062014805 then (jointerref06_Cut.l0 k x2 x3 x10 (x12 ++ [rd_L4 x10 x13]) (wrap64 (x13 + 1))) else (none)) else (none)) else (jointerref06_Cut.l0 k x2 x3 x10 x12 (wrap64 (x13 + 1)))) else (jointerref06_Cut.l0 k x2 x3 x10 x12 (wrap64 (x13 + 1)))) else (some (x12, 0))
end
def jointerref06_Cut.f (k : Nat) (l0 : List (List (S36))) (l1 : List (S64)) (a2 : Int) (a3 : Int) : Option ((List (List (S36))) × Int) := (jointerref06_Sort.f k l0 l1).bind fun bt245 => (if bt245.2 = 0 then (if a2 < 0 then (jointerref06_Cut.j0 k a2 a3 bt245.1 true) else (jointerref06_Cut.j0 k a2 a3 bt245.1 (decide (a3 < 0)))) else (jointerref06_Cut.j0 k a2 a3 bt245.1 true))
theorem jointerref06_Cut.mono_l : ∀ k, (∀ y0 y1 y2 y3, LeO (jointerref06_Cut.j0 k y0 y1 y2 y3) (jointerref06_Cut.j0 (k + 1) y0 y1 y2 y3)) ∧ (∀ y0 y1 y2 y3 y4, LeO (jointerref06_Cut.l0 k y0 y1 y2 y3 y4) (jointerref06_Cut.l0 (k + 1) y0 y1 y2 y3 y4))
 | 0 => ⟨fun _ _ _ _ r h => by simp [jointerref06_Cut.j0] at h, fun _ _ _ _ _ r h => by simp [jointerref06_Cut.l0] at h⟩
 | k + 1 => by
  obtain ⟨ih0, ih1⟩ := jointerref06_Cut.mono_l k
  refine ⟨?_, ?_⟩
  · intro y0 y1 y2 y3
    unfold jointerref06_Cut.j0
    repeat' first
    | (with_reducible exact ih0 _ _ _ _)
    | (with_reducible exact ih1 _ _ _ _ _)
    | (with_reducible exact jointerref06_Sort.mono _ _ _)
    | (with_reducible exact LeO.refl _)
    | (with_reducible exact LeO.none _)
    | (with_reducible refine LeO.ite ?_ ?_)
    | (with_reducible refine LeO.bind ?_ (fun _ => ?_))
    | exact ih0 _ _ _ _
    | exact ih1 _ _ _ _ _
    | exact jointerref06_Sort.mono _ _ _
    | exact LeO.none _
    | refine LeO.ite ?_ ?_
    | refine LeO.bind ?_ (fun _ => ?_)
  · intro y0 y1 y2 y3 y4
    unfold jointerref06_Cut.l0
    repeat' first
    | (with_reducible exact ih0 _ _ _ _)
    | (with_reducible exact ih1 _ _ _ _ _)
    | (with_reducible exact jointerref06_Sort.mono _ _ _)
    | (with_reducible exact LeO.refl _)
    | (with_reducible exact LeO.none _)
    | (with_reducible refine LeO.ite ?_ ?_)
    | (with_reducible refine LeO.bind ?_ (fun _ => ?_))
    | exact ih0 _ _ _ _
    | exact ih1 _ _ _ _ _
    | exact jointerref06_Sort.mono _ _ _
    | exact LeO.none _
    | refine LeO.ite ?_ ?_
    | refine LeO.bind ?_ (fun _ => ?_)
theorem jointerref06_Cut.mono : ∀ a0 a1 a2 a3 k, LeO (jointerref06_Cut.f k a0 a1 a2 a3) (jointerref06_Cut.f (k + 1) a0 a1 a2 a3) := by
 intro a0 a1 a2 a3 k
 obtain ⟨ih0, ih1⟩ := jointerref06_Cut.mono_l k
 unfold jointerref06_Cut.f
 repeat' first
  | (with_reducible exact ih0 _ _ _ _)
  | (with_reducible exact ih1 _ _ _ _ _)
  | (with_reducible exact jointerref06_Sort.mono _ _ _)
  | (with_reducible exact LeO.refl _)
  | (with_reducible exact LeO.none _)
  | (with_reducible refine LeO.ite ?_ ?_)
  | (with_reducible refine LeO.bind ?_ (fun _ => ?_))
  | exact ih0 _ _ _ _
  | exact ih1 _ _ _ _ _
  | exact jointerref06_Sort.mono _ _ _
  | exact LeO.none _
  | refine LeO.ite ?_ ?_
  | refine LeO.bind ?_ (fun _ => ?_)
set_option maxHeartbeats 8000000 in
set_option maxRecDepth 100000 in
theorem jointerref06_Cut.calls (k : Nat) (A0 : Option Addr) (c0 : Nat) (l0 : List (List (S36))) (A1 : Option Addr) (c1 : Nat) (l1 : List (S64)) (a2 : Int) (a3 : Int) (r1 : List (List (S36))) (r2 : Int) (w : World) (hr0 : Kd.C (Kd.slice 36 k36) w A0 l0.length l0) (hc0 : l0.length ≤ c0) (hr1 : Kd.C k64 w A1 l1.length l1) (hc1 : l1.length ≤ c1) (h : jointerref06_Cut.f k l0 l1 a2 a3 = some (r1, r2)) :
 Calls Tryz.prog 17 #[.slice A0 l0.length c0, .slice A1 l1.length c1, .int .i64 a2, .int .i64 a3] w fun e w' => ∃ v0_ : Value, e = .returned (.tuple #[v0_, .int .i64 r2]) ∧ Kd.N (Kd.slice 36 k36) 53 w' w.heap.size (fun k_ => (w.heap.size ≤ k_)) v0_ r1 ∧ Below w.heap.size w w' := by
 have HR0 := Aside0.mk hr0
 have HC0 := Aside0.mk hc0
 clear hr0 hc0
 have HR1 := Aside0.mk hr1
 have HC1 := Aside0.mk hc1
 clear hr1 hc1
 have HB := Aside0.mk (Below.refl w.heap.size w)
 have H : ((jointerref06_Sort.f k l0 l1).bind fun bt245 => (if bt245.2 = 0 then (if a2 < 0 then (jointerref06_Cut.j0 k a2 a3 bt245.1 true) else (jointerref06_Cut.j0 k a2 a3 bt245.1 (decide (a3 < 0)))) else (jointerref06_Cut.j0 k a2 a3 bt245.1 true))) = some (r1, r2) := h
 clear h
 replace H := Option.bind_eq_some_iff.mp H
 obtain ⟨⟨t245, t248⟩, A50, H⟩ := H
 replace H : (if t248 = 0 then (if a2 < 0 then (jointerref06_Cut.j0 k a2 a3 t245 true) else (jointerref06_Cut.j0 k a2 a3 t245 (decide (a3 < 0)))) else (jointerref06_Cut.j0 k a2 a3 t245 true)) = some (r1, r2) := H
 have A5 := Aside0.mk A50
 clear A50
 have HC6 := Aside0.mk H
 clear H
 go_enter Tryz.func17, Tryz.ntmps17
 go_upto_region 2 with (first | ((with_reducible refine gate_callee (f := 27) rfl ?_); refine goesL_ (some 17) rfl rfl Tryz.func27 (by kernel_rfl) rfl #[.slice A0 l0.length c0, .slice A1 l1.length c1] rfl (by (try simp only [List.map_toArray, List.map_cons, List.map_nil]); first | done | rfl | (simp only [List.length_drop, List.length_take]; rfl)) ?_; (with_reducible refine (jointerref06_Sort.calls k _ _ l0 _ _ l1 t245 t248 _ ?side1 ?side2 ?side3 ?side4 A5.out).mono ?_); (case side1 => repeat (first | exact HR0.out | (with_reducible refine Kd.C_alloc ?_ _) | (with_reducible refine Kd.C_drewN ?_ _) | (with_reducible refine Kd.C_drew ?_))); (case side2 => exact HC0.out); (case side3 => repeat (first | exact HR1.out | (with_reducible refine Kd.C_alloc ?_ _) | (with_reducible refine Kd.C_drewN ?_ _) | (with_reducible refine Kd.C_drew ?_))); (case side4 => exact HC1.out); rintro e w7 ⟨v246, rfl, ho0, hb⟩; refine ⟨_, rfl, ?_⟩; have n0_ := Aside0.mk (Kd.V_lower (Kd.V_mono (ok' := fun k_ => (w.heap.size ≤ k_)) ho0 (fun k_ hk_ => (Nat.le_trans (below_size (by repeat (first | (with_reducible first | exact HB.out | apply below_alloc | apply pw_below_drewN | apply below_drew1) | exact HB.out))) hk_))) (below_size (by repeat (first | (with_reducible first | exact HB.out | apply below_alloc | apply pw_below_drewN | apply below_drew1) | exact HB.out)))); have n1_ := Aside0.mk (below_step (by repeat (first | (with_reducible first | exact HB.out | apply below_alloc | apply pw_below_drewN | apply below_drew1) | exact HB.out)) hb); clear HB; have HO247 := n0_; have HB := n1_; clear n0_ n1_; (try clear hb); (try clear hb2); (try clear hk); (try clear hi); (try clear ho0)))
 (try simp only [Act.put, List.setIfInBounds_toArray, List.set_cons_zero, List.set_cons_succ])
 go_cut [29] (fun v29 wc => ∃ (kq : Nat) (x29_5 : Bool), v29 = .bool x29_5 ∧ Aside0 (jointerref06_Cut.j0 kq a2 a3 t245 x29_5 = some (r1, r2)) ∧ Aside0 (kq ≤ k) ∧ Aside0 (Kd.V (Kd.slice 36 k36) 53 wc w.heap.size (fun k_ => (w.heap.size ≤ k_)) v246 t245) ∧ Aside0 (Below w.heap.size w wc))
 case first =>
  have H := HC6.out
  clear HC6
  by_cases c8 : t248 = 0
  · rw [if_pos c8] at H
    have c8b0 : (t248 == 0) = true := beq_iff_eq.mpr c8
    have c8b1 : (t248 != 0) = false := bne_eq_false_iff_eq.mpr c8
    clear c8
    (first | rw [c8b0] | (simp only [i64_w, i32_w]; rw [c8b0]) | skip)
    by_cases c9 : a2 < 0
    · rw [if_pos c9] at H
      have c9b0 : decide (a2 < 0) = true := decide_eq_true c9
      clear c9
      have H' := Aside0.mk H
      clear H
      go_wp2
      go_meet
      case rel => exact ⟨_, (true), (by first | rfl | (simp; done) | (simp [*]; done)), H', ⟨by first | omega | exact Nat.le_refl _⟩, ⟨by (with_reducible repeat (first | apply Kd.V_alloc | apply Kd.V_drewN | apply Kd.V_drew)); exact HO247.out⟩, ⟨by repeat (first | (with_reducible first | exact HB.out | apply below_alloc | apply pw_below_drewN | apply below_drew1) | exact HB.out)⟩⟩
    · rw [if_neg c9] at H
      have c9b0 : decide (a2 < 0) = false := decide_eq_false c9
      clear c9
      have H' := Aside0.mk H
      clear H
      go_wp2
      go_meet
      case rel => exact ⟨_, (decide (a3 < 0)), (by first | rfl | (simp; done) | (simp [*]; done)), H', ⟨by first | omega | exact Nat.le_refl _⟩, ⟨by (with_reducible repeat (first | apply Kd.V_alloc | apply Kd.V_drewN | apply Kd.V_drew)); exact HO247.out⟩, ⟨by repeat (first | (with_reducible first | exact HB.out | apply below_alloc | apply pw_below_drewN | apply below_drew1) | exact HB.out)⟩⟩
  · rw [if_neg c8] at H
    have c8b0 : (t248 == 0) = false := beq_eq_false_iff_ne.mpr c8
    have c8b1 : (t248 != 0) = true := bne_iff_ne.mpr c8
    (first | rw [c8b0] | (simp only [i64_w, i32_w]; rw [c8b0]) | skip)
    have H' := Aside0.mk H
    clear H
    go_wp2
    go_meet
    case rel => exact ⟨_, (true), (by first | rfl | (simp; done) | (simp [*]; done)), H', ⟨by first | omega | exact Nat.le_refl _⟩, ⟨by (with_reducible repeat (first | apply Kd.V_alloc | apply Kd.V_drewN | apply Kd.V_drew)); exact HO247.out⟩, ⟨by repeat (first | (with_reducible first | exact HB.out | apply below_alloc | apply pw_below_drewN | apply below_drew1) | exact HB.out)⟩⟩
 case rest =>
  clear HC6
  try clear c1
  try clear c2
  try clear p2
  try clear c8
  try clear c8b0
  try clear c8b1
  try clear c9
  try clear c9b0
  obtain ⟨kq, x29_5, rfl, HA, HJ5, HO_10, HB⟩ := hcut
  cases kq with
  | zero => exact absurd HA.out (by simp [jointerref06_Cut.j0])
  | succ kj5 =>
   have H := HA.out
   clear HA
   simp only [jointerref06_Cut.j0] at H
   by_cases c10 : x29_5 = true
   · subst c10
     have H1 : (some (([] : List (List (S36))), 1)) = some (r1, r2) := by rw [if_pos rfl] at H; exact H
     clear H
     have H := H1
     clear H1
     simp only [Option.some.injEq, Prod.mk.injEq] at H
     obtain ⟨rfl, rfl⟩ := H
     go_wp2
     go_ret2
     exact ⟨_, by first | rfl | (simp [errW_none, errW_some] <;> rfl) | (simp [*, errW_none, errW_some] <;> rfl), by first | exact Kd.S_nil _ _ _ _ _ | exact Kd.N_nil _ _ _ _ _ | exact Kd.V_nil _ _ _ _ _ | exact Kd.Q_nil _ _ _ _ _ | exact Kd.R_nil _ _ _ _ _, by repeat (first | (with_reducible first | exact HB.out | apply below_alloc | apply pw_below_drewN | apply below_drew1) | exact HB.out)⟩
   · replace c10 := Bool.eq_false_iff.mpr c10
     subst c10
     have H1 : (jointerref06_Cut.l0 kj5 a2 a3 t245 ([] : List (List (S36))) 0) = some (r1, r2) := by rw [if_neg (show ¬ (false = true) by decide)] at H; exact H
     clear H
     have H := H1
     clear H1
     have H' := Aside0.mk H
     clear H
     go_wp2
     go_loopg [12, 13] kj5 (fun kq v12 v13 w' => ∃ (x12_2 : List (List (S36))) (x13_2 : Int), v13 = .int .i64 x13_2 ∧ Aside0 (jointerref06_Cut.l0 kq a2 a3 t245 x12_2 x13_2 = some (r1, r2)) ∧ Aside0 (kq ≤ kj5) ∧ Aside0 (Kd.V (Kd.slice 36 k36) 53 w' w.heap.size (fun k_ => (w.heap.size ≤ k_) ∧ some k_ ≠ (v12 : Value).ownBlock) v246 t245) ∧ Aside0 (Kd.N (Kd.slice 36 k36) 53 w' w.heap.size (fun k_ => (w.heap.size ≤ k_)) v12 x12_2) ∧ Aside0 (Below w.heap.size w w'))
     case atStart => exact ⟨(([] : List (List (S36)))), (0), (by first | rfl | (simp; done) | (simp [*]; done)), H', ⟨Nat.le_refl _⟩, ⟨by (with_reducible repeat (first | apply Kd.V_alloc | apply Kd.V_drewN | apply Kd.V_drew)); exact Kd.V_mono HO_10.out (fun _ hk => ⟨hk, (by simp [Value.ownBlock])⟩)⟩, ⟨by first | exact Kd.S_nil _ _ _ _ _ | exact Kd.N_nil _ _ _ _ _ | exact Kd.V_nil _ _ _ _ _ | exact Kd.Q_nil _ _ _ _ _ | exact Kd.R_nil _ _ _ _ _⟩, ⟨by repeat (first | (with_reducible first | exact HB.out | apply below_alloc | apply pw_below_drewN | apply below_drew1) | exact HB.out)⟩⟩
     case round =>
      clear H'
      try clear c1
      try clear c2
      try clear p2
      try clear c8
      try clear c8b0
      try clear c8b1
      try clear c9
      try clear c9b0
      try clear c10
      try clear p2
      obtain ⟨x12_2, x13_2, rfl, HA, HK2, HO_10, HO_12, HB⟩ := hrel
      cases gk with
      | zero => exact absurd HA.out (by simp [jointerref06_Cut.l0])
      | succ k2 =>
       have H := HA.out
       clear HA
       simp only [jointerref06_Cut.l0] at H
       by_cases c11 : x13_2 < (t245.length : Int)
       · rw [if_pos c11] at H
         have c11b0 : decide (x13_2 < (t245.length : Int)) = true := decide_eq_true c11
         clear c11
         by_cases c12 : x13_2 ≥ a2
         · rw [if_pos c12] at H
           have c12b0 : decide (a2 ≤ x13_2) = true := decide_eq_true c12
           clear c12
           by_cases c13 : (wrap64 (x13_2 - a2)) < a3
           · rw [if_pos c13] at H
             have c13b0 : decide ((wrap64 (x13_2 - a2)) < a3) = true := decide_eq_true c13
             clear c13
             by_cases c14 : 0 ≤ x13_2
             · rw [if_pos c14] at H
               have c14b0 : decide (0 ≤ x13_2) = true := decide_eq_true c14
               clear c14
               by_cases c15 : x12_2.length < 5864062014805
               · rw [if_pos c15] at H
                 have LMc15 := Aside0.mk c15
                 clear c15
                 obtain ⟨y250, hy250⟩ : ∃ y_ : List (List (S36)), y_ = (x12_2 ++ [rd_L4 t245 x13_2]) := ⟨_, rfl⟩
                 replace H : (jointerref06_Cut.l0 k2 a2 a3 t245 y250 (wrap64 (x13_2 + 1))) = some (r1, r2) := by first | (rw [hy250]; with_reducible exact H) | (have H2_ := (Option.bind_some _ _).symm.trans H; rw [hy250]; with_reducible exact H2_) | (have H2_ := (Option.bind_some _ _).symm.trans H; with_reducible exact H2_) | with_reducible exact H | (rw [hy250]; exact H) | exact H
                 have Ny250 := Aside0.mk hy250
                 clear hy250
                 have H' := Aside0.mk H
                 clear H
                 obtain ⟨Ao16, co16, eo16⟩ := Kd.V_slice HO_10.out
                 subst eo16
                 have p249 : 0 ≤ (x13_2 : Int) := of_decide_eq_true (by first | (with_reducible assumption) | assumption)
                 have q249 : x13_2 < (t245.length : Int) := of_decide_eq_true (by first | (with_reducible assumption) | assumption)
                 obtain ⟨ad249, A249_0, c249_0, e249, hx249_0, hl249_0, hi249_0⟩ := at_L4 (Kd.V_reads' HO_10.out).2.2 x13_2 p249 q249
                 cases e249
                 obtain ⟨ce249, hce249, hMe249, hcc249⟩ := Kd.V_get HO_10.out [] x13_2 p249 (by first | exact q249 | exact of_decide_eq_true (by first | (with_reducible assumption) | assumption) | (have e_ := (Kd.V_reads' HO_10.out).1; omega))
                 obtain ⟨ua249_0, uc249_0, rfl, ul249_0, ge249_0⟩ := Kd.FK_slice_open hMe249
                 have hv249_0 := hcc249 0 _ rfl
                 rw [Nat.add_zero, show ((Kd.slice 36 k36)).sz = 1 from rfl, Nat.mul_one] at hv249_0
                 replace hv249_0 := Option.some.inj (hv249_0.symm.trans hx249_0)
                 injection hv249_0 with hva_ hvn_ hvc_
                 rw [hva_] at ge249_0
                 rw [hvc_] at ul249_0
                 have HL249_0 := Aside0.mk (show Kd.V k36 36 _ w.heap.size _ _ (rd_L4 t245 x13_2) from Kd.V_mk ul249_0 ge249_0)
                 clear hva_ hvn_ hvc_ ge249_0 ul249_0
                 clear hcc249 hce249
                 have HR249_0 := Aside0.mk hi249_0
                 have HC249_0 := Aside0.mk hl249_0
                 clear hi249_0 hl249_0
                 replace p249 := eq_true p249
                 replace q249 := eq_true q249
                 go_wp2_with (first | ((with_reducible refine gate_builtin (b := .append) (xs := #[.tmp 46, .tmp 51]) rfl ?_); at_builtin; refine Kd.N_append (Kd.slice 36 k36) (w0 := w) w.heap.size rfl (.tmp 46) (.tmp 51) 22 53 (.slice none 0 0) 24 rfl Tryz.underlying22 info53 rfl (by decide) (by omega) u12 x12_2 (rd_L4 t245 x13_2) [.slice A249_0 (rd_L4 t245 x13_2).length c249_0] (fun k_ => (w.heap.size ≤ k_)) (fun k_ => ((fun k_ => (w.heap.size ≤ k_))) k_ ∧ some k_ ≠ (u12 : Value).ownBlock) rfl rfl ?aP (fun _ hk => hk) ?aF ?aO ?aB ?aS ?aL ?_; (case aP => exact (Kd.FK_slice_mk (Kd.V_reads' (Kd.V_mono (ok' := (fun k_ => ((fun k_ => (w.heap.size ≤ k_))) k_ ∧ some k_ ≠ (u12 : Value).ownBlock)) (HL249_0.out) (fun k_ hk => ⟨hk.1, hk.2⟩))).2.1 (Kd.V_F (Kd.V_mono (ok' := (fun k_ => ((fun k_ => (w.heap.size ≤ k_))) k_ ∧ some k_ ≠ (u12 : Value).ownBlock)) (HL249_0.out) (fun k_ hk => ⟨hk.1, hk.2⟩))))); (case aB => exact (by repeat (first | (with_reducible first | exact HB.out | apply below_alloc | apply pw_below_drewN | apply below_drew1) | exact HB.out))); (case aF => exact (fun k_ hk => (Nat.le_trans (below_size (by repeat (first | (with_reducible first | exact HB.out | apply below_alloc | apply pw_below_drewN | apply below_drew1) | exact HB.out))) hk))); (case aO => exact (by (with_reducible repeat (first | apply Kd.N_alloc | apply Kd.N_drewN | apply Kd.N_drew)); exact HO_12.out)); (case aS => exact (below_size (by repeat (first | (with_reducible first | exact HB.out | apply below_alloc | apply pw_below_drewN | apply below_drew1) | exact HB.out)))); (case aL => have := LMc15.out; omega); intro v251 w17 ho hb hg hat; rw [← Ny250.out] at ho; have n0_ := Aside0.mk (Kd.V_afterv (ok := (fun k_ => (w.heap.size ≤ k_))) (by (with_reducible repeat (first | apply Kd.V_alloc | apply Kd.V_drewN | apply Kd.V_drew)); exact HO_10.out) hg hat); have n1_ := Aside0.mk (Kd.V_afterv (ok := (fun k_ => (w.heap.size ≤ k_))) (by (with_reducible repeat (first | apply Kd.V_alloc | apply Kd.V_drewN | apply Kd.V_drew)); exact HL249_0.out) hg hat); have n2_ := Aside0.mk (hb); have n3_ := Aside0.mk (ho); clear HO_10; clear HL249_0; clear HB; clear HO_12; have HO_10 := n0_; have HL249_0 := n1_; have HB := n2_; have HO252 := n3_; clear n0_ n1_ n2_ n3_; clear ho hb hg hat))
                 go_roundg k2
                 case measure => have := HJ5.out; have := HK2.out; omega
                 case rel => exact ⟨(y250), (wrap64 (x13_2 + 1)), (by first | rfl | (simp; done) | (simp [*]; done)), H', ⟨by have := HJ5.out; have := HK2.out; omega⟩, ⟨by (with_reducible repeat (first | apply Kd.V_alloc | apply Kd.V_drewN | apply Kd.V_drew)); exact HO_10.out⟩, ⟨by (with_reducible repeat (first | apply Kd.N_alloc | apply Kd.N_drewN | apply Kd.N_drew)); exact HO252.out⟩, ⟨by repeat (first | (with_reducible first | exact HB.out | apply below_alloc | apply pw_below_drewN | apply below_drew1) | exact HB.out)⟩⟩
               · rw [if_neg c15] at H
                 exact absurd H (by simp)
             · rw [if_neg c14] at H
               exact absurd H (by simp)
           · rw [if_neg c13] at H
             have c13b0 : decide ((wrap64 (x13_2 - a2)) < a3) = false := decide_eq_false c13
             clear c13
             have H' := Aside0.mk H
             clear H
             obtain ⟨Ao18, co18, eo18⟩ := Kd.V_slice HO_10.out
             subst eo18
             go_wp2
             go_roundg k2
             case measure => have := HJ5.out; have := HK2.out; omega
             case rel => exact ⟨(x12_2), (wrap64 (x13_2 + 1)), (by first | rfl | (simp; done) | (simp [*]; done)), H', ⟨by have := HJ5.out; have := HK2.out; omega⟩, ⟨by (with_reducible repeat (first | apply Kd.V_alloc | apply Kd.V_drewN | apply Kd.V_drew)); exact HO_10.out⟩, ⟨by (with_reducible repeat (first | apply Kd.N_alloc | apply Kd.N_drewN | apply Kd.N_drew)); exact HO_12.out⟩, ⟨by repeat (first | (with_reducible first | exact HB.out | apply below_alloc | apply pw_below_drewN | apply below_drew1) | exact HB.out)⟩⟩
         · rw [if_neg c12] at H
           have c12b0 : decide (a2 ≤ x13_2) = false := decide_eq_false c12
           clear c12
           have H' := Aside0.mk H
           clear H
           obtain ⟨Ao19, co19, eo19⟩ := Kd.V_slice HO_10.out
           subst eo19
           go_wp2
           go_roundg k2
           case measure => have := HJ5.out; have := HK2.out; omega
           case rel => exact ⟨(x12_2), (wrap64 (x13_2 + 1)), (by first | rfl | (simp; done) | (simp [*]; done)), H', ⟨by have := HJ5.out; have := HK2.out; omega⟩, ⟨by (with_reducible repeat (first | apply Kd.V_alloc | apply Kd.V_drewN | apply Kd.V_drew)); exact HO_10.out⟩, ⟨by (with_reducible repeat (first | apply Kd.N_alloc | apply Kd.N_drewN | apply Kd.N_drew)); exact HO_12.out⟩, ⟨by repeat (first | (with_reducible first | exact HB.out | apply below_alloc | apply pw_below_drewN | apply below_drew1) | exact HB.out)⟩⟩
       · rw [if_neg c11] at H
         have c11b0 : decide (x13_2 < (t245.length : Int)) = false := decide_eq_false c11
         clear c11
         simp only [Option.some.injEq, Prod.mk.injEq] at H
         obtain ⟨rfl, rfl⟩ := H
         obtain ⟨Ao20, co20, eo20⟩ := Kd.V_slice HO_10.out
         subst eo20
         go_wp2
         go_ret2
         exact ⟨_, by first | rfl | (simp [errW_none, errW_some] <;> rfl) | (simp [*, errW_none, errW_some] <;> rfl), by (with_reducible repeat (first | apply Kd.N_alloc | apply Kd.N_drewN | apply Kd.N_drew)); exact HO_12.out, by repeat (first | (with_reducible first | exact HB.out | apply below_alloc | apply pw_below_drewN | apply below_drew1) | exact HB.out)⟩
end Go.Proofs.YtecgkcgfeghhgaaGreatDoor.PAll
set_option linter.unusedVariables false
set_option linter.unusedSimpArgs false
namespace Go.Proofs.YtecgkcgfeghhgaaGreatDoor.PAll
open Go.RowKit Go.Proofs.YtecgkcgfeghhgaaGreatDoorW.PrintWords Go.Proofs.YtecgkcgfeghhgaaGreatDoorW.PrintLast Go.Proofs.YtecgkcgfeghhgaaGreatDoorW.PrintMore
theorem ints_eq (a b : Int) : jointerref01_ints.f a b = some (cmpI a b) := by
  unfold jointerref01_ints.f cmpI
  split
  · rfl
  · split <;> rfl
theorem bt_get (s : ByteArray) (i : Nat) (h : i < s.data.toList.length) : bt s (i : Int) = ((s.data.toList[i]).toNat : Int) := by
  have h2 : i < s.size := by rw [Array.length_toList] at h; exact h
  unfold bt
  rw [dif_pos (show ((i : Nat) : Int).toNat < s.size by rw [Int.toNat_natCast]; exact h2)]
  simp only [Int.toNat_natCast]
  rw [Array.getElem_toList]
  rfl
theorem texts_l0 (a b : ByteArray) (ha : a.size ≤ 1099511627776) : ∀ (d i : Nat), i + d = a.size → i ≤ b.size → Ev (fun k => jointerref01_texts.l0 k a b (i : Int)) (Lib.compareBytes (a.data.toList.drop i) (b.data.toList.drop i)) := by
  have ea : a.data.toList.length = a.size := Array.length_toList
  have eb : b.data.toList.length = b.size := Array.length_toList
  intro d
  induction d with
  | zero =>
    intro i hi hb
    rw [List.drop_eq_nil_of_le (show a.data.toList.length ≤ i by omega)]
    refine Ev.step (f := fun k => jointerref01_texts.j1 k a b (i : Int) false) (fun k => by simp only [jointerref01_texts.l0]; rw [if_neg (by omega)]) ?_
    refine Ev.step (f := fun _ => if (a.size : Int) < (b.size : Int) then (some (-1)) else (if (a.size : Int) > (b.size : Int) then (some 1) else (some 0))) (fun k => by simp only [jointerref01_texts.j1]; rw [if_neg (by simp)]) ?_
    by_cases c : i = b.size
    · rw [List.drop_eq_nil_of_le (show b.data.toList.length ≤ i by omega)]
      exact Ev.congr (f := fun _ => some 0) (fun k => by rw [if_neg (by omega), if_neg (by omega)]) (Ev.now _)
    · rw [drop_cons b.data.toList i (by omega)]
      exact Ev.congr (f := fun _ => some (-1)) (fun k => by rw [if_pos (by omega)]) (Ev.now _)
  | succ d ih =>
    intro i hi hb
    have hia : i < a.data.toList.length := by omega
    rw [drop_cons a.data.toList i hia]
    by_cases c : i = b.size
    · rw [List.drop_eq_nil_of_le (show b.data.toList.length ≤ i by omega)]
      refine Ev.step (f := fun k => jointerref01_texts.j1 k a b (i : Int) false) (fun k => by simp only [jointerref01_texts.l0]; rw [if_pos (by omega), decide_eq_false (by omega)]) ?_
      refine Ev.step (f := fun _ => if (a.size : Int) < (b.size : Int) then (some (-1)) else (if (a.size : Int) > (b.size : Int) then (some 1) else (some 0))) (fun k => by simp only [jointerref01_texts.j1]; rw [if_neg (by simp)]) ?_
      exact Ev.congr (f := fun _ => some 1) (fun k => by rw [if_neg (by omega), if_pos (by omega)]) (Ev.now _)
    · have hib : i < b.data.toList.length := by omega
      rw [drop_cons b.data.toList i hib]
      refine Ev.step (f := fun k => jointerref01_texts.j1 k a b (i : Int) true) (fun k => by simp only [jointerref01_texts.l0]; rw [if_pos (by omega), decide_eq_true (by omega)]) ?_
      refine Ev.step (f := fun k => if ((a.data.toList[i]).toNat : Int) < ((b.data.toList[i]).toNat : Int) then some (-1) else if ((a.data.toList[i]).toNat : Int) > ((b.data.toList[i]).toNat : Int) then some 1 else jointerref01_texts.l0 k a b ((i + 1 : Nat) : Int)) (fun k => ?_) ?_
      · simp only [jointerref01_texts.j1]
        rw [if_pos trivial, if_pos (by omega), if_pos (by omega), if_pos (by omega), bt_get a i hia, bt_get b i hib, w64 _ (by omega) (by omega)]
        rfl
      · simp only [Lib.compareBytes, UInt8.lt_iff_toNat_lt]
        by_cases c1 : (a.data.toList[i]).toNat < (b.data.toList[i]).toNat
        · rw [if_pos c1]
          exact Ev.congr (f := fun _ => some (-1)) (fun k => by rw [if_pos (by omega)]) (Ev.now _)
        · rw [if_neg c1]
          by_cases c2 : (b.data.toList[i]).toNat < (a.data.toList[i]).toNat
          · rw [if_pos c2]
            exact Ev.congr (f := fun _ => some 1) (fun k => by rw [if_neg (by omega), if_pos (by omega)]) (Ev.now _)
          · rw [if_neg c2]
            exact Ev.congr (f := fun k => jointerref01_texts.l0 k a b ((i + 1 : Nat) : Int)) (fun k => by rw [if_neg (by omega), if_neg (by omega)]) (ih (i + 1) (by omega) (by omega))
theorem texts_ev (a b : ByteArray) (ha : a.size ≤ 1099511627776) : Ev (fun k => jointerref01_texts.f k a b) (Lib.compareBytes a.data.toList b.data.toList) := by
  have h := texts_l0 a b ha a.size 0 (by omega) (by omega)
  rw [List.drop_zero, List.drop_zero] at h
  exact h
theorem valid_text {v : V} (h : validV v = true) : v.f2.size ≤ 1099511627776 := by
  rcases valid_kind h with h0 | h0 | h0 | h0
  all_goals
    unfold validV at h
    simp [h0] at h
  · rw [noText_eq h.2]; decide
  · rw [noText_eq h]; decide
  · have := h.2; omega
  · rw [noText_eq h.1]; decide
theorem compare_ev (a b : V) (ha : validV a = true) (h0 : 0 ≤ a.f0 ∧ a.f0 ≤ 255) (h1 : 0 ≤ b.f0 ∧ b.f0 ≤ 255) : Ev (fun k => jointerref01_Compare.f k a.f0 a.f1 a.f2 b.f0 b.f1 b.f2) (compareV a b) := by
  have hk : a.f0 = 0 ∨ a.f0 = 1 ∨ a.f0 = 2 ∨ a.f0 = 3 := valid_kind ha
  unfold compareV
  by_cases c : a.f0 = b.f0
  · have e : cmpI a.f0 b.f0 = 0 := by unfold cmpI; rw [if_neg (by omega), if_neg (by omega)]
    rw [if_pos e]
    by_cases c0 : a.f0 = 0
    · rw [if_pos c0]
      exact Ev.congr (f := fun _ => some 0) (fun k => by unfold jointerref01_Compare.f; rw [if_pos c, if_pos c0]) (Ev.now _)
    · rw [if_neg c0]
      by_cases c2 : a.f0 = 2
      · rw [if_pos c2]
        refine Ev.congr (f := fun k => jointerref01_Compare.j0 k a.f0 false a.f0 a.f1 a.f2 b.f0 b.f1 b.f2) (fun k => by unfold jointerref01_Compare.f; rw [if_pos c, if_neg c0, if_neg (by omega), show (a.f0 == 3) = false by simp [c2]]) ?_
        refine Ev.step (f := fun k => (jointerref01_texts.f k a.f2 b.f2).bind fun t => some t) (fun k => by simp only [jointerref01_Compare.j0]; rw [if_neg (by simp), if_pos c2]) ?_
        exact Ev.bind (texts_ev _ _ (valid_text ha)) (Ev.now _)
      · rw [if_neg c2]
        refine Ev.congr (f := fun k => jointerref01_Compare.j0 k a.f0 true a.f0 a.f1 a.f2 b.f0 b.f1 b.f2) (fun k => ?_) ?_
        · unfold jointerref01_Compare.f
          rw [if_pos c, if_neg c0]
          by_cases c1 : a.f0 = 1
          · rw [if_pos c1, show (a.f0 == 1) = true by simp [c1]]
          · rw [if_neg c1, show (a.f0 == 3) = true by simp; omega]
        · refine Ev.step (f := fun _ => some (cmpI a.f1 b.f1)) (fun k => by simp only [jointerref01_Compare.j0]; rw [if_pos trivial, ints_eq]; rfl) (Ev.now _)
  · have e : ¬ cmpI a.f0 b.f0 = 0 := fun h => c (cmpI_zero h)
    rw [if_neg e]
    have w : ∀ x : Int, 0 ≤ x ∧ x ≤ 255 → wrap64 x = x := fun x hx => by unfold wrap64; omega
    exact Ev.congr (f := fun _ => some (cmpI a.f0 b.f0)) (fun k => by unfold jointerref01_Compare.f; rw [if_neg c, ints_eq, w _ h0, w _ h1]; rfl) (Ev.now _)
theorem valid_f0 {v : V} (h : validV v = true) : 0 ≤ v.f0 ∧ v.f0 ≤ 255 := by
  rcases valid_kind h with h0 | h0 | h0 | h0 <;> omega
theorem rdV_mem {xs : List V} {n : Int} (h0 : 0 ≤ n) (h1 : n < (xs.length : Int)) : rd_T36 xs n ∈ xs := by
  have : n.toNat < xs.length := by omega
  have e : rd_T36 xs n = xs[n.toNat] := by simp [rd_T36, List.getElem?_eq_getElem this]
  rw [e]
  exact List.getElem_mem this
theorem compareBy_l0 (a b : List V) (ks : List KeyT) (ha : ∀ v ∈ a, validV v = true) (hb : ∀ v ∈ b, validV v = true) (hka : KeysIn ks a.length) (hkb : KeysIn ks b.length) (hn : ks.length ≤ 1099511627776) : ∀ (d i : Nat), i + d = ks.length →
    Ev (fun k => jointerref06_CompareBy.l0 k a b ks (i : Int)) (cmpBy (ks.drop i) a b) := by
  intro d
  induction d with
  | zero =>
    intro i hi
    rw [List.drop_eq_nil_of_le (by omega)]
    refine Ev.step (f := fun _ => some 0) (fun k => ?_) (Ev.now _)
    simp only [jointerref06_CompareBy.l0]
    rw [if_neg (by omega)]
  | succ d ih =>
    intro i hi
    have hlt : i < ks.length := by omega
    rw [drop_cons ks i hlt]
    obtain ⟨key, hkey⟩ : ∃ key, key = ks[i] := ⟨_, rfl⟩
    have h1 := hka _ (List.getElem_mem hlt)
    have h2 := hkb _ (List.getElem_mem hlt)
    rw [← hkey] at h1 h2 ⊢
    have va := ha _ (rdV_mem h1.1 h1.2)
    have vb := hb _ (rdV_mem h2.1 h2.2)
    have hc := compare_ev _ _ va (valid_f0 va) (valid_f0 vb)
    have hbd := compareV_bd (rd_T36 a key.f0) (rd_T36 b key.f0)
    refine Ev.step (f := fun k => jointerref06_CompareBy.j1 k a b ks (i : Int) key.f0 false) (fun k => ?_) ?_
    · simp only [jointerref06_CompareBy.l0]
      rw [if_pos (by omega), if_pos (by omega), rdK_at hlt, ← hkey, if_neg (by omega), if_neg (by omega), decide_eq_false (by omega)]
    refine Ev.step (f := fun k => (jointerref01_Compare.f k (rd_T36 a key.f0).f0 (rd_T36 a key.f0).f1 (rd_T36 a key.f0).f2 (rd_T36 b key.f0).f0 (rd_T36 b key.f0).f1 (rd_T36 b key.f0).f2).bind fun t => if t = 0 then jointerref06_CompareBy.j2 k a b ks (i : Int) t false else jointerref06_CompareBy.j2 k a b ks (i : Int) t key.f1) (fun k => ?_) (Ev.bind hc ?_)
    · simp only [jointerref06_CompareBy.j1]
      rw [if_neg (by simp), if_pos h1.1, if_pos h1.2, if_pos h2.2]
      congr 1
      funext t
      split
      · rfl
      · rw [if_pos (by omega), if_pos (by omega), rdK_at hlt, ← hkey]
    simp only [cmpBy]
    by_cases c : compareV (rd_T36 a key.f0) (rd_T36 b key.f0) = 0
    · rw [if_pos c]
      refine Ev.congr (f := fun k => jointerref06_CompareBy.j2 k a b ks (i : Int) 0 false) (fun k => by rw [c, if_pos rfl]) ?_
      refine Ev.step (fun k => ?_) (ih (i + 1) (by omega))
      simp only [jointerref06_CompareBy.j2]
      rw [if_neg (by simp), if_pos trivial, w64 _ (by omega) (by omega)]
      rfl
    · rw [if_neg c]
      obtain ⟨x, hx⟩ : ∃ x, x = compareV (rd_T36 a key.f0) (rd_T36 b key.f0) := ⟨_, rfl⟩
      rw [← hx] at c hbd ⊢
      refine Ev.congr (f := fun k => jointerref06_CompareBy.j2 k a b ks (i : Int) x key.f1) (fun k => by rw [if_neg c]) ?_
      by_cases c1 : key.f1 = true
      · rw [if_pos c1]
        refine Ev.step (f := fun _ => some (-x)) (fun k => ?_) (Ev.now _)
        simp only [jointerref06_CompareBy.j2]
        rw [if_pos c1]
        congr 1
        unfold wrap64
        omega
      · rw [if_neg c1]
        refine Ev.step (f := fun _ => some x) (fun k => ?_) (Ev.now _)
        simp only [jointerref06_CompareBy.j2]
        rw [if_neg c1, if_neg c]
theorem compareBy_ev (a b : List V) (ks : List KeyT) (ha : RowGood ks a) (hb : RowGood ks b) (hn : ks.length ≤ 1099511627776) : Ev (fun k => jointerref06_CompareBy.f k a b ks) (cmpBy ks a b) :=
  compareBy_l0 a b ks ha.valid hb.valid ha.keys hb.keys hn ks.length 0 (by omega)
theorem compareRows_l0 (a b : List V) (ha : ∀ v ∈ a, validV v = true) (hb : ∀ v ∈ b, validV v = true) (hn : a.length ≤ 1099511627776) : ∀ (d i : Nat), i + d = a.length → i ≤ b.length →
    Ev (fun k => jointerref01_CompareRows.l0 k a b (i : Int)) (cmpRows (a.drop i) (b.drop i)) := by
  intro d
  induction d with
  | zero =>
    intro i hi hb'
    rw [List.drop_eq_nil_of_le (show a.length ≤ i by omega)]
    refine Ev.step (f := fun k => jointerref01_CompareRows.j1 k a b (i : Int) false) (fun k => by simp only [jointerref01_CompareRows.l0]; rw [if_neg (by omega)]) ?_
    refine Ev.step (f := fun _ => some (cmpI (a.length : Int) (b.length : Int))) (fun k => by simp only [jointerref01_CompareRows.j1]; rw [if_neg (by simp), ints_eq]; rfl) ?_
    have e : cmpI (a.length : Int) (b.length : Int) = cmpRows [] (b.drop i) := by
      rw [cmpRows_nil, List.length_drop]
      unfold cmpI
      by_cases c : i = b.length
      · rw [if_neg (by omega), if_neg (by omega), if_pos (by omega)]
      · rw [if_pos (by omega), if_neg (by omega)]
    rw [e]
    exact Ev.now _
  | succ d ih =>
    intro i hi hb'
    have hia : i < a.length := by omega
    rw [drop_cons a i hia]
    by_cases c : i = b.length
    · rw [List.drop_eq_nil_of_le (show b.length ≤ i by omega)]
      refine Ev.step (f := fun k => jointerref01_CompareRows.j1 k a b (i : Int) false) (fun k => by simp only [jointerref01_CompareRows.l0]; rw [if_pos (by omega), decide_eq_false (by omega)]) ?_
      refine Ev.step (f := fun _ => some (cmpI (a.length : Int) (b.length : Int))) (fun k => by simp only [jointerref01_CompareRows.j1]; rw [if_neg (by simp), ints_eq]; rfl) ?_
      have e : cmpI (a.length : Int) (b.length : Int) = cmpRows (a[i] :: a.drop (i + 1)) [] := by
        simp only [cmpRows]
        unfold cmpI
        rw [if_neg (by omega), if_pos (by omega)]
      rw [e]
      exact Ev.now _
    · have hib : i < b.length := by omega
      rw [drop_cons b i hib]
      have va := ha _ (List.getElem_mem hia)
      have vb := hb _ (List.getElem_mem hib)
      have hc := compare_ev _ _ va (valid_f0 va) (valid_f0 vb)
      refine Ev.step (f := fun k => jointerref01_CompareRows.j1 k a b (i : Int) true) (fun k => by simp only [jointerref01_CompareRows.l0]; rw [if_pos (by omega), decide_eq_true (by omega)]) ?_
      refine Ev.step (f := fun k => (jointerref01_Compare.f k (a[i]).f0 (a[i]).f1 (a[i]).f2 (b[i]).f0 (b[i]).f1 (b[i]).f2).bind fun t => if t = 0 then jointerref01_CompareRows.l0 k a b ((i + 1 : Nat) : Int) else some t) (fun k => ?_) (Ev.bind hc ?_)
      · simp only [jointerref01_CompareRows.j1]
        rw [if_pos trivial, if_pos (by omega), if_pos (by omega), if_pos (by omega), rdV_at hia, rdV_at hib, w64 _ (by omega) (by omega)]
        rfl
      · simp only [cmpRows]
        by_cases c0 : compareV a[i] b[i] = 0
        · rw [if_pos c0]
          exact Ev.congr (fun k => by rw [if_pos c0]) (ih (i + 1) (by omega) (by omega))
        · rw [if_neg c0]
          exact Ev.congr (f := fun _ => some (compareV a[i] b[i])) (fun k => by rw [if_neg c0]) (Ev.now _)
theorem compareRows_ev (a b : List V) (ha : ∀ v ∈ a, validV v = true) (hb : ∀ v ∈ b, validV v = true) (hn : a.length ≤ 1099511627776) : Ev (fun k => jointerref01_CompareRows.f k a b) (cmpRows a b) :=
  compareRows_l0 a b ha hb hn a.length 0 (by omega) (by omega)
theorem before_ev (a b : List V) (ks : List KeyT) (ha : RowGood ks a) (hb : RowGood ks b) (hn : ks.length ≤ 1099511627776) : Ev (fun k => jointerref06_before.f k a b ks) (decide (cmpFull ks a b < 0)) := by
  unfold jointerref06_before.f cmpFull
  refine Ev.bind (compareBy_ev a b ks ha hb hn) ?_
  by_cases c : cmpBy ks a b = 0
  · rw [if_pos c]
    exact Ev.congr (fun k => by rw [if_pos c]) (Ev.bind (compareRows_ev a b ha.valid hb.valid ha.len) (Ev.now _))
  · rw [if_neg c]
    exact Ev.congr (f := fun _ => some (decide (cmpBy ks a b < 0))) (fun k => by rw [if_neg c]) (Ev.now _)
def leF (ks : List KeyT) (a b : List V) : Bool := decide (cmpFull ks a b ≤ 0)
theorem leF_trans (ks : List KeyT) (a b c : List V) (h1 : leF ks a b = true) (h2 : leF ks b c = true) : leF ks a c = true :=
  decide_eq_true ((cmpFull_ord ks).trans a b c (of_decide_eq_true h1) (of_decide_eq_true h2))
theorem leF_total (ks : List KeyT) (a b : List V) : (leF ks a b || leF ks b a) = true := by
  have := (cmpFull_ord ks).flip a b
  unfold leF
  simp only [Bool.or_eq_true, decide_eq_true_eq]
  omega
theorem merge_l0 (a b : List (List V)) (ks : List KeyT) (ha : ∀ r ∈ a, RowGood ks r) (hb : ∀ r ∈ b, RowGood ks r) (hk : ks.length ≤ 1099511627776) (hn : a.length + b.length ≤ 1099511627776) : ∀ (d i j : Nat) (xs : List (List V)), i + j + d = a.length + b.length → i ≤ a.length → j ≤ b.length → xs.length = i + j →
    Ev (fun k => jointerref06_merge.l0 k a b ks xs (i : Int) (j : Int)) (xs ++ List.merge (a.drop i) (b.drop j) (leF ks)) := by
  intro d
  induction d with
  | zero =>
    intro i j xs hd hi hj hx
    rw [List.drop_eq_nil_of_le (by omega), List.drop_eq_nil_of_le (by omega), List.nil_merge, List.append_nil]
    refine Ev.step (f := fun k => jointerref06_merge.j1 k a b ks xs (i : Int) (j : Int) false) (fun k => by simp only [jointerref06_merge.l0]; rw [if_neg (by omega), decide_eq_false (by omega)]) ?_
    exact Ev.step (f := fun _ => some xs) (fun k => by simp only [jointerref06_merge.j1]; rw [if_neg (by simp)]) (Ev.now _)
  | succ d ih =>
    intro i j xs hd hi hj hx
    have takeA : ∀ (hia : i < a.length), Ev (fun k => jointerref06_merge.l0 k a b ks (xs ++ [a[i]]) ((i + 1 : Nat) : Int) (j : Int)) ((xs ++ [a[i]]) ++ List.merge (a.drop (i + 1)) (b.drop j) (leF ks)) := fun hia => ih (i + 1) j _ (by omega) (by omega) hj (by simp; omega)
    have takeB : ∀ (hjb : j < b.length), Ev (fun k => jointerref06_merge.l0 k a b ks (xs ++ [b[j]]) (i : Int) ((j + 1 : Nat) : Int)) ((xs ++ [b[j]]) ++ List.merge (a.drop i) (b.drop (j + 1)) (leF ks)) := fun hjb => ih i (j + 1) _ (by omega) hi (by omega) (by simp; omega)
    have enter : ∀ r, Ev (fun k => jointerref06_merge.j1 k a b ks xs (i : Int) (j : Int) true) r → Ev (fun k => jointerref06_merge.l0 k a b ks xs (i : Int) (j : Int)) r := fun r h => by
      refine Ev.step (fun k => ?_) h
      simp only [jointerref06_merge.l0]
      by_cases c : i < a.length
      · rw [if_pos (by omega)]
      · rw [if_neg (by omega), decide_eq_true (by omega)]
    refine enter _ ?_
    by_cases cj : j < b.length
    · by_cases ci : i < a.length
      · have hc := before_ev b[j] a[i] ks (hb _ (List.getElem_mem cj)) (ha _ (List.getElem_mem ci)) hk
        refine Ev.step (f := fun k => (jointerref06_before.f k b[j] a[i] ks).bind fun t => if t = true then jointerref06_merge.l0 k a b ks (xs ++ [b[j]]) (i : Int) ((j + 1 : Nat) : Int) else jointerref06_merge.l0 k a b ks (xs ++ [a[i]]) ((i + 1 : Nat) : Int) (j : Int)) (fun k => ?_) (Ev.bind hc ?_)
        · simp only [jointerref06_merge.j1]
          rw [if_pos trivial, if_neg (by omega), if_pos (by omega), if_pos (by omega), if_pos (by omega), if_pos (by omega), rdL_at ci, rdL_at cj, w64 _ (by omega) (by omega), w64 _ (by omega) (by omega)]
          congr 1
          funext t
          by_cases ht : t = true
          · rw [if_pos ht, if_pos ht, if_pos (by omega)]; rfl
          · rw [if_neg ht, if_neg ht, if_pos (by omega)]; rfl
        · have hfl := (cmpFull_ord ks).flip b[j] a[i]
          rw [drop_cons a i ci, drop_cons b j cj, List.cons_merge_cons]
          by_cases c : cmpFull ks b[j] a[i] < 0
          · rw [if_neg (by unfold leF; simp; omega)]
            refine Ev.congr (fun k => if_pos (decide_eq_true c)) ?_
            have h := takeB cj
            rw [drop_cons a i ci] at h
            simpa using h
          · rw [if_pos (by unfold leF; simp; omega)]
            refine Ev.congr (fun k => if_neg (by simpa using c)) ?_
            have h := takeA ci
            rw [drop_cons b j cj] at h
            simpa using h
      · refine Ev.step (f := fun k => jointerref06_merge.l0 k a b ks (xs ++ [b[j]]) (i : Int) ((j + 1 : Nat) : Int)) (fun k => ?_) ?_
        · simp only [jointerref06_merge.j1]
          rw [if_pos trivial, if_neg (by omega), if_neg (by omega), if_pos (by omega), if_pos (by omega), if_pos (by omega), rdL_at cj, w64 _ (by omega) (by omega)]
          rfl
        · have h := takeB cj
          rw [List.drop_eq_nil_of_le (show a.length ≤ i by omega), List.nil_merge] at h ⊢
          rw [drop_cons b j cj]
          simpa using h
    · have ci : i < a.length := by omega
      refine Ev.step (f := fun k => jointerref06_merge.l0 k a b ks (xs ++ [a[i]]) ((i + 1 : Nat) : Int) (j : Int)) (fun k => ?_) ?_
      · simp only [jointerref06_merge.j1]
        rw [if_pos trivial, if_pos (by omega), if_pos (by omega), if_pos (by omega), if_pos (by omega), rdL_at ci, w64 _ (by omega) (by omega)]
        rfl
      · have h := takeA ci
        rw [List.drop_eq_nil_of_le (show b.length ≤ j by omega), List.merge_right] at h ⊢
        rw [drop_cons a i ci]
        simpa using h
theorem merge_ev (a b : List (List V)) (ks : List KeyT) (ha : ∀ r ∈ a, RowGood ks r) (hb : ∀ r ∈ b, RowGood ks r) (hk : ks.length ≤ 1099511627776) (hn : a.length + b.length ≤ 1099511627776) : Ev (fun k => jointerref06_merge.f k a b ks) (List.merge a b (leF ks)) :=
  merge_l0 a b ks ha hb hk hn (a.length + b.length) 0 0 [] (by omega) (by omega) (by omega) rfl
theorem copyOf_l0 (l : List V) (hn : l.length ≤ 1099511627776) : ∀ (d i : Nat), i + d = l.length → Ev (fun k => jointerref06_copyOf.l0 k l (l.take i) (i : Int)) l := by
  intro d
  induction d with
  | zero =>
    intro i hi
    rw [List.take_of_length_le (by omega)]
    refine Ev.step (f := fun _ => some l) (fun k => ?_) (Ev.now _)
    simp only [jointerref06_copyOf.l0]
    rw [if_neg (by omega)]
  | succ d ih =>
    intro i hi
    have hlt : i < l.length := by omega
    refine Ev.step (fun k => ?_) (ih (i + 1) (by omega))
    simp only [jointerref06_copyOf.l0]
    rw [if_pos (by omega), if_pos (by omega), if_pos (by rw [List.length_take]; omega), rdV_at hlt, w64 _ (by omega) (by omega), take_snoc l i hlt]
    rfl
theorem copyOf_ev (l : List V) (hn : l.length ≤ 1099511627776) : Ev (fun k => jointerref06_copyOf.f k l) l := by
  have h := copyOf_l0 l hn l.length 0 (by omega)
  rw [List.take_zero] at h
  exact h
def pairR (ks : List KeyT) : List (List (List V)) → List (List (List V))
  | [] => []
  | [x] => [x]
  | x :: y :: r => List.merge x y (leF ks) :: pairR ks r
theorem pairR_perm (ks : List KeyT) : ∀ ls : List (List (List V)), (pairR ks ls).flatten.Perm ls.flatten
  | [] => List.Perm.refl _
  | [x] => List.Perm.refl _
  | x :: y :: r => by
    simp only [pairR, List.flatten_cons]
    rw [← List.append_assoc]
    exact (List.merge_perm_append (leF ks)).append (pairR_perm ks r)
theorem pairR_len (ks : List KeyT) : ∀ ls : List (List (List V)), (pairR ks ls).length = (ls.length + 1) / 2
  | [] => by simp [pairR]
  | [x] => by simp [pairR]
  | x :: y :: r => by
    simp only [pairR, List.length_cons, pairR_len ks r]
    omega
theorem pairR_sorted (ks : List KeyT) : ∀ ls : List (List (List V)), (∀ x ∈ ls, x.Pairwise (fun a b => leF ks a b = true)) → ∀ x ∈ pairR ks ls, x.Pairwise (fun a b => leF ks a b = true)
  | [], _ => by simp [pairR]
  | [x], h => h
  | x :: y :: r, h => by
    intro z hz
    simp only [pairR] at hz
    rcases List.mem_cons.1 hz with rfl | hz
    · exact List.pairwise_merge (leF_trans ks) (leF_total ks) x y (h x (by simp)) (h y (by simp))
    · exact pairR_sorted ks r (fun u hu => h u (by simp [hu])) z hz
theorem w64_2 (x : Int) (h0 : 0 ≤ x) (h1 : x ≤ 1099511627776) : wrap64 (x + 2) = x + 2 := by unfold wrap64; omega
theorem rdL7_at {xs : List (List (List V))} {i : Nat} (h : i < xs.length) : rd_L7 xs (i : Int) = xs[i] := by simp [rd_L7, List.getElem?_eq_getElem h]
theorem len_flat {ls : List (List (List V))} {i : Nat} (h : i < ls.length) : (ls.drop i).flatten.length = (ls[i]).length + (ls.drop (i + 1)).flatten.length := by
  rw [drop_cons ls i h, List.flatten_cons, List.length_append]
theorem full_l2 (ks : List KeyT) (ls : List (List (List V))) (hG : ∀ x ∈ ls, ∀ r ∈ x, RowGood ks r) (hk : ks.length ≤ 1099511627776) (hn : ls.length ≤ 1099511627776) (out : List (List V)) :
    ∀ (n i : Nat) (xs : List (List (List V))), ls.length - i ≤ n → xs.length ≤ i → i ≤ ls.length + 1 → (ls.drop i).flatten.length ≤ 1099511627776 → Ev (fun k => jointerref06_full.l1 k ks (xs ++ pairR ks (ls.drop i))) out → Ev (fun k => jointerref06_full.l2 k ks ls xs (i : Int)) out := by
  have fin : ∀ (i : Nat) (xs : List (List (List V))), ls.length ≤ i → Ev (fun k => jointerref06_full.l1 k ks (xs ++ pairR ks (ls.drop i))) out → Ev (fun k => jointerref06_full.l2 k ks ls xs (i : Int)) out := fun i xs hi h => by
    rw [List.drop_eq_nil_of_le hi, pairR, List.append_nil] at h
    refine Ev.step (fun k => ?_) h
    simp only [jointerref06_full.l2]
    rw [if_neg (by omega)]
  intro n
  induction n with
  | zero => exact fun i xs hi _ _ _ h => fin i xs (by omega) h
  | succ n ih =>
    intro i xs hi hx hil hf h
    by_cases c : ls.length ≤ i
    · exact fin i xs c h
    have hlt : i < ls.length := by omega
    have hf1 := len_flat hlt
    by_cases c1 : i + 1 < ls.length
    · have hf2 := len_flat c1
      rw [drop_cons ls i hlt, drop_cons ls (i + 1) c1, pairR] at h
      have e : (((i : Nat) : Int) + 2) = ((i + 2 : Nat) : Int) := by omega
      have e1 : (((i : Nat) : Int) + 1) = ((i + 1 : Nat) : Int) := by omega
      refine Ev.step (f := fun k => (jointerref06_merge.f k ls[i] ls[i + 1] ks).bind fun t => jointerref06_full.l2 k ks ls (xs ++ [t]) ((i + 2 : Nat) : Int)) (fun k => ?_) (Ev.bind (merge_ev ls[i] ls[i + 1] ks (hG _ (List.getElem_mem hlt)) (hG _ (List.getElem_mem c1)) hk (by omega)) ?_)
      · simp only [jointerref06_full.l2]
        rw [w64 _ (by omega) (by omega), w64_2 _ (by omega) (by omega), if_pos (by omega), if_pos (by omega), if_pos (by omega), if_pos (by omega), e, e1, rdL7_at hlt, rdL7_at c1]
        congr 1
        funext t
        rw [if_pos (by omega)]
      · refine ih (i + 2) _ (by omega) (by simp; omega) (by omega) (by show (ls.drop (i + 1 + 1)).flatten.length ≤ _; omega) ?_
        simpa using h
    · have h2 : ls.drop (i + 1) = [] := List.drop_eq_nil_of_le (by omega)
      rw [drop_cons ls i hlt, h2, pairR] at h
      have e : (((i : Nat) : Int) + 2) = ((i + 2 : Nat) : Int) := by omega
      refine Ev.step (f := fun k => jointerref06_full.l2 k ks ls (xs ++ [ls[i]]) ((i + 2 : Nat) : Int)) (fun k => ?_) (ih (i + 2) (xs ++ [ls[i]]) (by omega) (by simp; omega) (by omega) (by rw [List.drop_eq_nil_of_le (show ls.length ≤ i + 2 by omega)]; exact Nat.zero_le _) ?_)
      · simp only [jointerref06_full.l2]
        rw [w64 _ (by omega) (by omega), w64_2 _ (by omega) (by omega), if_pos (by omega), if_neg (by omega), if_pos (by omega), if_pos (by omega), e, rdL7_at hlt]
      · rw [List.drop_eq_nil_of_le (show ls.length ≤ i + 2 by omega), pairR, List.append_nil]
        exact h
theorem full_l1 (ks : List KeyT) (hk : ks.length ≤ 1099511627776) : ∀ (n : Nat) (ls : List (List (List V))), ls.length ≤ n → (∀ x ∈ ls, ∀ r ∈ x, RowGood ks r) → (∀ x ∈ ls, x.Pairwise (fun a b => leF ks a b = true)) → ls.length ≤ 1099511627776 → ls.flatten.length ≤ 1099511627776 →
    Ev (fun k => jointerref06_full.l1 k ks ls) (sortR ks ls.flatten) := by
  intro n
  induction n with
  | zero =>
    intro ls hl hG hS hn hf
    obtain rfl : ls = [] := List.eq_nil_of_length_eq_zero (by omega)
    refine Ev.step (f := fun _ => some ([] : List (List V))) (fun k => ?_) ?_
    · simp only [jointerref06_full.l1]
      rw [if_neg (by simp), if_pos (by simp)]
    · have e : sortR ks ([] : List (List (List V))).flatten = [] := by simp [sortR]
      rw [e]
      exact Ev.now _
  | succ n ih =>
    intro ls hl hG hS hn hf
    by_cases c : 1 < ls.length
    · have hp := pairR_perm ks ls
      have hlen := pairR_len ks ls
      have hGp : ∀ x ∈ pairR ks ls, ∀ r ∈ x, RowGood ks r := fun x hx r hr => by
        have : r ∈ ls.flatten := hp.mem_iff.1 (List.mem_flatten.2 ⟨x, hx, hr⟩)
        obtain ⟨y, hy, hry⟩ := List.mem_flatten.1 this
        exact hG y hy r hry
      have h := ih (pairR ks ls) (by omega) hGp (pairR_sorted ks ls hS) (by omega) (by rw [hp.length_eq]; exact hf)
      have hv : ∀ row ∈ ls.flatten, ∀ v ∈ row, validV v = true := fun row hrow => by
        obtain ⟨y, hy, hry⟩ := List.mem_flatten.1 hrow
        exact (hG y hy row hry).valid
      rw [sortR_congr hv hp.symm] at h
      refine Ev.step (f := fun k => jointerref06_full.l2 k ks ls ([] : List (List (List V))) ((0 : Nat) : Int)) (fun k => ?_) (full_l2 ks ls hG hk hn _ ls.length 0 [] (by omega) (by simp) (by omega) (by rw [List.drop_zero]; exact hf) (by rw [List.drop_zero, List.nil_append]; exact h))
      simp only [jointerref06_full.l1]
      rw [if_pos (by omega)]
      rfl
    · by_cases c0 : ls.length = 0
      · obtain rfl : ls = [] := List.eq_nil_of_length_eq_zero c0
        refine Ev.step (f := fun _ => some ([] : List (List V))) (fun k => ?_) ?_
        · simp only [jointerref06_full.l1]
          rw [if_neg (by simp), if_pos (by simp)]
        · have e : sortR ks ([] : List (List (List V))).flatten = [] := by simp [sortR]
          rw [e]
          exact Ev.now _
      · obtain ⟨x, rfl⟩ := List.length_eq_one_iff.1 (show ls.length = 1 by omega)
        refine Ev.step (f := fun _ => some x) (fun k => ?_) ?_
        · simp only [jointerref06_full.l1]
          rw [if_neg (by simp), if_neg (by simp), if_pos (by simp)]
          rfl
        · have e : sortR ks [x].flatten = x := by
            have : [x].flatten = x := by simp
            rw [this]
            exact (sortR_unique (fun row hrow => (hG x (by simp) row hrow).valid) (List.Perm.refl _) ((hS x (by simp)).imp (fun h => of_decide_eq_true h))).symm
          rw [e]
          exact Ev.now _
theorem full_l0 (l : List (List V)) (ks : List KeyT) (hr : ∀ r ∈ l, r.length ≤ 1099511627776) (hn : l.length ≤ 1099511627776) (out : List (List V)) (h : Ev (fun k => jointerref06_full.l1 k ks (l.map (fun r => [r]))) out) : ∀ (d i : Nat), i + d = l.length →
    Ev (fun k => jointerref06_full.l0 k l ks ((l.take i).map (fun r => [r])) (i : Int)) out := by
  intro d
  induction d with
  | zero =>
    intro i hi
    rw [List.take_of_length_le (by omega)]
    refine Ev.step (fun k => ?_) h
    simp only [jointerref06_full.l0]
    rw [if_neg (by omega)]
  | succ d ih =>
    intro i hi
    have hlt : i < l.length := by omega
    refine Ev.step (f := fun k => (jointerref06_copyOf.f k l[i]).bind fun t => jointerref06_full.l0 k l ks ((l.take i).map (fun r => [r]) ++ [[t]]) ((i + 1 : Nat) : Int)) (fun k => ?_) (Ev.bind (copyOf_ev l[i] (hr _ (List.getElem_mem hlt))) ?_)
    · simp only [jointerref06_full.l0]
      rw [if_pos (by omega), if_pos (by omega), rdL_at hlt, w64 _ (by omega) (by omega)]
      congr 1
      funext t
      rw [if_pos (by rw [List.length_map, List.length_take]; omega)]
      rfl
    · have e : (l.take i).map (fun r => [r]) ++ [[l[i]]] = (l.take (i + 1)).map (fun r => [r]) := by rw [take_snoc l i hlt, List.map_append]; rfl
      simp only [e]
      exact ih (i + 1) (by omega)
theorem flat_single (l : List (List V)) : (l.map (fun r => [r])).flatten = l := by
  induction l with
  | nil => rfl
  | cons r l ih => simp [ih]
theorem full_ev (l : List (List V)) (ks : List KeyT) (hG : ∀ row ∈ l, RowGood ks row) (hn : l.length ≤ 1099511627776) (hk : ks.length ≤ 1099511627776) : Ev (fun k => jointerref06_full.f k l ks) (sortR ks l) := by
  have h := full_l1 ks hk l.length (l.map (fun r => [r])) (by simp) (fun x hx r hr => by
    obtain ⟨y, hy, rfl⟩ := List.mem_map.1 hx
    obtain rfl : r = y := by simpa using hr
    exact hG r hy) (fun x hx => by
    obtain ⟨y, hy, rfl⟩ := List.mem_map.1 hx
    simp) (by simpa using hn) (by rw [flat_single]; exact hn)
  rw [flat_single] at h
  exact full_l0 l ks (fun r hr => (hG r hr).len) hn _ h l.length 0 (by omega)
theorem column_eq (l : List (List V)) (n : Int) : jointerref06_Column.f l n = some (hasB l n) := by
  unfold jointerref06_Column.f hasB
  by_cases c0 : n < 0
  · rw [if_pos c0]
    cases l <;> simp <;> omega
  · rw [if_neg c0]
    by_cases c1 : n ≥ 64
    · rw [if_pos c1]
      cases l <;> simp <;> omega
    · rw [if_neg c1]
      cases l with
      | nil => simp; omega
      | cons r rs =>
        rw [if_neg (by simp only [List.length_cons]; omega), if_pos (by simp only [List.length_cons]; omega)]
        have e : rd_L4 (r :: rs) 0 = r := rfl
        rw [e]
        congr 1
        rw [decide_eq_decide]
        omega
theorem keysFit_l0 (l : List (List V)) (ks : List KeyT) (hk : ks.length ≤ 1099511627776) : ∀ (d i : Nat), i + d = ks.length → Ev (fun k => jointerref06_keysFit.l0 k l ks (i : Int)) (keysB l (ks.drop i)) := by
  intro d
  induction d with
  | zero =>
    intro i hi
    rw [List.drop_eq_nil_of_le (by omega)]
    refine Ev.step (f := fun _ => some true) (fun k => ?_) (Ev.now _)
    simp only [jointerref06_keysFit.l0]
    rw [if_neg (by omega)]
  | succ d ih =>
    intro i hi
    have hlt : i < ks.length := by omega
    rw [drop_cons ks i hlt]
    have e : keysB l (ks[i] :: ks.drop (i + 1)) = (hasB l ks[i].f0 && keysB l (ks.drop (i + 1))) := rfl
    rw [e]
    refine Ev.step (f := fun k => if hasB l ks[i].f0 = true then jointerref06_keysFit.l0 k l ks ((i + 1 : Nat) : Int) else some false) (fun k => ?_) ?_
    · simp only [jointerref06_keysFit.l0]
      rw [if_pos (by omega), if_pos (by omega), rdK_at hlt, column_eq, w64 _ (by omega) (by omega)]
      rfl
    · cases hh : hasB l ks[i].f0 with
      | true =>
        rw [Bool.true_and]
        exact Ev.congr (fun k => if_pos rfl) (ih (i + 1) (by omega))
      | false =>
        rw [Bool.false_and]
        exact Ev.congr (fun k => if_neg (by simp)) (Ev.now _)
theorem keysFit_ev (l : List (List V)) (ks : List KeyT) (hk : ks.length ≤ 1099511627776) : Ev (fun k => jointerref06_keysFit.f k l ks) (keysB l ks) :=
  keysFit_l0 l ks hk ks.length 0 (by omega)
theorem rsort_ev (l : List (List V)) (ks : List KeyT) (hl : RowsV l) (hk : ks.length ≤ 1099511627776) : Ev (fun k => jointerref06_Sort.f k l ks) (if fitsB l ks = true then (sortR ks l, 0) else ([], 1)) := by
  unfold jointerref06_Sort.f
  refine Ev.bind (rvalid_ev l hl) ?_
  cases hv : validB l with
  | false =>
    rw [if_neg (by unfold fitsB; rw [hv]; simp)]
    exact Ev.congr (f := fun _ => some (([] : List (List V)), (1 : Int))) (fun k => if_neg (by simp)) (Ev.now _)
  | true =>
    refine Ev.congr (fun k => if_pos rfl) (Ev.bind (keysFit_ev l ks hk) ?_)
    cases hf : keysB l ks with
    | false =>
      rw [if_neg (by unfold fitsB; rw [hf]; simp)]
      exact Ev.congr (f := fun _ => some (([] : List (List V)), (1 : Int))) (fun k => if_neg (by simp)) (Ev.now _)
    | true =>
      have hfit : fitsB l ks = true := by unfold fitsB; rw [hv, hf]; rfl
      rw [if_pos hfit]
      exact Ev.congr (fun k => if_pos rfl) (Ev.bind (full_ev l ks (fits_good hl hfit) hl.2 hk) (Ev.now _))
theorem cut_l0 (a n : Int) (s : List (List V)) (h0 : 0 ≤ a) (h1 : 0 ≤ n) (hn : s.length ≤ 1099511627776) : ∀ (d i : Nat) (xs : List (List V)), i + d = s.length → xs.length ≤ i →
    Ev (fun k => jointerref06_Cut.l0 k a n s xs (i : Int)) (xs ++ (s.drop (max i a.toNat)).take (n.toNat + a.toNat - max i a.toNat), 0) := by
  intro d
  induction d with
  | zero =>
    intro i xs hi hx
    rw [List.drop_eq_nil_of_le (by omega), List.take_nil, List.append_nil]
    refine Ev.step (f := fun _ => some (xs, (0 : Int))) (fun k => ?_) (Ev.now _)
    simp only [jointerref06_Cut.l0]
    rw [if_neg (by omega)]
  | succ d ih =>
    intro i xs hi hx
    have hlt : i < s.length := by omega
    by_cases c : (i : Int) ≥ a
    · have e1 : max i a.toNat = i := by omega
      have e2 : max (i + 1) a.toNat = i + 1 := by omega
      have hw : wrap64 ((i : Int) - a) = (i : Int) - a := by unfold wrap64; omega
      rw [e1, drop_cons s i hlt]
      by_cases c1 : (i : Int) - a < n
      · refine Ev.step (f := fun k => jointerref06_Cut.l0 k a n s (xs ++ [s[i]]) ((i + 1 : Nat) : Int)) (fun k => ?_) ?_
        · simp only [jointerref06_Cut.l0]
          rw [if_pos (by omega), if_pos c, hw, if_pos c1, if_pos (by omega), if_pos (by omega), rdL_at hlt, w64 _ (by omega) (by omega)]
          rfl
        · have h := ih (i + 1) (xs ++ [s[i]]) (by omega) (by simp; omega)
          rw [e2] at h
          rw [show n.toNat + a.toNat - i = (n.toNat + a.toNat - (i + 1)) + 1 by omega, List.take_succ_cons]
          simpa using h
      · refine Ev.step (f := fun k => jointerref06_Cut.l0 k a n s xs ((i + 1 : Nat) : Int)) (fun k => ?_) ?_
        · simp only [jointerref06_Cut.l0]
          rw [if_pos (by omega), if_pos c, hw, if_neg c1, w64 _ (by omega) (by omega)]
          rfl
        · have h := ih (i + 1) xs (by omega) (by omega)
          rw [e2, show n.toNat + a.toNat - (i + 1) = 0 by omega, List.take_zero] at h
          rw [show n.toNat + a.toNat - i = 0 by omega, List.take_zero]
          exact h
    · have e1 : max i a.toNat = a.toNat := by omega
      have e2 : max (i + 1) a.toNat = a.toNat := by omega
      rw [e1]
      have h := ih (i + 1) xs (by omega) (by omega)
      rw [e2] at h
      refine Ev.step (fun k => ?_) h
      simp only [jointerref06_Cut.l0]
      rw [if_pos (by omega), if_neg c, w64 _ (by omega) (by omega)]
      rfl
theorem rcut_ev (l : List (List V)) (ks : List KeyT) (a n : Int) (hl : RowsV l) (hk : ks.length ≤ 1099511627776) :
    Ev (fun k => jointerref06_Cut.f k l ks a n) (if fitsB l ks = true ∧ 0 ≤ a ∧ 0 ≤ n then (cutR (sortR ks l) a n, 0) else ([], 1)) := by
  have bad : ∀ s : List (List V), Ev (fun k => jointerref06_Cut.j0 k a n s true) (([] : List (List V)), (1 : Int)) := fun s =>
    Ev.step (f := fun _ => some (([] : List (List V)), (1 : Int))) (fun k => by simp only [jointerref06_Cut.j0]; rw [if_pos trivial]) (Ev.now _)
  unfold jointerref06_Cut.f
  refine Ev.bind (rsort_ev l ks hl hk) ?_
  by_cases c : fitsB l ks = true
  · rw [if_pos c]
    by_cases c0 : a < 0
    · rw [if_neg (by omega)]
      exact Ev.congr (fun k => by rw [if_pos rfl, if_pos c0]) (bad _)
    · by_cases c1 : n < 0
      · rw [if_neg (by omega)]
        exact Ev.congr (fun k => by rw [if_pos rfl, if_neg c0, decide_eq_true c1]) (bad _)
      · rw [if_pos ⟨c, by omega, by omega⟩]
        refine Ev.congr (f := fun k => jointerref06_Cut.j0 k a n (sortR ks l) false) (fun k => by rw [if_pos rfl, if_neg c0, decide_eq_false c1]) ?_
        have h := cut_l0 a n (sortR ks l) (by omega) (by omega) (by rw [(sortR_perm ks l).length_eq]; exact hl.2) (sortR ks l).length 0 [] (by omega) (by simp)
        rw [List.nil_append, show max 0 a.toNat = a.toNat by omega, show n.toNat + a.toNat - a.toNat = n.toNat by omega] at h
        refine Ev.step (fun k => ?_) h
        simp only [jointerref06_Cut.j0]
        rw [if_neg (by simp)]
        rfl
  · rw [if_neg c, if_neg (fun h => c h.1)]
    exact Ev.congr (fun k => by rw [if_neg (by simp)]) (bad _)
end Go.Proofs.YtecgkcgfeghhgaaGreatDoor.PAll
namespace Go.Proofs.YtecgkcgfeghhgaaGreatDoor.PAll
open Go.RowKit Go.Proofs.YtecgkcgfeghhgaaGreatDoorW.PrintWords Go.Proofs.YtecgkcgfeghhgaaGreatDoorW.PrintLast Go.Proofs.YtecgkcgfeghhgaaGreatDoorW.PrintMore
attribute [local go_sem] max2_int min2_int max_two min_two max_three min_three max_four min_four
set_option linter.unusedVariables false
set_option linter.unusedSimpArgs false
noncomputable section
def jointerlaw06_BagCuts.f (k : Nat) (l0 : List (List (S36))) (l1 : List (S64)) (a2 : Int) (a3 : Int) : Option (Bool) := (jointerref06_Cut.f k l0 l1 a2 a3).bind fun bt253 => ((bag_Cut.f l0 l1 a2 a3).bind fun bt257 => (if bt257.2 = bt253.2 then ((jointerref06_SameLists.f k bt257.1 bt253.1).bind fun t261 => (if t261 = true then ((jointerlaw06_awake.f).bind fun t262 => (some t262)) else (some false))) else (some false)))
theorem jointerlaw06_BagCuts.mono : ∀ a0 a1 a2 a3 k, LeO (jointerlaw06_BagCuts.f k a0 a1 a2 a3) (jointerlaw06_BagCuts.f (k + 1) a0 a1 a2 a3) := by
 intro a0 a1 a2 a3 k
 unfold jointerlaw06_BagCuts.f
 repeat' first
  | (with_reducible exact jointerref06_Cut.mono _ _ _ _ _)
  | (with_reducible exact jointerref06_SameLists.mono _ _ _)
  | (with_reducible exact LeO.refl _)
  | (with_reducible exact LeO.none _)
  | (with_reducible refine LeO.ite ?_ ?_)
  | (with_reducible refine LeO.bind ?_ (fun _ => ?_))
  | exact jointerref06_Cut.mono _ _ _ _ _
  | exact jointerref06_SameLists.mono _ _ _
  | exact LeO.none _
  | refine LeO.ite ?_ ?_
  | refine LeO.bind ?_ (fun _ => ?_)
set_option maxHeartbeats 8000000 in
set_option maxRecDepth 100000 in
theorem jointerlaw06_BagCuts.calls (k : Nat) (A0 : Option Addr) (c0 : Nat) (l0 : List (List (S36))) (A1 : Option Addr) (c1 : Nat) (l1 : List (S64)) (a2 : Int) (a3 : Int) (r : Bool) (w : World) (hr0 : Kd.C (Kd.slice 36 k36) w A0 l0.length l0) (hc0 : l0.length ≤ c0) (hr1 : Kd.C k64 w A1 l1.length l1) (hc1 : l1.length ≤ c1) (hT : LaidT w) (h : jointerlaw06_BagCuts.f k l0 l1 a2 a3 = some r) :
 Calls Tryz.prog 5 #[.slice A0 l0.length c0, .slice A1 l1.length c1, .int .i64 a2, .int .i64 a3] w fun e w' => e = .returned (.bool r) ∧ Below w.heap.size w w' := by
 have HT := Aside0.mk hT
 clear hT
 have HR0 := Aside0.mk hr0
 have HC0 := Aside0.mk hc0
 clear hr0 hc0
 have HR1 := Aside0.mk hr1
 have HC1 := Aside0.mk hc1
 clear hr1 hc1
 have HB := Aside0.mk (Below.refl w.heap.size w)
 have H : ((jointerref06_Cut.f k l0 l1 a2 a3).bind fun bt253 => ((bag_Cut.f l0 l1 a2 a3).bind fun bt257 => (if bt257.2 = bt253.2 then ((jointerref06_SameLists.f k bt257.1 bt253.1).bind fun t261 => (if t261 = true then ((jointerlaw06_awake.f).bind fun t262 => (some t262)) else (some false))) else (some false)))) = some r := h
 clear h
 replace H := Option.bind_eq_some_iff.mp H
 obtain ⟨⟨t253, t256⟩, A50, H⟩ := H
 replace H : ((bag_Cut.f l0 l1 a2 a3).bind fun bt257 => (if bt257.2 = t256 then ((jointerref06_SameLists.f k bt257.1 t253).bind fun t261 => (if t261 = true then ((jointerlaw06_awake.f).bind fun t262 => (some t262)) else (some false))) else (some false))) = some r := H
 have A5 := Aside0.mk A50
 clear A50
 replace H := Option.bind_eq_some_iff.mp H
 obtain ⟨⟨t257, t260⟩, A60, H⟩ := H
 replace H : (if t260 = t256 then ((jointerref06_SameLists.f k t257 t253).bind fun t261 => (if t261 = true then ((jointerlaw06_awake.f).bind fun t262 => (some t262)) else (some false))) else (some false)) = some r := H
 have A6 := Aside0.mk A60
 clear A60
 by_cases c7 : t260 = t256
 · rw [if_pos c7] at H
   have c7b0 : (t260 == t256) = true := beq_iff_eq.mpr c7
   have c7b1 : (t260 != t256) = false := bne_eq_false_iff_eq.mpr c7
   clear c7
   replace H := Option.bind_eq_some_iff.mp H
   obtain ⟨t261, A80, H⟩ := H
   replace H : (if t261 = true then ((jointerlaw06_awake.f).bind fun t262 => (some t262)) else (some false)) = some r := H
   have A8 := Aside0.mk A80
   clear A80
   by_cases c9 : t261 = true
   · subst c9
     have H1 : ((jointerlaw06_awake.f).bind fun t262 => (some t262)) = some r := by rw [if_pos rfl] at H; exact H
     clear H
     have H := H1
     clear H1
     replace H := Option.bind_eq_some_iff.mp H
     obtain ⟨t262, A100, H⟩ := H
     replace H : (some t262) = some r := H
     have A10 := Aside0.mk A100
     clear A100
     obtain rfl := Option.some.inj H
     go_enter Tryz.func5, Tryz.ntmps5
     go_wp2_with (first | ((with_reducible refine gate_callee (f := 17) rfl ?_); refine goesL_ (some 18) rfl rfl Tryz.func17 (by kernel_rfl) rfl #[.slice A0 l0.length c0, .slice A1 l1.length c1, .int .i64 a2, .int .i64 a3] rfl (by (try simp only [List.map_toArray, List.map_cons, List.map_nil]); first | done | rfl | (simp only [List.length_drop, List.length_take]; rfl)) ?_; (with_reducible refine (jointerref06_Cut.calls k _ _ l0 _ _ l1 a2 a3 t253 t256 _ ?side1 ?side2 ?side3 ?side4 A5.out).mono ?_); (case side1 => repeat (first | exact HR0.out | (with_reducible refine Kd.C_alloc ?_ _) | (with_reducible refine Kd.C_drewN ?_ _) | (with_reducible refine Kd.C_drew ?_))); (case side2 => exact HC0.out); (case side3 => repeat (first | exact HR1.out | (with_reducible refine Kd.C_alloc ?_ _) | (with_reducible refine Kd.C_drewN ?_ _) | (with_reducible refine Kd.C_drew ?_))); (case side4 => exact HC1.out); rintro e w11 ⟨v254, rfl, ho0, hb⟩; refine ⟨_, rfl, ?_⟩; have n0_ := Aside0.mk (Kd.N_lower (Kd.N_mono (ok' := fun k_ => True) ho0 (fun k_ hk_ => trivial)) (below_size (by repeat (first | (with_reducible first | exact HB.out | apply below_alloc | apply pw_below_drewN | apply below_drew1) | exact HB.out)))); have n1_ := Aside0.mk (below_step (by repeat (first | (with_reducible first | exact HB.out | apply below_alloc | apply pw_below_drewN | apply below_drew1) | exact HB.out)) hb); clear HB; have HO255 := n0_; have HB := n1_; clear n0_ n1_; (try clear hb); (try clear hb2); (try clear hk); (try clear hi); (try clear ho0)) | ((with_reducible refine gate_callee (f := 18) rfl ?_); refine goesL_ (some 26) rfl rfl Tryz.func18 (by kernel_rfl) rfl #[.slice A0 l0.length c0, .slice A1 l1.length c1, .int .i64 a2, .int .i64 a3] rfl (by (try simp only [List.map_toArray, List.map_cons, List.map_nil]); first | done | rfl | (simp only [List.length_drop, List.length_take]; rfl)) ?_; (with_reducible refine (bag_Cut.calls _ _ l0 _ _ l1 a2 a3 t257 t260 _ ?side1 ?side2 ?side3 ?side4 A6.out).mono ?_); (case side1 => repeat (first | exact (Kd.C_below HR0.out HB.out) | (with_reducible refine Kd.C_alloc ?_ _) | (with_reducible refine Kd.C_drewN ?_ _) | (with_reducible refine Kd.C_drew ?_))); (case side2 => exact HC0.out); (case side3 => repeat (first | exact (Kd.C_below HR1.out HB.out) | (with_reducible refine Kd.C_alloc ?_ _) | (with_reducible refine Kd.C_drewN ?_ _) | (with_reducible refine Kd.C_drew ?_))); (case side4 => exact HC1.out); rintro e w12 ⟨v258, rfl, ho0, hb⟩; refine ⟨_, rfl, ?_⟩; have n0_ := Aside0.mk (Kd.N_below (by (with_reducible repeat (first | apply Kd.N_alloc | apply Kd.N_drewN | apply Kd.N_drew)); exact HO255.out) hb); have n1_ := Aside0.mk (Kd.V_lower (Kd.V_mono (ok' := fun k_ => some k_ ≠ (v254 : Value).ownBlock) ho0 (fun k_ hk_ => (Kd.fresh' (Kd.N_lt (by (with_reducible repeat (first | apply Kd.N_alloc | apply Kd.N_drewN | apply Kd.N_drew)); exact HO255.out)) k_ hk_))) (below_size (by repeat (first | (with_reducible first | exact HB.out | apply below_alloc | apply pw_below_drewN | apply below_drew1) | exact HB.out)))); have n2_ := Aside0.mk (below_step (by repeat (first | (with_reducible first | exact HB.out | apply below_alloc | apply pw_below_drewN | apply below_drew1) | exact HB.out)) hb); clear HO255; clear HB; have HO255 := n0_; have HO259 := n1_; have HB := n2_; clear n0_ n1_ n2_; (try clear hb); (try clear hb2); (try clear hk); (try clear hi); (try clear ho0); obtain ⟨Ao13, co13, eo13⟩ := Kd.V_slice HO259.out; subst eo13; obtain ⟨Ao14, co14, eo14⟩ := Kd.N_slice HO255.out; subst eo14) | (go_at_call 19; (with_reducible refine (jointerref06_SameLists.calls k _ _ t257 _ _ t253 true _ ?side1 ?side2 ?side3 ?side4 A8.out).mono ?_); (case side1 => repeat (first | exact (Kd.V_reads' HO259.out).2.2 | (with_reducible refine Kd.C_alloc ?_ _) | (with_reducible refine Kd.C_drewN ?_ _) | (with_reducible refine Kd.C_drew ?_))); (case side2 => exact (Kd.V_reads' HO259.out).2.1); (case side3 => repeat (first | exact (Kd.N_reads' HO255.out).2.2 | (with_reducible refine Kd.C_alloc ?_ _) | (with_reducible refine Kd.C_drewN ?_ _) | (with_reducible refine Kd.C_drew ?_))); (case side4 => exact (Kd.N_reads' HO255.out).2.1); rintro e w15 ⟨rfl, hb⟩; have n0_ := Aside0.mk (Kd.N_below (by (with_reducible repeat (first | apply Kd.N_alloc | apply Kd.N_drewN | apply Kd.N_drew)); exact HO255.out) hb); have n1_ := Aside0.mk (Kd.V_below (by (with_reducible repeat (first | apply Kd.V_alloc | apply Kd.V_drewN | apply Kd.V_drew)); exact HO259.out) hb); have n2_ := Aside0.mk (below_step (by repeat (first | (with_reducible first | exact HB.out | apply below_alloc | apply pw_below_drewN | apply below_drew1) | exact HB.out)) hb); clear HO255; clear HO259; clear HB; have HO255 := n0_; have HO259 := n1_; have HB := n2_; clear n0_ n1_ n2_; (try clear hb); (try clear hb2); (try clear hk); (try clear hi)) | (go_at_call 13; (with_reducible refine (jointerlaw06_awake.calls  t262 _ ?sideT A10.out).mono ?_); (case sideT => exact LaidT.below HT.out (by repeat (first | (with_reducible first | exact HB.out | apply below_alloc | apply pw_below_drewN | apply below_drew1) | exact HB.out))); rintro e w16 ⟨rfl, hb⟩; have n0_ := Aside0.mk (Kd.N_below (by (with_reducible repeat (first | apply Kd.N_alloc | apply Kd.N_drewN | apply Kd.N_drew)); exact HO255.out) hb); have n1_ := Aside0.mk (Kd.V_below (by (with_reducible repeat (first | apply Kd.V_alloc | apply Kd.V_drewN | apply Kd.V_drew)); exact HO259.out) hb); have n2_ := Aside0.mk (below_step (by repeat (first | (with_reducible first | exact HB.out | apply below_alloc | apply pw_below_drewN | apply below_drew1) | exact HB.out)) hb); clear HO255; clear HO259; clear HB; have HO255 := n0_; have HO259 := n1_; have HB := n2_; clear n0_ n1_ n2_; (try clear hb); (try clear hb2); (try clear hk); (try clear hi)))
     go_ret
     exact ⟨by first | rfl | (simp [errW_none, errW_some] <;> rfl) | (simp [*, errW_none, errW_some] <;> rfl), by repeat (first | (with_reducible first | exact HB.out | apply below_alloc | apply pw_below_drewN | apply below_drew1) | exact HB.out)⟩
   · replace c9 := Bool.eq_false_iff.mpr c9
     subst c9
     have H1 : (some false) = some r := by rw [if_neg (show ¬ (false = true) by decide)] at H; exact H
     clear H
     have H := H1
     clear H1
     obtain rfl := Option.some.inj H
     go_enter Tryz.func5, Tryz.ntmps5
     go_wp2_with (first | ((with_reducible refine gate_callee (f := 17) rfl ?_); refine goesL_ (some 18) rfl rfl Tryz.func17 (by kernel_rfl) rfl #[.slice A0 l0.length c0, .slice A1 l1.length c1, .int .i64 a2, .int .i64 a3] rfl (by (try simp only [List.map_toArray, List.map_cons, List.map_nil]); first | done | rfl | (simp only [List.length_drop, List.length_take]; rfl)) ?_; (with_reducible refine (jointerref06_Cut.calls k _ _ l0 _ _ l1 a2 a3 t253 t256 _ ?side1 ?side2 ?side3 ?side4 A5.out).mono ?_); (case side1 => repeat (first | exact HR0.out | (with_reducible refine Kd.C_alloc ?_ _) | (with_reducible refine Kd.C_drewN ?_ _) | (with_reducible refine Kd.C_drew ?_))); (case side2 => exact HC0.out); (case side3 => repeat (first | exact HR1.out | (with_reducible refine Kd.C_alloc ?_ _) | (with_reducible refine Kd.C_drewN ?_ _) | (with_reducible refine Kd.C_drew ?_))); (case side4 => exact HC1.out); rintro e w17 ⟨v254, rfl, ho0, hb⟩; refine ⟨_, rfl, ?_⟩; have n0_ := Aside0.mk (Kd.N_lower (Kd.N_mono (ok' := fun k_ => True) ho0 (fun k_ hk_ => trivial)) (below_size (by repeat (first | (with_reducible first | exact HB.out | apply below_alloc | apply pw_below_drewN | apply below_drew1) | exact HB.out)))); have n1_ := Aside0.mk (below_step (by repeat (first | (with_reducible first | exact HB.out | apply below_alloc | apply pw_below_drewN | apply below_drew1) | exact HB.out)) hb); clear HB; have HO255 := n0_; have HB := n1_; clear n0_ n1_; (try clear hb); (try clear hb2); (try clear hk); (try clear hi); (try clear ho0)) | ((with_reducible refine gate_callee (f := 18) rfl ?_); refine goesL_ (some 26) rfl rfl Tryz.func18 (by kernel_rfl) rfl #[.slice A0 l0.length c0, .slice A1 l1.length c1, .int .i64 a2, .int .i64 a3] rfl (by (try simp only [List.map_toArray, List.map_cons, List.map_nil]); first | done | rfl | (simp only [List.length_drop, List.length_take]; rfl)) ?_; (with_reducible refine (bag_Cut.calls _ _ l0 _ _ l1 a2 a3 t257 t260 _ ?side1 ?side2 ?side3 ?side4 A6.out).mono ?_); (case side1 => repeat (first | exact (Kd.C_below HR0.out HB.out) | (with_reducible refine Kd.C_alloc ?_ _) | (with_reducible refine Kd.C_drewN ?_ _) | (with_reducible refine Kd.C_drew ?_))); (case side2 => exact HC0.out); (case side3 => repeat (first | exact (Kd.C_below HR1.out HB.out) | (with_reducible refine Kd.C_alloc ?_ _) | (with_reducible refine Kd.C_drewN ?_ _) | (with_reducible refine Kd.C_drew ?_))); (case side4 => exact HC1.out); rintro e w18 ⟨v258, rfl, ho0, hb⟩; refine ⟨_, rfl, ?_⟩; have n0_ := Aside0.mk (Kd.N_below (by (with_reducible repeat (first | apply Kd.N_alloc | apply Kd.N_drewN | apply Kd.N_drew)); exact HO255.out) hb); have n1_ := Aside0.mk (Kd.V_lower (Kd.V_mono (ok' := fun k_ => some k_ ≠ (v254 : Value).ownBlock) ho0 (fun k_ hk_ => (Kd.fresh' (Kd.N_lt (by (with_reducible repeat (first | apply Kd.N_alloc | apply Kd.N_drewN | apply Kd.N_drew)); exact HO255.out)) k_ hk_))) (below_size (by repeat (first | (with_reducible first | exact HB.out | apply below_alloc | apply pw_below_drewN | apply below_drew1) | exact HB.out)))); have n2_ := Aside0.mk (below_step (by repeat (first | (with_reducible first | exact HB.out | apply below_alloc | apply pw_below_drewN | apply below_drew1) | exact HB.out)) hb); clear HO255; clear HB; have HO255 := n0_; have HO259 := n1_; have HB := n2_; clear n0_ n1_ n2_; (try clear hb); (try clear hb2); (try clear hk); (try clear hi); (try clear ho0); obtain ⟨Ao19, co19, eo19⟩ := Kd.V_slice HO259.out; subst eo19; obtain ⟨Ao20, co20, eo20⟩ := Kd.N_slice HO255.out; subst eo20) | (go_at_call 19; (with_reducible refine (jointerref06_SameLists.calls k _ _ t257 _ _ t253 false _ ?side1 ?side2 ?side3 ?side4 A8.out).mono ?_); (case side1 => repeat (first | exact (Kd.V_reads' HO259.out).2.2 | (with_reducible refine Kd.C_alloc ?_ _) | (with_reducible refine Kd.C_drewN ?_ _) | (with_reducible refine Kd.C_drew ?_))); (case side2 => exact (Kd.V_reads' HO259.out).2.1); (case side3 => repeat (first | exact (Kd.N_reads' HO255.out).2.2 | (with_reducible refine Kd.C_alloc ?_ _) | (with_reducible refine Kd.C_drewN ?_ _) | (with_reducible refine Kd.C_drew ?_))); (case side4 => exact (Kd.N_reads' HO255.out).2.1); rintro e w21 ⟨rfl, hb⟩; have n0_ := Aside0.mk (Kd.N_below (by (with_reducible repeat (first | apply Kd.N_alloc | apply Kd.N_drewN | apply Kd.N_drew)); exact HO255.out) hb); have n1_ := Aside0.mk (Kd.V_below (by (with_reducible repeat (first | apply Kd.V_alloc | apply Kd.V_drewN | apply Kd.V_drew)); exact HO259.out) hb); have n2_ := Aside0.mk (below_step (by repeat (first | (with_reducible first | exact HB.out | apply below_alloc | apply pw_below_drewN | apply below_drew1) | exact HB.out)) hb); clear HO255; clear HO259; clear HB; have HO255 := n0_; have HO259 := n1_; have HB := n2_; clear n0_ n1_ n2_; (try clear hb); (try clear hb2); (try clear hk); (try clear hi)))
     go_ret
     exact ⟨by first | rfl | (simp [errW_none, errW_some] <;> rfl) | (simp [*, errW_none, errW_some] <;> rfl), by repeat (first | (with_reducible first | exact HB.out | apply below_alloc | apply pw_below_drewN | apply below_drew1) | exact HB.out)⟩
 · rw [if_neg c7] at H
   have c7b0 : (t260 == t256) = false := beq_eq_false_iff_ne.mpr c7
   have c7b1 : (t260 != t256) = true := bne_iff_ne.mpr c7
   obtain rfl := Option.some.inj H
   go_enter Tryz.func5, Tryz.ntmps5
   go_wp2_with (first | ((with_reducible refine gate_callee (f := 17) rfl ?_); refine goesL_ (some 18) rfl rfl Tryz.func17 (by kernel_rfl) rfl #[.slice A0 l0.length c0, .slice A1 l1.length c1, .int .i64 a2, .int .i64 a3] rfl (by (try simp only [List.map_toArray, List.map_cons, List.map_nil]); first | done | rfl | (simp only [List.length_drop, List.length_take]; rfl)) ?_; (with_reducible refine (jointerref06_Cut.calls k _ _ l0 _ _ l1 a2 a3 t253 t256 _ ?side1 ?side2 ?side3 ?side4 A5.out).mono ?_); (case side1 => repeat (first | exact HR0.out | (with_reducible refine Kd.C_alloc ?_ _) | (with_reducible refine Kd.C_drewN ?_ _) | (with_reducible refine Kd.C_drew ?_))); (case side2 => exact HC0.out); (case side3 => repeat (first | exact HR1.out | (with_reducible refine Kd.C_alloc ?_ _) | (with_reducible refine Kd.C_drewN ?_ _) | (with_reducible refine Kd.C_drew ?_))); (case side4 => exact HC1.out); rintro e w22 ⟨v254, rfl, ho0, hb⟩; refine ⟨_, rfl, ?_⟩; have n0_ := Aside0.mk (Kd.N_lower (Kd.N_mono (ok' := fun k_ => True) ho0 (fun k_ hk_ => trivial)) (below_size (by repeat (first | (with_reducible first | exact HB.out | apply below_alloc | apply pw_below_drewN | apply below_drew1) | exact HB.out)))); have n1_ := Aside0.mk (below_step (by repeat (first | (with_reducible first | exact HB.out | apply below_alloc | apply pw_below_drewN | apply below_drew1) | exact HB.out)) hb); clear HB; have HO255 := n0_; have HB := n1_; clear n0_ n1_; (try clear hb); (try clear hb2); (try clear hk); (try clear hi); (try clear ho0)) | ((with_reducible refine gate_callee (f := 18) rfl ?_); refine goesL_ (some 26) rfl rfl Tryz.func18 (by kernel_rfl) rfl #[.slice A0 l0.length c0, .slice A1 l1.length c1, .int .i64 a2, .int .i64 a3] rfl (by (try simp only [List.map_toArray, List.map_cons, List.map_nil]); first | done | rfl | (simp only [List.length_drop, List.length_take]; rfl)) ?_; (with_reducible refine (bag_Cut.calls _ _ l0 _ _ l1 a2 a3 t257 t260 _ ?side1 ?side2 ?side3 ?side4 A6.out).mono ?_); (case side1 => repeat (first | exact (Kd.C_below HR0.out HB.out) | (with_reducible refine Kd.C_alloc ?_ _) | (with_reducible refine Kd.C_drewN ?_ _) | (with_reducible refine Kd.C_drew ?_))); (case side2 => exact HC0.out); (case side3 => repeat (first | exact (Kd.C_below HR1.out HB.out) | (with_reducible refine Kd.C_alloc ?_ _) | (with_reducible refine Kd.C_drewN ?_ _) | (with_reducible refine Kd.C_drew ?_))); (case side4 => exact HC1.out); rintro e w23 ⟨v258, rfl, ho0, hb⟩; refine ⟨_, rfl, ?_⟩; have n0_ := Aside0.mk (Kd.N_below (by (with_reducible repeat (first | apply Kd.N_alloc | apply Kd.N_drewN | apply Kd.N_drew)); exact HO255.out) hb); have n1_ := Aside0.mk (Kd.V_lower (Kd.V_mono (ok' := fun k_ => some k_ ≠ (v254 : Value).ownBlock) ho0 (fun k_ hk_ => (Kd.fresh' (Kd.N_lt (by (with_reducible repeat (first | apply Kd.N_alloc | apply Kd.N_drewN | apply Kd.N_drew)); exact HO255.out)) k_ hk_))) (below_size (by repeat (first | (with_reducible first | exact HB.out | apply below_alloc | apply pw_below_drewN | apply below_drew1) | exact HB.out)))); have n2_ := Aside0.mk (below_step (by repeat (first | (with_reducible first | exact HB.out | apply below_alloc | apply pw_below_drewN | apply below_drew1) | exact HB.out)) hb); clear HO255; clear HB; have HO255 := n0_; have HO259 := n1_; have HB := n2_; clear n0_ n1_ n2_; (try clear hb); (try clear hb2); (try clear hk); (try clear hi); (try clear ho0)))
   go_ret
   exact ⟨by first | rfl | (simp [errW_none, errW_some] <;> rfl) | (simp [*, errW_none, errW_some] <;> rfl), by repeat (first | (with_reducible first | exact HB.out | apply below_alloc | apply pw_below_drewN | apply below_drew1) | exact HB.out)⟩
end
end Go.Proofs.YtecgkcgfeghhgaaGreatDoor.PAll
set_option linter.unusedVariables false
namespace Go.Proofs.YtecgkcgfeghhgaaGreatDoor.PAll
open Go.RowKit Go.Proofs.YtecgkcgfeghhgaaGreatDoorW.PrintWords Go.Proofs.YtecgkcgfeghhgaaGreatDoorW.PrintLast Go.Proofs.YtecgkcgfeghhgaaGreatDoorW.PrintMore
theorem law_cuts (l : List (List V)) (ks : List KeyT) (a n : Int) (hl : RowsV l) (hk : ks.length ≤ 1099511627776) (ha : a ≤ 9223372036854775807) (hn : n ≤ 9223372036854775807) : ∃ k, jointerlaw06_BagCuts.f k l ks a n = some true := by
  have h : Ev (fun k => jointerlaw06_BagCuts.f k l ks a n) true := by
    unfold jointerlaw06_BagCuts.f
    refine Ev.bind (rcut_ev l ks a n hl hk) ?_
    have e : bag_Cut.f l ks a n = some (if fitsB l ks = true ∧ 0 ≤ a ∧ 0 ≤ n then (cutR (sortR ks l) a n, 0) else ([], 1)) := if_pos ⟨hl, hk, ha, hn⟩
    obtain ⟨r, hr⟩ : ∃ r, r = (if fitsB l ks = true ∧ 0 ≤ a ∧ 0 ≤ n then (cutR (sortR ks l) a n, (0 : Int)) else ([], 1)) := ⟨_, rfl⟩
    rw [← hr] at e ⊢
    have h1 : r.1.length ≤ 1099511627776 ∧ ∀ row ∈ r.1, row.length ≤ 1099511627776 := by
      rw [hr]
      split
      · refine ⟨?_, fun row hrow => ?_⟩
        · have := (sortR_perm ks l).length_eq
          simp only [cutR, List.length_take, List.length_drop]
          have := hl.2
          omega
        · exact (hl.1 row ((sortR_perm ks l).mem_iff.1 (List.mem_of_mem_drop (List.mem_of_mem_take hrow)))).2
      · simp
    refine Ev.congr (fun k => ?_) (Ev.bind (f := fun _ t => if t = true then (jointerlaw06_awake.f).bind fun t262 => some t262 else some false) (sameLists_refl r.1 h1.1 h1.2) (Ev.now true))
    rw [e]
    simp only [Option.bind_some, if_true]
  exact h.rounds
end Go.Proofs.YtecgkcgfeghhgaaGreatDoor.PAll
set_option linter.unusedVariables false
namespace Go.Proofs.YtecgkcgfeghhgaaGreatDoor.bagCuts
open Go.ChangeShapes Go.WideShapes Go.ChangeAt Go.RowKit Go.Proofs.YtecgkcgfeghhgaaGreatDoor.PAll
open Go.Proofs.YtecgkcgfeghhgaaGreatDoorW.PrintWords Go.Proofs.YtecgkcgfeghhgaaGreatDoorW.PrintLast Go.Proofs.YtecgkcgfeghhgaaGreatDoorW.PrintMore
theorem laidOut : laidOutB Tryz.prog = true := by kernel_rfl
theorem own : ownKnob Tryz.prog.godebug = none := by kernel_rfl
theorem gTab : Tryz.prog.globalNamed "internal/strconv.uint64pow10" = some 0 := by kernel_rfl
theorem gTabType : (Tryz.prog.globals[0]?).map (·.type) = some 165 := by kernel_rfl
theorem uTab : Tryz.prog.underlying 165 = some (.array 20 99) ∧ Tryz.prog.underlying 99 = some (.int .u64) ∧ Tryz.prog.cellsOf 99 = 1 := ⟨by kernel_rfl, by kernel_rfl, by kernel_rfl⟩
theorem cTab : Tryz.prog.cellsOf 165 = 20 := by kernel_rfl
theorem tabEq {H : Type} : Rows.laid_internal_strconv_uint64pow10 (H := H) = Lib.tabData .u64 Lib.pow10Tab := by
  simp [Rows.laid_internal_strconv_uint64pow10, Lib.tabData, Lib.pow10Tab, List.range_succ]
theorem table {W : World} (h : laidMetH Tryz.prog Rows.bagCutsUptoRow.laid W) : LaidT W := by
  have h : laidMet Tryz.prog Rows.bagCutsUptoRow.laid W := h
  obtain ⟨ps, ⟨_, _, _, _, _, _, _, _, _, _, ⟨_, _, _, _, _, _, _, _, _, _, ⟨g', t', cs, fuel, p, q, hg', ht', hvar, hd, _, _⟩, _⟩, _⟩, _⟩ := h
  obtain ⟨he, hi, hc⟩ := uTab
  obtain rfl := Option.some.inj (gTab.symm.trans hg')
  obtain rfl := Option.some.inj (gTabType.symm.trans ht')
  rw [tabEq] at hd
  unfold LaidT Lib.TabIs
  rw [hvar, ← Lib.cells_of_tab he hi hc cTab hd]
set_option maxRecDepth 100000 in
theorem contract (H : Type) (enc : TypeId × Value → H) (W : World) (base : Nat) (args : Array Value) (ds gs : List (DataW H)) (before : List MemPlace)
    (hval : ∀ (j : Nat) t v, Tryz.f5.params[j]? = some t → args[j]? = some v → Value.okWide Tryz.prog W .any base t v)
    (hW : DataW.Whole enc Tryz.prog Tryz.f5.params.toList Rows.bagCutsSpec.vars false W args.toList ds gs before) (hk : Rows.uptoSmall H (ds ++ gs) = true) (hL : laidMetH Tryz.prog Rows.bagCutsUptoRow.laid W) :
    Calls Tryz.prog 5 args W fun e W' => ∃ v, e = .returned v ∧ Rows.bagCutsSpec.post enc Tryz.prog Tryz.f5 false true false false W args v W' := by
  have hW' := hW
  obtain ⟨p, q, hA0, hV, rfl, hfz, hnd⟩ := hW
  have hA : DataW.TrodAll enc Tryz.prog W 0 (fun _ => true) true Tryz.f5.params.toList args.toList ds p := hA0
  rw [Tryz.params5] at hA hval
  obtain ⟨v0, vs0, d0, ds0, p0, q0, hargs, rfl, rfl, h0, r0⟩ := trodAll_cons hA
  obtain ⟨v1, vs1, d1, ds1, p1, q1, rfl, rfl, rfl, h1, r1⟩ := trodAll_cons r0
  obtain ⟨v2, vs2, d2, ds2, p2, q2, rfl, rfl, rfl, h2, r2⟩ := trodAll_cons r1
  obtain ⟨v3, vs3, d3, ds3, p3, q3, rfl, rfl, rfl, h3, r3⟩ := trodAll_cons r2
  obtain ⟨rfl, rfl, rfl⟩ := trodAll_nil r3
  obtain rfl : args = #[v0, v1, v2, v3] := by cases args; simp_all
  obtain ⟨rfl, rfl⟩ := trodVars_none hV
  have h0k := h0
  have h1k := h1
  have h2k := h2
  have h3k := h3
  obtain ⟨fuel0, hf0⟩ := h0
  obtain ⟨fuel1, hf1⟩ := h1
  obtain ⟨fuel2, hf2⟩ := h2
  obtain ⟨fuel3, hf3⟩ := h3
  obtain ⟨a0, len0, cap0, rfl⟩ := okWide_slice Tryz.underlying22 (hval 0 22 v0 (by simp) (by simp))
  obtain ⟨A0, cp0, l0, hcs0, hlc0, _, hC0, hv0, hb0⟩ := rows_of_trod hf0
  simp [Value.cells] at hcs0
  obtain ⟨rfl, rfl, rfl⟩ := hcs0
  dsimp only at hb0
  obtain ⟨a1, len1, cap1, rfl⟩ := okWide_slice Tryz.underlying27 (hval 1 27 v1 (by simp) (by simp))
  obtain ⟨A1, cp1, l1, hcs1, hlc1, _, hC1, hb1⟩ := keys_of_trod hf1
  simp [Value.cells] at hcs1
  obtain ⟨rfl, rfl, rfl⟩ := hcs1
  dsimp only at hb1
  obtain ⟨n2, rfl⟩ := okWide_int (k := .i64) Tryz.underlying3 (hval 2 3 v2 (by simp) (by simp))
  obtain ⟨m2, hcs2, _, hw2⟩ := DataW.trod_int (k := .i64) (by kernel_rfl) hf2
  simp [Value.cells] at hcs2
  subst hcs2
  have hv2 := wf_i64 hw2
  obtain ⟨n3, rfl⟩ := okWide_int (k := .i64) Tryz.underlying3 (hval 3 3 v3 (by simp) (by simp))
  obtain ⟨m3, hcs3, _, hw3⟩ := DataW.trod_int (k := .i64) (by kernel_rfl) hf3
  simp [Value.cells] at hcs3
  subst hcs3
  have hv3 := wf_i64 hw3
  clear hA0
  simp only [List.append_nil] at hW' hk
  have hb : Rows.uptoBulkAll [d0, d1, d2, d3] ≤ 1048576 := of_decide_eq_true hk
  simp only [Rows.uptoBulkAll] at hb
  have hlt : ∀ x ∈ p0 ++ (p1 ++ (p2 ++ (p3))), x.block < W.heap.size := fun x hx => hW'.lt x hx
  obtain ⟨k, hlaw⟩ : ∃ k, jointerlaw06_BagCuts.f k l0 l1 n2 n3 = some true := (law_cuts l0 l1 n2 n3 (bulkL_rowsV hv0 (by omega)) (by omega) hv2.2 hv3.2)
  refine (jointerlaw06_BagCuts.calls k a0 cap0 l0 a1 cap1 l1 n2 n3 true W hC0 hlc0 hC1 hlc1 (table hL) hlaw).mono fun e W' ⟨he, hg⟩ => ?_
  subst he
  exact ⟨_, rfl, ⟨[d0, d1, d2, d3], [], _, [], _, [], hW', trodAll_mk1 (shut_bool Tryz.underlying4 _), trodAll_cons_mk (Below.trod laidOut (by kernel_rfl) (of_decide_eq_true (by kernel_rfl)) h0k hg (fun x hx => hlt x (List.mem_append_left _ hx))) (trodAll_cons_mk (Below.trod laidOut (by kernel_rfl) (of_decide_eq_true (by kernel_rfl)) h1k hg (fun x hx => hlt x (List.mem_append_right _ (List.mem_append_left _ hx)))) (trodAll_cons_mk (Below.trod laidOut (by kernel_rfl) (of_decide_eq_true (by kernel_rfl)) h2k hg (fun x hx => hlt x (List.mem_append_right _ (List.mem_append_right _ (List.mem_append_left _ hx))))) (trodAll_mk1 (Below.trod laidOut (by kernel_rfl) (of_decide_eq_true (by kernel_rfl)) h3k hg (fun x hx => hlt x (List.mem_append_right _ (List.mem_append_right _ (List.mem_append_right _ (hx))))))))), rfl, hg.frame _, fun h => by cases h⟩⟩
noncomputable def laidWorld (os : Os) : World :=
  let w := World.holding Tryz.prog os ⟨#[], #[], []⟩
  { w with heap := ((w.heap.modify 0 fun
      | .cells _ t frozen => .cells ((Lib.pow10Tab.map (Value.int .u64)).toArray) t frozen
      | o => o).modify 2 fun
      | .cells _ t frozen => .cells #[.int .u8 0, .int .u8 1, .int .u8 28, .int .u8 2, .int .u8 29, .int .u8 14, .int .u8 24, .int .u8 3, .int .u8 30, .int .u8 22, .int .u8 20, .int .u8 15, .int .u8 25, .int .u8 17, .int .u8 4, .int .u8 8, .int .u8 31, .int .u8 27, .int .u8 13, .int .u8 23, .int .u8 21, .int .u8 19, .int .u8 16, .int .u8 7, .int .u8 26, .int .u8 12, .int .u8 18, .int .u8 6, .int .u8 11, .int .u8 5, .int .u8 10, .int .u8 9] t frozen
      | o => o).modify 3 fun
      | .cells _ t frozen => .cells #[.int .u8 0, .int .u8 1, .int .u8 56, .int .u8 2, .int .u8 57, .int .u8 49, .int .u8 28, .int .u8 3, .int .u8 61, .int .u8 58, .int .u8 42, .int .u8 50, .int .u8 38, .int .u8 29, .int .u8 17, .int .u8 4, .int .u8 62, .int .u8 47, .int .u8 59, .int .u8 36, .int .u8 45, .int .u8 43, .int .u8 51, .int .u8 22, .int .u8 53, .int .u8 39, .int .u8 33, .int .u8 30, .int .u8 24, .int .u8 18, .int .u8 12, .int .u8 5, .int .u8 63, .int .u8 55, .int .u8 48, .int .u8 27, .int .u8 60, .int .u8 41, .int .u8 37, .int .u8 16, .int .u8 46, .int .u8 35, .int .u8 44, .int .u8 21, .int .u8 52, .int .u8 32, .int .u8 23, .int .u8 11, .int .u8 54, .int .u8 26, .int .u8 40, .int .u8 15, .int .u8 34, .int .u8 20, .int .u8 31, .int .u8 10, .int .u8 25, .int .u8 14, .int .u8 19, .int .u8 9, .int .u8 13, .int .u8 8, .int .u8 7, .int .u8 6] t frozen
      | o => o }
theorem laid_met (os : Os) : laidMet Tryz.prog Rows.bagCutsUptoRow.laid ((laidWorld os).forCall (fun _ _ => 0) ⟨#[], #[.slice none 0 0, .slice none 0 0, .int .i64 0, .int .i64 0], []⟩).memory :=
  laidMet_of_run' 8 (by kernel_rfl) (by kernel_rfl)
theorem reads (os : Os) {H : Type} (enc : TypeId × Value → H) : ∃ places, DataW.whole enc Tryz.prog ((laidWorld os).forCall (fun _ _ => 0) ⟨#[], #[.slice none 0 0, .slice none 0 0, .int .i64 0, .int .i64 0], []⟩).memory Tryz.f5.params.toList Rows.bagCutsSpec.vars false (#[.slice none 0 0, .slice none 0 0, .int .i64 0, .int .i64 0] : Array Value).toList 8 = some ([.nil, .nil, .lit (.int .i64 0), .lit (.int .i64 0)], [], places) :=
  ⟨[], by kernel_rfl⟩
set_option maxRecDepth 100000 in
theorem liftedUpto (os : Os) (started : os.Started) (H : Type) (enc : TypeId × Value → H) (F : Stop.Interp) :
    ReturnsInHanded {} Tryz.checked os 5 .any ((Rows.OpenSpec.upto Rows.bagCutsSpec).preRow enc Tryz.prog Tryz.f5 Rows.bagCutsUptoRow.domain false Rows.bagCutsUptoRow.laid) (((Rows.OpenSpec.upto Rows.bagCutsSpec).at F).post enc Tryz.prog Tryz.f5 false true false false) := by
  obtain ⟨places, hx⟩ := reads os enc
  refine returnsInHanded_of_row (C := Tryz.checked) (s := Rows.OpenSpec.upto Rows.bagCutsSpec) own started (by kernel_rfl) Tryz.func5
    (witness_row_at (enc := enc) (C := Tryz.checked) false (laidWorld os) #[.slice none 0 0, .slice none 0 0, .int .i64 0, .int .i64 0] rfl (by kernel_rfl) (by kernel_rfl) (by kernel_rfl)
      (OpenSpec.preRow_of_cond 8 hx (by kernel_rfl) (fun k hk => by cases hk; kernel_rfl) (by kernel_rfl) (laid_met os))) ?_
  intro W base args ds gs before hval hW _ hcond _ hL _ _
  exact contract H enc W base args ds gs before hval hW (hcond _ rfl) hL
theorem saidUpto : Rows.BagCutsUptoSaid :=
  OpenClaim.holds_of_cond 5 Tryz.f5 rfl rfl rfl rfl rfl rfl rfl ⟨rfl, rfl, rfl, rfl, rfl⟩ rfl rfl rfl rfl rfl (by kernel_rfl) Tryz.func5 (by kernel_rfl)
    (of_decide_eq_true (by kernel_rfl)) (by unfold Func.isWrapper; first | (rw [if_pos (by decide +kernel)]; kernel_rfl) | (rw [if_neg (by decide +kernel)]; exact ⟨rfl, rfl⟩))
    (fun os started H enc _ F => by rw [OpenClaim.pre_eq_preRow]; exact liftedUpto os started H enc F)
theorem plain (f : FuncId) (fn : Func) (hf : Tryz.pinned.checked.prog.funcNamed "jointer/jointerlaw06.BagCuts" = some f) (hfn : Tryz.pinned.checked.prog.funcs[f]? = some fn) :
    false = Tryz.pinned.checked.prog.looks [] ∧ ∀ (j : Nat) t, fn.params[j]? = some t → Tryz.pinned.checked.prog.wantsStandIn t = false := by
  obtain rfl : f = 5 := Option.some.inj ((show Tryz.prog.funcNamed "jointer/jointerlaw06.BagCuts" = some 5 by kernel_rfl).symm.trans hf) |>.symm
  obtain rfl : fn = Tryz.f5 := (Option.some.inj (Tryz.func5.symm.trans hfn)).symm
  refine ⟨by kernel_rfl, fun j t ht => ?_⟩
  rw [Tryz.params5] at ht
  have hm := Array.mem_of_getElem? ht
  simp only [List.mem_toArray, List.mem_cons, List.not_mem_nil, or_false] at hm
  rcases hm with rfl | rfl | rfl | rfl
  · exact (show Tryz.prog.wantsStandIn 22 = false by kernel_rfl)
  · exact (show Tryz.prog.wantsStandIn 27 = false by kernel_rfl)
  · exact (show Tryz.prog.wantsStandIn 3 = false by kernel_rfl)
  · exact (show Tryz.prog.wantsStandIn 3 = false by kernel_rfl)
theorem card : Rows.BagCutsUptoCardSaid :=
  Claim7.holds_tied_plain_at .later [] _ _ _ _ saidUpto (fun _ h => by cases h) (by kernel_rfl) (fun _ h => by cases h) bagCutsUpto_row_tie rfl ⟨rfl, rfl⟩ (by kernel_rfl) rfl plain (by kernel_rfl)
end Go.Proofs.YtecgkcgfeghhgaaGreatDoor.bagCuts
