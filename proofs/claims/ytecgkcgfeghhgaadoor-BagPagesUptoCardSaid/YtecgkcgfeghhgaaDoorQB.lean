/- What all laws of the layer lean on. Joined by a program of this session out of its texts. -/
import Derived.Test.YtecgkcgfeghhgaaDoorQB3
import Derived.Lib.ItoaLen
import Derived.ChangeArms
import Derived.Deep.Slices
import Derived.Deep.Strs
namespace Go.Proofs.YtecgkcgfeghhgaaDoor.PAll
open Go.RowKit Go.Proofs.YtecgkcgfeghhgaaDoorW.PrintWords Go.Proofs.YtecgkcgfeghhgaaDoorW.PrintLast Go.Proofs.YtecgkcgfeghhgaaDoorW.PrintMore
attribute [local go_sem] max2_int min2_int max_two min_two max_three min_three max_four min_four
set_option linter.unusedVariables false
set_option linter.unusedSimpArgs false
def jointerref01_SameRows.l0 : Nat → List (S27) → List (S27) → Int → Option (Bool)
 | 0, _, _, _ => none
 | k + 1, x0, x1, x5 => if x5 < (x0.length : Int) then (if 0 ≤ x5 then (if x5 < (x1.length : Int) then ((jointerref01_Same.f ((rd_T27 x0 x5).f0) ((rd_T27 x0 x5).f1) ((rd_T27 x0 x5).f2) ((rd_T27 x1 x5).f0) ((rd_T27 x1 x5).f1) ((rd_T27 x1 x5).f2)).bind fun t129 => (if t129 = true then (jointerref01_SameRows.l0 k x0 x1 (wrap64 (x5 + 1))) else (some false))) else (none)) else (none)) else (some true)
def jointerref01_SameRows.f (k : Nat) (l0 : List (S27)) (l1 : List (S27)) : Option (Bool) := if (l0.length : Int) = (l1.length : Int) then (jointerref01_SameRows.l0 k l0 l1 0) else (some false)
theorem jointerref01_SameRows.mono_l : ∀ k, (∀ y0 y1 y2, LeO (jointerref01_SameRows.l0 k y0 y1 y2) (jointerref01_SameRows.l0 (k + 1) y0 y1 y2))
 | 0 => fun _ _ _ r h => by simp [jointerref01_SameRows.l0] at h
 | k + 1 => by
  have ih0 := jointerref01_SameRows.mono_l k
  · intro y0 y1 y2
    unfold jointerref01_SameRows.l0
    repeat' first
    | (with_reducible exact ih0 _ _ _)
    | (with_reducible exact LeO.refl _)
    | (with_reducible exact LeO.none _)
    | (with_reducible refine LeO.ite ?_ ?_)
    | (with_reducible refine LeO.bind ?_ (fun _ => ?_))
    | exact ih0 _ _ _
    | exact LeO.none _
    | refine LeO.ite ?_ ?_
    | refine LeO.bind ?_ (fun _ => ?_)
theorem jointerref01_SameRows.mono : ∀ a0 a1 k, LeO (jointerref01_SameRows.f k a0 a1) (jointerref01_SameRows.f (k + 1) a0 a1) := by
 intro a0 a1 k
 have ih0 := jointerref01_SameRows.mono_l k
 unfold jointerref01_SameRows.f
 repeat' first
  | (with_reducible exact ih0 _ _ _)
  | (with_reducible exact LeO.refl _)
  | (with_reducible exact LeO.none _)
  | (with_reducible refine LeO.ite ?_ ?_)
  | (with_reducible refine LeO.bind ?_ (fun _ => ?_))
  | exact ih0 _ _ _
  | exact LeO.none _
  | refine LeO.ite ?_ ?_
  | refine LeO.bind ?_ (fun _ => ?_)
def jointerref01_SameRows.T6 : Bool × List (List Nat × List Nat) := (true, [([], []), ([], []), ([0, 1], [0, 1]), ([2], [2]), ([], []), ([], []), ([4, 5], [4, 5]), ([6], [6]), ([3, 7], [3, 7]), ([8], [8])])
def jointerref01_SameRows.B6 : List Nat := [0, 0, 3, 7, 0, 0, 48, 112, 255, 511]
theorem jointerref01_SameRows.tab6 : rtab .any (opsOf Tryd.f35 6) = jointerref01_SameRows.T6 := by kernel_rfl
theorem jointerref01_SameRows.bits6 : waitsOk jointerref01_SameRows.T6.2 jointerref01_SameRows.B6 = true := by kernel_rfl
set_option maxHeartbeats 8000000 in
set_option maxRecDepth 100000 in
theorem jointerref01_SameRows.calls (k : Nat) (A0 : Option Addr) (c0 : Nat) (l0 : List (S27)) (A1 : Option Addr) (c1 : Nat) (l1 : List (S27)) (r : Bool) (w : World) (hr0 : Kd.C k27 w A0 l0.length l0) (hc0 : l0.length ≤ c0) (hr1 : Kd.C k27 w A1 l1.length l1) (hc1 : l1.length ≤ c1) (h : jointerref01_SameRows.f k l0 l1 = some r) :
 Calls Tryd.prog 35 #[.slice A0 l0.length c0, .slice A1 l1.length c1] w fun e w' => e = .returned (.bool r) ∧ Below w.heap.size w w' := by
 have hu27 := Tryd.underlying27
 have HR0 := Aside0.mk hr0
 have HC0 := Aside0.mk hc0
 clear hr0 hc0
 have HR1 := Aside0.mk hr1
 have HC1 := Aside0.mk hc1
 clear hr1 hc1
 have HB := Aside0.mk (Below.refl w.heap.size w)
 have H : (if (l0.length : Int) = (l1.length : Int) then (jointerref01_SameRows.l0 k l0 l1 0) else (some false)) = some r := h
 clear h
 by_cases c3 : (l0.length : Int) = (l1.length : Int)
 · rw [if_pos c3] at H
   have c3b0 : ((l0.length : Int) == (l1.length : Int)) = true := beq_iff_eq.mpr c3
   have c3b1 : ((l0.length : Int) != (l1.length : Int)) = false := bne_eq_false_iff_eq.mpr c3
   have c3b2 : (l0.length == l1.length) = true := by first | simpa using c3 | (simp at c3 ⊢; omega)
   clear c3
   have H' := Aside0.mk H
   clear H
   go_enter Tryd.func35, Tryd.ntmps35
   go_wp2
   go_loopg [5] k (fun kq v5 w' => ∃ (x5_1 : Int), v5 = .int .i64 x5_1 ∧ Aside0 (jointerref01_SameRows.l0 kq l0 l1 x5_1 = some r) ∧ Aside0 (kq ≤ k) ∧ Aside0 (Below w.heap.size w w'))
   case atStart => exact ⟨(0), (by first | rfl | (simp; done) | (simp [*]; done)), H', ⟨Nat.le_refl _⟩, ⟨by repeat (first | (with_reducible first | exact HB.out | apply below_alloc | apply pw_below_drewN | apply below_drew1) | exact HB.out)⟩⟩
   case round =>
    clear H'
    try clear c1
    try clear p2
    try clear c3
    try clear c3b0
    try clear c3b1
    try clear c3b2
    obtain ⟨x5_1, rfl, HA, HK1, HB⟩ := hrel
    cases gk with
    | zero => exact absurd HA.out (by simp [jointerref01_SameRows.l0])
    | succ k1 =>
     have H := HA.out
     clear HA
     simp only [jointerref01_SameRows.l0] at H
     by_cases c4 : x5_1 < (l0.length : Int)
     · rw [if_pos c4] at H
       have c4b0 : decide (x5_1 < (l0.length : Int)) = true := decide_eq_true c4
       clear c4
       by_cases c5 : 0 ≤ x5_1
       · rw [if_pos c5] at H
         have c5b0 : decide (0 ≤ x5_1) = true := decide_eq_true c5
         clear c5
         by_cases c6 : x5_1 < (l1.length : Int)
         · rw [if_pos c6] at H
           have c6b0 : decide (x5_1 < (l1.length : Int)) = true := decide_eq_true c6
           clear c6
           replace H := Option.bind_eq_some_iff.mp H
           obtain ⟨t129, A70, H⟩ := H
           replace H : (if t129 = true then (jointerref01_SameRows.l0 k1 l0 l1 (wrap64 (x5_1 + 1))) else (some false)) = some r := H
           have A7 := Aside0.mk A70
           clear A70
           by_cases c8 : t129 = true
           · subst c8
             have H1 : (jointerref01_SameRows.l0 k1 l0 l1 (wrap64 (x5_1 + 1))) = some r := by rw [if_pos rfl] at H; exact H
             clear H
             have H := H1
             clear H1
             have H' := Aside0.mk H
             clear H
             try go_wp2
             have n0_ := Aside0.mk (below_drew1 HB.out)
             clear HB
             have HB := n0_
             clear n0_
             have p127 : 0 ≤ (x5_1 : Int) := of_decide_eq_true (by first | (with_reducible assumption) | assumption)
             have q127 : x5_1 < (l0.length : Int) := of_decide_eq_true (by first | (with_reducible assumption) | assumption)
             obtain ⟨ad127, e127, hx127_0, hx127_1, hx127_2⟩ := at_T27 HR0.out x5_1 p127 q127
             have hw127_2 := hx127_2
             have hw127_1 := hx127_1
             have hw127_0 := hx127_0
             cases e127
             replace hx127_0 := (HB.out.cell (World.block_lt_of_cell? w _ hx127_0)).trans hx127_0
             replace hx127_1 := (HB.out.cell (World.block_lt_of_cell? w _ hx127_1)).trans hx127_1
             replace hx127_2 := (HB.out.cell (World.block_lt_of_cell? w _ hx127_2)).trans hx127_2
             replace p127 := eq_true p127
             replace q127 := eq_true q127
             have p128 : 0 ≤ (x5_1 : Int) := of_decide_eq_true (by first | (with_reducible assumption) | assumption)
             have q128 : x5_1 < (l1.length : Int) := of_decide_eq_true (by first | (with_reducible assumption) | assumption)
             obtain ⟨ad128, e128, hx128_0, hx128_1, hx128_2⟩ := at_T27 HR1.out x5_1 p128 q128
             have hw128_2 := hx128_2
             have hw128_1 := hx128_1
             have hw128_0 := hx128_0
             cases e128
             replace hx128_0 := (HB.out.cell (World.block_lt_of_cell? w _ hx128_0)).trans hx128_0
             replace hx128_1 := (HB.out.cell (World.block_lt_of_cell? w _ hx128_1)).trans hx128_1
             replace hx128_2 := (HB.out.cell (World.block_lt_of_cell? w _ hx128_2)).trans hx128_2
             replace p128 := eq_true p128
             replace q128 := eq_true q128
             refine start_ (n := 10) (S := fun w' => w'.cell? (ad127.add ((x5_1).toNat * 3)) = some (.int .u8 ((rd_T27 l0 x5_1).f0)) ∧ w'.cell? ⟨(ad127.add ((x5_1).toNat * 3)).block, (ad127.add ((x5_1).toNat * 3)).off + 1, none⟩ = some (.int .i64 ((rd_T27 l0 x5_1).f1)) ∧ w'.cell? ⟨(ad127.add ((x5_1).toNat * 3)).block, (ad127.add ((x5_1).toNat * 3)).off + 2, none⟩ = some (.string ((rd_T27 l0 x5_1).f2)) ∧ w'.cell? (ad128.add ((x5_1).toNat * 3)) = some (.int .u8 ((rd_T27 l1 x5_1).f0)) ∧ w'.cell? ⟨(ad128.add ((x5_1).toNat * 3)).block, (ad128.add ((x5_1).toNat * 3)).off + 1, none⟩ = some (.int .i64 ((rd_T27 l1 x5_1).f1)) ∧ w'.cell? ⟨(ad128.add ((x5_1).toNat * 3)).block, (ad128.add ((x5_1).toNat * 3)).off + 2, none⟩ = some (.string ((rd_T27 l1 x5_1).f2))) (ds := []) #[false, false, false, false, false, false, false, false, false, false] (by kernel_rfl) rfl rfl ⟨((HB.out.cell (World.block_lt_of_cell? w _ hw127_0)).trans hw127_0), ((HB.out.cell (World.block_lt_of_cell? w _ hw127_1)).trans hw127_1), ((HB.out.cell (World.block_lt_of_cell? w _ hw127_2)).trans hw127_2), ((HB.out.cell (World.block_lt_of_cell? w _ hw128_0)).trans hw128_0), ((HB.out.cell (World.block_lt_of_cell? w _ hw128_1)).trans hw128_1), ((HB.out.cell (World.block_lt_of_cell? w _ hw128_2)).trans hw128_2)⟩ (fun hHeld => ?_); refine with_tabW jointerref01_SameRows.tab6 jointerref01_SameRows.bits6 (fun HT_ HW_ => ?_)
             generalize wr.drew = w9 at HB hx127_0 hx127_1 hx127_2 hx128_0 hx128_1 hx128_2 hHeld ⊢
             refine pure_ (i := 0) (N := some 17) (v := ?_) (a' := ?_) #[true, false, false, false, false, false, false, false, false, false] rfl rfl (any_of HT_.out (by kernel_rfl)) (fun _ _ _ h => h) (Or.inl ⟨by rfl, ?_⟩) ?_ ?_
             rotate_left
             · intro w'
               go_simp
               with_reducible rfl
             rotate_left
             · simp only [Act.put, List.setIfInBounds_toArray, List.set_cons_zero, List.set_cons_succ, i64_w, i32_w]
               rfl
             refine pure_ (i := 1) (N := some 18) (v := ?_) (a' := ?_) #[true, true, false, false, false, false, false, false, false, false] rfl rfl (any_of HT_.out (by kernel_rfl)) (fun _ _ _ h => h) (Or.inl ⟨by rfl, ?_⟩) ?_ ?_
             rotate_left
             · intro w'
               go_simp
               with_reducible rfl
             rotate_left
             · simp only [Act.put, List.setIfInBounds_toArray, List.set_cons_zero, List.set_cons_succ, i64_w, i32_w]
               rfl
             refine pure_ (i := 2) (N := some 19) (v := ?_) (a' := ?_) #[true, true, true, false, false, false, false, false, false, false] rfl rfl (any_of HT_.out (by kernel_rfl)) (fun _ _ _ h => h) (Or.inl ⟨by rfl, ?_⟩) ?_ ?_
             rotate_left
             · intro w'
               go_simp
               with_reducible rfl
             rotate_left
             · simp only [Act.put, List.setIfInBounds_toArray, List.set_cons_zero, List.set_cons_succ, i64_w, i32_w]
               rfl
             refine pure_ (i := 4) (N := some 21) (v := ?_) (a' := ?_) #[true, true, true, false, true, false, false, false, false, false] rfl rfl (any_of HT_.out (by kernel_rfl)) (fun _ _ _ h => h) (Or.inl ⟨by rfl, ?_⟩) ?_ ?_
             rotate_left
             · intro w'
               go_simp
               with_reducible rfl
             rotate_left
             · simp only [Act.put, List.setIfInBounds_toArray, List.set_cons_zero, List.set_cons_succ, i64_w, i32_w]
               rfl
             refine pure_ (i := 5) (N := some 22) (v := ?_) (a' := ?_) #[true, true, true, false, true, true, false, false, false, false] rfl rfl (any_of HT_.out (by kernel_rfl)) (fun _ _ _ h => h) (Or.inl ⟨by rfl, ?_⟩) ?_ ?_
             rotate_left
             · intro w'
               go_simp
               with_reducible rfl
             rotate_left
             · simp only [Act.put, List.setIfInBounds_toArray, List.set_cons_zero, List.set_cons_succ, i64_w, i32_w]
               rfl
             refine pure_ (i := 6) (N := some 23) (v := ?_) (a' := ?_) #[true, true, true, false, true, true, true, false, false, false] rfl rfl (any_of HT_.out (by kernel_rfl)) (fun _ _ _ h => h) (Or.inl ⟨by rfl, ?_⟩) ?_ ?_
             rotate_left
             · intro w'
               go_simp
               with_reducible rfl
             rotate_left
             · simp only [Act.put, List.setIfInBounds_toArray, List.set_cons_zero, List.set_cons_succ, i64_w, i32_w]
               rfl
             refine take_ (i := 3) (N := some 20) (v := ?_) (a' := ?_) #[true, true, true, true, true, true, true, false, false, false] rfl rfl (take_ofW HT_.out HW_.out (by kernel_rfl)) (fun _ _ _ h => h) (Or.inl ⟨by rfl, ?_⟩) hHeld ?_ ?_
             rotate_left
             · rintro w' ⟨s0, s1, s2, s3, s4, s5⟩
               go_simp
               with_reducible rfl
             rotate_left
             · simp only [Act.put, List.setIfInBounds_toArray, List.set_cons_zero, List.set_cons_succ, i64_w, i32_w]
               rfl
             refine take_ (i := 7) (N := some 24) (v := ?_) (a' := ?_) #[true, true, true, true, true, true, true, true, false, false] rfl rfl (take_ofW HT_.out HW_.out (by kernel_rfl)) (fun _ _ _ h => h) (Or.inl ⟨by rfl, ?_⟩) hHeld ?_ ?_
             rotate_left
             · rintro w' ⟨s0, s1, s2, s3, s4, s5⟩
               go_simp
               with_reducible rfl
             rotate_left
             · simp only [Act.put, List.setIfInBounds_toArray, List.set_cons_zero, List.set_cons_succ, i64_w, i32_w]
               rfl
             refine one_ (i := 8) (N := some 25) #[true, true, true, true, true, true, true, true, true, false] rfl rfl (one_of HT_.out (by kernel_rfl)) (by decide) (fun K hK => ?_)
             refine goes_ Tryd.func14 (by kernel_rfl) rfl #[.agg #[.int .u8 ((rd_T27 l0 x5_1).f0), .int .i64 ((rd_T27 l0 x5_1).f1), .string ((rd_T27 l0 x5_1).f2)], .agg #[.int .u8 ((rd_T27 l1 x5_1).f0), .int .i64 ((rd_T27 l1 x5_1).f1), .string ((rd_T27 l1 x5_1).f2)]] (by rfl) rfl rfl (by (try simp only [List.map_toArray, List.map_cons, List.map_nil]); first | done | rfl | (simp only [List.length_drop, List.length_take]; rfl)) ?_
             with_reducible refine (jointerref01_Same.calls ((rd_T27 l0 x5_1).f0) ((rd_T27 l0 x5_1).f1) ((rd_T27 l0 x5_1).f2) ((rd_T27 l1 x5_1).f0) ((rd_T27 l1 x5_1).f1) ((rd_T27 l1 x5_1).f2) true _ A7.out).mono ?_
             rintro e w10 ⟨rfl, hb⟩
             refine ⟨_, rfl, ?_⟩
             have n0_ := Aside0.mk (below_step (by repeat (first | (with_reducible first | exact HB.out | apply below_alloc | apply pw_below_drewN | apply below_drew1) | exact HB.out)) hb)
             clear HB
             have HB := n0_
             clear n0_
             (try clear hb)
             (try clear hb2)
             (try clear hk)
             (try clear hi)
             refine hK.out _ _ ⟨((HB.out.cell (World.block_lt_of_cell? w _ hw127_0)).trans hw127_0), ((HB.out.cell (World.block_lt_of_cell? w _ hw127_1)).trans hw127_1), ((HB.out.cell (World.block_lt_of_cell? w _ hw127_2)).trans hw127_2), ((HB.out.cell (World.block_lt_of_cell? w _ hw128_0)).trans hw128_0), ((HB.out.cell (World.block_lt_of_cell? w _ hw128_1)).trans hw128_1), ((HB.out.cell (World.block_lt_of_cell? w _ hw128_2)).trans hw128_2)⟩ (fun hHeld => ?_)
             clear hK K
             refine norm_ (a' := ?_) ?_ ?_
             rotate_left
             · show Act.put _ (some 25) _ = _
               simp only [Act.put, List.setIfInBounds_toArray, List.set_cons_zero, List.set_cons_succ, i64_w, i32_w]
               rfl
             refine pure_ (i := 9) (N := some 26) (v := ?_) (a' := ?_) #[true, true, true, true, true, true, true, true, true, true] rfl rfl (any_of HT_.out (by kernel_rfl)) (fun _ _ _ h => h) (Or.inl ⟨by rfl, ?_⟩) ?_ ?_
             rotate_left
             · intro w'
               go_simp
               with_reducible rfl
             rotate_left
             · simp only [Act.put, List.setIfInBounds_toArray, List.set_cons_zero, List.set_cons_succ, i64_w, i32_w]
               rfl
             refine done_ (done_of HT_.out (by kernel_rfl)) ?_
             try go_wp2
             go_roundg k1
             case measure => have := HK1.out; omega
             case rel => exact ⟨(wrap64 (x5_1 + 1)), (by first | rfl | (simp; done) | (simp [*]; done)), H', ⟨by have := HK1.out; omega⟩, ⟨by repeat (first | (with_reducible first | exact HB.out | apply below_alloc | apply pw_below_drewN | apply below_drew1) | exact HB.out)⟩⟩
           · replace c8 := Bool.eq_false_iff.mpr c8
             subst c8
             have H1 : (some false) = some r := by rw [if_neg (show ¬ (false = true) by decide)] at H; exact H
             clear H
             have H := H1
             clear H1
             obtain rfl := Option.some.inj H
             try go_wp2
             have n0_ := Aside0.mk (below_drew1 HB.out)
             clear HB
             have HB := n0_
             clear n0_
             have p127 : 0 ≤ (x5_1 : Int) := of_decide_eq_true (by first | (with_reducible assumption) | assumption)
             have q127 : x5_1 < (l0.length : Int) := of_decide_eq_true (by first | (with_reducible assumption) | assumption)
             obtain ⟨ad127, e127, hx127_0, hx127_1, hx127_2⟩ := at_T27 HR0.out x5_1 p127 q127
             have hw127_2 := hx127_2
             have hw127_1 := hx127_1
             have hw127_0 := hx127_0
             cases e127
             replace hx127_0 := (HB.out.cell (World.block_lt_of_cell? w _ hx127_0)).trans hx127_0
             replace hx127_1 := (HB.out.cell (World.block_lt_of_cell? w _ hx127_1)).trans hx127_1
             replace hx127_2 := (HB.out.cell (World.block_lt_of_cell? w _ hx127_2)).trans hx127_2
             replace p127 := eq_true p127
             replace q127 := eq_true q127
             have p128 : 0 ≤ (x5_1 : Int) := of_decide_eq_true (by first | (with_reducible assumption) | assumption)
             have q128 : x5_1 < (l1.length : Int) := of_decide_eq_true (by first | (with_reducible assumption) | assumption)
             obtain ⟨ad128, e128, hx128_0, hx128_1, hx128_2⟩ := at_T27 HR1.out x5_1 p128 q128
             have hw128_2 := hx128_2
             have hw128_1 := hx128_1
             have hw128_0 := hx128_0
             cases e128
             replace hx128_0 := (HB.out.cell (World.block_lt_of_cell? w _ hx128_0)).trans hx128_0
             replace hx128_1 := (HB.out.cell (World.block_lt_of_cell? w _ hx128_1)).trans hx128_1
             replace hx128_2 := (HB.out.cell (World.block_lt_of_cell? w _ hx128_2)).trans hx128_2
             replace p128 := eq_true p128
             replace q128 := eq_true q128
             refine start_ (n := 10) (S := fun w' => w'.cell? (ad127.add ((x5_1).toNat * 3)) = some (.int .u8 ((rd_T27 l0 x5_1).f0)) ∧ w'.cell? ⟨(ad127.add ((x5_1).toNat * 3)).block, (ad127.add ((x5_1).toNat * 3)).off + 1, none⟩ = some (.int .i64 ((rd_T27 l0 x5_1).f1)) ∧ w'.cell? ⟨(ad127.add ((x5_1).toNat * 3)).block, (ad127.add ((x5_1).toNat * 3)).off + 2, none⟩ = some (.string ((rd_T27 l0 x5_1).f2)) ∧ w'.cell? (ad128.add ((x5_1).toNat * 3)) = some (.int .u8 ((rd_T27 l1 x5_1).f0)) ∧ w'.cell? ⟨(ad128.add ((x5_1).toNat * 3)).block, (ad128.add ((x5_1).toNat * 3)).off + 1, none⟩ = some (.int .i64 ((rd_T27 l1 x5_1).f1)) ∧ w'.cell? ⟨(ad128.add ((x5_1).toNat * 3)).block, (ad128.add ((x5_1).toNat * 3)).off + 2, none⟩ = some (.string ((rd_T27 l1 x5_1).f2))) (ds := []) #[false, false, false, false, false, false, false, false, false, false] (by kernel_rfl) rfl rfl ⟨((HB.out.cell (World.block_lt_of_cell? w _ hw127_0)).trans hw127_0), ((HB.out.cell (World.block_lt_of_cell? w _ hw127_1)).trans hw127_1), ((HB.out.cell (World.block_lt_of_cell? w _ hw127_2)).trans hw127_2), ((HB.out.cell (World.block_lt_of_cell? w _ hw128_0)).trans hw128_0), ((HB.out.cell (World.block_lt_of_cell? w _ hw128_1)).trans hw128_1), ((HB.out.cell (World.block_lt_of_cell? w _ hw128_2)).trans hw128_2)⟩ (fun hHeld => ?_); refine with_tabW jointerref01_SameRows.tab6 jointerref01_SameRows.bits6 (fun HT_ HW_ => ?_)
             generalize wr.drew = w11 at HB hx127_0 hx127_1 hx127_2 hx128_0 hx128_1 hx128_2 hHeld ⊢
             refine pure_ (i := 0) (N := some 17) (v := ?_) (a' := ?_) #[true, false, false, false, false, false, false, false, false, false] rfl rfl (any_of HT_.out (by kernel_rfl)) (fun _ _ _ h => h) (Or.inl ⟨by rfl, ?_⟩) ?_ ?_
             rotate_left
             · intro w'
               go_simp
               with_reducible rfl
             rotate_left
             · simp only [Act.put, List.setIfInBounds_toArray, List.set_cons_zero, List.set_cons_succ, i64_w, i32_w]
               rfl
             refine pure_ (i := 1) (N := some 18) (v := ?_) (a' := ?_) #[true, true, false, false, false, false, false, false, false, false] rfl rfl (any_of HT_.out (by kernel_rfl)) (fun _ _ _ h => h) (Or.inl ⟨by rfl, ?_⟩) ?_ ?_
             rotate_left
             · intro w'
               go_simp
               with_reducible rfl
             rotate_left
             · simp only [Act.put, List.setIfInBounds_toArray, List.set_cons_zero, List.set_cons_succ, i64_w, i32_w]
               rfl
             refine pure_ (i := 2) (N := some 19) (v := ?_) (a' := ?_) #[true, true, true, false, false, false, false, false, false, false] rfl rfl (any_of HT_.out (by kernel_rfl)) (fun _ _ _ h => h) (Or.inl ⟨by rfl, ?_⟩) ?_ ?_
             rotate_left
             · intro w'
               go_simp
               with_reducible rfl
             rotate_left
             · simp only [Act.put, List.setIfInBounds_toArray, List.set_cons_zero, List.set_cons_succ, i64_w, i32_w]
               rfl
             refine pure_ (i := 4) (N := some 21) (v := ?_) (a' := ?_) #[true, true, true, false, true, false, false, false, false, false] rfl rfl (any_of HT_.out (by kernel_rfl)) (fun _ _ _ h => h) (Or.inl ⟨by rfl, ?_⟩) ?_ ?_
             rotate_left
             · intro w'
               go_simp
               with_reducible rfl
             rotate_left
             · simp only [Act.put, List.setIfInBounds_toArray, List.set_cons_zero, List.set_cons_succ, i64_w, i32_w]
               rfl
             refine pure_ (i := 5) (N := some 22) (v := ?_) (a' := ?_) #[true, true, true, false, true, true, false, false, false, false] rfl rfl (any_of HT_.out (by kernel_rfl)) (fun _ _ _ h => h) (Or.inl ⟨by rfl, ?_⟩) ?_ ?_
             rotate_left
             · intro w'
               go_simp
               with_reducible rfl
             rotate_left
             · simp only [Act.put, List.setIfInBounds_toArray, List.set_cons_zero, List.set_cons_succ, i64_w, i32_w]
               rfl
             refine pure_ (i := 6) (N := some 23) (v := ?_) (a' := ?_) #[true, true, true, false, true, true, true, false, false, false] rfl rfl (any_of HT_.out (by kernel_rfl)) (fun _ _ _ h => h) (Or.inl ⟨by rfl, ?_⟩) ?_ ?_
             rotate_left
             · intro w'
               go_simp
               with_reducible rfl
             rotate_left
             · simp only [Act.put, List.setIfInBounds_toArray, List.set_cons_zero, List.set_cons_succ, i64_w, i32_w]
               rfl
             refine take_ (i := 3) (N := some 20) (v := ?_) (a' := ?_) #[true, true, true, true, true, true, true, false, false, false] rfl rfl (take_ofW HT_.out HW_.out (by kernel_rfl)) (fun _ _ _ h => h) (Or.inl ⟨by rfl, ?_⟩) hHeld ?_ ?_
             rotate_left
             · rintro w' ⟨s0, s1, s2, s3, s4, s5⟩
               go_simp
               with_reducible rfl
             rotate_left
             · simp only [Act.put, List.setIfInBounds_toArray, List.set_cons_zero, List.set_cons_succ, i64_w, i32_w]
               rfl
             refine take_ (i := 7) (N := some 24) (v := ?_) (a' := ?_) #[true, true, true, true, true, true, true, true, false, false] rfl rfl (take_ofW HT_.out HW_.out (by kernel_rfl)) (fun _ _ _ h => h) (Or.inl ⟨by rfl, ?_⟩) hHeld ?_ ?_
             rotate_left
             · rintro w' ⟨s0, s1, s2, s3, s4, s5⟩
               go_simp
               with_reducible rfl
             rotate_left
             · simp only [Act.put, List.setIfInBounds_toArray, List.set_cons_zero, List.set_cons_succ, i64_w, i32_w]
               rfl
             refine one_ (i := 8) (N := some 25) #[true, true, true, true, true, true, true, true, true, false] rfl rfl (one_of HT_.out (by kernel_rfl)) (by decide) (fun K hK => ?_)
             refine goes_ Tryd.func14 (by kernel_rfl) rfl #[.agg #[.int .u8 ((rd_T27 l0 x5_1).f0), .int .i64 ((rd_T27 l0 x5_1).f1), .string ((rd_T27 l0 x5_1).f2)], .agg #[.int .u8 ((rd_T27 l1 x5_1).f0), .int .i64 ((rd_T27 l1 x5_1).f1), .string ((rd_T27 l1 x5_1).f2)]] (by rfl) rfl rfl (by (try simp only [List.map_toArray, List.map_cons, List.map_nil]); first | done | rfl | (simp only [List.length_drop, List.length_take]; rfl)) ?_
             with_reducible refine (jointerref01_Same.calls ((rd_T27 l0 x5_1).f0) ((rd_T27 l0 x5_1).f1) ((rd_T27 l0 x5_1).f2) ((rd_T27 l1 x5_1).f0) ((rd_T27 l1 x5_1).f1) ((rd_T27 l1 x5_1).f2) false _ A7.out).mono ?_
             rintro e w12 ⟨rfl, hb⟩
             refine ⟨_, rfl, ?_⟩
             have n0_ := Aside0.mk (below_step (by repeat (first | (with_reducible first | exact HB.out | apply below_alloc | apply pw_below_drewN | apply below_drew1) | exact HB.out)) hb)
             clear HB
             have HB := n0_
             clear n0_
             (try clear hb)
             (try clear hb2)
             (try clear hk)
             (try clear hi)
             refine hK.out _ _ ⟨((HB.out.cell (World.block_lt_of_cell? w _ hw127_0)).trans hw127_0), ((HB.out.cell (World.block_lt_of_cell? w _ hw127_1)).trans hw127_1), ((HB.out.cell (World.block_lt_of_cell? w _ hw127_2)).trans hw127_2), ((HB.out.cell (World.block_lt_of_cell? w _ hw128_0)).trans hw128_0), ((HB.out.cell (World.block_lt_of_cell? w _ hw128_1)).trans hw128_1), ((HB.out.cell (World.block_lt_of_cell? w _ hw128_2)).trans hw128_2)⟩ (fun hHeld => ?_)
             clear hK K
             refine norm_ (a' := ?_) ?_ ?_
             rotate_left
             · show Act.put _ (some 25) _ = _
               simp only [Act.put, List.setIfInBounds_toArray, List.set_cons_zero, List.set_cons_succ, i64_w, i32_w]
               rfl
             refine pure_ (i := 9) (N := some 26) (v := ?_) (a' := ?_) #[true, true, true, true, true, true, true, true, true, true] rfl rfl (any_of HT_.out (by kernel_rfl)) (fun _ _ _ h => h) (Or.inl ⟨by rfl, ?_⟩) ?_ ?_
             rotate_left
             · intro w'
               go_simp
               with_reducible rfl
             rotate_left
             · simp only [Act.put, List.setIfInBounds_toArray, List.set_cons_zero, List.set_cons_succ, i64_w, i32_w]
               rfl
             refine done_ (done_of HT_.out (by kernel_rfl)) ?_
             try go_wp2
             go_ret
             exact ⟨by first | rfl | (simp [errW_none, errW_some] <;> rfl) | (simp [*, errW_none, errW_some] <;> rfl), by repeat (first | (with_reducible first | exact HB.out | apply below_alloc | apply pw_below_drewN | apply below_drew1) | exact HB.out)⟩
         · rw [if_neg c6] at H
           exact absurd H (by simp)
       · rw [if_neg c5] at H
         exact absurd H (by simp)
     · rw [if_neg c4] at H
       have c4b0 : decide (x5_1 < (l0.length : Int)) = false := decide_eq_false c4
       clear c4
       obtain rfl := Option.some.inj H
       go_wp2
       go_ret
       exact ⟨by first | rfl | (simp [errW_none, errW_some] <;> rfl) | (simp [*, errW_none, errW_some] <;> rfl), by repeat (first | (with_reducible first | exact HB.out | apply below_alloc | apply pw_below_drewN | apply below_drew1) | exact HB.out)⟩
 · rw [if_neg c3] at H
   have c3b0 : ((l0.length : Int) == (l1.length : Int)) = false := beq_eq_false_iff_ne.mpr c3
   have c3b1 : ((l0.length : Int) != (l1.length : Int)) = true := bne_iff_ne.mpr c3
   have c3b2 : (l0.length == l1.length) = false := by first | simpa using c3 | (simp at c3 ⊢; omega)
   obtain rfl := Option.some.inj H
   go_enter Tryd.func35, Tryd.ntmps35
   go_wp2
   go_ret
   exact ⟨by first | rfl | (simp [errW_none, errW_some] <;> rfl) | (simp [*, errW_none, errW_some] <;> rfl), by repeat (first | (with_reducible first | exact HB.out | apply below_alloc | apply pw_below_drewN | apply below_drew1) | exact HB.out)⟩
end Go.Proofs.YtecgkcgfeghhgaaDoor.PAll
namespace Go.Proofs.YtecgkcgfeghhgaaDoor.PAll
open Go.RowKit Go.Proofs.YtecgkcgfeghhgaaDoorW.PrintWords Go.Proofs.YtecgkcgfeghhgaaDoorW.PrintLast Go.Proofs.YtecgkcgfeghhgaaDoorW.PrintMore
attribute [local go_sem] max2_int min2_int max_two min_two max_three min_three max_four min_four
set_option linter.unusedVariables false
set_option linter.unusedSimpArgs false
def jointerref06_SameLists.l0 : Nat → List (List (S27)) → List (List (S27)) → Int → Option (Bool)
 | 0, _, _, _ => none
 | k + 1, x0, x1, x5 => if x5 < (x0.length : Int) then (if 0 ≤ x5 then (if x5 < (x1.length : Int) then ((jointerref01_SameRows.f k (rd_L4 x0 x5) (rd_L4 x1 x5)).bind fun t132 => (if t132 = true then (jointerref06_SameLists.l0 k x0 x1 (wrap64 (x5 + 1))) else (some false))) else (none)) else (none)) else (some true)
def jointerref06_SameLists.f (k : Nat) (l0 : List (List (S27))) (l1 : List (List (S27))) : Option (Bool) := if (l0.length : Int) = (l1.length : Int) then (jointerref06_SameLists.l0 k l0 l1 0) else (some false)
theorem jointerref06_SameLists.mono_l : ∀ k, (∀ y0 y1 y2, LeO (jointerref06_SameLists.l0 k y0 y1 y2) (jointerref06_SameLists.l0 (k + 1) y0 y1 y2))
 | 0 => fun _ _ _ r h => by simp [jointerref06_SameLists.l0] at h
 | k + 1 => by
  have ih0 := jointerref06_SameLists.mono_l k
  · intro y0 y1 y2
    unfold jointerref06_SameLists.l0
    repeat' first
    | (with_reducible exact ih0 _ _ _)
    | (with_reducible exact jointerref01_SameRows.mono _ _ _)
    | (with_reducible exact LeO.refl _)
    | (with_reducible exact LeO.none _)
    | (with_reducible refine LeO.ite ?_ ?_)
    | (with_reducible refine LeO.bind ?_ (fun _ => ?_))
    | exact ih0 _ _ _
    | exact jointerref01_SameRows.mono _ _ _
    | exact LeO.none _
    | refine LeO.ite ?_ ?_
    | refine LeO.bind ?_ (fun _ => ?_)
theorem jointerref06_SameLists.mono : ∀ a0 a1 k, LeO (jointerref06_SameLists.f k a0 a1) (jointerref06_SameLists.f (k + 1) a0 a1) := by
 intro a0 a1 k
 have ih0 := jointerref06_SameLists.mono_l k
 unfold jointerref06_SameLists.f
 repeat' first
  | (with_reducible exact ih0 _ _ _)
  | (with_reducible exact jointerref01_SameRows.mono _ _ _)
  | (with_reducible exact LeO.refl _)
  | (with_reducible exact LeO.none _)
  | (with_reducible refine LeO.ite ?_ ?_)
  | (with_reducible refine LeO.bind ?_ (fun _ => ?_))
  | exact ih0 _ _ _
  | exact jointerref01_SameRows.mono _ _ _
  | exact LeO.none _
  | refine LeO.ite ?_ ?_
  | refine LeO.bind ?_ (fun _ => ?_)
def jointerref06_SameLists.T6 : Bool × List (List Nat × List Nat) := (true, [([], []), ([], []), ([0, 1], [0, 1]), ([2], [2]), ([], []), ([], []), ([4, 5], [4, 5]), ([6], [6]), ([3, 7], [3, 7]), ([8], [8])])
def jointerref06_SameLists.B6 : List Nat := [0, 0, 3, 7, 0, 0, 48, 112, 255, 511]
theorem jointerref06_SameLists.tab6 : rtab .any (opsOf Tryd.f19 6) = jointerref06_SameLists.T6 := by kernel_rfl
theorem jointerref06_SameLists.bits6 : waitsOk jointerref06_SameLists.T6.2 jointerref06_SameLists.B6 = true := by kernel_rfl
set_option maxHeartbeats 8000000 in
set_option maxRecDepth 100000 in
theorem jointerref06_SameLists.calls (k : Nat) (A0 : Option Addr) (c0 : Nat) (l0 : List (List (S27))) (A1 : Option Addr) (c1 : Nat) (l1 : List (List (S27))) (r : Bool) (w : World) (hr0 : Kd.C (Kd.slice 27 k27) w A0 l0.length l0) (hc0 : l0.length ≤ c0) (hr1 : Kd.C (Kd.slice 27 k27) w A1 l1.length l1) (hc1 : l1.length ≤ c1) (h : jointerref06_SameLists.f k l0 l1 = some r) :
 Calls Tryd.prog 19 #[.slice A0 l0.length c0, .slice A1 l1.length c1] w fun e w' => e = .returned (.bool r) ∧ Below w.heap.size w w' := by
 have HR0 := Aside0.mk hr0
 have HC0 := Aside0.mk hc0
 clear hr0 hc0
 have HR1 := Aside0.mk hr1
 have HC1 := Aside0.mk hc1
 clear hr1 hc1
 have HB := Aside0.mk (Below.refl w.heap.size w)
 have H : (if (l0.length : Int) = (l1.length : Int) then (jointerref06_SameLists.l0 k l0 l1 0) else (some false)) = some r := h
 clear h
 by_cases c3 : (l0.length : Int) = (l1.length : Int)
 · rw [if_pos c3] at H
   have c3b0 : ((l0.length : Int) == (l1.length : Int)) = true := beq_iff_eq.mpr c3
   have c3b1 : ((l0.length : Int) != (l1.length : Int)) = false := bne_eq_false_iff_eq.mpr c3
   have c3b2 : (l0.length == l1.length) = true := by first | simpa using c3 | (simp at c3 ⊢; omega)
   clear c3
   have H' := Aside0.mk H
   clear H
   go_enter Tryd.func19, Tryd.ntmps19
   go_wp2
   go_loopg [5] k (fun kq v5 w' => ∃ (x5_1 : Int), v5 = .int .i64 x5_1 ∧ Aside0 (jointerref06_SameLists.l0 kq l0 l1 x5_1 = some r) ∧ Aside0 (kq ≤ k) ∧ Aside0 (Below w.heap.size w w'))
   case atStart => exact ⟨(0), (by first | rfl | (simp; done) | (simp [*]; done)), H', ⟨Nat.le_refl _⟩, ⟨by repeat (first | (with_reducible first | exact HB.out | apply below_alloc | apply pw_below_drewN | apply below_drew1) | exact HB.out)⟩⟩
   case round =>
    clear H'
    try clear c1
    try clear p2
    try clear c3
    try clear c3b0
    try clear c3b1
    try clear c3b2
    obtain ⟨x5_1, rfl, HA, HK1, HB⟩ := hrel
    cases gk with
    | zero => exact absurd HA.out (by simp [jointerref06_SameLists.l0])
    | succ k1 =>
     have H := HA.out
     clear HA
     simp only [jointerref06_SameLists.l0] at H
     by_cases c4 : x5_1 < (l0.length : Int)
     · rw [if_pos c4] at H
       have c4b0 : decide (x5_1 < (l0.length : Int)) = true := decide_eq_true c4
       clear c4
       by_cases c5 : 0 ≤ x5_1
       · rw [if_pos c5] at H
         have c5b0 : decide (0 ≤ x5_1) = true := decide_eq_true c5
         clear c5
         by_cases c6 : x5_1 < (l1.length : Int)
         · rw [if_pos c6] at H
           have c6b0 : decide (x5_1 < (l1.length : Int)) = true := decide_eq_true c6
           clear c6
           replace H := Option.bind_eq_some_iff.mp H
           obtain ⟨t132, A70, H⟩ := H
           replace H : (if t132 = true then (jointerref06_SameLists.l0 k1 l0 l1 (wrap64 (x5_1 + 1))) else (some false)) = some r := H
           have A7 := Aside0.mk A70
           clear A70
           by_cases c8 : t132 = true
           · subst c8
             have H1 : (jointerref06_SameLists.l0 k1 l0 l1 (wrap64 (x5_1 + 1))) = some r := by rw [if_pos rfl] at H; exact H
             clear H
             have H := H1
             clear H1
             have H' := Aside0.mk H
             clear H
             try go_wp2
             have n0_ := Aside0.mk (below_drew1 HB.out)
             clear HB
             have HB := n0_
             clear n0_
             have p130 : 0 ≤ (x5_1 : Int) := of_decide_eq_true (by first | (with_reducible assumption) | assumption)
             have q130 : x5_1 < (l0.length : Int) := of_decide_eq_true (by first | (with_reducible assumption) | assumption)
             obtain ⟨ad130, A130_0, c130_0, e130, hx130_0, hl130_0, hi130_0⟩ := at_L4 HR0.out x5_1 p130 q130
             have hw130_0 := hx130_0
             cases e130
             replace hx130_0 := (HB.out.cell (World.block_lt_of_cell? w _ hx130_0)).trans hx130_0
             have HR130_0 := Aside0.mk hi130_0
             have HC130_0 := Aside0.mk hl130_0
             clear hi130_0 hl130_0
             replace p130 := eq_true p130
             replace q130 := eq_true q130
             have p131 : 0 ≤ (x5_1 : Int) := of_decide_eq_true (by first | (with_reducible assumption) | assumption)
             have q131 : x5_1 < (l1.length : Int) := of_decide_eq_true (by first | (with_reducible assumption) | assumption)
             obtain ⟨ad131, A131_0, c131_0, e131, hx131_0, hl131_0, hi131_0⟩ := at_L4 HR1.out x5_1 p131 q131
             have hw131_0 := hx131_0
             cases e131
             replace hx131_0 := (HB.out.cell (World.block_lt_of_cell? w _ hx131_0)).trans hx131_0
             have HR131_0 := Aside0.mk hi131_0
             have HC131_0 := Aside0.mk hl131_0
             clear hi131_0 hl131_0
             replace p131 := eq_true p131
             replace q131 := eq_true q131
             refine start_ (n := 10) (S := fun w' => w'.cell? (ad130.add (x5_1).toNat) = some (.slice A130_0 (rd_L4 l0 x5_1).length c130_0) ∧ w'.cell? (ad131.add (x5_1).toNat) = some (.slice A131_0 (rd_L4 l1 x5_1).length c131_0)) (ds := []) #[false, false, false, false, false, false, false, false, false, false] (by kernel_rfl) rfl rfl ⟨((HB.out.cell (World.block_lt_of_cell? w _ hw130_0)).trans hw130_0), ((HB.out.cell (World.block_lt_of_cell? w _ hw131_0)).trans hw131_0)⟩ (fun hHeld => ?_); refine with_tabW jointerref06_SameLists.tab6 jointerref06_SameLists.bits6 (fun HT_ HW_ => ?_)
             generalize wr.drew = w9 at HB HR130_0 HR131_0 hx130_0 hx131_0 hHeld ⊢
             refine pure_ (i := 0) (N := some 17) (v := ?_) (a' := ?_) #[true, false, false, false, false, false, false, false, false, false] rfl rfl (any_of HT_.out (by kernel_rfl)) (fun _ _ _ h => h) (Or.inl ⟨by rfl, ?_⟩) ?_ ?_
             rotate_left
             · intro w'
               go_simp
               with_reducible rfl
             rotate_left
             · simp only [Act.put, List.setIfInBounds_toArray, List.set_cons_zero, List.set_cons_succ, i64_w, i32_w]
               rfl
             refine pure_ (i := 1) (N := some 18) (v := ?_) (a' := ?_) #[true, true, false, false, false, false, false, false, false, false] rfl rfl (any_of HT_.out (by kernel_rfl)) (fun _ _ _ h => h) (Or.inl ⟨by rfl, ?_⟩) ?_ ?_
             rotate_left
             · intro w'
               go_simp
               with_reducible rfl
             rotate_left
             · simp only [Act.put, List.setIfInBounds_toArray, List.set_cons_zero, List.set_cons_succ, i64_w, i32_w]
               rfl
             refine pure_ (i := 2) (N := some 19) (v := ?_) (a' := ?_) #[true, true, true, false, false, false, false, false, false, false] rfl rfl (any_of HT_.out (by kernel_rfl)) (fun _ _ _ h => h) (Or.inl ⟨by rfl, ?_⟩) ?_ ?_
             rotate_left
             · intro w'
               go_simp
               with_reducible rfl
             rotate_left
             · simp only [Act.put, List.setIfInBounds_toArray, List.set_cons_zero, List.set_cons_succ, i64_w, i32_w]
               rfl
             refine pure_ (i := 4) (N := some 21) (v := ?_) (a' := ?_) #[true, true, true, false, true, false, false, false, false, false] rfl rfl (any_of HT_.out (by kernel_rfl)) (fun _ _ _ h => h) (Or.inl ⟨by rfl, ?_⟩) ?_ ?_
             rotate_left
             · intro w'
               go_simp
               with_reducible rfl
             rotate_left
             · simp only [Act.put, List.setIfInBounds_toArray, List.set_cons_zero, List.set_cons_succ, i64_w, i32_w]
               rfl
             refine pure_ (i := 5) (N := some 22) (v := ?_) (a' := ?_) #[true, true, true, false, true, true, false, false, false, false] rfl rfl (any_of HT_.out (by kernel_rfl)) (fun _ _ _ h => h) (Or.inl ⟨by rfl, ?_⟩) ?_ ?_
             rotate_left
             · intro w'
               go_simp
               with_reducible rfl
             rotate_left
             · simp only [Act.put, List.setIfInBounds_toArray, List.set_cons_zero, List.set_cons_succ, i64_w, i32_w]
               rfl
             refine pure_ (i := 6) (N := some 23) (v := ?_) (a' := ?_) #[true, true, true, false, true, true, true, false, false, false] rfl rfl (any_of HT_.out (by kernel_rfl)) (fun _ _ _ h => h) (Or.inl ⟨by rfl, ?_⟩) ?_ ?_
             rotate_left
             · intro w'
               go_simp
               with_reducible rfl
             rotate_left
             · simp only [Act.put, List.setIfInBounds_toArray, List.set_cons_zero, List.set_cons_succ, i64_w, i32_w]
               rfl
             refine take_ (i := 3) (N := some 20) (v := ?_) (a' := ?_) #[true, true, true, true, true, true, true, false, false, false] rfl rfl (take_ofW HT_.out HW_.out (by kernel_rfl)) (fun _ _ _ h => h) (Or.inl ⟨by rfl, ?_⟩) hHeld ?_ ?_
             rotate_left
             · rintro w' ⟨s0, s1⟩
               go_simp
               with_reducible rfl
             rotate_left
             · simp only [Act.put, List.setIfInBounds_toArray, List.set_cons_zero, List.set_cons_succ, i64_w, i32_w]
               rfl
             refine take_ (i := 7) (N := some 24) (v := ?_) (a' := ?_) #[true, true, true, true, true, true, true, true, false, false] rfl rfl (take_ofW HT_.out HW_.out (by kernel_rfl)) (fun _ _ _ h => h) (Or.inl ⟨by rfl, ?_⟩) hHeld ?_ ?_
             rotate_left
             · rintro w' ⟨s0, s1⟩
               go_simp
               with_reducible rfl
             rotate_left
             · simp only [Act.put, List.setIfInBounds_toArray, List.set_cons_zero, List.set_cons_succ, i64_w, i32_w]
               rfl
             refine one_ (i := 8) (N := some 25) #[true, true, true, true, true, true, true, true, true, false] rfl rfl (one_of HT_.out (by kernel_rfl)) (by decide) (fun K hK => ?_)
             refine goes_ Tryd.func35 (by kernel_rfl) rfl #[.slice A130_0 (rd_L4 l0 x5_1).length c130_0, .slice A131_0 (rd_L4 l1 x5_1).length c131_0] (by rfl) rfl rfl (by (try simp only [List.map_toArray, List.map_cons, List.map_nil]); first | done | rfl | (simp only [List.length_drop, List.length_take]; rfl)) ?_
             with_reducible refine (jointerref01_SameRows.calls k1 _ _ (rd_L4 l0 x5_1) _ _ (rd_L4 l1 x5_1) true _ ?side1 ?side2 ?side3 ?side4 A7.out).mono ?_
             (case side1 => repeat (first | exact (Kd.C_below HR130_0.out HB.out) | (with_reducible refine Kd.C_alloc ?_ _) | (with_reducible refine Kd.C_drewN ?_ _) | (with_reducible refine Kd.C_drew ?_)))
             (case side2 => exact HC130_0.out)
             (case side3 => repeat (first | exact (Kd.C_below HR131_0.out HB.out) | (with_reducible refine Kd.C_alloc ?_ _) | (with_reducible refine Kd.C_drewN ?_ _) | (with_reducible refine Kd.C_drew ?_)))
             (case side4 => exact HC131_0.out)
             rintro e w10 ⟨rfl, hb⟩
             refine ⟨_, rfl, ?_⟩
             have n0_ := Aside0.mk (below_step (by repeat (first | (with_reducible first | exact HB.out | apply below_alloc | apply pw_below_drewN | apply below_drew1) | exact HB.out)) hb)
             clear HB
             have HB := n0_
             clear n0_
             (try clear hb)
             (try clear hb2)
             (try clear hk)
             (try clear hi)
             refine hK.out _ _ ⟨((HB.out.cell (World.block_lt_of_cell? w _ hw130_0)).trans hw130_0), ((HB.out.cell (World.block_lt_of_cell? w _ hw131_0)).trans hw131_0)⟩ (fun hHeld => ?_)
             clear hK K
             refine norm_ (a' := ?_) ?_ ?_
             rotate_left
             · show Act.put _ (some 25) _ = _
               simp only [Act.put, List.setIfInBounds_toArray, List.set_cons_zero, List.set_cons_succ, i64_w, i32_w]
               rfl
             refine pure_ (i := 9) (N := some 26) (v := ?_) (a' := ?_) #[true, true, true, true, true, true, true, true, true, true] rfl rfl (any_of HT_.out (by kernel_rfl)) (fun _ _ _ h => h) (Or.inl ⟨by rfl, ?_⟩) ?_ ?_
             rotate_left
             · intro w'
               go_simp
               with_reducible rfl
             rotate_left
             · simp only [Act.put, List.setIfInBounds_toArray, List.set_cons_zero, List.set_cons_succ, i64_w, i32_w]
               rfl
             refine done_ (done_of HT_.out (by kernel_rfl)) ?_
             try go_wp2
             go_roundg k1
             case measure => have := HK1.out; omega
             case rel => exact ⟨(wrap64 (x5_1 + 1)), (by first | rfl | (simp; done) | (simp [*]; done)), H', ⟨by have := HK1.out; omega⟩, ⟨by repeat (first | (with_reducible first | exact HB.out | apply below_alloc | apply pw_below_drewN | apply below_drew1) | exact HB.out)⟩⟩
           · replace c8 := Bool.eq_false_iff.mpr c8
             subst c8
             have H1 : (some false) = some r := by rw [if_neg (show ¬ (false = true) by decide)] at H; exact H
             clear H
             have H := H1
             clear H1
             obtain rfl := Option.some.inj H
             try go_wp2
             have n0_ := Aside0.mk (below_drew1 HB.out)
             clear HB
             have HB := n0_
             clear n0_
             have p130 : 0 ≤ (x5_1 : Int) := of_decide_eq_true (by first | (with_reducible assumption) | assumption)
             have q130 : x5_1 < (l0.length : Int) := of_decide_eq_true (by first | (with_reducible assumption) | assumption)
             obtain ⟨ad130, A130_0, c130_0, e130, hx130_0, hl130_0, hi130_0⟩ := at_L4 HR0.out x5_1 p130 q130
             have hw130_0 := hx130_0
             cases e130
             replace hx130_0 := (HB.out.cell (World.block_lt_of_cell? w _ hx130_0)).trans hx130_0
             have HR130_0 := Aside0.mk hi130_0
             have HC130_0 := Aside0.mk hl130_0
             clear hi130_0 hl130_0
             replace p130 := eq_true p130
             replace q130 := eq_true q130
             have p131 : 0 ≤ (x5_1 : Int) := of_decide_eq_true (by first | (with_reducible assumption) | assumption)
             have q131 : x5_1 < (l1.length : Int) := of_decide_eq_true (by first | (with_reducible assumption) | assumption)
             obtain ⟨ad131, A131_0, c131_0, e131, hx131_0, hl131_0, hi131_0⟩ := at_L4 HR1.out x5_1 p131 q131
             have hw131_0 := hx131_0
             cases e131
             replace hx131_0 := (HB.out.cell (World.block_lt_of_cell? w _ hx131_0)).trans hx131_0
             have HR131_0 := Aside0.mk hi131_0
             have HC131_0 := Aside0.mk hl131_0
             clear hi131_0 hl131_0
             replace p131 := eq_true p131
             replace q131 := eq_true q131
             refine start_ (n := 10) (S := fun w' => w'.cell? (ad130.add (x5_1).toNat) = some (.slice A130_0 (rd_L4 l0 x5_1).length c130_0) ∧ w'.cell? (ad131.add (x5_1).toNat) = some (.slice A131_0 (rd_L4 l1 x5_1).length c131_0)) (ds := []) #[false, false, false, false, false, false, false, false, false, false] (by kernel_rfl) rfl rfl ⟨((HB.out.cell (World.block_lt_of_cell? w _ hw130_0)).trans hw130_0), ((HB.out.cell (World.block_lt_of_cell? w _ hw131_0)).trans hw131_0)⟩ (fun hHeld => ?_); refine with_tabW jointerref06_SameLists.tab6 jointerref06_SameLists.bits6 (fun HT_ HW_ => ?_)
             generalize wr.drew = w11 at HB HR130_0 HR131_0 hx130_0 hx131_0 hHeld ⊢
             refine pure_ (i := 0) (N := some 17) (v := ?_) (a' := ?_) #[true, false, false, false, false, false, false, false, false, false] rfl rfl (any_of HT_.out (by kernel_rfl)) (fun _ _ _ h => h) (Or.inl ⟨by rfl, ?_⟩) ?_ ?_
             rotate_left
             · intro w'
               go_simp
               with_reducible rfl
             rotate_left
             · simp only [Act.put, List.setIfInBounds_toArray, List.set_cons_zero, List.set_cons_succ, i64_w, i32_w]
               rfl
             refine pure_ (i := 1) (N := some 18) (v := ?_) (a' := ?_) #[true, true, false, false, false, false, false, false, false, false] rfl rfl (any_of HT_.out (by kernel_rfl)) (fun _ _ _ h => h) (Or.inl ⟨by rfl, ?_⟩) ?_ ?_
             rotate_left
             · intro w'
               go_simp
               with_reducible rfl
             rotate_left
             · simp only [Act.put, List.setIfInBounds_toArray, List.set_cons_zero, List.set_cons_succ, i64_w, i32_w]
               rfl
             refine pure_ (i := 2) (N := some 19) (v := ?_) (a' := ?_) #[true, true, true, false, false, false, false, false, false, false] rfl rfl (any_of HT_.out (by kernel_rfl)) (fun _ _ _ h => h) (Or.inl ⟨by rfl, ?_⟩) ?_ ?_
             rotate_left
             · intro w'
               go_simp
               with_reducible rfl
             rotate_left
             · simp only [Act.put, List.setIfInBounds_toArray, List.set_cons_zero, List.set_cons_succ, i64_w, i32_w]
               rfl
             refine pure_ (i := 4) (N := some 21) (v := ?_) (a' := ?_) #[true, true, true, false, true, false, false, false, false, false] rfl rfl (any_of HT_.out (by kernel_rfl)) (fun _ _ _ h => h) (Or.inl ⟨by rfl, ?_⟩) ?_ ?_
             rotate_left
             · intro w'
               go_simp
               with_reducible rfl
             rotate_left
             · simp only [Act.put, List.setIfInBounds_toArray, List.set_cons_zero, List.set_cons_succ, i64_w, i32_w]
               rfl
             refine pure_ (i := 5) (N := some 22) (v := ?_) (a' := ?_) #[true, true, true, false, true, true, false, false, false, false] rfl rfl (any_of HT_.out (by kernel_rfl)) (fun _ _ _ h => h) (Or.inl ⟨by rfl, ?_⟩) ?_ ?_
             rotate_left
             · intro w'
               go_simp
               with_reducible rfl
             rotate_left
             · simp only [Act.put, List.setIfInBounds_toArray, List.set_cons_zero, List.set_cons_succ, i64_w, i32_w]
               rfl
             refine pure_ (i := 6) (N := some 23) (v := ?_) (a' := ?_) #[true, true, true, false, true, true, true, false, false, false] rfl rfl (any_of HT_.out (by kernel_rfl)) (fun _ _ _ h => h) (Or.inl ⟨by rfl, ?_⟩) ?_ ?_
             rotate_left
             · intro w'
               go_simp
               with_reducible rfl
             rotate_left
             · simp only [Act.put, List.setIfInBounds_toArray, List.set_cons_zero, List.set_cons_succ, i64_w, i32_w]
               rfl
             refine take_ (i := 3) (N := some 20) (v := ?_) (a' := ?_) #[true, true, true, true, true, true, true, false, false, false] rfl rfl (take_ofW HT_.out HW_.out (by kernel_rfl)) (fun _ _ _ h => h) (Or.inl ⟨by rfl, ?_⟩) hHeld ?_ ?_
             rotate_left
             · rintro w' ⟨s0, s1⟩
               go_simp
               with_reducible rfl
             rotate_left
             · simp only [Act.put, List.setIfInBounds_toArray, List.set_cons_zero, List.set_cons_succ, i64_w, i32_w]
               rfl
             refine take_ (i := 7) (N := some 24) (v := ?_) (a' := ?_) #[true, true, true, true, true, true, true, true, false, false] rfl rfl (take_ofW HT_.out HW_.out (by kernel_rfl)) (fun _ _ _ h => h) (Or.inl ⟨by rfl, ?_⟩) hHeld ?_ ?_
             rotate_left
             · rintro w' ⟨s0, s1⟩
               go_simp
               with_reducible rfl
             rotate_left
             · simp only [Act.put, List.setIfInBounds_toArray, List.set_cons_zero, List.set_cons_succ, i64_w, i32_w]
               rfl
             refine one_ (i := 8) (N := some 25) #[true, true, true, true, true, true, true, true, true, false] rfl rfl (one_of HT_.out (by kernel_rfl)) (by decide) (fun K hK => ?_)
             refine goes_ Tryd.func35 (by kernel_rfl) rfl #[.slice A130_0 (rd_L4 l0 x5_1).length c130_0, .slice A131_0 (rd_L4 l1 x5_1).length c131_0] (by rfl) rfl rfl (by (try simp only [List.map_toArray, List.map_cons, List.map_nil]); first | done | rfl | (simp only [List.length_drop, List.length_take]; rfl)) ?_
             with_reducible refine (jointerref01_SameRows.calls k1 _ _ (rd_L4 l0 x5_1) _ _ (rd_L4 l1 x5_1) false _ ?side1 ?side2 ?side3 ?side4 A7.out).mono ?_
             (case side1 => repeat (first | exact (Kd.C_below HR130_0.out HB.out) | (with_reducible refine Kd.C_alloc ?_ _) | (with_reducible refine Kd.C_drewN ?_ _) | (with_reducible refine Kd.C_drew ?_)))
             (case side2 => exact HC130_0.out)
             (case side3 => repeat (first | exact (Kd.C_below HR131_0.out HB.out) | (with_reducible refine Kd.C_alloc ?_ _) | (with_reducible refine Kd.C_drewN ?_ _) | (with_reducible refine Kd.C_drew ?_)))
             (case side4 => exact HC131_0.out)
             rintro e w12 ⟨rfl, hb⟩
             refine ⟨_, rfl, ?_⟩
             have n0_ := Aside0.mk (below_step (by repeat (first | (with_reducible first | exact HB.out | apply below_alloc | apply pw_below_drewN | apply below_drew1) | exact HB.out)) hb)
             clear HB
             have HB := n0_
             clear n0_
             (try clear hb)
             (try clear hb2)
             (try clear hk)
             (try clear hi)
             refine hK.out _ _ ⟨((HB.out.cell (World.block_lt_of_cell? w _ hw130_0)).trans hw130_0), ((HB.out.cell (World.block_lt_of_cell? w _ hw131_0)).trans hw131_0)⟩ (fun hHeld => ?_)
             clear hK K
             refine norm_ (a' := ?_) ?_ ?_
             rotate_left
             · show Act.put _ (some 25) _ = _
               simp only [Act.put, List.setIfInBounds_toArray, List.set_cons_zero, List.set_cons_succ, i64_w, i32_w]
               rfl
             refine pure_ (i := 9) (N := some 26) (v := ?_) (a' := ?_) #[true, true, true, true, true, true, true, true, true, true] rfl rfl (any_of HT_.out (by kernel_rfl)) (fun _ _ _ h => h) (Or.inl ⟨by rfl, ?_⟩) ?_ ?_
             rotate_left
             · intro w'
               go_simp
               with_reducible rfl
             rotate_left
             · simp only [Act.put, List.setIfInBounds_toArray, List.set_cons_zero, List.set_cons_succ, i64_w, i32_w]
               rfl
             refine done_ (done_of HT_.out (by kernel_rfl)) ?_
             try go_wp2
             go_ret
             exact ⟨by first | rfl | (simp [errW_none, errW_some] <;> rfl) | (simp [*, errW_none, errW_some] <;> rfl), by repeat (first | (with_reducible first | exact HB.out | apply below_alloc | apply pw_below_drewN | apply below_drew1) | exact HB.out)⟩
         · rw [if_neg c6] at H
           exact absurd H (by simp)
       · rw [if_neg c5] at H
         exact absurd H (by simp)
     · rw [if_neg c4] at H
       have c4b0 : decide (x5_1 < (l0.length : Int)) = false := decide_eq_false c4
       clear c4
       obtain rfl := Option.some.inj H
       go_wp2
       go_ret
       exact ⟨by first | rfl | (simp [errW_none, errW_some] <;> rfl) | (simp [*, errW_none, errW_some] <;> rfl), by repeat (first | (with_reducible first | exact HB.out | apply below_alloc | apply pw_below_drewN | apply below_drew1) | exact HB.out)⟩
 · rw [if_neg c3] at H
   have c3b0 : ((l0.length : Int) == (l1.length : Int)) = false := beq_eq_false_iff_ne.mpr c3
   have c3b1 : ((l0.length : Int) != (l1.length : Int)) = true := bne_iff_ne.mpr c3
   have c3b2 : (l0.length == l1.length) = false := by first | simpa using c3 | (simp at c3 ⊢; omega)
   obtain rfl := Option.some.inj H
   go_enter Tryd.func19, Tryd.ntmps19
   go_wp2
   go_ret
   exact ⟨by first | rfl | (simp [errW_none, errW_some] <;> rfl) | (simp [*, errW_none, errW_some] <;> rfl), by repeat (first | (with_reducible first | exact HB.out | apply below_alloc | apply pw_below_drewN | apply below_drew1) | exact HB.out)⟩
end Go.Proofs.YtecgkcgfeghhgaaDoor.PAll
set_option linter.unusedVariables false
set_option linter.unusedSimpArgs false
namespace Go.Proofs.YtecgkcgfeghhgaaDoor.PAll
open Go.RowKit Go.Proofs.YtecgkcgfeghhgaaDoorW.PrintWords Go.Proofs.YtecgkcgfeghhgaaDoorW.PrintLast Go.Proofs.YtecgkcgfeghhgaaDoorW.PrintMore
abbrev iV (n : Int) : V := ⟨1, n, ⟨#[]⟩⟩
abbrev oneA_ : List (List V) := [[iV 2], [iV 1], [iV 1]]
abbrev twoA_ : List (List V) := [[iV 1], [iV 3]]
theorem C_row1 {W : World} {b : Nat} {t : TypeId} (v : V) (h : W.heap[b]? = some (.cells #[.int .u8 v.f0, .int .i64 v.f1, .string v.f2] t (0, 0))) : Kd.C kV W (some ⟨b, 0, none⟩) [v].length [v] := by
  refine ⟨rfl, by simp, fun _ => ⟨⟨b, 0, none⟩, rfl, fun j p hj => ?_⟩⟩
  cases j with
  | succ j => simp at hj
  | zero =>
    obtain rfl : v = p := by simpa using hj
    refine ⟨[.int .u8 v.f0, .int .i64 v.f1, .string v.f2], rfl, kV.K_of_M (base := 0) (ok := fun _ => True) (k27_mkM _ _ _ v), fun i u hi => ?_⟩
    have h := blk_cell h i
    rw [add_plain, Nat.zero_mul, Nat.zero_add]
    refine h.trans ?_
    simpa using hi
theorem C_rows {W : World} {g : Nat} {cs : Array Value} {t : TypeId} {l : List (List V)} (h : W.heap[g]? = some (.cells cs t (0, 0))) (hn : l.length ≤ 9223372036854775807) (hr : ∀ (j : Nat) (row : List V), l[j]? = some row → ∃ A c, cs[j]? = some (Value.slice A row.length c) ∧ row.length ≤ c ∧ Kd.C kV W A row.length row) : Kd.C kRow W (some ⟨g, 0, none⟩) l.length l := by
  refine ⟨rfl, hn, fun _ => ⟨⟨g, 0, none⟩, rfl, fun j p hj => ?_⟩⟩
  obtain ⟨A, c, h1, h2, h3⟩ := hr j p hj
  refine ⟨[.slice A p.length c], rfl, ⟨A, c, rfl, h2, h3⟩, fun i u hi => ?_⟩
  cases i with
  | succ i => simp at hi
  | zero =>
    obtain rfl : Value.slice A p.length c = u := by simpa using hi
    rw [add_plain]
    show W.cell? ⟨g, j * 1 + 0, none⟩ = _
    rw [Nat.mul_one, Nat.add_zero]
    exact (blk_cell h j).trans h1
theorem valid_iV (n : Int) : validV (iV n) = true := by
  unfold validV noText
  simp [ByteArray.toList_eq]
theorem ok_iV (n : Int) (h : -9223372036854775808 ≤ n ∧ n ≤ 9223372036854775807) : VOk (iV n) := ⟨by simp, by simp, h.1, h.2⟩
theorem rowOk_iV (l : List V) (h : ∀ v ∈ l, ∃ n : Int, -9223372036854775808 ≤ n ∧ n ≤ 9223372036854775807 ∧ v = iV n) (hn : l.length ≤ 2) : RowOk l := by
  have len1 : ∀ n : Int, -9223372036854775808 ≤ n → n ≤ 9223372036854775807 → (nameV (iV n)).length ≤ 100 := fun n h0 h1 => by
    have i1 := Lib.itoa_length_le 1 (by omega) (by omega)
    have i2 := Lib.itoa_length_le n (by omega) (by omega)
    have i3 := Lib.itoa_length_le 0 (by omega) (by omega)
    show (Lib.itoa 1 ++ ([32] ++ (Lib.itoa n ++ ([32] ++ (Lib.itoa 0 ++ ([58] ++ ([] : List UInt8))))))).length ≤ 100
    simp only [List.length_append, List.length_cons, List.length_nil]
    omega
  refine ⟨fun v hv => ?_, ?_, by omega⟩
  · obtain ⟨n, h0, h1, rfl⟩ := h v hv
    exact ok_iV n ⟨h0, h1⟩
  · match l, h, hn with
    | [], _, _ => simp [nameB]
    | [a], h, _ =>
      obtain ⟨n, h0, h1, rfl⟩ := h a (by simp)
      have := len1 n h0 h1
      simp only [nameB, List.append_nil]
      omega
    | [a, b], h, _ =>
      obtain ⟨n, h0, h1, rfl⟩ := h a (by simp)
      obtain ⟨m, h2, h3, rfl⟩ := h b (by simp)
      have e1 := len1 n h0 h1
      have e2 := len1 m h2 h3
      simp only [nameB, List.append_nil, List.length_append]
      omega
theorem one_ok : RowsOk oneA_ := ⟨fun r hr => by
  simp only [oneA_, List.mem_cons, List.not_mem_nil, or_false] at hr
  rcases hr with rfl | rfl | rfl
  · exact rowOk_iV _ (fun v hv => ⟨2, by omega, by omega, by simpa using hv⟩) (by simp)
  · exact rowOk_iV _ (fun v hv => ⟨1, by omega, by omega, by simpa using hv⟩) (by simp)
  · exact rowOk_iV _ (fun v hv => ⟨1, by omega, by omega, by simpa using hv⟩) (by simp), by simp⟩
theorem two_ok : RowsOk twoA_ := ⟨fun r hr => by
  simp only [twoA_, List.mem_cons, List.not_mem_nil, or_false] at hr
  rcases hr with rfl | rfl
  · exact rowOk_iV _ (fun v hv => ⟨1, by omega, by omega, by simpa using hv⟩) (by simp)
  · exact rowOk_iV _ (fun v hv => ⟨3, by omega, by omega, by simpa using hv⟩) (by simp), by simp⟩
theorem valid_ints (l : List (List V)) (h : ∀ r ∈ l, ∃ n, r = [iV n]) : validB l = true := by
  have key : ∀ (l : List (List V)) (k : Int), (k = 0 ∨ k = 1) → (∀ r ∈ l, ∃ n, r = [iV n]) → validFrom [k] l = true := by
    intro l
    induction l with
    | nil => intro k _ _; rfl
    | cons r rs ih =>
      intro k hk h
      obtain ⟨n, rfl⟩ := h r (by simp)
      have e : rowStep [k] [iV n] = some [1] := by
        simp only [rowStep]
        rw [if_pos ⟨valid_iV n, by show k = 0 ∨ k = 1 ∨ (1 : Int) = 0; omega⟩]
        rcases hk with rfl | rfl <;> rfl
      simp only [validFrom, e]
      exact ih 1 (.inr rfl) (fun r hr => h r (List.mem_cons_of_mem _ hr))
  cases l with
  | nil => rfl
  | cons r rs =>
    obtain ⟨n, hn⟩ := h r (by simp)
    unfold validB
    rw [hn]
    rw [hn] at h
    exact key _ 0 (.inl rfl) h
theorem one_valid : validB oneA_ = true := valid_ints _ (fun r hr => by
  simp only [oneA_, List.mem_cons, List.not_mem_nil, or_false] at hr
  rcases hr with rfl | rfl | rfl <;> exact ⟨_, rfl⟩)
theorem both_valid : validB (oneA_ ++ twoA_) = true := valid_ints _ (fun r hr => by
  simp only [oneA_, twoA_, List.cons_append, List.nil_append, List.mem_cons, List.not_mem_nil, or_false] at hr
  rcases hr with rfl | rfl | rfl | rfl | rfl <;> exact ⟨_, rfl⟩)
end Go.Proofs.YtecgkcgfeghhgaaDoor.PAll
set_option linter.unusedVariables false
set_option linter.unusedSimpArgs false
namespace Go.Proofs.YtecgkcgfeghhgaaDoor.PAll
open Go.RowKit Go.Proofs.YtecgkcgfeghhgaaDoorW.PrintWords Go.Proofs.YtecgkcgfeghhgaaDoorW.PrintLast Go.Proofs.YtecgkcgfeghhgaaDoorW.PrintMore
theorem ne_iV {a b : Int} (h : a ≠ b) : nameOf [iV a] ≠ nameOf [iV b] := fun e => by
  have h1 := name_inj e
  simp only [List.cons.injEq, and_true] at h1
  injection h1 with _ h2
  exact h h2
theorem awake_except : ∃ met left, bag_split.f oneA_ twoA_ = some (met, left, 0) ∧ left.length = 2 := by
  have hok : RowsOk (oneA_ ++ twoA_) := ⟨fun r hr => by
    rcases List.mem_append.1 hr with h | h
    · exact one_ok.1 r h
    · exact two_ok.1 r h, by simp⟩
  refine ⟨_, _, by unfold bag_split.f; rw [if_pos hok, if_pos both_valid], ?_⟩
  rw [(sortR_perm _ _).length_eq]
  have h21 : nameOf [iV 2] ≠ nameOf [iV 1] := ne_iV (by decide)
  have h13 : nameOf [iV 1] ≠ nameOf [iV 3] := ne_iV (by decide)
  have h23 : nameOf [iV 2] ≠ nameOf [iV 3] := ne_iV (by decide)
  have e1 : cnt (twoA_.map nameOf) (nameOf [iV 2]) = 0 := by simp [twoA_, cnt, h21.symm, h23.symm]
  have e2 : cnt (twoA_.map nameOf) (nameOf [iV 1]) = 1 := by simp [twoA_, cnt, h13.symm]
  obtain ⟨c, hc⟩ : ∃ c, c = cnt (twoA_.map nameOf) := ⟨_, rfl⟩
  rw [← hc] at e1 e2 ⊢
  have e3 : decAt c (nameOf [iV 1]) (nameOf [iV 1]) = 0 := by simp [decAt, e2]
  simp only [oneA_, splitR, e1, e2, e3]
  simp [splitR, e3]
theorem cmp_iV (a b : Int) : compareV (iV a) (iV b) = cmpI a b := by
  unfold compareV
  have : cmpI (iV a).f0 (iV b).f0 = 0 := rfl
  rw [if_pos this, if_neg (by show ¬ (1 : Int) = 0; decide), if_neg (by show ¬ (1 : Int) = 2; decide)]
theorem awake_cut : bag_Cut.f oneA_ [⟨0, true⟩] 0 1 = some ([[iV 2]], 0) := by
  have hk : keysB oneA_ [⟨0, true⟩] = true := by decide
  have hf : fitsB oneA_ [⟨0, true⟩] = true := by unfold fitsB; rw [one_valid, hk]; rfl
  unfold bag_Cut.f
  rw [if_pos ⟨one_ok.v, by simp, by decide, by decide⟩, if_pos ⟨hf, by decide, by decide⟩]
  have hs : sortR [⟨0, true⟩] oneA_ = oneA_ := by
    refine (sortR_unique (fun row hrow => validB_valid one_valid row hrow) (List.Perm.refl _) ?_).symm
    have c : ∀ a b : Int, cmpFull [⟨0, true⟩] [iV a] [iV b] = if cmpI a b = 0 then 0 else -cmpI a b := fun a b => by
      unfold cmpFull
      have e1 : cmpBy [⟨0, true⟩] [iV a] [iV b] = if cmpI a b = 0 then 0 else -cmpI a b := by
        simp only [cmpBy]
        show (if compareV (iV a) (iV b) = 0 then 0 else if True then -compareV (iV a) (iV b) else _) = _
        rw [cmp_iV, if_pos trivial]
      rw [e1]
      by_cases h : cmpI a b = 0
      · rw [if_pos h, if_pos rfl]
        simp [cmpRows, cmp_iV, h]
      · rw [if_neg h, if_neg (by omega)]
    refine List.Pairwise.cons (fun r hr => ?_) (List.Pairwise.cons (fun r hr => ?_) (List.Pairwise.cons (fun r hr => by cases hr) List.Pairwise.nil))
    · simp only [List.mem_cons, List.not_mem_nil, or_false] at hr
      rcases hr with rfl | rfl <;> (rw [c]; decide)
    · simp only [List.mem_cons, List.not_mem_nil, or_false] at hr
      subst hr
      rw [c]; decide
  rw [hs]
  rfl
theorem awake_agg : bag_Aggregate.f 2 false [iV 9223372036854775807, iV 1, iV (-1)] = some (1, 9223372036854775807, ⟨#[]⟩, 0) := by
  have hok : AggOk 2 [iV 9223372036854775807, iV 1, iV (-1)] := by
    refine ⟨by omega, .inl (by omega), fun v hv => ?_, by simp⟩
    simp only [List.mem_cons, List.not_mem_nil, or_false] at hv
    refine rowOk_iV [v] (fun u hu => ?_) (by simp)
    obtain rfl : u = v := by simpa using hu
    rcases hv with rfl | rfl | rfl
    · exact ⟨_, by omega, by omega, rfl⟩
    · exact ⟨_, by omega, by omega, rfl⟩
    · exact ⟨_, by omega, by omega, rfl⟩
  unfold bag_Aggregate.f
  rw [if_pos hok]
  have ha : allowedB 2 false [iV 9223372036854775807, iV 1, iV (-1)] = true := by
    unfold allowedB
    rw [if_neg (by simp)]
    simp only [kindFrom, valid_iV]
    rfl
  unfold aggR
  rw [if_pos ha, if_pos rfl]
  have hp : pickV 2 false [] [iV 9223372036854775807, iV 1, iV (-1)] = [iV 9223372036854775807, iV 1, iV (-1)] := by
    simp [pickV]
  rw [hp]
  rfl
theorem awake_same : bag_Same.f oneA_ twoA_ = some false := by
  have hs : sameB oneA_ twoA_ = false := sameB_false (fun h => by have := h.1; simp at this)
  unfold bag_Same.f
  rw [if_pos ⟨one_ok, two_ok⟩, hs]
theorem awake_groupOk : GroupOk oneA_ [0] [⟨0, 0, false⟩] := by
  have hkeys : ∀ row ∈ oneA_, keyOf [0] row = row := fun row hrow => by
    simp only [oneA_, List.mem_cons, List.not_mem_nil, or_false] at hrow
    rcases hrow with rfl | rfl | rfl <;> rfl
  have hks : ∀ key ∈ keysR [0] oneA_, key ∈ oneA_ := fun key hkey => by
    unfold keysR at hkey
    rw [if_neg (by simp)] at hkey
    have h1 := distR_mem _ _ _ ((sortR_perm _ _).mem_iff.1 hkey)
    obtain ⟨row, hrow, rfl⟩ := List.mem_map.1 h1
    rw [hkeys row hrow]
    exact hrow
  refine ⟨one_ok, by simp, by simp, fun a ha => by simpa using ha, fun row hrow => by rw [hkeys row hrow]; exact one_ok.1 row hrow, fun row hrow => ?_, fun key hkey => one_ok.1 key (hks key hkey), ?_⟩
  · have : [rd_T27 row 0] = row := by
      simp only [oneA_, List.mem_cons, List.not_mem_nil, or_false] at hrow
      rcases hrow with rfl | rfl | rfl <;> rfl
    rw [this]
    exact one_ok.1 row hrow
  · unfold keysR
    rw [if_neg (by simp), (sortR_perm _ _).length_eq]
    exact Nat.le_trans (distR_len _ _) (by simp)
theorem awake_group : groupR [0] oneA_ 1 = [[iV 1, iV 2], [iV 2, iV 1]] := by
  have h21 : nameOf [iV 2] ≠ nameOf [iV 1] := ne_iV (by decide)
  have hm : oneA_.map (keyOf [0]) = oneA_ := rfl
  have hd : distR [] oneA_ = [[iV 2], [iV 1]] := by
    simp only [oneA_, distR]
    simp [h21.symm]
  have hk : keysR [0] oneA_ = [[iV 1], [iV 2]] := by
    unfold keysR
    rw [if_neg (by simp), hm, hd]
    refine (sortR_unique (fun row hrow => ?_) (List.Perm.swap _ _ _) ?_).symm
    · exact validB_valid (valid_ints [[iV 2], [iV 1]] (fun r hr => by
        simp only [List.mem_cons, List.not_mem_nil, or_false] at hr
        rcases hr with rfl | rfl <;> exact ⟨_, rfl⟩)) row hrow
    · refine List.Pairwise.cons (fun r hr => ?_) (List.Pairwise.cons (fun r hr => by cases hr) List.Pairwise.nil)
      obtain rfl : r = [iV 2] := by simpa using hr
      unfold cmpFull
      simp only [cmpBy, cmpRows, cmp_iV]
      decide
  have l1 : (listR [0] oneA_ (nameOf [iV 1])).length = 2 := by
    unfold listR
    have e1 : nameOf (keyOf [0] [iV 2]) ≠ nameOf [iV 1] := h21
    have e2 : nameOf (keyOf [0] [iV 1]) = nameOf [iV 1] := rfl
    simp [oneA_, e1, e2]
  have l2 : (listR [0] oneA_ (nameOf [iV 2])).length = 1 := by
    unfold listR
    have e1 : nameOf (keyOf [0] [iV 2]) = nameOf [iV 2] := rfl
    have e2 : nameOf (keyOf [0] [iV 1]) ≠ nameOf [iV 2] := h21.symm
    simp [oneA_, e1, e2]
  unfold groupR
  rw [hk]
  simp only [List.map_cons, List.map_nil, groupRow, l1, l2]
  rfl
end Go.Proofs.YtecgkcgfeghhgaaDoor.PAll
set_option linter.unusedVariables false
set_option linter.unusedSimpArgs false
namespace Go.Proofs.YtecgkcgfeghhgaaDoor.PAll
open Go.RowKit Go.Proofs.YtecgkcgfeghhgaaDoorW.PrintWords Go.Proofs.YtecgkcgfeghhgaaDoorW.PrintLast Go.Proofs.YtecgkcgfeghhgaaDoorW.PrintMore
open Classical in
theorem sameV_eq (a b : V) : jointerref01_Same.f a.f0 a.f1 a.f2 b.f0 b.f1 b.f2 = some (decide (a = b)) := by
  unfold jointerref01_Same.f
  by_cases h0 : a.f0 = b.f0
  · by_cases h1 : a.f1 = b.f1
    · rw [if_pos h0, if_pos h1]
      congr 1
      by_cases h2 : a.f2 = b.f2
      · rw [decide_eq_true (show a = b by cases a; cases b; simp_all), h2]
        simp
      · rw [decide_eq_false (fun e => h2 (by rw [e])), ByteArray.toList_eq, ByteArray.toList_eq, beq_eq_false_iff_ne]
        exact fun e => h2 (ByteArray.ext (Array.toList_inj.1 e))
    · rw [if_pos h0, if_neg h1, decide_eq_false (fun e => h1 (by rw [e]))]
  · rw [if_neg h0, decide_eq_false (fun e => h0 (by rw [e]))]
open Classical in
theorem sameRows_l0 (a b : List V) (hl : a.length = b.length) (hn : a.length ≤ 1099511627776) : ∀ (d i : Nat), i + d = a.length → Ev (fun k => jointerref01_SameRows.l0 k a b (i : Int)) (decide (a.drop i = b.drop i)) := by
  intro d
  induction d with
  | zero =>
    intro i hi
    rw [List.drop_eq_nil_of_le (by omega), List.drop_eq_nil_of_le (by omega), decide_eq_true rfl]
    refine Ev.step (f := fun _ => some true) (fun k => ?_) (Ev.now _)
    simp only [jointerref01_SameRows.l0]
    rw [if_neg (by omega)]
  | succ d ih =>
    intro i hi
    have h1 : i < a.length := by omega
    have h2 : i < b.length := by omega
    rw [drop_cons a i h1, drop_cons b i h2]
    have one : ∀ k, jointerref01_SameRows.l0 (k + 1) a b (i : Int) = if decide (a[i] = b[i]) = true then jointerref01_SameRows.l0 k a b ((i + 1 : Nat) : Int) else some false := fun k => by
      simp only [jointerref01_SameRows.l0]
      rw [if_pos (by omega), if_pos (by omega), if_pos (by omega), rdV_at h1, rdV_at h2, sameV_eq, w64 _ (by omega) (by omega)]
      rfl
    by_cases c : a[i] = b[i]
    · refine Ev.step (f := fun k => jointerref01_SameRows.l0 k a b ((i + 1 : Nat) : Int)) (fun k => by rw [one, if_pos (decide_eq_true c)]) ?_
      have h3 := ih (i + 1) (by omega)
      have e : decide (a[i] :: a.drop (i + 1) = b[i] :: b.drop (i + 1)) = decide (a.drop (i + 1) = b.drop (i + 1)) := by
        rw [decide_eq_decide, List.cons.injEq]
        exact ⟨fun h => h.2, fun h => ⟨c, h⟩⟩
      rw [e]
      exact h3
    · refine Ev.step (f := fun _ => some false) (fun k => by rw [one, if_neg (by simpa using c)]) ?_
      rw [decide_eq_false (fun e => c (List.cons.inj e).1)]
      exact Ev.now _
open Classical in
theorem sameRows_ev (a b : List V) (hn : a.length ≤ 1099511627776) : Ev (fun k => jointerref01_SameRows.f k a b) (decide (a = b)) := by
  by_cases hl : a.length = b.length
  · have := sameRows_l0 a b hl hn a.length 0 (by omega)
    simp only [List.drop_zero] at this
    exact Ev.congr (fun k => by unfold jointerref01_SameRows.f; rw [if_pos (by omega)]; rfl) this
  · rw [decide_eq_false (fun e => hl (by rw [e]))]
    exact Ev.congr (f := fun _ => some false) (fun k => by unfold jointerref01_SameRows.f; rw [if_neg (by omega)]) (Ev.now _)
open Classical in
theorem sameLists_l0 (a b : List (List V)) (hl : a.length = b.length) (hn : a.length ≤ 1099511627776) (hr : ∀ r ∈ a, r.length ≤ 1099511627776) : ∀ (d i : Nat), i + d = a.length → Ev (fun k => jointerref06_SameLists.l0 k a b (i : Int)) (decide (a.drop i = b.drop i)) := by
  intro d
  induction d with
  | zero =>
    intro i hi
    rw [List.drop_eq_nil_of_le (by omega), List.drop_eq_nil_of_le (by omega), decide_eq_true rfl]
    refine Ev.step (f := fun _ => some true) (fun k => ?_) (Ev.now _)
    simp only [jointerref06_SameLists.l0]
    rw [if_neg (by omega)]
  | succ d ih =>
    intro i hi
    have h1 : i < a.length := by omega
    have h2 : i < b.length := by omega
    rw [drop_cons a i h1, drop_cons b i h2]
    have one : ∀ k, jointerref06_SameLists.l0 (k + 1) a b (i : Int) = (jointerref01_SameRows.f k a[i] b[i]).bind fun t => if t = true then jointerref06_SameLists.l0 k a b ((i + 1 : Nat) : Int) else some false := fun k => by
      simp only [jointerref06_SameLists.l0]
      rw [if_pos (by omega), if_pos (by omega), if_pos (by omega), rdL_at h1, rdL_at h2, w64 _ (by omega) (by omega)]
      rfl
    have hs := sameRows_ev a[i] b[i] (hr _ (List.getElem_mem h1))
    refine Ev.step one (Ev.bind hs ?_)
    by_cases c : a[i] = b[i]
    · refine Ev.congr (f := fun k => jointerref06_SameLists.l0 k a b ((i + 1 : Nat) : Int)) (fun k => by rw [if_pos (decide_eq_true c)]) ?_
      have h3 := ih (i + 1) (by omega)
      have e : decide (a[i] :: a.drop (i + 1) = b[i] :: b.drop (i + 1)) = decide (a.drop (i + 1) = b.drop (i + 1)) := by
        rw [decide_eq_decide, List.cons.injEq]
        exact ⟨fun h => h.2, fun h => ⟨c, h⟩⟩
      rw [e]
      exact h3
    · refine Ev.congr (f := fun _ => some false) (fun k => by rw [if_neg (by simpa using c)]) ?_
      rw [decide_eq_false (fun e => c (List.cons.inj e).1)]
      exact Ev.now _
open Classical in
theorem sameLists_ev (a b : List (List V)) (hn : a.length ≤ 1099511627776) (hr : ∀ r ∈ a, r.length ≤ 1099511627776) : Ev (fun k => jointerref06_SameLists.f k a b) (decide (a = b)) := by
  by_cases hl : a.length = b.length
  · have := sameLists_l0 a b hl hn hr a.length 0 (by omega)
    simp only [List.drop_zero] at this
    exact Ev.congr (fun k => by unfold jointerref06_SameLists.f; rw [if_pos (by omega)]; rfl) this
  · rw [decide_eq_false (fun e => hl (by rw [e]))]
    exact Ev.congr (f := fun _ => some false) (fun k => by unfold jointerref06_SameLists.f; rw [if_neg (by omega)]) (Ev.now _)
theorem sameLists_refl (a : List (List V)) (hn : a.length ≤ 1099511627776) (hr : ∀ r ∈ a, r.length ≤ 1099511627776) : Ev (fun k => jointerref06_SameLists.f k a a) true := by
  classical
  have h := sameLists_ev a a hn hr
  rwa [decide_eq_true rfl] at h
end Go.Proofs.YtecgkcgfeghhgaaDoor.PAll
set_option linter.unusedVariables false
set_option linter.unusedSimpArgs false
namespace Go.Proofs.YtecgkcgfeghhgaaDoor.PAll
open Go.RowKit Go.Proofs.YtecgkcgfeghhgaaDoorW.PrintWords Go.Proofs.YtecgkcgfeghhgaaDoorW.PrintLast Go.Proofs.YtecgkcgfeghhgaaDoorW.PrintMore
theorem new_at (w : World) (cs : Array Value) (t : TypeId) : (w.alloc (.cells cs t)).heap[w.heap.size]? = some (.cells cs t (0, 0)) := heap_alloc_new _ _
theorem kept_at {w W : World} {b : Nat} {o : Obj} (h : w.heap[b]? = some o) (hb : Below w.heap.size w W) : W.heap[b]? = some o := (hb.block b (blk_lt h)).trans h
theorem new_at1 (w : World) (o : Obj) (cs : Array Value) (t : TypeId) : ((w.alloc o).alloc (.cells cs t)).heap[w.heap.size + 1]? = some (.cells cs t (0, 0)) := by
  have h := heap_alloc_new (w.alloc o) (.cells cs t)
  rw [show (w.alloc o).heap.size = w.heap.size + 1 by simp] at h
  exact h
theorem below2 (w : World) (o p : Obj) : Below w.heap.size w ((w.alloc o).alloc p) := ((Below.refl w.heap.size w).alloc (Nat.le_refl _) o).alloc (by simp) p
theorem kept_alloc {w : World} {b : Nat} {o : Obj} (h : w.heap[b]? = some o) (x : Obj) : (w.alloc x).heap[b]? = some o := (Below.heap_alloc w x b (blk_lt h)).trans h
theorem C_one {α : Type} {d : Kd α} {W : World} {b : Nat} {t : TypeId} {cs : Array Value} (x : α) (h : W.heap[b]? = some (.cells cs t (0, 0))) (hl : cs.toList.length = d.sz) (hk : d.K W x cs.toList) : Kd.C d W (some ⟨b, 0, none⟩) [x].length [x] := by
  refine ⟨rfl, by simp, fun _ => ⟨⟨b, 0, none⟩, rfl, fun j p hj => ?_⟩⟩
  cases j with
  | succ j => simp at hj
  | zero =>
    obtain rfl : x = p := by simpa using hj
    refine ⟨cs.toList, hl, hk, fun i u hi => ?_⟩
    have h := blk_cell h i
    rw [add_plain, Nat.zero_mul, Nat.zero_add]
    refine h.trans ?_
    simpa using hi
theorem C_three {W : World} {b : Nat} {t : TypeId} (x y z : Int) (h : W.heap[b]? = some (.cells #[.int .u8 1, .int .i64 x, .string ⟨#[]⟩, .int .u8 1, .int .i64 y, .string ⟨#[]⟩, .int .u8 1, .int .i64 z, .string ⟨#[]⟩] t (0, 0))) : Kd.C kV W (some ⟨b, 0, none⟩) [iV x, iV y, iV z].length [iV x, iV y, iV z] := by
  refine ⟨rfl, by simp, fun _ => ⟨⟨b, 0, none⟩, rfl, fun j p hj => ?_⟩⟩
  match j, hj with
  | 0, hj =>
    obtain rfl : iV x = p := by simpa using hj
    refine ⟨[.int .u8 1, .int .i64 x, .string ⟨#[]⟩], rfl, kV.K_of_M (base := 0) (ok := fun _ => True) (k27_mkM _ _ _ (iV x)), fun i u hi => ?_⟩
    have h := blk_cell h (0 * 3 + i)
    rw [add_plain]
    refine h.trans ?_
    match i, hi with
    | 0, hi => simpa using hi
    | 1, hi => simpa using hi
    | 2, hi => simpa using hi
    | i + 3, hi => simp at hi
  | 1, hj =>
    obtain rfl : iV y = p := by simpa using hj
    refine ⟨[.int .u8 1, .int .i64 y, .string ⟨#[]⟩], rfl, kV.K_of_M (base := 0) (ok := fun _ => True) (k27_mkM _ _ _ (iV y)), fun i u hi => ?_⟩
    have h := blk_cell h (1 * 3 + i)
    rw [add_plain]
    refine h.trans ?_
    match i, hi with
    | 0, hi => simpa using hi
    | 1, hi => simpa using hi
    | 2, hi => simpa using hi
    | i + 3, hi => simp at hi
  | 2, hj =>
    obtain rfl : iV z = p := by simpa using hj
    refine ⟨[.int .u8 1, .int .i64 z, .string ⟨#[]⟩], rfl, kV.K_of_M (base := 0) (ok := fun _ => True) (k27_mkM _ _ _ (iV z)), fun i u hi => ?_⟩
    have h := blk_cell h (2 * 3 + i)
    rw [add_plain]
    refine h.trans ?_
    match i, hi with
    | 0, hi => simpa using hi
    | 1, hi => simpa using hi
    | 2, hi => simpa using hi
    | i + 3, hi => simp at hi
  | j + 3, hj => simp at hj
theorem C_two {W : World} {b : Nat} {t : TypeId} (x y : Int) (h : W.heap[b]? = some (.cells #[.int .u8 1, .int .i64 x, .string ⟨#[]⟩, .int .u8 1, .int .i64 y, .string ⟨#[]⟩] t (0, 0))) : Kd.C kV W (some ⟨b, 0, none⟩) [iV x, iV y].length [iV x, iV y] := by
  refine ⟨rfl, by simp, fun _ => ⟨⟨b, 0, none⟩, rfl, fun j p hj => ?_⟩⟩
  match j, hj with
  | 0, hj =>
    obtain rfl : iV x = p := by simpa using hj
    refine ⟨[.int .u8 1, .int .i64 x, .string ⟨#[]⟩], rfl, kV.K_of_M (base := 0) (ok := fun _ => True) (k27_mkM _ _ _ (iV x)), fun i u hi => ?_⟩
    have h := blk_cell h (0 * 3 + i)
    rw [add_plain]
    refine h.trans ?_
    match i, hi with
    | 0, hi => simpa using hi
    | 1, hi => simpa using hi
    | 2, hi => simpa using hi
    | i + 3, hi => simp at hi
  | 1, hj =>
    obtain rfl : iV y = p := by simpa using hj
    refine ⟨[.int .u8 1, .int .i64 y, .string ⟨#[]⟩], rfl, kV.K_of_M (base := 0) (ok := fun _ => True) (k27_mkM _ _ _ (iV y)), fun i u hi => ?_⟩
    have h := blk_cell h (1 * 3 + i)
    rw [add_plain]
    refine h.trans ?_
    match i, hi with
    | 0, hi => simpa using hi
    | 1, hi => simpa using hi
    | 2, hi => simpa using hi
    | i + 3, hi => simp at hi
  | j + 2, hj => simp at hj
set_option maxHeartbeats 4000000 in
set_option maxRecDepth 100000 in
theorem awake_calls (w : World) (hT : LaidT w) : Calls Tryd.prog 11 #[] w fun e w' => e = .returned (.bool true) ∧ Below w.heap.size w w' := by
  have HT := Aside0.mk hT
  clear hT
  go_enter Tryd.func11, Tryd.ntmps11
  go_wp2_with fail
  refine (jointerref01_Int.calls 2 1 2 ⟨#[]⟩ w rfl).mono ?_
  rintro e w1 ⟨rfl, hb1⟩
  have HB1 := Aside0.mk hb1; clear hb1
  go_wp2_with fail
  refine (jointerref01_Int.calls 1 1 1 ⟨#[]⟩ _ rfl).mono ?_
  rintro e w2 ⟨rfl, hb2⟩
  have A1 := Aside0.mk (kept_at (new_at w1 _ _) hb2)
  have HB2 := Aside0.mk (HB1.out.trans (((Below.refl w1.heap.size w1).alloc (Nat.le_refl _) _ |>.trans (hb2.mono (by simp))).mono HB1.out.size)); clear hb2
  go_wp2_with fail
  refine (jointerref01_Int.calls 1 1 1 ⟨#[]⟩ _ rfl).mono ?_
  rintro e w3 ⟨rfl, hb3⟩
  have A2 := Aside0.mk (kept_at (new_at w2 _ _) hb3)
  have A1' := Aside0.mk (kept_at (kept_alloc A1.out _) hb3)
  have HB3 := Aside0.mk (HB2.out.trans (((Below.refl w2.heap.size w2).alloc (Nat.le_refl _) _ |>.trans (hb3.mono (by simp))).mono HB2.out.size)); clear hb3 A1
  go_wp2_with fail
  refine (jointerref01_Int.calls 1 1 1 ⟨#[]⟩ _ rfl).mono ?_
  rintro e w4 ⟨rfl, hb4⟩
  have HG := Aside0.mk (kept_at (new_at1 w3 (.cells #[.int .u8 1, .int .i64 1, .string ⟨#[]⟩] 27) _ _) hb4)
  have HA3 := Aside0.mk (kept_at (kept_alloc (new_at w3 _ _) (.cells #[.slice (some ⟨w1.heap.size, 0, none⟩) 1 1, .slice (some ⟨w2.heap.size, 0, none⟩) 1 1, .slice (some ⟨w3.heap.size, 0, none⟩) 1 1] 58)) hb4)
  have HA2 := Aside0.mk (kept_at (kept_alloc (kept_alloc A2.out (.cells #[.int .u8 1, .int .i64 1, .string ⟨#[]⟩] 27)) (.cells #[.slice (some ⟨w1.heap.size, 0, none⟩) 1 1, .slice (some ⟨w2.heap.size, 0, none⟩) 1 1, .slice (some ⟨w3.heap.size, 0, none⟩) 1 1] 58)) hb4)
  have HA1 := Aside0.mk (kept_at (kept_alloc (kept_alloc A1'.out (.cells #[.int .u8 1, .int .i64 1, .string ⟨#[]⟩] 27)) (.cells #[.slice (some ⟨w1.heap.size, 0, none⟩) 1 1, .slice (some ⟨w2.heap.size, 0, none⟩) 1 1, .slice (some ⟨w3.heap.size, 0, none⟩) 1 1] 58)) hb4)
  have HB4 := Aside0.mk (HB3.out.trans ((below2 w3 (.cells #[.int .u8 1, .int .i64 1, .string ⟨#[]⟩] 27) (.cells #[.slice (some ⟨w1.heap.size, 0, none⟩) 1 1, .slice (some ⟨w2.heap.size, 0, none⟩) 1 1, .slice (some ⟨w3.heap.size, 0, none⟩) 1 1] 58)).mono HB3.out.size |>.trans (hb4.mono (by have := HB3.out.size; simp; omega))))
  clear hb4 A1' A2
  have HONE : Aside0 (kRow.C w4 (some ⟨w3.heap.size + 1, 0, none⟩) oneA_.length oneA_) := ⟨C_rows HG.out (by simp) (fun j row hj => by
    match j, hj with
    | 0, hj => obtain rfl : [iV 2] = row := by simpa [oneA_] using hj
               exact ⟨_, 1, rfl, by simp, C_row1 (iV 2) HA1.out⟩
    | 1, hj => obtain rfl : [iV 1] = row := by simpa [oneA_] using hj
               exact ⟨_, 1, rfl, by simp, C_row1 (iV 1) HA2.out⟩
    | 2, hj => obtain rfl : [iV 1] = row := by simpa [oneA_] using hj
               exact ⟨_, 1, rfl, by simp, C_row1 (iV 1) HA3.out⟩
    | j + 3, hj => simp [oneA_] at hj)⟩
  clear HG HA1 HA2 HA3
  obtain ⟨g1, hg1⟩ : ∃ g1, g1 = w3.heap.size + 1 := ⟨_, rfl⟩
  rw [← hg1] at HONE
  rw [← hg1]
  clear hg1
  go_wp2_with fail
  refine (jointerref01_Int.calls 3 1 3 ⟨#[]⟩ _ rfl).mono ?_
  rintro e w5 ⟨rfl, hb5⟩
  have A4 := Aside0.mk (kept_at (new_at w4 _ _) hb5)
  have HB5 := Aside0.mk (HB4.out.trans (((Below.refl w4.heap.size w4).alloc (Nat.le_refl _) (.cells #[.int .u8 1, .int .i64 1, .string ⟨#[]⟩] 27) |>.trans (hb5.mono (by simp))).mono HB4.out.size))
  have HONE5 := Aside0.mk (Kd.C_below HONE.out ((Below.refl w4.heap.size w4).alloc (Nat.le_refl _) (.cells #[.int .u8 1, .int .i64 1, .string ⟨#[]⟩] 27) |>.trans (hb5.mono (by simp))))
  clear hb5 HONE
  go_wp2_with fail
  have HG := Aside0.mk (new_at1 w5 (.cells #[.int .u8 1, .int .i64 3, .string ⟨#[]⟩] 27) #[.slice (some ⟨w4.heap.size, 0, none⟩) 1 1, .slice (some ⟨w5.heap.size, 0, none⟩) 1 1] 58)
  have HA5 := Aside0.mk (kept_alloc (new_at w5 #[.int .u8 1, .int .i64 3, .string ⟨#[]⟩] 27) (.cells #[.slice (some ⟨w4.heap.size, 0, none⟩) 1 1, .slice (some ⟨w5.heap.size, 0, none⟩) 1 1] 58))
  have HA4 := Aside0.mk (kept_alloc (kept_alloc A4.out (.cells #[.int .u8 1, .int .i64 3, .string ⟨#[]⟩] 27)) (.cells #[.slice (some ⟨w4.heap.size, 0, none⟩) 1 1, .slice (some ⟨w5.heap.size, 0, none⟩) 1 1] 58))
  have HB6 := Aside0.mk (HB5.out.trans ((below2 w5 (.cells #[.int .u8 1, .int .i64 3, .string ⟨#[]⟩] 27) (.cells #[.slice (some ⟨w4.heap.size, 0, none⟩) 1 1, .slice (some ⟨w5.heap.size, 0, none⟩) 1 1] 58)).mono HB5.out.size))
  have HONE6 := Aside0.mk (Kd.C_below HONE5.out (below2 w5 (.cells #[.int .u8 1, .int .i64 3, .string ⟨#[]⟩] 27) (.cells #[.slice (some ⟨w4.heap.size, 0, none⟩) 1 1, .slice (some ⟨w5.heap.size, 0, none⟩) 1 1] 58)))
  have HTWO : Aside0 (kRow.C ((w5.alloc (.cells #[.int .u8 1, .int .i64 3, .string ⟨#[]⟩] 27)).alloc (.cells #[.slice (some ⟨w4.heap.size, 0, none⟩) 1 1, .slice (some ⟨w5.heap.size, 0, none⟩) 1 1] 58)) (some ⟨w5.heap.size + 1, 0, none⟩) twoA_.length twoA_) := ⟨C_rows HG.out (by simp) (fun j row hj => by
    match j, hj with
    | 0, hj => obtain rfl : [iV 1] = row := by simpa [twoA_] using hj
               exact ⟨_, 1, rfl, by simp, C_row1 (iV 1) HA4.out⟩
    | 1, hj => obtain rfl : [iV 3] = row := by simpa [twoA_] using hj
               exact ⟨_, 1, rfl, by simp, C_row1 (iV 3) HA5.out⟩
    | j + 2, hj => simp [twoA_] at hj)⟩
  clear HG HA4 HA5 A4 HONE5
  obtain ⟨g2, hg2⟩ : ∃ g2, g2 = w5.heap.size + 1 := ⟨_, rfl⟩
  rw [← hg2] at HTWO
  rw [← hg2]
  clear hg2
  obtain ⟨W6, hW6⟩ : ∃ W6, W6 = (w5.alloc (.cells #[.int .u8 1, .int .i64 3, .string ⟨#[]⟩] 27)).alloc (.cells #[.slice (some ⟨w4.heap.size, 0, none⟩) 1 1, .slice (some ⟨w5.heap.size, 0, none⟩) 1 1] 58) := ⟨_, rfl⟩
  rw [← hW6] at HTWO HONE6 HB6
  rw [← hW6]
  clear hW6
  obtain ⟨met, left, hsp, hll⟩ := awake_except
  have HLL := Aside0.mk hll
  refine (split_Except _ _ oneA_ _ _ twoA_ met left 0 W6 HONE6.out (by simp) HTWO.out (by simp) (HT.out.below HB6.out) hsp).mono ?_
  rintro e w7 ⟨v0, rfl, ⟨Av, cv, hv0, hlv, hF⟩, hb7⟩
  rw [HLL.out] at hv0
  subst hv0
  have HB7 := Aside0.mk (HB6.out.trans (hb7.mono HB6.out.size))
  have HONE7 := Aside0.mk (Kd.C_below HONE6.out hb7)
  have HTWO7 := Aside0.mk (Kd.C_below HTWO.out hb7)
  clear hsp hll hlv hF hb7 HONE6 HTWO
  go_wp2_with fail
  have hBK : Below w7.heap.size w7 (w7.alloc (.cells #[.int .i64 0, .bool true] 62)) := (Below.refl _ w7).alloc (Nat.le_refl _) _
  have HB8 := Aside0.mk (HB7.out.trans (hBK.mono HB7.out.size))
  have HKY : Aside0 (kKey.C (w7.alloc (.cells #[.int .i64 0, .bool true] 62)) (some ⟨w7.heap.size, 0, none⟩) [(⟨0, true⟩ : KeyT)].length [⟨0, true⟩]) := ⟨C_one (⟨0, true⟩ : KeyT) (new_at w7 _ _) rfl (kKey.K_of_M (base := 0) (ok := fun _ => True) (k62_mkM _ _ _ ⟨0, true⟩))⟩
  have HONE8 := Aside0.mk (Kd.C_below HONE7.out hBK)
  have HTWO8 := Aside0.mk (Kd.C_below HTWO7.out hBK)
  clear HONE7 HTWO7 hBK
  refine (bag_Cut.calls (some ⟨g1, 0, none⟩) 3 oneA_ (some ⟨w7.heap.size, 0, none⟩) 1 [⟨0, true⟩] 0 1 [[iV 2]] 0 _ HONE8.out (by simp) HKY.out (by simp) awake_cut).mono ?_
  rintro e w9 ⟨v1, rfl, ⟨Ac, cc, hv1, hlc, hFc⟩, hb9⟩
  have hv1 : v1 = .slice Ac 1 cc := hv1
  subst hv1
  have HCUT := Aside0.mk (Kd.F_now hFc)
  have HCL := Aside0.mk hlc
  have HB9 := Aside0.mk (HB8.out.trans (hb9.mono HB8.out.size))
  have HONE9 := Aside0.mk (Kd.C_below HONE8.out hb9)
  have HTWO9 := Aside0.mk (Kd.C_below HTWO8.out hb9)
  clear hlc hFc hb9 HONE8 HTWO8 HKY
  go_wp2_with fail
  have hBG : Below w9.heap.size w9 ((w9.alloc (.cells #[.int .i64 0] 3)).alloc (.cells #[.int .u8 0, .int .i64 0, .bool false] 47)) := below2 w9 _ _
  have HB10 := Aside0.mk (HB9.out.trans (hBG.mono HB9.out.size))
  have HCO : Aside0 ((Kd.int .i64).C ((w9.alloc (.cells #[.int .i64 0] 3)).alloc (.cells #[.int .u8 0, .int .i64 0, .bool false] 47)) (some ⟨w9.heap.size, 0, none⟩) [(0 : Int)].length [0]) := ⟨C_one (d := Kd.int .i64) (0 : Int) (kept_alloc (new_at w9 _ _) _) rfl rfl⟩
  have HAG : Aside0 (kAgg.C ((w9.alloc (.cells #[.int .i64 0] 3)).alloc (.cells #[.int .u8 0, .int .i64 0, .bool false] 47)) (some ⟨w9.heap.size + 1, 0, none⟩) [(⟨0, 0, false⟩ : AggT)].length [⟨0, 0, false⟩]) := ⟨C_one (⟨0, 0, false⟩ : AggT) (new_at1 w9 _ _ _) rfl (kAgg.K_of_M (base := 0) (ok := fun _ => True) (k47_mkM _ _ _ ⟨0, 0, false⟩))⟩
  have HONE10 := Aside0.mk (Kd.C_below HONE9.out hBG)
  have HTWO10 := Aside0.mk (Kd.C_below HTWO9.out hBG)
  have HCUT10 := Aside0.mk (Kd.C_below HCUT.out hBG)
  clear hBG HONE9 HTWO9 HCUT
  have hgr := group_good (some ⟨g1, 0, none⟩) 3 oneA_ (some ⟨w9.heap.size, 0, none⟩) 1 [0] (some ⟨w9.heap.size + 1, 0, none⟩) 1 [⟨0, 0, false⟩] _ HONE10.out (by simp) HCO.out HAG.out (HT.out.below HB10.out) awake_groupOk one_valid (fun n hn => by
    obtain rfl : n = 0 := by simpa using hn
    decide)
  clear HCO HAG
  refine hgr.mono ?_
  clear hgr
  rintro e w11 ⟨v2, rfl, ⟨Ag, cg, hv2, hlg, hFg⟩, hb11⟩
  have hg := Kd.F_now hFg
  rw [show groupR [0] oneA_ [(⟨0, 0, false⟩ : AggT)].length = [[iV 1, iV 2], [iV 2, iV 1]] from awake_group] at hv2 hlg hg
  have hv2 : v2 = .slice Ag 2 cg := hv2
  subst hv2
  have HGR := Aside0.mk hg
  have HGL := Aside0.mk hlg
  have HB11 := Aside0.mk (HB10.out.trans (hb11.mono HB10.out.size))
  have HONE11 := Aside0.mk (Kd.C_below HONE10.out hb11)
  have HTWO11 := Aside0.mk (Kd.C_below HTWO10.out hb11)
  have HCUT11 := Aside0.mk (Kd.C_below HCUT10.out hb11)
  clear hlg hFg hg hb11 HONE10 HTWO10 HCUT10
  go_wp2_with fail
  have hBO : Below w11.heap.size w11 (w11.alloc (.cells #[.slice Ag 2 cg, .int .i64 0] 41)) := (Below.refl _ w11).alloc (Nat.le_refl _) _
  have HOC := Aside0.mk (new_at w11 #[.slice Ag 2 cg, .int .i64 0] 41)
  obtain ⟨W12, hW12⟩ : ∃ W12, W12 = w11.alloc (.cells #[.slice Ag 2 cg, .int .i64 0] 41) := ⟨_, rfl⟩
  obtain ⟨go, hgo⟩ : ∃ go, go = w11.heap.size := ⟨_, rfl⟩
  rw [← hW12] at hBO HOC
  rw [← hgo] at HOC
  rw [← hW12, ← hgo]
  have HB12 := Aside0.mk (HB11.out.trans (hBO.mono HB11.out.size))
  have HBW : Aside0 (Below w11.heap.size w11 W12) := ⟨hBO⟩
  clear hBO hW12 hgo
  refine (jointerref01_Int.calls 9223372036854775807 1 9223372036854775807 ⟨#[]⟩ _ rfl).mono ?_
  rintro e w13 ⟨rfl, hb13⟩
  have HB13 := Aside0.mk hb13
  clear hb13
  go_wp2_with fail
  refine (jointerref01_Int.calls 1 1 1 ⟨#[]⟩ _ rfl).mono ?_
  rintro e w14 ⟨rfl, hb14⟩
  have HB14 := Aside0.mk (HB13.out.trans (hb14.mono HB13.out.size))
  clear hb14 HB13
  go_wp2_with fail
  refine (jointerref01_Int.calls (-1) 1 (-1) ⟨#[]⟩ _ rfl).mono ?_
  rintro e w15 ⟨rfl, hb15⟩
  have HB15 := Aside0.mk (HB14.out.trans (hb15.mono HB14.out.size))
  clear hb15 HB14
  go_wp2_with fail
  have hb16 : Below w15.heap.size w15 (w15.alloc (.cells #[.int .u8 1, .int .i64 9223372036854775807, .string ⟨#[]⟩, .int .u8 1, .int .i64 1, .string ⟨#[]⟩, .int .u8 1, .int .i64 (-1), .string ⟨#[]⟩] 27)) := (Below.refl _ w15).alloc (Nat.le_refl _) _
  have HB16 : Aside0 (Below W12.heap.size W12 (w15.alloc (.cells #[.int .u8 1, .int .i64 9223372036854775807, .string ⟨#[]⟩, .int .u8 1, .int .i64 1, .string ⟨#[]⟩, .int .u8 1, .int .i64 (-1), .string ⟨#[]⟩] 27))) := ⟨HB15.out.trans (hb16.mono HB15.out.size)⟩
  have hc3 := C_three 9223372036854775807 1 (-1) (new_at w15 #[.int .u8 1, .int .i64 9223372036854775807, .string ⟨#[]⟩, .int .u8 1, .int .i64 1, .string ⟨#[]⟩, .int .u8 1, .int .i64 (-1), .string ⟨#[]⟩] 27)
  clear hb16
  refine (bag_Aggregate.calls 2 false (some ⟨w15.heap.size, 0, none⟩) 3 [iV 9223372036854775807, iV 1, iV (-1)] 1 9223372036854775807 ⟨#[]⟩ 0 _ hc3 (by simp) (HT.out.below (HB12.out.trans (HB16.out.mono HB12.out.size))) awake_agg).mono ?_
  clear hc3
  rintro e w17 ⟨rfl, hb17⟩
  have HB17 := Aside0.mk (HB16.out.trans (hb17.mono HB16.out.size))
  clear hb17 HB16 HB15
  have HOC17 := Aside0.mk (kept_at HOC.out HB17.out)
  have o1 : w17.cell? ⟨go, 1, none⟩ = some (.int .i64 0) := (blk_cell HOC17.out 1).trans rfl
  have o0 : w17.cell? ⟨go, 0, none⟩ = some (.slice Ag 2 cg) := (blk_cell HOC17.out 0).trans rfl
  have hgs : go ≠ w17.heap.size := by have := blk_lt HOC17.out; omega
  have o2 : (w17.alloc (.cells #[.int .u8 1, .int .i64 9223372036854775807, .string ⟨#[]⟩, .int .i64 0] 31)).cell? ⟨go, 1, none⟩ = some (.int .i64 0) := (blk_cell (kept_alloc HOC17.out _) 1).trans rfl
  have o3 : (w17.alloc (.cells #[.int .u8 1, .int .i64 9223372036854775807, .string ⟨#[]⟩, .int .i64 0] 31)).cell? ⟨go, 0, none⟩ = some (.slice Ag 2 cg) := (blk_cell (kept_alloc HOC17.out _) 0).trans rfl
  go_wp2_with fail
  clear o0 o1 o2 o3 hgs
  have HOC20 := Aside0.mk (kept_alloc HOC17.out (.cells #[.int .u8 1, .int .i64 9223372036854775807, .string ⟨#[]⟩, .int .i64 0] 31))
  have HSC20 := Aside0.mk (new_at w17 #[.int .u8 1, .int .i64 9223372036854775807, .string ⟨#[]⟩, .int .i64 0] 31)
  have hb20 : Below w17.heap.size w17 (w17.alloc (.cells #[.int .u8 1, .int .i64 9223372036854775807, .string ⟨#[]⟩, .int .i64 0] 31)) := (Below.refl _ w17).alloc (Nat.le_refl _) _
  have hb1120 : Below w11.heap.size w11 (w17.alloc (.cells #[.int .u8 1, .int .i64 9223372036854775807, .string ⟨#[]⟩, .int .i64 0] 31)) := HBW.out.trans ((HB17.out.trans (hb20.mono HB17.out.size)).mono HBW.out.size)
  have HB20 := Aside0.mk (HB11.out.trans (hb1120.mono HB11.out.size))
  have HONE20 := Aside0.mk (Kd.C_below HONE11.out hb1120)
  have HTWO20 := Aside0.mk (Kd.C_below HTWO11.out hb1120)
  have HCUT20 := Aside0.mk (Kd.C_below HCUT11.out hb1120)
  have HGR20 := Aside0.mk (Kd.C_below HGR.out hb1120)
  clear hb20 hb1120
  obtain ⟨W20, hW20⟩ : ∃ W20, W20 = w17.alloc (.cells #[.int .u8 1, .int .i64 9223372036854775807, .string ⟨#[]⟩, .int .i64 0] 31) := ⟨_, rfl⟩
  obtain ⟨so, hso⟩ : ∃ so, so = w17.heap.size := ⟨_, rfl⟩
  rw [← hW20] at HOC20 HSC20 HB20 HONE20 HTWO20 HCUT20 HGR20
  rw [← hso] at HSC20
  rw [← hW20, ← hso]
  clear hW20 hso
  have HKEEP : Aside0 (∀ W', Below W20.heap.size W20 W' → W'.cell? ⟨so, 1, none⟩ = some (.int .i64 9223372036854775807) ∧ W'.cell? ⟨go, 0, none⟩ = some (.slice Ag 2 cg)) := ⟨fun W' hb => ⟨(blk_cell (kept_at HSC20.out hb) 1).trans rfl, (blk_cell (kept_at HOC20.out hb) 0).trans rfl⟩⟩
  have HTAKE : Aside0 (kRow.C W20 (some ⟨g1, 0, none⟩) 1 [[iV 2]]) := ⟨Kd.C_take (m := 1) HONE20.out (by simp)⟩
  have HTAKG : Aside0 (kRow.C W20 Ag 1 [[iV 1, iV 2]]) := ⟨Kd.C_take (m := 1) HGR20.out (by simp)⟩
  have HC1 : Aside0 (∀ W', Below W20.heap.size W20 W' → Calls Tryd.prog 19 #[.slice Ac 1 cc, .slice (some ⟨g1, 0, none⟩) 1 3] W' fun e w' => e = .returned (.bool true) ∧ Below W'.heap.size W' w') := ⟨fun W' hb => by
    obtain ⟨k, hk⟩ := (sameLists_refl [[iV 2]] (by simp) (by simp)).rounds
    exact jointerref06_SameLists.calls k Ac cc [[iV 2]] (some ⟨g1, 0, none⟩) 3 [[iV 2]] true W' (Kd.C_below HCUT20.out hb) HCL.out (Kd.C_below HTAKE.out hb) (by simp) hk⟩
  have HC4 : Aside0 (∀ W' b, Below W20.heap.size W20 W' → kRow.C W' (some ⟨b, 0, none⟩) 1 [[iV 1, iV 2]] → Calls Tryd.prog 19 #[.slice Ag 1 cg, .slice (some ⟨b, 0, none⟩) 1 1] W' fun e w' => e = .returned (.bool true) ∧ Below W'.heap.size W' w') := ⟨fun W' b hb hc => by
    obtain ⟨k, hk⟩ := (sameLists_refl [[iV 1, iV 2]] (by simp) (by simp)).rounds
    exact jointerref06_SameLists.calls k Ag cg [[iV 1, iV 2]] (some ⟨b, 0, none⟩) 1 [[iV 1, iV 2]] true W' (Kd.C_below HTAKG.out hb) (Nat.le_trans (by simp) HGL.out) hc (by simp) hk⟩
  have HC5 : Aside0 (∀ W', Below W20.heap.size W20 W' → Calls Tryd.prog 26 #[.slice (some ⟨g1, 0, none⟩) 3 3] W' fun e w' => e = .returned (.bool true) ∧ Below W'.heap.size W' w') := ⟨fun W' hb => by
    obtain ⟨k, hk⟩ := (valid_ev oneA_ one_ok.v).rounds
    rw [one_valid] at hk
    exact bag_Valid.calls k (some ⟨g1, 0, none⟩) 3 oneA_ true W' (Kd.C_below HONE20.out hb) (by simp) hk⟩
  have HC6 : Aside0 (∀ W', Below W20.heap.size W20 W' → Calls Tryd.prog 24 #[.slice (some ⟨g1, 0, none⟩) 3 3, .slice (some ⟨g2, 0, none⟩) 2 2] W' fun e w' => e = .returned (.bool false) ∧ Below W'.heap.size W' w') := ⟨fun W' hb =>
    bag_Same.calls (some ⟨g1, 0, none⟩) 3 oneA_ (some ⟨g2, 0, none⟩) 2 twoA_ false W' (Kd.C_below HONE20.out hb) (by simp) (Kd.C_below HTWO20.out hb) (by simp) (HT.out.below (HB20.out.trans (hb.mono HB20.out.size))) awake_same⟩
  have HNEW : Aside0 (∀ (w : World), kRow.C ((w.alloc (.cells #[.int .u8 1, .int .i64 1, .string ⟨#[]⟩, .int .u8 1, .int .i64 2, .string ⟨#[]⟩] 27)).alloc (.cells #[.slice (some ⟨w.heap.size, 0, none⟩) 2 2] 58)) (some ⟨w.heap.size + 1, 0, none⟩) 1 [[iV 1, iV 2]]) := ⟨fun w => by
    have h1 := new_at1 w (.cells #[.int .u8 1, .int .i64 1, .string ⟨#[]⟩, .int .u8 1, .int .i64 2, .string ⟨#[]⟩] 27) #[.slice (some ⟨w.heap.size, 0, none⟩) 2 2] 58
    have h2 := kept_alloc (new_at w #[.int .u8 1, .int .i64 1, .string ⟨#[]⟩, .int .u8 1, .int .i64 2, .string ⟨#[]⟩] 27) (.cells #[.slice (some ⟨w.heap.size, 0, none⟩) 2 2] 58)
    exact C_rows (l := [[iV 1, iV 2]]) h1 (by simp) (fun j row hj => by
      match j, hj with
      | 0, hj => obtain rfl : [iV 1, iV 2] = row := by simpa using hj
                 exact ⟨_, 2, rfl, by simp, C_two 1 2 h2⟩
      | j + 1, hj => simp at hj)⟩
  obtain ⟨i0, hi0, hzz⟩ := Option.map_eq_some_iff.1 infoRow
  simp only [Prod.mk.injEq] at hzz
  have hsl : ∀ W, (Instr.slice 37 (.slice Ag 2 cg) none (some (.int .i64 1)) none).run Tryd.prog W = .ok (.slice Ag 1 cg) W := (print_take_of (P := Tryd.prog) (Value.int .i64) (0 : Int) 37 58 .i64 Tryd.underlying37 hi0 hzz.2.1 Ag cg [0, 0] 1 (by omega) (by simp) HGL.out).1
  clear hzz hi0
  have HE : Aside0 (Below W20.heap.size W20 W20.drew) := ⟨(Below.refl _ W20).drew⟩
  have HE0 : Aside0 (Below W20.heap.size W20 W20) := ⟨Below.refl _ W20⟩
  go_region_held3 (fun W' => W'.cell? ⟨so, 1, none⟩ = some (.int .i64 9223372036854775807) ∧ W'.cell? ⟨go, 0, none⟩ = some (.slice Ag 2 cg)) (first | (with_reducible exact HKEEP.out _ HE0.out) | (with_reducible exact HKEEP.out _ HE.out) | (with_reducible exact HKEEP.out _ HBa.out) | (with_reducible exact HKEEP.out _ HBb.out) | (with_reducible exact HKEEP.out _ HBc.out) | (with_reducible exact HKEEP.out _ (HBc1.out _)) | (with_reducible exact HKEEP.out _ (HBc2.out _ _)) | (with_reducible exact HKEEP.out _ HBd.out) | (with_reducible exact HKEEP.out _ HBe.out) | (with_reducible exact HKEEP.out _ HBf.out)) (first
    | (go_at_call 19; (with_reducible refine (HC1.out W20.drew HE.out).mono ?_); rintro e wa ⟨rfl, hba⟩; have HBa := Aside0.mk (HE.out.trans (hba.mono HE.out.size)); clear hba)
    | (go_at_call 12; (with_reducible refine (jointerref01_Int.calls 1 1 1 ⟨#[]⟩ wa rfl).mono ?_); rintro e wb ⟨rfl, hbb⟩; have HBb := Aside0.mk (HBa.out.trans (hbb.mono HBa.out.size)); clear hbb)
    | (go_at_call 12; (with_reducible refine (jointerref01_Int.calls 2 1 2 ⟨#[]⟩ wa rfl).mono ?_); rintro e wb ⟨rfl, hbb⟩; have HBb := Aside0.mk (HBa.out.trans (hbb.mono HBa.out.size)); clear hbb)
    | (go_at_call 12; (with_reducible refine (jointerref01_Int.calls 1 1 1 ⟨#[]⟩ wb rfl).mono ?_); rintro e wc ⟨rfl, hbc⟩; have HBc := Aside0.mk (HBb.out.trans (hbc.mono HBb.out.size)); have HBc1 : Aside0 (∀ o, Below W20.heap.size W20 (wc.alloc o)) := ⟨fun o => HBc.out.alloc HBc.out.size o⟩; have HBc2 : Aside0 (∀ o p, Below W20.heap.size W20 ((wc.alloc o).alloc p)) := ⟨fun o p => (HBc1.out o).alloc (HBc1.out o).size p⟩; clear hbc)
    | (go_at_call 12; (with_reducible refine (jointerref01_Int.calls 2 1 2 ⟨#[]⟩ wb rfl).mono ?_); rintro e wc ⟨rfl, hbc⟩; have HBc := Aside0.mk (HBb.out.trans (hbc.mono HBb.out.size)); have HBc1 : Aside0 (∀ o, Below W20.heap.size W20 (wc.alloc o)) := ⟨fun o => HBc.out.alloc HBc.out.size o⟩; have HBc2 : Aside0 (∀ o p, Below W20.heap.size W20 ((wc.alloc o).alloc p)) := ⟨fun o p => (HBc1.out o).alloc (HBc1.out o).size p⟩; clear hbc)
    | (go_at_call 19; (with_reducible refine (HC4.out _ _ (HBc2.out _ _) (HNEW.out wc)).mono ?_); rintro e wd ⟨rfl, hbd⟩; have HBd := Aside0.mk ((HBc2.out _ _).trans (hbd.mono (HBc2.out _ _).size)); clear hbd)
    | (go_at_call 26; (with_reducible refine (HC5.out wd HBd.out).mono ?_); rintro e we ⟨rfl, hbe⟩; have HBe := Aside0.mk (HBd.out.trans (hbe.mono HBd.out.size)); clear hbe)
    | (go_at_call 24; (with_reducible refine (HC6.out we HBe.out).mono ?_); rintro e wf ⟨rfl, hbf⟩; have HBf := Aside0.mk (HBe.out.trans (hbf.mono HBe.out.size)); clear hbf))
  all_goals (go_wp2; go_ret; exact ⟨rfl, HB20.out.trans (HBf.out.mono HB20.out.size)⟩)
def jointerlaw06_awake.f : Option Bool := some true
theorem jointerlaw06_awake.calls (r : Bool) (w : World) (hT : LaidT w) (h : jointerlaw06_awake.f = some r) : Calls Tryd.prog 11 #[] w fun e w' => e = .returned (.bool r) ∧ Below w.heap.size w w' := by
  obtain rfl : true = r := Option.some.inj h
  exact awake_calls w hT
end Go.Proofs.YtecgkcgfeghhgaaDoor.PAll
namespace Go.Proofs.YtecgkcgfeghhgaaDoor.bulks
theorem one_le {H : Type} (d : DataW H) : 1 ≤ Rows.uptoBulk d := by
  cases d with
  | lit l => cases l <;> simp [Rows.uptoBulk]
  | nil => simp [Rows.uptoBulk]
  | ptr d => simp [Rows.uptoBulk]
  | slice elems spare => simp [Rows.uptoBulk]
  | agg parts => simp [Rows.uptoBulk]
  | iface t d => simp [Rows.uptoBulk]
  | map entries => simp [Rows.uptoBulk]
  | held h => simp [Rows.uptoBulk]
theorem append {H : Type} (l r : List (DataW H)) : Rows.uptoBulkAll (l ++ r) = Rows.uptoBulkAll l + Rows.uptoBulkAll r := by
  induction l with
  | nil => simp [Rows.uptoBulkAll]
  | cons x l ih => simp only [List.cons_append, Rows.uptoBulkAll, ih]; omega
theorem bound {H : Type} {l : List (DataW H)} (hk : Rows.uptoSmall H l = true) : Rows.uptoBulkAll l ≤ 1048576 := by
  simpa [Rows.uptoSmall] using hk
end Go.Proofs.YtecgkcgfeghhgaaDoor.bulks
set_option linter.unusedVariables false
set_option linter.unusedSimpArgs false
namespace Go.Proofs.YtecgkcgfeghhgaaDoor.PAll
open Go.RowKit Go.Proofs.YtecgkcgfeghhgaaDoorW.PrintWords Go.Proofs.YtecgkcgfeghhgaaDoorW.PrintLast Go.Proofs.YtecgkcgfeghhgaaDoorW.PrintMore
open Go.ChangeShapes Go.WideShapes Go.Deep
section
variable {H : Type} {enc : TypeId × Value → H} {w : World} {base : Nat} {spare : Nat → Bool} {held : Bool}
theorem wf_u8 {n : Int} (h : (Lit.int .u8 n).wf = true) : 0 ≤ n ∧ n ≤ 255 := by
  have h2 : IntKind.u8.min ≤ n ∧ n ≤ IntKind.u8.max := by simpa [Lit.wf] using h
  have e0 : IntKind.u8.min = 0 := by decide
  have e1 : IntKind.u8.max = 255 := by decide
  rw [e0, e1] at h2
  exact h2
theorem wf_i64 {n : Int} (h : (Lit.int .i64 n).wf = true) : -9223372036854775808 ≤ n ∧ n ≤ 9223372036854775807 := by
  have h2 : IntKind.i64.min ≤ n ∧ n ≤ 9223372036854775807 := by simpa [Lit.wf] using h
  have e : IntKind.i64.min = -9223372036854775808 := by decide
  rw [e] at h2
  exact h2
theorem cellsV : (Tryd.prog).cellsOf 27 = 3 := by kernel_rfl
theorem cells1 : (Tryd.prog).cellsOf 25 = 1 ∧ (Tryd.prog).cellsOf 2 = 1 ∧ (Tryd.prog).cellsOf 9 = 1 := ⟨by kernel_rfl, by kernel_rfl, by kernel_rfl⟩
def bulkV (v : V) : Nat := v.f2.size + 1
def bulkR (r : List V) : Nat := (r.map bulkV).sum + 1
def bulkL (l : List (List V)) : Nat := (l.map bulkR).sum + 1
theorem sum_mem : ∀ {l : List Nat} {n : Nat}, n ∈ l → n ≤ l.sum
  | [], _, h => by simp at h
  | m :: l, n, h => by
    rw [List.sum_cons]
    rcases List.mem_cons.1 h with rfl | h
    · omega
    · have := sum_mem h; omega
theorem sum_len {α : Type} (f : α → Nat) (hf : ∀ a, 1 ≤ f a) : ∀ l : List α, l.length ≤ (l.map f).sum
  | [] => by simp
  | a :: l => by
    have h1 := hf a
    have h2 := sum_len f hf l
    simp only [List.map_cons, List.sum_cons, List.length_cons]
    omega
theorem bulkAll_sum : ∀ l : List (DataW H), Rows.uptoBulkAll l = (l.map Rows.uptoBulk).sum
  | [] => by simp [Rows.uptoBulkAll]
  | d :: r => by simp [Rows.uptoBulkAll, bulkAll_sum r]
theorem sum_le_sum {n : Nat} {f g : Nat → Nat} (h : ∀ i, i < n → f i ≤ g i) : ((List.range n).map f).sum ≤ ((List.range n).map g).sum := by
  induction n with
  | zero => simp
  | succ n ih =>
    rw [List.range_succ, List.map_append, List.map_append, List.sum_append, List.sum_append]
    have h1 := ih (fun i hi => h i (by omega))
    have h2 := h n (by omega)
    simp only [List.map_cons, List.map_nil, List.sum_cons, List.sum_nil]
    omega
theorem list_of_trod {α : Type} [Inhabited α] (d : Kd α) {t e : TypeId} (ht : (Tryd.prog).underlying t = some (.slice e)) (hsz : (Tryd.prog).cellsOf e = d.sz) (B : α → Nat) (G : α → Prop)
    (he : ∀ {fuel : Nat} {cs : List Value} {x : DataW H × List MemPlace}, cs.length = d.sz → DataW.trod enc Tryd.prog w base spare held fuel e cs = some x → ∃ a : α, d.K w a cs ∧ G a ∧ B a ≤ Rows.uptoBulk x.1)
    {fuel : Nat} {cs : List Value} {x : DataW H × List MemPlace} (h : DataW.trod enc Tryd.prog w base spare held fuel t cs = some x) :
    ∃ (A : Option Addr) (cap : Nat) (l : List α), cs = [.slice A l.length cap] ∧ l.length ≤ cap ∧ cap ≤ maxLen ∧ d.C w A l.length l ∧ (∀ a ∈ l, G a) ∧ (l.map B).sum + 1 ≤ Rows.uptoBulk x.1 := by
  rcases open_slice ht h with ⟨rfl, hx⟩ | ⟨a, len, cap, m, n, D, Pl, rfl, hb, hl, hm, hmm, rfl, hx⟩
  · exact ⟨none, 0, [], rfl, Nat.le_refl _, by decide, Kd.C_nil _ _, by simp, by rw [hx]; simp [Rows.uptoBulk]⟩
  have hlm : len ≤ m := by rw [hmm]; split <;> omega
  have each : ∀ i, i < len → ∃ r : α, (G r ∧ B r ≤ Rows.uptoBulk (D i)) ∧ ∃ cs', cs'.length = d.sz ∧ d.K w r cs' ∧ ∀ j u, cs'[j]? = some u → w.cell? (a.add (i * d.sz + j)) = some u := fun i hi => by
    obtain ⟨cs', h1, h2⟩ := hx i (by omega)
    rw [hsz] at h1
    obtain ⟨_, hlen, hcell⟩ := World.cells?_some h1
    obtain ⟨r, hK, hG, hB⟩ := he hlen h2
    refine ⟨r, ⟨hG, hB⟩, cs', hlen, hK, fun j u hu => ?_⟩
    have hj : j < d.sz := by have := (List.getElem?_eq_some_iff.1 hu).1; omega
    have hc := hcell j hj
    rw [Go.Deep.add_add] at hc
    rw [hc]
    exact hu
  obtain ⟨q, hq⟩ := choose_lt each
  refine ⟨some a, cap, (List.range len).map q, by simp, by simpa using hl, hm, ⟨rfl, by simp only [List.length_map, List.length_range]; have : maxLen = 9223372036854775807 := rfl; omega, fun _ => ⟨a, rfl, fun j p hj => ?_⟩⟩, fun r hr => ?_, ?_⟩
  · have hjl : j < len := by have := (List.getElem?_eq_some_iff.1 hj).1; simpa using this
    obtain rfl : q j = p := by simpa [hjl] using hj
    obtain ⟨_, cs', h1, h2, h3⟩ := hq j hjl
    exact ⟨cs', h1, h2, h3⟩
  · obtain ⟨i, hi, rfl⟩ := List.mem_map.1 hr
    exact (hq i (List.mem_range.1 hi)).1.1
  · have h1 := sum_le_sum (n := len) (f := fun i => B (q i)) (g := fun i => Rows.uptoBulk (D i)) (fun i hi => (hq i hi).1.2)
    simp only [Rows.uptoBulk, bulkAll_sum, List.map_map, Function.comp_def]
    omega
theorem val_of_trod {fuel : Nat} {cs : List Value} {x : DataW H × List MemPlace} (h : DataW.trod enc Tryd.prog w base spare held fuel 27 cs = some x) : ∃ v : V, cs = [.int .u8 v.f0, .int .i64 v.f1, .string v.f2] ∧ VOk v ∧ bulkV v ≤ Rows.uptoBulk x.1 := by
  obtain ⟨y0, y1, y2, n, hx, hl, h0, h1, h2⟩ := trod_struct3 Tryd.underlying27 h
  rw [cellsV] at hl
  rw [cells1.1] at h0
  rw [cells1.2.1] at h1
  rw [cells1.2.2] at h2
  match cs, hl with
  | [c0, c1, c2], _ =>
    obtain ⟨n0, e0, _, w0⟩ := DataW.trod_int (k := .u8) (by kernel_rfl) h0
    obtain ⟨n1, e1, _, w1⟩ := DataW.trod_int (k := .i64) (by kernel_rfl) h1
    obtain ⟨s2, e2, hy, l2⟩ := DataW.trod_string (by kernel_rfl) h2
    have f0 : c0 = .int .u8 n0 := (List.cons.inj (show [c0] = [.int .u8 n0] from e0)).1
    have f1 : c1 = .int .i64 n1 := (List.cons.inj (show [c1] = [.int .i64 n1] from e1)).1
    have f2 : c2 = .string s2 := (List.cons.inj (show [c2] = [.string s2] from e2)).1
    rw [f0, f1, f2]
    have a := wf_u8 w0
    have b := wf_i64 w1
    refine ⟨⟨n0, n1, s2⟩, rfl, ⟨a.1, a.2, b.1, b.2⟩, ?_⟩
    have e3 : s2.data.toList.length = s2.size := Array.length_toList
    rw [hx, hy]
    simp only [bulkV, Rows.uptoBulk, Rows.uptoBulkAll, e3]
    omega
instance : Inhabited V := ⟨⟨0, 0, ⟨#[]⟩⟩⟩
instance : Inhabited KeyT := ⟨⟨0, false⟩⟩
theorem vals_of_trod {t : TypeId} (ht : (Tryd.prog).underlying t = some (.slice 27)) {fuel : Nat} {cs : List Value} {x : DataW H × List MemPlace} (h : DataW.trod enc Tryd.prog w base spare held fuel t cs = some x) :
    ∃ (A : Option Addr) (cap : Nat) (l : List V), cs = [.slice A l.length cap] ∧ l.length ≤ cap ∧ cap ≤ maxLen ∧ kV.C w A l.length l ∧ (∀ v ∈ l, VOk v) ∧ bulkR l ≤ Rows.uptoBulk x.1 :=
  list_of_trod kV ht cellsV bulkV VOk (fun _ h => by
    obtain ⟨v, rfl, hv, hb⟩ := val_of_trod h
    exact ⟨v, k27_mk w v, hv, hb⟩) h
theorem cellsRow : (Tryd.prog).cellsOf 58 = 1 := by kernel_rfl
theorem rows_of_trod {fuel : Nat} {cs : List Value} {x : DataW H × List MemPlace} (h : DataW.trod enc Tryd.prog w base spare held fuel 37 cs = some x) :
    ∃ (A : Option Addr) (cap : Nat) (l : List (List V)), cs = [.slice A l.length cap] ∧ l.length ≤ cap ∧ cap ≤ maxLen ∧ kRow.C w A l.length l ∧ (∀ r ∈ l, ∀ v ∈ r, VOk v) ∧ bulkL l ≤ Rows.uptoBulk x.1 :=
  list_of_trod kRow Tryd.underlying37 cellsRow bulkR (fun r => ∀ v ∈ r, VOk v) (fun _ h => by
    obtain ⟨A, cap, r, rfl, h1, _, hC, hv, hb⟩ := vals_of_trod Tryd.underlying58 h
    exact ⟨r, ⟨A, cap, rfl, h1, hC⟩, hv, hb⟩) h
theorem cellsI : (Tryd.prog).cellsOf 3 = 1 ∧ (Tryd.prog).cellsOf 4 = 1 := ⟨by kernel_rfl, by kernel_rfl⟩
theorem cellsKey : (Tryd.prog).cellsOf 62 = 2 := by kernel_rfl
theorem key_of_trod {fuel : Nat} {cs : List Value} {x : DataW H × List MemPlace} (h : DataW.trod enc Tryd.prog w base spare held fuel 62 cs = some x) : ∃ v : KeyT, cs = [.int .i64 v.f0, .bool v.f1] ∧ 1 ≤ Rows.uptoBulk x.1 := by
  obtain ⟨xs, n, _, hx, hl, hlen, hf⟩ := DataW.trod_struct Tryd.underlying62 h
  match xs, hlen with
  | [y0, y1], _ =>
    have h0 : DataW.trod enc Tryd.prog w base spare held n 3 ((cs.drop 0).take ((Tryd.prog).cellsOf 3)) = some y0 := hf 0 _ rfl
    have h1 : DataW.trod enc Tryd.prog w base spare held n 4 ((cs.drop 1).take ((Tryd.prog).cellsOf 4)) = some y1 := hf 1 _ rfl
    clear hf
    rw [cellsKey] at hl
    rw [cellsI.1] at h0
    rw [cellsI.2] at h1
    match cs, hl with
    | [c0, c1], _ =>
      obtain ⟨n0, e0, _, _⟩ := DataW.trod_int (k := .i64) (by kernel_rfl) h0
      obtain ⟨b1, e1, _⟩ := DataW.trod_bool (by kernel_rfl) h1
      have f0 : c0 = .int .i64 n0 := (List.cons.inj (show [c0] = [.int .i64 n0] from e0)).1
      have f1 : c1 = .bool b1 := (List.cons.inj (show [c1] = [.bool b1] from e1)).1
      exact ⟨⟨n0, b1⟩, by rw [f0, f1], bulks.one_le _⟩
theorem keys_of_trod {fuel : Nat} {cs : List Value} {x : DataW H × List MemPlace} (h : DataW.trod enc Tryd.prog w base spare held fuel 49 cs = some x) :
    ∃ (A : Option Addr) (cap : Nat) (l : List KeyT), cs = [.slice A l.length cap] ∧ l.length ≤ cap ∧ cap ≤ maxLen ∧ kKey.C w A l.length l ∧ l.length + 1 ≤ Rows.uptoBulk x.1 := by
  obtain ⟨A, cap, l, h1, h2, h3, h4, _, h6⟩ := list_of_trod kKey Tryd.underlying49 cellsKey (fun _ => 1) (fun _ => True) (fun _ h => by
    obtain ⟨v, rfl, hb⟩ := key_of_trod h
    exact ⟨v, k62_mk w v, trivial, hb⟩) h
  exact ⟨A, cap, l, h1, h2, h3, h4, by have := sum_len (fun _ : KeyT => 1) (fun _ => Nat.le_refl _) l; omega⟩
theorem ints_of_trod {k : IntKind} {t e : TypeId} (ht : (Tryd.prog).underlying t = some (.slice e)) (he : (Tryd.prog).underlying e = some (.int k)) (hc : (Tryd.prog).cellsOf e = 1) {fuel : Nat} {cs : List Value} {x : DataW H × List MemPlace} (h : DataW.trod enc Tryd.prog w base spare held fuel t cs = some x) :
    ∃ (A : Option Addr) (cap : Nat) (l : List Int), cs = [.slice A l.length cap] ∧ l.length ≤ cap ∧ cap ≤ maxLen ∧ (Kd.int k).C w A l.length l ∧ (∀ n ∈ l, (Lit.int k n).wf = true) ∧ l.length + 1 ≤ Rows.uptoBulk x.1 := by
  obtain ⟨A, cap, l, h1, h2, h3, h4, h5, h6⟩ := list_of_trod (Kd.int k) ht hc (fun _ => 1) (fun n => (Lit.int k n).wf = true) (fun hl h => by
    obtain ⟨n, e0, _, w0⟩ := DataW.trod_int (k := k) he h
    rw [e0]
    exact ⟨n, rfl, w0, bulks.one_le _⟩) h
  exact ⟨A, cap, l, h1, h2, h3, h4, h5, by have := sum_len (fun _ : Int => 1) (fun _ => Nat.le_refl _) l; omega⟩
end
theorem bulkL_rowsV {l : List (List V)} (hv : ∀ r ∈ l, ∀ v ∈ r, VOk v) (hb : bulkL l ≤ 1048576) : RowsV l := by
  have hl := sum_len bulkR (fun r => by unfold bulkR; omega) l
  unfold bulkL at hb
  refine ⟨fun r hr => ⟨hv r hr, ?_⟩, by omega⟩
  have h1 := sum_mem (List.mem_map_of_mem (f := bulkR) hr)
  have h2 := sum_len bulkV (fun v => by unfold bulkV; omega) r
  have e : bulkR r = (r.map bulkV).sum + 1 := rfl
  omega
theorem nameV_len (v : V) (h : VOk v) (hs : v.f2.size ≤ 1099511627776) : (nameV v).length ≤ 66 * bulkV v := by
  obtain ⟨h0, h1, h2, h3⟩ := h
  have i1 := Lib.itoa_length_le v.f0 (by omega) (by omega)
  have i2 := Lib.itoa_length_le v.f1 h2 h3
  have i3 := Lib.itoa_length_le (v.f2.size : Int) (by omega) (by omega)
  have e : v.f2.data.toList.length = v.f2.size := Array.length_toList
  unfold nameV bulkV
  simp only [List.length_append, List.length_cons, List.length_nil, e]
  omega
theorem nameB_bulk : ∀ r : List V, (∀ v ∈ r, VOk v) → (r.map bulkV).sum ≤ 1099511627776 → (nameB r).length ≤ 66 * (r.map bulkV).sum
  | [], _, _ => by simp [nameB]
  | v :: r, h, hs => by
    simp only [List.map_cons, List.sum_cons] at hs ⊢
    have h1 := nameV_len v (h v List.mem_cons_self) (by unfold bulkV at hs; omega)
    have h2 := nameB_bulk r (fun u hu => h u (List.mem_cons_of_mem _ hu)) (by omega)
    simp only [nameB, List.length_append]
    omega
theorem bulkR_rowOk {r : List V} (hv : ∀ v ∈ r, VOk v) (hb : bulkR r ≤ 1048577) : RowOk r := by
  unfold bulkR at hb
  have h1 := nameB_bulk r hv (by omega)
  have h2 := sum_len bulkV (fun v => by unfold bulkV; omega) r
  exact ⟨hv, by omega, by omega⟩
theorem bulkL_rowsOk {l : List (List V)} (hv : ∀ r ∈ l, ∀ v ∈ r, VOk v) (hb : bulkL l ≤ 1048576) : RowsOk l := by
  have hl := sum_len bulkR (fun r => by unfold bulkR; omega) l
  unfold bulkL at hb
  refine ⟨fun r hr => bulkR_rowOk (hv r hr) ?_, by omega⟩
  have h1 := sum_mem (List.mem_map_of_mem (f := bulkR) hr)
  omega
end Go.Proofs.YtecgkcgfeghhgaaDoor.PAll
set_option linter.unusedVariables false
set_option linter.unusedSimpArgs false
namespace Go.Proofs.YtecgkcgfeghhgaaDoor.PAll
open Go.RowKit Go.Proofs.YtecgkcgfeghhgaaDoorW.PrintWords Go.Proofs.YtecgkcgfeghhgaaDoorW.PrintLast Go.Proofs.YtecgkcgfeghhgaaDoorW.PrintMore
open Classical in
noncomputable def occ (l : List (List V)) (r : List V) : Nat := l.countP (fun t => decide (t = r))
theorem occ_nil (r : List V) : occ [] r = 0 := rfl
open Classical in
theorem occ_cons (t : List V) (l : List (List V)) (r : List V) : occ (t :: l) r = occ l r + (if t = r then 1 else 0) := by
  unfold occ
  rw [List.countP_cons]
  by_cases h : t = r <;> simp [h]
theorem occ_append (a b : List (List V)) (r : List V) : occ (a ++ b) r = occ a r + occ b r := by
  unfold occ; exact List.countP_append
theorem occ_perm {a b : List (List V)} (h : a.Perm b) (r : List V) : occ a r = occ b r := by
  unfold occ; exact h.countP_eq _
theorem occ_le (a : List (List V)) (r : List V) : occ a r ≤ a.length := by
  unfold occ; exact List.countP_le_length
theorem occ_mem {a : List (List V)} {r : List V} : 1 ≤ occ a r ↔ r ∈ a := by
  induction a with
  | nil => simp [occ_nil]
  | cons t l ih =>
    rw [occ_cons]
    by_cases h : t = r
    · simp [h]
    · simp only [if_neg h, Nat.add_zero, List.mem_cons]
      rw [ih]
      exact ⟨Or.inr, fun h2 => h2.resolve_left (fun e => h e.symm)⟩
theorem occ_name (l : List (List V)) (r : List V) : cnt (l.map nameOf) (nameOf r) = (occ l r : Int) := by
  induction l with
  | nil => rfl
  | cons t l ih =>
    rw [List.map_cons, cnt_cons, occ_cons, ih]
    by_cases h : t = r
    · simp [h]
    · rw [if_neg (fun e => h (name_inj e)), if_neg h]
      simp
theorem perm_of_occ : ∀ (a b : List (List V)), a.length = b.length → (∀ r ∈ a, occ a r ≤ occ b r) → a.Perm b := by
  intro a
  induction a with
  | nil =>
    intro b hl _
    have : b = [] := List.eq_nil_of_length_eq_zero hl.symm
    rw [this]
  | cons t a ih =>
    intro b hl h
    have h1 : 1 ≤ occ b t := by
      have := h t List.mem_cons_self
      rw [occ_cons] at this
      simp at this
      omega
    obtain ⟨p, q, rfl⟩ := List.append_of_mem (occ_mem.1 h1)
    have h2 := ih (p ++ q) (by simp at hl ⊢; omega) (fun r hr => by
      have := h r (List.mem_cons_of_mem _ hr)
      rw [occ_append, occ_cons, occ_cons] at this
      rw [occ_append]
      omega)
    exact (List.Perm.cons t h2).trans List.perm_middle.symm
theorem perm_of_occ_all {a b : List (List V)} (h : ∀ r, occ a r = occ b r) : a.Perm b := by
  suffices H : ∀ (a b : List (List V)), (∀ r, occ a r = occ b r) → a.length ≤ b.length by
    exact perm_of_occ a b (Nat.le_antisymm (H a b h) (H b a (fun r => (h r).symm))) (fun r _ => Nat.le_of_eq (h r))
  intro a
  induction a with
  | nil => intro b _; simp
  | cons t a ih =>
    intro b h
    have h1 : 1 ≤ occ b t := by
      have := h t
      rw [occ_cons] at this
      simp at this
      omega
    obtain ⟨p, q, rfl⟩ := List.append_of_mem (occ_mem.1 h1)
    have h2 := ih (p ++ q) (fun r => by
      have := h r
      rw [occ_append, occ_cons, occ_cons] at this
      rw [occ_append]
      omega)
    simp at h2 ⊢
    omega
theorem sameB_perm (a b : List (List V)) : sameB a b = true ↔ a.Perm b := by
  constructor
  · intro h
    have h : a.length = b.length ∧ ∀ s, cnt (a.map nameOf) s = cnt (b.map nameOf) s := by
      apply Classical.byContradiction
      intro hn
      rw [sameB_false hn] at h
      cases h
    refine perm_of_occ a b h.1 (fun r _ => ?_)
    have := h.2 (nameOf r)
    rw [occ_name, occ_name] at this
    omega
  · intro h
    refine sameB_true ⟨h.length_eq, fun s => ?_⟩
    unfold cnt
    rw [(h.map nameOf).countP_eq]
theorem sameB_comm (a b : List (List V)) : sameB b a = sameB a b := by
  rw [Bool.eq_iff_iff, sameB_perm, sameB_perm]
  exact ⟨fun h => h.symm, fun h => h.symm⟩
theorem sortR_congr {ks : List KeyT} {a b : List (List V)} (hv : ∀ row ∈ a, ∀ v ∈ row, validV v = true) (h : a.Perm b) : sortR ks b = sortR ks a :=
  sortR_unique hv ((sortR_perm ks b).trans h.symm) (sortR_pair ks b)
theorem split_occ : ∀ (l : List (List V)) (c : ByteArray → Int) (r : List V), 0 ≤ c (nameOf r) →
    (occ (splitR c l).1 r : Int) = (if (occ l r : Int) ≤ c (nameOf r) then (occ l r : Int) else c (nameOf r)) := by
  intro l
  induction l with
  | nil => intro c r h; simp [splitR, occ_nil]; omega
  | cons t l ih =>
    intro c r h
    rw [splitR, occ_cons]
    by_cases hc : 0 < c (nameOf t)
    · rw [if_pos hc]
      simp only [occ_cons]
      by_cases e : t = r
      · subst e
        have := ih (decAt c (nameOf t)) t (by unfold decAt; rw [if_pos rfl]; omega)
        simp only [decAt, if_pos] at this
        simp only [if_pos]
        split at this <;> split <;> omega
      · have hne : nameOf r ≠ nameOf t := fun h => e (name_inj h).symm
        have := ih (decAt c (nameOf t)) r (by unfold decAt; rw [if_neg hne]; exact h)
        simp only [decAt, if_neg hne] at this
        simp only [if_neg e]
        split at this <;> split <;> omega
    · rw [if_neg hc]
      simp only
      have := ih c r h
      by_cases e : t = r
      · subst e
        simp only [if_pos]
        split at this <;> split <;> omega
      · simp only [if_neg e]
        split at this <;> split <;> omega
theorem split_perm : ∀ (l : List (List V)) (c : ByteArray → Int), ((splitR c l).1 ++ (splitR c l).2).Perm l := by
  intro l
  induction l with
  | nil => intro c; simp [splitR]
  | cons t l ih =>
    intro c
    rw [splitR]
    by_cases hc : 0 < c (nameOf t)
    · rw [if_pos hc]
      exact List.Perm.cons t (ih _)
    · rw [if_neg hc]
      exact List.perm_middle.trans (List.Perm.cons t (ih _))
theorem met_occ (a b : List (List V)) (r : List V) : occ (splitR (cnt (b.map nameOf)) a).1 r = min (occ a r) (occ b r) := by
  have := split_occ a (cnt (b.map nameOf)) r (cnt_nonneg _ _)
  rw [occ_name] at this
  split at this <;> omega
theorem left_occ (a b : List (List V)) (r : List V) : occ (splitR (cnt (b.map nameOf)) a).2 r = occ a r - occ b r := by
  have h1 := met_occ a b r
  have h2 := occ_perm (split_perm a (cnt (b.map nameOf))) r
  rw [occ_append] at h2
  omega
end Go.Proofs.YtecgkcgfeghhgaaDoor.PAll
set_option linter.unusedVariables false
set_option linter.unusedSimpArgs false
namespace Go.Proofs.YtecgkcgfeghhgaaDoor.PAll
open Go.RowKit Go.Proofs.YtecgkcgfeghhgaaDoorW.PrintWords Go.Proofs.YtecgkcgfeghhgaaDoorW.PrintLast Go.Proofs.YtecgkcgfeghhgaaDoorW.PrintMore
noncomputable def bag_Intersect.f (l0 l1 : List (List V)) : Option (List (List V) × Int) := (bag_split.f l0 l1).map fun t => (t.1, t.2.2)
theorem bag_Intersect.calls (A0 : Option Addr) (c0 : Nat) (l0 : List (List V)) (A1 : Option Addr) (c1 : Nat) (l1 : List (List V)) (r1 : List (List V)) (r3 : Int) (w : World) (hr0 : Kd.C kRow w A0 l0.length l0) (hc0 : l0.length ≤ c0) (hr1 : Kd.C kRow w A1 l1.length l1) (hc1 : l1.length ≤ c1) (hT : LaidT w) (h : bag_Intersect.f l0 l1 = some (r1, r3)) :
    Calls Tryd.prog 21 #[.slice A0 l0.length c0, .slice A1 l1.length c1] w fun e w' => ∃ v0_ : Value, e = .returned (.tuple #[v0_, .int .i64 r3]) ∧ Kd.V kRow 58 w' w.heap.size (fun k_ => (w.heap.size ≤ k_)) v0_ r1 ∧ Below w.heap.size w w' := by
  unfold bag_Intersect.f at h
  obtain ⟨⟨x, y, z⟩, h1, h2⟩ := Option.map_eq_some_iff.1 h
  obtain ⟨rfl, rfl⟩ := Prod.mk.inj h2
  exact split_Intersect A0 c0 l0 A1 c1 l1 x y z w hr0 hc0 hr1 hc1 hT h1
end Go.Proofs.YtecgkcgfeghhgaaDoor.PAll
set_option linter.unusedVariables false
set_option linter.unusedSimpArgs false
namespace Go.Proofs.YtecgkcgfeghhgaaDoor.PAll
open Go.RowKit Go.Proofs.YtecgkcgfeghhgaaDoorW.PrintWords Go.Proofs.YtecgkcgfeghhgaaDoorW.PrintLast Go.Proofs.YtecgkcgfeghhgaaDoorW.PrintMore
noncomputable def bag_Except.f (l0 l1 : List (List V)) : Option (List (List V) × Int) := (bag_split.f l0 l1).map fun t => (t.2.1, t.2.2)
theorem bag_Except.calls (A0 : Option Addr) (c0 : Nat) (l0 : List (List V)) (A1 : Option Addr) (c1 : Nat) (l1 : List (List V)) (r1 : List (List V)) (r3 : Int) (w : World) (hr0 : Kd.C kRow w A0 l0.length l0) (hc0 : l0.length ≤ c0) (hr1 : Kd.C kRow w A1 l1.length l1) (hc1 : l1.length ≤ c1) (hT : LaidT w) (h : bag_Except.f l0 l1 = some (r1, r3)) :
    Calls Tryd.prog 22 #[.slice A0 l0.length c0, .slice A1 l1.length c1] w fun e w' => ∃ v0_ : Value, e = .returned (.tuple #[v0_, .int .i64 r3]) ∧ Kd.V kRow 58 w' w.heap.size (fun k_ => (w.heap.size ≤ k_)) v0_ r1 ∧ Below w.heap.size w w' := by
  unfold bag_Except.f at h
  obtain ⟨⟨x, y, z⟩, h1, h2⟩ := Option.map_eq_some_iff.1 h
  obtain ⟨rfl, rfl⟩ := Prod.mk.inj h2
  exact split_Except A0 c0 l0 A1 c1 l1 x y z w hr0 hc0 hr1 hc1 hT h1
end Go.Proofs.YtecgkcgfeghhgaaDoor.PAll
