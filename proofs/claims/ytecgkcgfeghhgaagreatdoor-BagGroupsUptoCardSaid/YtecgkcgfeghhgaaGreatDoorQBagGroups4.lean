/- What the last of these texts proves is told there. Joined by a program of this session out of its texts. -/
import Derived.Test.YtecgkcgfeghhgaaGreatDoorQBagGroups3
set_option maxHeartbeats 8000000
set_option maxRecDepth 100000
set_option linter.unusedVariables false
set_option linter.unusedSimpArgs false
namespace Go.Proofs.YtecgkcgfeghhgaaGreatDoor.PAll
open Go.RowKit Go.Proofs.YtecgkcgfeghhgaaGreatDoorW.PrintWords Go.Proofs.YtecgkcgfeghhgaaGreatDoorW.PrintLast Go.Proofs.YtecgkcgfeghhgaaGreatDoorW.PrintMore
section
attribute [local go_sem] max2_int min2_int max_two min_two max_three min_three max_four min_four
mutual
def r6_Valid.l0 : Nat → List (List (S36)) → List Int → Int → Option (Bool)
 | 0, _, _, _ => none
 | k + 1, x0, x3, x4 => if x4 < (x0.length : Int) then (if 0 ≤ x4 then (if ((rd_L4 x0 x4).length : Int) = (x3.length : Int) then (r6_Valid.l1 k x0 x3 x4 0) else (some false)) else (none)) else (some true)
def r6_Valid.l1 : Nat → List (List (S36)) → List Int → Int → Int → Option (Bool)
 | 0, _, _, _, _ => none
 | k + 1, x0, x3, x4, x5 => if 0 ≤ x4 then (if x4 < (x0.length : Int) then (if x5 < ((rd_L4 x0 x4).length : Int) then (if 0 ≤ x5 then ((r1_Valid.f ((rd_T36 (rd_L4 x0 x4) x5).f0) ((rd_T36 (rd_L4 x0 x4) x5).f1) ((rd_T36 (rd_L4 x0 x4) x5).f2)).bind fun t144 => (if t144 = true then (if x5 < (x3.length : Int) then ((r6_fits.f ((rd_T36 (rd_L4 x0 x4) x5).f0) ((rd_T36 (rd_L4 x0 x4) x5).f1) ((rd_T36 (rd_L4 x0 x4) x5).f2) (rd x3 x5)).bind fun t146 => (r6_Valid.j2 k x0 x3 x4 x5 (!t146) ((rd_T36 (rd_L4 x0 x4) x5).f0) ((rd_T36 (rd_L4 x0 x4) x5).f1) ((rd_T36 (rd_L4 x0 x4) x5).f2))) else (none)) else (r6_Valid.j2 k x0 x3 x4 x5 true ((rd_T36 (rd_L4 x0 x4) x5).f0) ((rd_T36 (rd_L4 x0 x4) x5).f1) ((rd_T36 (rd_L4 x0 x4) x5).f2)))) else (none)) else (r6_Valid.l0 k x0 x3 (wrap64 (x4 + 1)))) else (none)) else (none)
def r6_Valid.j2 : Nat → List (List (S36)) → List Int → Int → Int → Bool → Int → Int → ByteArray → Option (Bool)
 | 0, _, _, _, _, _, _, _, _ => none
 | k + 1, x0, x3, x4, x5, x56, x144000, x144001, x144002 => if x56 = true then (some false) else (if x144000 = 0 then (r6_Valid.l1 k x0 x3 x4 (wrap64 (x5 + 1))) else (if 0 ≤ x5 then (if x5 < (x3.length : Int) then (r6_Valid.l1 k x0 (x3.set (x5 : Int).toNat x144000) x4 (wrap64 (x5 + 1))) else (none)) else (none)))
end
def r6_Valid.f (k : Nat) (l0 : List (List (S36))) : Option (Bool) := if (l0.length : Int) = 0 then (some true) else (if 0 < (l0.length : Int) then (if 0 ≤ ((rd_L4 l0 0).length : Int) then (if (((rd_L4 l0 0).length : Int) : Int).toNat ≤ 281474976710656 then (r6_Valid.l0 k l0 (List.replicate (((rd_L4 l0 0).length : Int) : Int).toNat 0) 0) else (none)) else (none)) else (none))
def r6_Valid.T13 : Bool × List (List Nat × List Nat) := (true, [([], []), ([0], [0]), ([1], [1]), ([2, 1], [2]), ([3], [3]), ([3], [3]), ([3], [3]), ([5, 6, 3], [3, 5, 6]), ([7, 3], [3, 7]), ([4, 8, 3, 3], [3, 4, 8]), ([9, 3], [3, 9]), ([3, 10], [3, 10])])
def r6_Valid.B13 : List Nat := [0, 1, 3, 7, 15, 15, 15, 111, 239, 511, 1023, 2047]
theorem r6_Valid.tab13 : rtab .any (opsOf Tryz.f11 13) = r6_Valid.T13 := by kernel_rfl
theorem r6_Valid.bits13 : waitsOk r6_Valid.T13.2 r6_Valid.B13 = true := by kernel_rfl
theorem r6_Valid.calls (k : Nat) (A0 : Option Addr) (c0 : Nat) (l0 : List (List (S36))) (r : Bool) (w : World) (hr0 : Kd.C (Kd.slice 36 k36) w A0 l0.length l0) (hc0 : l0.length ≤ c0) (h : r6_Valid.f k l0 = some r) :
 Calls Tryz.prog 11 #[.slice A0 l0.length c0] w fun e w' => e = .returned (.bool r) ∧ Below w.heap.size w w' := by
 have hu36 := Tryz.underlying36
 have HR0 := kA_ hr0
 have HC0 := kA_ hc0
 clear hr0 hc0
 have HB := kA_ (Below.refl w.heap.size w)
 have H : (if (l0.length : Int) = 0 then (some true) else (if 0 < (l0.length : Int) then (if 0 ≤ ((rd_L4 l0 0).length : Int) then (if (((rd_L4 l0 0).length : Int) : Int).toNat ≤ 281474976710656 then (r6_Valid.l0 k l0 (List.replicate (((rd_L4 l0 0).length : Int) : Int).toNat 0) 0) else (none)) else (none)) else (none))) = some r := h
 clear h
 by_cases c2 : (l0.length : Int) = 0
 · rw [if_pos c2] at H
   have c2b0 : ((l0.length : Int) == 0) = true := beq_iff_eq.mpr c2
   have c2b1 : ((l0.length : Int) != 0) = false := bne_eq_false_iff_eq.mpr c2
   clear c2
   obtain rfl := Option.some.inj H
   go_enter Tryz.func11, Tryz.ntmps11
   go_wp2
   go_ret
   exact ⟨a5_, a2_⟩
 rw [if_neg c2] at H
 have c2b0 : ((l0.length : Int) == 0) = false := beq_eq_false_iff_ne.mpr c2
 have c2b1 : ((l0.length : Int) != 0) = true := bne_iff_ne.mpr c2
 have c2b2 : ¬ (l0 = []) := fun h_ => c2 (by rw [h_]; rfl)
 by_cases c3 : 0 < (l0.length : Int)
 rotate_left
 · rw [if_neg c3] at H
   exact absurd H (by simp)
 rw [if_pos c3] at H
 have c3b0 : decide (0 < (l0.length : Int)) = true := dT_ c3
 have c3b1 : decide (0 < l0.length) = true := dT_ (by omega)
 clear c3
 by_cases c4 : 0 ≤ ((rd_L4 l0 0).length : Int)
 rotate_left
 · rw [if_neg c4] at H
   exact absurd H (by simp)
 rw [if_pos c4] at H
 have c4b0 := eq_true c4
 have c4b1 : decide (0 ≤ ((rd_L4 l0 0).length : Int)) = true := dT_ c4
 clear c4
 by_cases c5 : (((rd_L4 l0 0).length : Int) : Int).toNat ≤ 281474976710656
 rotate_left
 · rw [if_neg c5] at H
   exact absurd H (by simp)
 rw [if_pos c5] at H
 have c5b0 := eq_true c5
 have c5b1 : decide ((((rd_L4 l0 0).length : Int) : Int).toNat ≤ 281474976710656) = true := dT_ c5
 clear c5
 obtain ⟨y136, hy136⟩ : ∃ y_ : List Int, y_ = (List.replicate (((rd_L4 l0 0).length : Int) : Int).toNat 0) := ⟨_, rfl⟩
 replace H : (r6_Valid.l0 k l0 y136 0) = some r := by first | (rw [hy136]; with_reducible exact H) | (have H2_ := (Option.bind_some _ _).symm.trans H; rw [hy136]; with_reducible exact H2_) | (have H2_ := (Option.bind_some _ _).symm.trans H; with_reducible exact H2_) | with_reducible exact H | (rw [hy136]; exact H) | exact H
 have Ny136 := kA_ hy136
 clear hy136
 have H' := kA_ H
 clear H
 have p135 : 0 ≤ (0 : Int) := (by omega)
 have q135 : 0 < (l0.length : Int) := oT_ (by assumption)
 obtain ⟨ad135, A135_0, c135_0, e135, hx135_0, hl135_0, hi135_0⟩ := at_L4 HR0.out 0 p135 q135
 cases e135
 have qi135 : (0 < l0.length) = True := eq_true (by omega)
 (try rw [show ((0 : Int)).toNat = 0 from rfl] at hx135_0)
 (try rw [Addr.add_zero'] at hx135_0)
 have HR135_0 := kA_ hi135_0
 have HC135_0 := kA_ hl135_0
 clear hi135_0 hl135_0
 replace p135 := eq_true p135
 replace q135 := eq_true q135
 go_enter Tryz.func11, Tryz.ntmps11
 go_wp2_with (first | ((with_reducible refine gate_dst (N := 14) rfl ?_); refine Kd.R_make (Kd.int .u8) _ 34 rfl (N := 14) rfl 59 _ _ rfl ((rd_L4 l0 0).length : Int) rfl rfl Tryz.underlying59 (.int .u8 0) 1 info34 rfl (by decide) (by omega) 0 (ok := fun _ => True) (okp := fun _ => True) rfl (fun _ hk => hk) trivial (oT_ (by assumption)) (Nat.le_trans (Nat.mul_le_mul_right _ (oT_ (by assumption) : ((rd_L4 l0 0).length : Int).toNat ≤ 281474976710656)) (by omega)) (Below.refl _ _) (Nat.le_refl _) ?_; intro v137 w6 ho7 hb hg_ hnew_; clear hg_ hnew_; (first | rw [← Ny136.out] at ho7 | (simp only [Int.reduceToNat] at ho7; rw [← Ny136.out] at ho7)); have n0_ := kA_ (Kd.R_lower ho7 (below_size a0_)); have n1_ := kA_ (below_step a0_ hb); clear HB; have HO138 := n0_; have HB := n1_; clear n0_ n1_; clear hb ho7))
 go_loopg [4] k (fun kq v4 w' => ∃ (x3_1 : List Int) (x4_1 : Int), v4 = .int .i64 x4_1 ∧ Aside0 (r6_Valid.l0 kq l0 x3_1 x4_1 = some r) ∧ Aside0 (kq ≤ k) ∧ Aside0 (Kd.R (Kd.int .u8) 34 w' w.heap.size (fun _ => True) v137 x3_1) ∧ Aside0 (Below w.heap.size w w'))
 case atStart => exact ⟨(y136), (0), a4_, H', ⟨Nat.le_refl _⟩, ⟨by (with_reducible repeat (first | apply Kd.R_alloc | apply Kd.R_drewN | apply Kd.R_drew)); exact HO138.out⟩, ⟨a2_⟩⟩
 case round =>
  clear H'
  try clear c1
  try clear p1
  try clear q1
  try clear hx1
  try clear qi1
  try clear c2
  try clear c2b0
  try clear c2b1
  try clear c2b2
  try clear p2
  try clear c3
  try clear c3b0
  try clear c3b1
  try clear c4
  try clear c4b0
  try clear c4b1
  try clear c5
  try clear c5b0
  try clear c5b1
  try clear hx135_0
  try clear p135
  try clear q135
  obtain ⟨x3_1, x4_1, rfl, HA, HK1, HO_3, HB⟩ := hrel
  cases gk with
  | zero => exact absurd HA.out (by simp [r6_Valid.l0])
  | succ k1 =>
   have H := HA.out
   clear HA
   simp only [r6_Valid.l0] at H
   by_cases c8 : x4_1 < (l0.length : Int)
   rotate_left
   · rw [if_neg c8] at H
     have c8b0 : decide (x4_1 < (l0.length : Int)) = false := dF_ c8
     clear c8
     obtain rfl := Option.some.inj H
     go_wp2
     go_ret
     exact ⟨a5_, a2_⟩
   rw [if_pos c8] at H
   have c8b0 : decide (x4_1 < (l0.length : Int)) = true := dT_ c8
   clear c8
   by_cases c9 : 0 ≤ x4_1
   rotate_left
   · rw [if_neg c9] at H
     exact absurd H (by simp)
   rw [if_pos c9] at H
   have c9b0 : decide (0 ≤ x4_1) = true := dT_ c9
   clear c9
   by_cases c10 : ((rd_L4 l0 x4_1).length : Int) = (x3_1.length : Int)
   rotate_left
   · rw [if_neg c10] at H
     have c10b0 : (((rd_L4 l0 x4_1).length : Int) == (x3_1.length : Int)) = false := beq_eq_false_iff_ne.mpr c10
     have c10b1 : (((rd_L4 l0 x4_1).length : Int) != (x3_1.length : Int)) = true := bne_iff_ne.mpr c10
     have c10b2 : ((rd_L4 l0 x4_1).length == x3_1.length) = false := by first | simpa using c10 | (simp at c10 ⊢; omega)
     obtain rfl := Option.some.inj H
     have p139 : 0 ≤ (x4_1 : Int) := oT_ (by assumption)
     have q139 : x4_1 < (l0.length : Int) := oT_ (by assumption)
     obtain ⟨ad139, A139_0, c139_0, e139, hx139_0, hl139_0, hi139_0⟩ := at_L4 HR0.out x4_1 p139 q139
     obtain rfl : ad135 = ad139 := (by injection e139)
     replace hx139_0 := cB_ HB.out hx139_0
     have HR139_0 := kA_ hi139_0
     have HC139_0 := kA_ hl139_0
     clear hi139_0 hl139_0
     replace p139 := eq_true p139
     replace q139 := eq_true q139
     obtain ⟨Ao39, co39, eo39⟩ := Kd.R_slice HO_3.out
     subst eo39
     go_wp2
     go_ret
     exact ⟨a5_, a2_⟩
   rw [if_pos c10] at H
   have c10b0 : (((rd_L4 l0 x4_1).length : Int) == (x3_1.length : Int)) = true := beq_iff_eq.mpr c10
   have c10b1 : (((rd_L4 l0 x4_1).length : Int) != (x3_1.length : Int)) = false := bne_eq_false_iff_eq.mpr c10
   have c10b2 : ((rd_L4 l0 x4_1).length == x3_1.length) = true := by first | simpa using c10 | (simp at c10 ⊢; omega)
   clear c10
   have H' := kA_ H
   clear H
   have p139 : 0 ≤ (x4_1 : Int) := oT_ (by assumption)
   have q139 : x4_1 < (l0.length : Int) := oT_ (by assumption)
   obtain ⟨ad139, A139_0, c139_0, e139, hx139_0, hl139_0, hi139_0⟩ := at_L4 HR0.out x4_1 p139 q139
   obtain rfl : ad135 = ad139 := (by injection e139)
   replace hx139_0 := cB_ HB.out hx139_0
   have HR139_0 := kA_ hi139_0
   have HC139_0 := kA_ hl139_0
   clear hi139_0 hl139_0
   replace p139 := eq_true p139
   replace q139 := eq_true q139
   obtain ⟨Ao11, co11, eo11⟩ := Kd.R_slice HO_3.out
   subst eo11
   go_wp2
   go_loopg [5] k1 (fun kq v5 w' => ∃ (x3_2 : List Int) (x5_2 : Int), v5 = .int .i64 x5_2 ∧ Aside0 (r6_Valid.l1 kq l0 x3_2 x4_1 x5_2 = some r) ∧ Aside0 (kq ≤ k1) ∧ Aside0 (Kd.R (Kd.int .u8) 34 w' w.heap.size (fun _ => True) (.slice Ao11 x3_1.length co11) x3_2) ∧ Aside0 (Below w.heap.size w w'))
   case atStart => exact ⟨(x3_1), (0), a4_, H', ⟨Nat.le_refl _⟩, ⟨by (with_reducible repeat (first | apply Kd.R_alloc | apply Kd.R_drewN | apply Kd.R_drew)); exact HO_3.out⟩, ⟨a2_⟩⟩
   case round =>
    clear H'
    try clear c1
    try clear p1
    try clear q1
    try clear hx1
    try clear qi1
    try clear c2
    try clear c2b0
    try clear c2b1
    try clear c2b2
    try clear p2
    try clear c3
    try clear c3b0
    try clear c3b1
    try clear c4
    try clear c4b0
    try clear c4b1
    try clear c5
    try clear c5b0
    try clear c5b1
    try clear c8
    try clear c8b0
    try clear c9
    try clear c9b0
    try clear c10
    try clear c10b0
    try clear c10b1
    try clear c10b2
    try clear c11
    try clear hx135_0
    try clear hx139_0
    try clear p1
    try clear p135
    try clear p139
    try clear p2
    try clear q1
    try clear q135
    try clear q139
    obtain ⟨x3_2, x5_2, rfl, HA, HK2, HO_3, HB⟩ := hrel
    have hl3_2 := (Kd.R_reads' HO_3.out).1
    rw [hl3_2] at HO_3
    (try simp only [hl3_2])
    cases gk with
    | zero => exact absurd HA.out (by simp [r6_Valid.l1])
    | succ k2 =>
     have H := HA.out
     clear HA
     simp only [r6_Valid.l1] at H
     by_cases c12 : 0 ≤ x4_1
     rotate_left
     · rw [if_neg c12] at H
       exact absurd H (by simp)
     rw [if_pos c12] at H
     have c12b0 : decide (0 ≤ x4_1) = true := dT_ c12
     clear c12
     by_cases c13 : x4_1 < (l0.length : Int)
     rotate_left
     · rw [if_neg c13] at H
       exact absurd H (by simp)
     rw [if_pos c13] at H
     have c13b0 : decide (x4_1 < (l0.length : Int)) = true := dT_ c13
     clear c13
     by_cases c14 : x5_2 < ((rd_L4 l0 x4_1).length : Int)
     rotate_left
     · rw [if_neg c14] at H
       have c14b0 : decide (x5_2 < ((rd_L4 l0 x4_1).length : Int)) = false := dF_ c14
       clear c14
       have H' := kA_ H
       clear H
       have p140 : 0 ≤ (x4_1 : Int) := oT_ (by assumption)
       have q140 : x4_1 < (l0.length : Int) := oT_ (by assumption)
       obtain ⟨ad140, A140_0, c140_0, e140, hx140_0, hl140_0, hi140_0⟩ := at_L4 HR0.out x4_1 p140 q140
       obtain rfl : ad135 = ad140 := (by injection e140)
       replace hx140_0 := cB_ HB.out hx140_0
       have HR140_0 := kA_ hi140_0
       have HC140_0 := kA_ hl140_0
       clear hi140_0 hl140_0
       replace p140 := eq_true p140
       replace q140 := eq_true q140
       go_wp2
       (try simp only [← hl3_2])
       go_roundg k2
       case measure => have := HK1.out; have := HK2.out; omega
       case rel => exact ⟨(x3_2), (wrap64 (x4_1 + 1)), a4_, H', ⟨by have := HK1.out; have := HK2.out; omega⟩, ⟨a18_⟩, ⟨a2_⟩⟩
     rw [if_pos c14] at H
     have c14b0 : decide (x5_2 < ((rd_L4 l0 x4_1).length : Int)) = true := dT_ c14
     clear c14
     by_cases c15 : 0 ≤ x5_2
     rotate_left
     · rw [if_neg c15] at H
       exact absurd H (by simp)
     rw [if_pos c15] at H
     have c15b0 : decide (0 ≤ x5_2) = true := dT_ c15
     clear c15
     have HC16 := kA_ H
     clear H
     have p140 : 0 ≤ (x4_1 : Int) := oT_ (by assumption)
     have q140 : x4_1 < (l0.length : Int) := oT_ (by assumption)
     obtain ⟨ad140, A140_0, c140_0, e140, hx140_0, hl140_0, hi140_0⟩ := at_L4 HR0.out x4_1 p140 q140
     obtain rfl : ad135 = ad140 := (by injection e140)
     replace hx140_0 := cB_ HB.out hx140_0
     have HR140_0 := kA_ hi140_0
     have HC140_0 := kA_ hl140_0
     clear hi140_0 hl140_0
     replace p140 := eq_true p140
     replace q140 := eq_true q140
     have p141 : 0 ≤ (x4_1 : Int) := oT_ (by assumption)
     have q141 : x4_1 < (l0.length : Int) := oT_ (by assumption)
     obtain ⟨ad141, A141_0, c141_0, e141, hx141_0, hl141_0, hi141_0⟩ := at_L4 HR0.out x4_1 p141 q141
     obtain rfl : ad135 = ad141 := (by injection e141)
     replace hx141_0 := cB_ HB.out hx141_0
     have HR141_0 := kA_ hi141_0
     have HC141_0 := kA_ hl141_0
     clear hi141_0 hl141_0
     replace p141 := eq_true p141
     replace q141 := eq_true q141
     have ea_ := Option.some.inj (hx140_0.symm.trans hx141_0)
     injection ea_ with ea_ en_ ec_
     subst ea_
     subst ec_
     clear en_
     have p142 : 0 ≤ (x5_2 : Int) := oT_ (by assumption)
     have q142 : x5_2 < ((rd_L4 l0 x4_1).length : Int) := oT_ (by assumption)
     obtain ⟨ad142, e142, hx142_0, hx142_1, hx142_2⟩ := at_T36 HR141_0.out x5_2 p142 q142
     cases e142
     replace hx142_0 := cB_ HB.out hx142_0
     replace hx142_1 := cB_ HB.out hx142_1
     replace hx142_2 := cB_ HB.out hx142_2
     replace p142 := eq_true p142
     replace q142 := eq_true q142
     go_upto_region 13 with (first | ((with_reducible refine gate_dst (N := 6) rfl ?_); refine box_event ?hg (N := 6) ?hd (cs := #[.int .u8 0, .int .i64 0, .string (⟨#[]⟩ : ByteArray)]) (t := 36) ?hr ?_; (case hd => rfl); (case hg => rfl); (case hr => first | (go_simp; done) | (go_simp; rfl)); intro gb143 hg w17 hbox hb; have n0_ := kA_ (Kd.R_below a24_ hb); have n1_ := kA_ (below_step a0_ hb); have n2_ := kA_ (hbox); have n3_ := kA_ ((a7_ : w.heap.size ≤ gb143)); have n4_ := kA_ ((a7_ : w.heap.size ≤ gb143)); clear HO_3; clear HB; have HO_3 := n0_; have HB := n1_; have BK143 := n2_; have GW143 := n3_; have GE143 := n4_; clear n0_ n1_ n2_ n3_ n4_; clear hb hbox hg; have hcz18_0 : w17.cell? ⟨gb143, 0, none⟩ = some (.int .u8 0) := (blk_cell BK143.out 0).trans rfl; have hcz18_1 : w17.cell? ⟨gb143, 1, none⟩ = some (.int .i64 0) := (blk_cell BK143.out 1).trans rfl; have hcz18_2 : w17.cell? ⟨gb143, 2, none⟩ = some (.string (⟨#[]⟩ : ByteArray)) := (blk_cell BK143.out 2).trans rfl; have hfz18_0 := blk_frozen BK143.out 0; have hfz18_1 := blk_frozen BK143.out 1; have hfz18_2 := blk_frozen BK143.out 2))
     (try simp only [Act.put, tA, tZ, tS])
     go_cut [56] (fun v56 wc => ∃ (kq : Nat) (x56_15 : Bool), v56 = .bool x56_15 ∧ Aside0 (r6_Valid.j2 kq l0 x3_2 x4_1 x5_2 x56_15 ((rd_T36 (rd_L4 l0 x4_1) x5_2).f0) ((rd_T36 (rd_L4 l0 x4_1) x5_2).f1) ((rd_T36 (rd_L4 l0 x4_1) x5_2).f2) = some r) ∧ Aside0 (kq ≤ k2) ∧ Aside0 (Kd.R (Kd.int .u8) 34 wc w.heap.size (fun _ => True) (.slice Ao11 x3_2.length co11) x3_2) ∧ Aside0 (wc.heap[gb143]? = some (.cells #[.int .u8 ((rd_T36 (rd_L4 l0 x4_1) x5_2).f0), .int .i64 ((rd_T36 (rd_L4 l0 x4_1) x5_2).f1), .string ((rd_T36 (rd_L4 l0 x4_1) x5_2).f2)] 36 (0, 0))) ∧ Aside0 (Below w.heap.size w wc))
     case first =>
      have H := HC16.out
      clear HC16
      replace H := Option.bind_eq_some_iff.mp H
      obtain ⟨t144, A190, H⟩ := H
      replace H : (if t144 = true then (if x5_2 < (x3_2.length : Int) then ((r6_fits.f ((rd_T36 (rd_L4 l0 x4_1) x5_2).f0) ((rd_T36 (rd_L4 l0 x4_1) x5_2).f1) ((rd_T36 (rd_L4 l0 x4_1) x5_2).f2) (rd x3_2 x5_2)).bind fun t146 => (r6_Valid.j2 k2 l0 x3_2 x4_1 x5_2 (!t146) ((rd_T36 (rd_L4 l0 x4_1) x5_2).f0) ((rd_T36 (rd_L4 l0 x4_1) x5_2).f1) ((rd_T36 (rd_L4 l0 x4_1) x5_2).f2))) else (none)) else (r6_Valid.j2 k2 l0 x3_2 x4_1 x5_2 true ((rd_T36 (rd_L4 l0 x4_1) x5_2).f0) ((rd_T36 (rd_L4 l0 x4_1) x5_2).f1) ((rd_T36 (rd_L4 l0 x4_1) x5_2).f2))) = some r := H
      have A19 := kA_ A190
      clear A190
      by_cases c20 : t144 = true
      rotate_left
      · replace c20 := Bool.eq_false_iff.mpr c20
        subst c20
        have H1 : (r6_Valid.j2 k2 l0 x3_2 x4_1 x5_2 true ((rd_T36 (rd_L4 l0 x4_1) x5_2).f0) ((rd_T36 (rd_L4 l0 x4_1) x5_2).f1) ((rd_T36 (rd_L4 l0 x4_1) x5_2).f2)) = some r := by rw [if_neg (show ¬ (false = true) by decide)] at H; exact H
        clear H
        have H := H1
        clear H1
        have H' := kA_ H
        clear H
        try go_wp2
        have n0_ : Aside0 (Kd.R (Kd.int .u8) 34 (((w17.setCell ⟨gb143, 0, none⟩ (.int .u8 ((rd_T36 (rd_L4 l0 x4_1) x5_2).f0))).setCell ⟨gb143, 1, none⟩ (.int .i64 ((rd_T36 (rd_L4 l0 x4_1) x5_2).f1))).setCell ⟨gb143, 2, none⟩ (.string ((rd_T36 (rd_L4 l0 x4_1) x5_2).f2))) w.heap.size (fun _ => True) (.slice Ao11 x3_2.length co11) x3_2) := ⟨a49_⟩
        have n1_ : Aside0 ((((w17.setCell ⟨gb143, 0, none⟩ (.int .u8 ((rd_T36 (rd_L4 l0 x4_1) x5_2).f0))).setCell ⟨gb143, 1, none⟩ (.int .i64 ((rd_T36 (rd_L4 l0 x4_1) x5_2).f1))).setCell ⟨gb143, 2, none⟩ (.string ((rd_T36 (rd_L4 l0 x4_1) x5_2).f2))).heap[gb143]? = some (.cells #[.int .u8 ((rd_T36 (rd_L4 l0 x4_1) x5_2).f0), .int .i64 ((rd_T36 (rd_L4 l0 x4_1) x5_2).f1), .string ((rd_T36 (rd_L4 l0 x4_1) x5_2).f2)] 36 (0, 0))) := ⟨a27_⟩
        have n2_ : Aside0 (Below w.heap.size w (((w17.setCell ⟨gb143, 0, none⟩ (.int .u8 ((rd_T36 (rd_L4 l0 x4_1) x5_2).f0))).setCell ⟨gb143, 1, none⟩ (.int .i64 ((rd_T36 (rd_L4 l0 x4_1) x5_2).f1))).setCell ⟨gb143, 2, none⟩ (.string ((rd_T36 (rd_L4 l0 x4_1) x5_2).f2)))) := ⟨a34_⟩
        (try clear HO_3)
        (try clear BK143)
        (try clear HB)
        generalize (((w17.setCell ⟨gb143, 0, none⟩ (.int .u8 ((rd_T36 (rd_L4 l0 x4_1) x5_2).f0))).setCell ⟨gb143, 1, none⟩ (.int .i64 ((rd_T36 (rd_L4 l0 x4_1) x5_2).f1))).setCell ⟨gb143, 2, none⟩ (.string ((rd_T36 (rd_L4 l0 x4_1) x5_2).f2))) = w27 at n0_ n1_ n2_ ⊢
        have HO_3 := n0_
        have BK143 := n1_
        have HB := n2_
        clear n0_ n1_ n2_
        have n0_ := kA_ (Kd.R_drew HO_3.out)
        have n1_ := kA_ (blk_drew BK143.out)
        have n2_ := kA_ (b1_ HB.out)
        clear HO_3
        clear BK143
        clear HB
        have HO_3 := n0_
        have BK143 := n1_
        have HB := n2_
        clear n0_ n1_ n2_
        refine start_ (n := 12) (S := fun w' => w'.cell? ⟨gb143, 0, none⟩ = some (.int .u8 ((rd_T36 (rd_L4 l0 x4_1) x5_2).f0)) ∧ w'.cell? ⟨gb143, 1, none⟩ = some (.int .i64 ((rd_T36 (rd_L4 l0 x4_1) x5_2).f1)) ∧ w'.cell? ⟨gb143, 2, none⟩ = some (.string ((rd_T36 (rd_L4 l0 x4_1) x5_2).f2))) (ds := []) #[X,X,X,X,X,X,X,X,X,X,X,X] a3_ rfl rfl ⟨(blk_cell BK143.out 0).trans rfl, (blk_cell BK143.out 1).trans rfl, (blk_cell BK143.out 2).trans rfl⟩ (fun hHeld => ?_); refine with_tabW r6_Valid.tab13 r6_Valid.bits13 (fun HT_ HW_ => ?_)
        generalize w27.drew = w28 at HO_3 BK143 HB hHeld ⊢
        refine take_ (i := 0) (N := some 45) (v := ?_) (a' := ?_) #[Y,X,X,X,X,X,X,X,X,X,X,X] rfl rfl (take_ofW HT_.out HW_.out a3_) (fun _ _ _ h => h) (Or.inl ⟨by rfl, ?_⟩) hHeld ?_ ?_
        rotate_left
        · rintro w' ⟨s0, s1, s2⟩
          go_simp
          with_reducible rfl
        rotate_left
        · simp only [Act.put, tA, tZ, tS, iL, iW]
          rfl
        refine one_ (i := 1) (N := some 46) #[Y,Y,X,X,X,X,X,X,X,X,X,X] rfl rfl (one_of HT_.out a3_) (by decide) (fun K hK => ?_)
        refine goes_ Tryz.func40 a3_ rfl #[.agg #[.int .u8 ((rd_T36 (rd_L4 l0 x4_1) x5_2).f0), .int .i64 ((rd_T36 (rd_L4 l0 x4_1) x5_2).f1), .string ((rd_T36 (rd_L4 l0 x4_1) x5_2).f2)]] (by rfl) rfl rfl a1_ ?_
        with_reducible refine (r1_Valid.calls ((rd_T36 (rd_L4 l0 x4_1) x5_2).f0) ((rd_T36 (rd_L4 l0 x4_1) x5_2).f1) ((rd_T36 (rd_L4 l0 x4_1) x5_2).f2) false _ A19.out).mono ?_
        rintro e w29 ⟨rfl, hb⟩
        refine ⟨_, rfl, ?_⟩
        have n0_ := kA_ (Kd.R_below a24_ hb)
        have n1_ := kA_ (blk_below (g := gb143) (o := .cells #[.int .u8 ((rd_T36 (rd_L4 l0 x4_1) x5_2).f0), .int .i64 ((rd_T36 (rd_L4 l0 x4_1) x5_2).f1), .string ((rd_T36 (rd_L4 l0 x4_1) x5_2).f2)] 36 (0, 0)) a60_ hb)
        have n2_ := kA_ (below_step a74_ hb)
        clear HO_3
        clear BK143
        clear HB
        have HO_3 := n0_
        have BK143 := n1_
        have HB := n2_
        clear n0_ n1_ n2_
        (try clear hb)
        (try clear hb2)
        (try clear hk)
        (try clear hi)
        refine hK.out _ _ ⟨(blk_cell BK143.out 0).trans rfl, (blk_cell BK143.out 1).trans rfl, (blk_cell BK143.out 2).trans rfl⟩ (fun hHeld => ?_)
        clear hK K
        refine norm_ (a' := ?_) ?_ ?_
        rotate_left
        · show Act.put _ (some 46) _ = _
          simp only [Act.put, tA, tZ, tS, iL, iW]
          rfl
        refine pure_ (i := 2) (N := some 47) (v := ?_) (a' := ?_) #[Y,Y,Y,X,X,X,X,X,X,X,X,X] rfl rfl (any_of HT_.out a3_) (fun _ _ _ h => h) (Or.inl ⟨by rfl, ?_⟩) ?_ ?_
        rotate_left
        · intro w'
          go_simp
          with_reducible rfl
        rotate_left
        · simp only [Act.put, tA, tZ, tS, iL, iW]
          rfl
        refine pure_ (i := 3) (N := some 48) (v := ?_) (a' := ?_) #[Y,Y,Y,Y,X,X,X,X,X,X,X,X] rfl rfl (any_of HT_.out a3_) (fun _ _ _ h => h) (Or.inl ⟨by rfl, ?_⟩) ?_ ?_
        rotate_left
        · intro w'
          go_simp
          with_reducible rfl
        rotate_left
        · simp only [Act.put, tA, tZ, tS, iL, iW]
          rfl
        refine pure_ (i := 4) (N := some 49) (v := undef) (a' := ?_) #[Y,Y,Y,Y,Y,X,X,X,X,X,X,X] rfl rfl (any_of HT_.out a3_) (fun _ _ _ h => h) (Or.inr ⟨by rfl, rfl⟩) ?_ ?_
        rotate_left
        · simp only [Act.put, tA, tZ, tS, iL, iW]
          rfl
        refine pure_ (i := 5) (N := some 50) (v := undef) (a' := ?_) #[Y,Y,Y,Y,Y,Y,X,X,X,X,X,X] rfl rfl (any_of HT_.out a3_) (fun _ _ _ h => h) (Or.inr ⟨by rfl, rfl⟩) ?_ ?_
        rotate_left
        · simp only [Act.put, tA, tZ, tS, iL, iW]
          rfl
        refine pure_ (i := 6) (N := some 51) (v := undef) (a' := ?_) #[Y,Y,Y,Y,Y,Y,Y,X,X,X,X,X] rfl rfl (any_of HT_.out a3_) (fun _ _ _ h => h) (Or.inr ⟨by rfl, rfl⟩) ?_ ?_
        rotate_left
        · simp only [Act.put, tA, tZ, tS, iL, iW]
          rfl
        refine pure_ (i := 7) (N := some 52) (v := undef) (a' := ?_) #[Y,Y,Y,Y,Y,Y,Y,Y,X,X,X,X] rfl rfl (any_of HT_.out a3_) (fun _ _ _ h => h) (Or.inr ⟨by rfl, rfl⟩) ?_ ?_
        rotate_left
        · simp only [Act.put, tA, tZ, tS, iL, iW]
          rfl
        refine pure_ (i := 8) (N := some 53) (v := undef) (a' := ?_) #[Y,Y,Y,Y,Y,Y,Y,Y,Y,X,X,X] rfl rfl (any_of HT_.out a3_) (fun _ _ _ h => h) (Or.inr ⟨by rfl, rfl⟩) ?_ ?_
        rotate_left
        · simp only [Act.put, tA, tZ, tS, iL, iW]
          rfl
        refine pure_ (i := 9) (N := some 54) (v := undef) (a' := ?_) #[Y,Y,Y,Y,Y,Y,Y,Y,Y,Y,X,X] rfl rfl (any_of HT_.out a3_) (fun _ _ _ h => h) (Or.inr ⟨by rfl, rfl⟩) ?_ ?_
        rotate_left
        · simp only [Act.put, tA, tZ, tS, iL, iW]
          rfl
        refine pure_ (i := 10) (N := some 55) (v := undef) (a' := ?_) #[Y,Y,Y,Y,Y,Y,Y,Y,Y,Y,Y,X] rfl rfl (any_of HT_.out a3_) (fun _ _ _ h => h) (Or.inr ⟨by rfl, rfl⟩) ?_ ?_
        rotate_left
        · simp only [Act.put, tA, tZ, tS, iL, iW]
          rfl
        refine pure_ (i := 11) (N := some 56) (v := ?_) (a' := ?_) #[Y,Y,Y,Y,Y,Y,Y,Y,Y,Y,Y,Y] rfl rfl (any_of HT_.out a3_) (fun _ _ _ h => h) (Or.inl ⟨by rfl, ?_⟩) ?_ ?_
        rotate_left
        · intro w'
          go_simp
          with_reducible rfl
        rotate_left
        · simp only [Act.put, tA, tZ, tS, iL, iW]
          rfl
        refine done_ (done_of HT_.out a3_) ?_
        try go_wp2
        go_meet
        case rel => exact ⟨_, (true), a4_, H', ⟨a66_⟩, ⟨a18_⟩, ⟨a87_⟩, ⟨a34_⟩⟩
      subst c20
      have H1 : (if x5_2 < (x3_2.length : Int) then ((r6_fits.f ((rd_T36 (rd_L4 l0 x4_1) x5_2).f0) ((rd_T36 (rd_L4 l0 x4_1) x5_2).f1) ((rd_T36 (rd_L4 l0 x4_1) x5_2).f2) (rd x3_2 x5_2)).bind fun t146 => (r6_Valid.j2 k2 l0 x3_2 x4_1 x5_2 (!t146) ((rd_T36 (rd_L4 l0 x4_1) x5_2).f0) ((rd_T36 (rd_L4 l0 x4_1) x5_2).f1) ((rd_T36 (rd_L4 l0 x4_1) x5_2).f2))) else (none)) = some r := by rw [if_pos rfl] at H; exact H
      clear H
      have H := H1
      clear H1
      by_cases c21 : x5_2 < (x3_2.length : Int)
      rotate_left
      · rw [if_neg c21] at H
        exact absurd H (by simp)
      rw [if_pos c21] at H
      have c21b0 : decide (x5_2 < (x3_2.length : Int)) = true := dT_ c21
      clear c21
      (first | rw [c21b0] | (simp only [iL, iW]; rw [c21b0]) | skip)
      replace H := Option.bind_eq_some_iff.mp H
      obtain ⟨t146, A220, H⟩ := H
      replace H : (r6_Valid.j2 k2 l0 x3_2 x4_1 x5_2 (!t146) ((rd_T36 (rd_L4 l0 x4_1) x5_2).f0) ((rd_T36 (rd_L4 l0 x4_1) x5_2).f1) ((rd_T36 (rd_L4 l0 x4_1) x5_2).f2)) = some r := H
      have A22 := kA_ A220
      clear A220
      have H' := kA_ H
      clear H
      try go_wp2
      have n0_ : Aside0 (Kd.R (Kd.int .u8) 34 (((w17.setCell ⟨gb143, 0, none⟩ (.int .u8 ((rd_T36 (rd_L4 l0 x4_1) x5_2).f0))).setCell ⟨gb143, 1, none⟩ (.int .i64 ((rd_T36 (rd_L4 l0 x4_1) x5_2).f1))).setCell ⟨gb143, 2, none⟩ (.string ((rd_T36 (rd_L4 l0 x4_1) x5_2).f2))) w.heap.size (fun _ => True) (.slice Ao11 x3_2.length co11) x3_2) := ⟨a49_⟩
      have n1_ : Aside0 ((((w17.setCell ⟨gb143, 0, none⟩ (.int .u8 ((rd_T36 (rd_L4 l0 x4_1) x5_2).f0))).setCell ⟨gb143, 1, none⟩ (.int .i64 ((rd_T36 (rd_L4 l0 x4_1) x5_2).f1))).setCell ⟨gb143, 2, none⟩ (.string ((rd_T36 (rd_L4 l0 x4_1) x5_2).f2))).heap[gb143]? = some (.cells #[.int .u8 ((rd_T36 (rd_L4 l0 x4_1) x5_2).f0), .int .i64 ((rd_T36 (rd_L4 l0 x4_1) x5_2).f1), .string ((rd_T36 (rd_L4 l0 x4_1) x5_2).f2)] 36 (0, 0))) := ⟨a27_⟩
      have n2_ : Aside0 (Below w.heap.size w (((w17.setCell ⟨gb143, 0, none⟩ (.int .u8 ((rd_T36 (rd_L4 l0 x4_1) x5_2).f0))).setCell ⟨gb143, 1, none⟩ (.int .i64 ((rd_T36 (rd_L4 l0 x4_1) x5_2).f1))).setCell ⟨gb143, 2, none⟩ (.string ((rd_T36 (rd_L4 l0 x4_1) x5_2).f2)))) := ⟨a34_⟩
      (try clear HO_3)
      (try clear BK143)
      (try clear HB)
      generalize (((w17.setCell ⟨gb143, 0, none⟩ (.int .u8 ((rd_T36 (rd_L4 l0 x4_1) x5_2).f0))).setCell ⟨gb143, 1, none⟩ (.int .i64 ((rd_T36 (rd_L4 l0 x4_1) x5_2).f1))).setCell ⟨gb143, 2, none⟩ (.string ((rd_T36 (rd_L4 l0 x4_1) x5_2).f2))) = w23 at n0_ n1_ n2_ ⊢
      have HO_3 := n0_
      have BK143 := n1_
      have HB := n2_
      clear n0_ n1_ n2_
      have n0_ := kA_ (Kd.R_drew HO_3.out)
      have n1_ := kA_ (blk_drew BK143.out)
      have n2_ := kA_ (b1_ HB.out)
      clear HO_3
      clear BK143
      clear HB
      have HO_3 := n0_
      have BK143 := n1_
      have HB := n2_
      clear n0_ n1_ n2_
      have p145 : 0 ≤ (x5_2 : Int) := oT_ (by assumption)
      have q145 : x5_2 < (x3_2.length : Int) := oT_ (by assumption)
      obtain ⟨ad145, e145, hx145_0⟩ := Kd.at_int (Kd.R_reads' HO_3.out).2.2 x5_2 p145 q145
      cases e145
      replace p145 := eq_true p145
      replace q145 := eq_true q145
      refine start_ (n := 12) (S := fun w' => w'.cell? ⟨gb143, 0, none⟩ = some (.int .u8 ((rd_T36 (rd_L4 l0 x4_1) x5_2).f0)) ∧ w'.cell? ⟨gb143, 1, none⟩ = some (.int .i64 ((rd_T36 (rd_L4 l0 x4_1) x5_2).f1)) ∧ w'.cell? ⟨gb143, 2, none⟩ = some (.string ((rd_T36 (rd_L4 l0 x4_1) x5_2).f2)) ∧ w'.cell? (ad145.add (x5_2).toNat) = some (.int .u8 (rd x3_2 x5_2))) (ds := []) #[X,X,X,X,X,X,X,X,X,X,X,X] a3_ rfl rfl ⟨(blk_cell BK143.out 0).trans rfl, (blk_cell BK143.out 1).trans rfl, (blk_cell BK143.out 2).trans rfl, hx145_0⟩ (fun hHeld => ?_); refine with_tabW r6_Valid.tab13 r6_Valid.bits13 (fun HT_ HW_ => ?_)
      generalize w23.drew = w24 at HO_3 BK143 HB hx145_0 hHeld ⊢
      refine take_ (i := 0) (N := some 45) (v := ?_) (a' := ?_) #[Y,X,X,X,X,X,X,X,X,X,X,X] rfl rfl (take_ofW HT_.out HW_.out a3_) (fun _ _ _ h => h) (Or.inl ⟨by rfl, ?_⟩) hHeld ?_ ?_
      rotate_left
      · rintro w' ⟨s0, s1, s2, s3⟩
        go_simp
        with_reducible rfl
      rotate_left
      · simp only [Act.put, tA, tZ, tS, iL, iW]
        rfl
      refine one_ (i := 1) (N := some 46) #[Y,Y,X,X,X,X,X,X,X,X,X,X] rfl rfl (one_of HT_.out a3_) (by decide) (fun K hK => ?_)
      refine goes_ Tryz.func40 a3_ rfl #[.agg #[.int .u8 ((rd_T36 (rd_L4 l0 x4_1) x5_2).f0), .int .i64 ((rd_T36 (rd_L4 l0 x4_1) x5_2).f1), .string ((rd_T36 (rd_L4 l0 x4_1) x5_2).f2)]] (by rfl) rfl rfl a1_ ?_
      with_reducible refine (r1_Valid.calls ((rd_T36 (rd_L4 l0 x4_1) x5_2).f0) ((rd_T36 (rd_L4 l0 x4_1) x5_2).f1) ((rd_T36 (rd_L4 l0 x4_1) x5_2).f2) true _ A19.out).mono ?_
      rintro e w25 ⟨rfl, hb⟩
      have HS3_ := (hb.cell (bLC_ _ _ (hHeld.2.2.2))).trans (hHeld.2.2.2)
      refine ⟨_, rfl, ?_⟩
      have n0_ := kA_ (Kd.R_below a24_ hb)
      have n1_ := kA_ (blk_below (g := gb143) (o := .cells #[.int .u8 ((rd_T36 (rd_L4 l0 x4_1) x5_2).f0), .int .i64 ((rd_T36 (rd_L4 l0 x4_1) x5_2).f1), .string ((rd_T36 (rd_L4 l0 x4_1) x5_2).f2)] 36 (0, 0)) a60_ hb)
      have n2_ := kA_ (below_step a74_ hb)
      clear HO_3
      clear BK143
      clear HB
      have HO_3 := n0_
      have BK143 := n1_
      have HB := n2_
      clear n0_ n1_ n2_
      (try clear hb)
      (try clear hb2)
      (try clear hk)
      (try clear hi)
      refine hK.out _ _ ⟨(blk_cell BK143.out 0).trans rfl, (blk_cell BK143.out 1).trans rfl, (blk_cell BK143.out 2).trans rfl, HS3_⟩ (fun hHeld => ?_)
      clear hK K
      refine norm_ (a' := ?_) ?_ ?_
      rotate_left
      · show Act.put _ (some 46) _ = _
        simp only [Act.put, tA, tZ, tS, iL, iW]
        rfl
      refine pure_ (i := 2) (N := some 47) (v := ?_) (a' := ?_) #[Y,Y,Y,X,X,X,X,X,X,X,X,X] rfl rfl (any_of HT_.out a3_) (fun _ _ _ h => h) (Or.inl ⟨by rfl, ?_⟩) ?_ ?_
      rotate_left
      · intro w'
        go_simp
        with_reducible rfl
      rotate_left
      · simp only [Act.put, tA, tZ, tS, iL, iW]
        rfl
      refine pure_ (i := 3) (N := some 48) (v := ?_) (a' := ?_) #[Y,Y,Y,Y,X,X,X,X,X,X,X,X] rfl rfl (any_of HT_.out a3_) (fun _ _ _ h => h) (Or.inl ⟨by rfl, ?_⟩) ?_ ?_
      rotate_left
      · intro w'
        go_simp
        with_reducible rfl
      rotate_left
      · simp only [Act.put, tA, tZ, tS, iL, iW]
        rfl
      refine pure_ (i := 5) (N := some 50) (v := ?_) (a' := ?_) #[Y,Y,Y,Y,X,Y,X,X,X,X,X,X] rfl rfl (any_of HT_.out a3_) (fun _ _ _ h => h) (Or.inl ⟨by rfl, ?_⟩) ?_ ?_
      rotate_left
      · intro w'
        go_simp
        with_reducible rfl
      rotate_left
      · simp only [Act.put, tA, tZ, tS, iL, iW]
        rfl
      refine pure_ (i := 6) (N := some 51) (v := ?_) (a' := ?_) #[Y,Y,Y,Y,X,Y,Y,X,X,X,X,X] rfl rfl (any_of HT_.out a3_) (fun _ _ _ h => h) (Or.inl ⟨by rfl, ?_⟩) ?_ ?_
      rotate_left
      · intro w'
        go_simp
        with_reducible rfl
      rotate_left
      · simp only [Act.put, tA, tZ, tS, iL, iW]
        rfl
      refine pure_ (i := 7) (N := some 52) (v := ?_) (a' := ?_) #[Y,Y,Y,Y,X,Y,Y,Y,X,X,X,X] rfl rfl (any_of HT_.out a3_) (fun _ _ _ h => h) (Or.inl ⟨by rfl, ?_⟩) ?_ ?_
      rotate_left
      · intro w'
        go_simp
        with_reducible rfl
      rotate_left
      · simp only [Act.put, tA, tZ, tS, iL, iW]
        rfl
      refine take_ (i := 4) (N := some 49) (v := ?_) (a' := ?_) #[Y,Y,Y,Y,Y,Y,Y,Y,X,X,X,X] rfl rfl (take_ofW HT_.out HW_.out a3_) (fun _ _ _ h => h) (Or.inl ⟨by rfl, ?_⟩) hHeld ?_ ?_
      rotate_left
      · rintro w' ⟨s0, s1, s2, s3⟩
        go_simp
        with_reducible rfl
      rotate_left
      · simp only [Act.put, tA, tZ, tS, iL, iW]
        rfl
      refine take_ (i := 8) (N := some 53) (v := ?_) (a' := ?_) #[Y,Y,Y,Y,Y,Y,Y,Y,Y,X,X,X] rfl rfl (take_ofW HT_.out HW_.out a3_) (fun _ _ _ h => h) (Or.inl ⟨by rfl, ?_⟩) hHeld ?_ ?_
      rotate_left
      · rintro w' ⟨s0, s1, s2, s3⟩
        go_simp
        with_reducible rfl
      rotate_left
      · simp only [Act.put, tA, tZ, tS, iL, iW]
        rfl
      refine one_ (i := 9) (N := some 54) #[Y,Y,Y,Y,Y,Y,Y,Y,Y,Y,X,X] rfl rfl (one_of HT_.out a3_) (by decide) (fun K hK => ?_)
      refine goes_ Tryz.func41 a3_ rfl #[.agg #[.int .u8 ((rd_T36 (rd_L4 l0 x4_1) x5_2).f0), .int .i64 ((rd_T36 (rd_L4 l0 x4_1) x5_2).f1), .string ((rd_T36 (rd_L4 l0 x4_1) x5_2).f2)], .int .u8 (rd x3_2 x5_2)] (by rfl) rfl rfl a1_ ?_
      with_reducible refine (r6_fits.calls ((rd_T36 (rd_L4 l0 x4_1) x5_2).f0) ((rd_T36 (rd_L4 l0 x4_1) x5_2).f1) ((rd_T36 (rd_L4 l0 x4_1) x5_2).f2) (rd x3_2 x5_2) t146 _ A22.out).mono ?_
      rintro e w26 ⟨rfl, hb⟩
      have HS3_ := (hb.cell (bLC_ _ _ (hHeld.2.2.2))).trans (hHeld.2.2.2)
      refine ⟨_, rfl, ?_⟩
      have n0_ := kA_ (Kd.R_below a24_ hb)
      have n1_ := kA_ (blk_below (g := gb143) (o := .cells #[.int .u8 ((rd_T36 (rd_L4 l0 x4_1) x5_2).f0), .int .i64 ((rd_T36 (rd_L4 l0 x4_1) x5_2).f1), .string ((rd_T36 (rd_L4 l0 x4_1) x5_2).f2)] 36 (0, 0)) a60_ hb)
      have n2_ := kA_ (below_step a74_ hb)
      clear HO_3
      clear BK143
      clear HB
      have HO_3 := n0_
      have BK143 := n1_
      have HB := n2_
      clear n0_ n1_ n2_
      (try clear hb)
      (try clear hb2)
      (try clear hk)
      (try clear hi)
      refine hK.out _ _ ⟨(blk_cell BK143.out 0).trans rfl, (blk_cell BK143.out 1).trans rfl, (blk_cell BK143.out 2).trans rfl, HS3_⟩ (fun hHeld => ?_)
      clear hK K
      refine norm_ (a' := ?_) ?_ ?_
      rotate_left
      · show Act.put _ (some 54) _ = _
        simp only [Act.put, tA, tZ, tS, iL, iW]
        rfl
      refine pure_ (i := 10) (N := some 55) (v := ?_) (a' := ?_) #[Y,Y,Y,Y,Y,Y,Y,Y,Y,Y,Y,X] rfl rfl (any_of HT_.out a3_) (fun _ _ _ h => h) (Or.inl ⟨by rfl, ?_⟩) ?_ ?_
      rotate_left
      · intro w'
        go_simp
        with_reducible rfl
      rotate_left
      · simp only [Act.put, tA, tZ, tS, iL, iW]
        rfl
      refine pure_ (i := 11) (N := some 56) (v := ?_) (a' := ?_) #[Y,Y,Y,Y,Y,Y,Y,Y,Y,Y,Y,Y] rfl rfl (any_of HT_.out a3_) (fun _ _ _ h => h) (Or.inl ⟨by rfl, ?_⟩) ?_ ?_
      rotate_left
      · intro w'
        go_simp
        with_reducible rfl
      rotate_left
      · simp only [Act.put, tA, tZ, tS, iL, iW]
        rfl
      refine done_ (done_of HT_.out a3_) ?_
      try go_wp2
      go_meet
      case rel => exact ⟨_, (!t146), a4_, H', ⟨a66_⟩, ⟨a18_⟩, ⟨a87_⟩, ⟨a34_⟩⟩
     case rest =>
      clear HC16
      try clear c1
      try clear p1
      try clear q1
      try clear hx1
      try clear qi1
      try clear c2
      try clear c2b0
      try clear c2b1
      try clear c2b2
      try clear p2
      try clear c3
      try clear c3b0
      try clear c3b1
      try clear c4
      try clear c4b0
      try clear c4b1
      try clear c5
      try clear c5b0
      try clear c5b1
      try clear c8
      try clear c8b0
      try clear c9
      try clear c9b0
      try clear c10
      try clear c10b0
      try clear c10b1
      try clear c10b2
      try clear c11
      try clear c12
      try clear c12b0
      try clear c13
      try clear c13b0
      try clear p13
      try clear q13
      try clear hx13
      try clear qi13
      try clear c14
      try clear c14b0
      try clear p14
      try clear q14
      try clear hx14
      try clear c15
      try clear c15b0
      try clear c20
      try clear c21
      try clear c21b0
      try clear hcz18_0
      try clear hcz18_1
      try clear hcz18_2
      try clear hfz18_0
      try clear hfz18_1
      try clear hfz18_2
      try clear hx135_0
      try clear hx139_0
      try clear hx140_0
      try clear hx141_0
      try clear hx142_0
      try clear hx142_1
      try clear hx142_2
      try clear hx145_0
      try clear p1
      try clear p135
      try clear p139
      try clear p140
      try clear p141
      try clear p142
      try clear p145
      try clear p2
      try clear q1
      try clear q135
      try clear q139
      try clear q140
      try clear q141
      try clear q142
      try clear q145
      obtain ⟨kq, x56_15, rfl, HA, HJ15, HO_3, BK143, HB⟩ := hcut
      cases kq with
      | zero => exact absurd HA.out (by simp [r6_Valid.j2])
      | succ kj15 =>
       have H := HA.out
       clear HA
       simp only [r6_Valid.j2] at H
       by_cases c30 : x56_15 = true
       · subst c30
         have H1 : (some false) = some r := by rw [if_pos rfl] at H; exact H
         clear H
         have H := H1
         clear H1
         obtain rfl := Option.some.inj H
         go_wp2
         go_ret
         exact ⟨a5_, a34_⟩
       replace c30 := Bool.eq_false_iff.mpr c30
       subst c30
       have H1 : (if ((rd_T36 (rd_L4 l0 x4_1) x5_2).f0) = 0 then (r6_Valid.l1 kj15 l0 x3_2 x4_1 (wrap64 (x5_2 + 1))) else (if 0 ≤ x5_2 then (if x5_2 < (x3_2.length : Int) then (r6_Valid.l1 kj15 l0 (x3_2.set (x5_2 : Int).toNat ((rd_T36 (rd_L4 l0 x4_1) x5_2).f0)) x4_1 (wrap64 (x5_2 + 1))) else (none)) else (none))) = some r := by rw [if_neg (show ¬ (false = true) by decide)] at H; exact H
       clear H
       have H := H1
       clear H1
       by_cases c31 : ((rd_T36 (rd_L4 l0 x4_1) x5_2).f0) = 0
       · rw [if_pos c31] at H
         have c31b0 : (((rd_T36 (rd_L4 l0 x4_1) x5_2).f0) == 0) = true := beq_iff_eq.mpr c31
         have c31b1 : (((rd_T36 (rd_L4 l0 x4_1) x5_2).f0) != 0) = false := bne_eq_false_iff_eq.mpr c31
         clear c31
         have H' := kA_ H
         clear H
         have hcz32_0 : wc.cell? ⟨gb143, 0, none⟩ = some (.int .u8 ((rd_T36 (rd_L4 l0 x4_1) x5_2).f0)) := (blk_cell BK143.out 0).trans rfl
         have hcz32_1 : wc.cell? ⟨gb143, 1, none⟩ = some (.int .i64 ((rd_T36 (rd_L4 l0 x4_1) x5_2).f1)) := (blk_cell BK143.out 1).trans rfl
         have hcz32_2 : wc.cell? ⟨gb143, 2, none⟩ = some (.string ((rd_T36 (rd_L4 l0 x4_1) x5_2).f2)) := (blk_cell BK143.out 2).trans rfl
         have hfz32_0 := blk_frozen BK143.out 0
         have hfz32_1 := blk_frozen BK143.out 1
         have hfz32_2 := blk_frozen BK143.out 2
         go_wp2
         (try simp only [← hl3_2])
         go_roundg kj15
         case measure => have := HK1.out; have := HK2.out; have := HJ15.out; omega
         case rel => exact ⟨(x3_2), (wrap64 (x5_2 + 1)), a4_, H', ⟨by have := HK1.out; have := HK2.out; have := HJ15.out; omega⟩, ⟨a18_⟩, ⟨a34_⟩⟩
       rw [if_neg c31] at H
       have c31b0 : (((rd_T36 (rd_L4 l0 x4_1) x5_2).f0) == 0) = false := beq_eq_false_iff_ne.mpr c31
       have c31b1 : (((rd_T36 (rd_L4 l0 x4_1) x5_2).f0) != 0) = true := bne_iff_ne.mpr c31
       by_cases c33 : 0 ≤ x5_2
       rotate_left
       · rw [if_neg c33] at H
         exact absurd H (by simp)
       rw [if_pos c33] at H
       have c33b0 : decide (0 ≤ x5_2) = true := dT_ c33
       clear c33
       by_cases c34 : x5_2 < (x3_2.length : Int)
       rotate_left
       · rw [if_neg c34] at H
         exact absurd H (by simp)
       rw [if_pos c34] at H
       have c34b0 : decide (x5_2 < (x3_2.length : Int)) = true := dT_ c34
       clear c34
       obtain ⟨y147, hy147⟩ : ∃ y_ : List Int, y_ = (x3_2.set (x5_2 : Int).toNat ((rd_T36 (rd_L4 l0 x4_1) x5_2).f0)) := ⟨_, rfl⟩
       replace H : (r6_Valid.l1 kj15 l0 y147 x4_1 (wrap64 (x5_2 + 1))) = some r := by first | (rw [hy147]; with_reducible exact H) | (have H2_ := (Option.bind_some _ _).symm.trans H; rw [hy147]; with_reducible exact H2_) | (have H2_ := (Option.bind_some _ _).symm.trans H; with_reducible exact H2_) | with_reducible exact H | (rw [hy147]; exact H) | exact H
       have Ny147 := kA_ hy147
       clear hy147
       have H' := kA_ H
       clear H
       have hcz36_0 : wc.cell? ⟨gb143, 0, none⟩ = some (.int .u8 ((rd_T36 (rd_L4 l0 x4_1) x5_2).f0)) := (blk_cell BK143.out 0).trans rfl
       have hcz36_1 : wc.cell? ⟨gb143, 1, none⟩ = some (.int .i64 ((rd_T36 (rd_L4 l0 x4_1) x5_2).f1)) := (blk_cell BK143.out 1).trans rfl
       have hcz36_2 : wc.cell? ⟨gb143, 2, none⟩ = some (.string ((rd_T36 (rd_L4 l0 x4_1) x5_2).f2)) := (blk_cell BK143.out 2).trans rfl
       have hfz36_0 := blk_frozen BK143.out 0
       have hfz36_1 := blk_frozen BK143.out 1
       have hfz36_2 := blk_frozen BK143.out 2
       have p35 : 0 ≤ (x5_2 : Int) := oT_ (by assumption)
       have q35 : (x5_2 : Int) < ((x3_2.length : Int) : Int) := oT_ (by assumption)
       obtain ⟨go35, co35, eo35, gb35, gl35, cl35, HG35⟩ := Kd.R_form HO_3.out (by omega)
       (first | cases eo35 | (injection eo35 with ea_ en_ ec_; (first | subst ea_ | (injection ea_ with ea_; subst ea_)); subst ec_; clear en_))
       have GB35 := kA_ gb35
       have GG35 := kA_ HG35
       clear gb35 gl35 HG35
       obtain ⟨hx35_0, hf35_0⟩ := Kd.R_celln 0 HO_3.out (x5_2 : Int) p35 q35
       replace p35 := eq_true p35
       replace q35 := eq_true q35
       have HP37 := Kd.R_putg HO_3.out (x5_2 : Int) ((rd_T36 (rd_L4 l0 x4_1) x5_2).f0)
       go_wp2_with (first | ((with_reducible refine gate_store (t := 34) (p := 64) rfl ?_); refine store_event (t := 34) (p := 64) (v := ?vo_w38) (w1 := (wc.setCell ⟨go35, (x5_2 : Int).toNat, none⟩ (.int .u8 ((rd_T36 (rd_L4 l0 x4_1) x5_2).f0)))) ?hg ?ho ?hn ?hr ?_; (case ho => rfl); (case hg => rfl); (case hn => rfl); (case hr => first | (go_simp; done) | (go_simp; rfl)); intro w38 hw; have hg : wc.grownBy w38 (some go35) := (by rw [hw]; exact HP37.2); have hp_ : Kd.R (Kd.int .u8) 34 w38 w.heap.size (fun _ => True) (.slice (some ⟨go35, 0, none⟩) x3_2.length co11) y147 := (by rw [hw, Ny147.out]; exact HP37.1); clear HP37; have n0_ := kA_ (hp_); have n1_ := kA_ (blk_grown (g := gb143) (o := .cells #[.int .u8 ((rd_T36 (rd_L4 l0 x4_1) x5_2).f0), .int .i64 ((rd_T36 (rd_L4 l0 x4_1) x5_2).f1), .string ((rd_T36 (rd_L4 l0 x4_1) x5_2).f2)] 36 (0, 0)) a60_ hg (Kd.R_ne HO_3.out BK143.out (by decide))); have n2_ := kA_ ((by rw [hw]; exact below_set (HB.out) GB35.out : Below w.heap.size w w38)); clear HO_3; clear BK143; clear HB; have HO_3 := n0_; have BK143 := n1_; have HB := n2_; clear n0_ n1_ n2_; clear hg hw hp_))
       (try simp only [← hl3_2])
       go_roundg kj15
       case measure => have := HK1.out; have := HK2.out; have := HJ15.out; omega
       case rel => exact ⟨(y147), (wrap64 (x5_2 + 1)), a4_, H', ⟨by have := HK1.out; have := HK2.out; have := HJ15.out; omega⟩, ⟨a18_⟩, ⟨a34_⟩⟩
end
theorem ref_value (v : V) : r1_Valid.f v.f0 v.f1 v.f2 = some (validV v) := by
 unfold r1_Valid.f validV noText
 by_cases c0 : v.f0 = 0
 · by_cases c1 : v.f1 = 0 <;> simp [c0, c1]
 by_cases c1 : v.f0 = 1
 · simp [c1]
 by_cases c2 : v.f0 = 2
 · by_cases c3 : v.f1 = 0 <;> simp [c2, c3]
 by_cases c3 : v.f0 = 3
 rotate_left
 · simp [c0, c1, c2, c3]
 by_cases c4 : v.f1 = 0
 · simp [c3, c4]
 by_cases c5 : v.f1 = 1
 · simp [c3, c5]
 have : ¬ (0 ≤ v.f1 ∧ v.f1 ≤ 1) := by omega
 simp [c3, c4, c5, this]
theorem rvalid_l1 (l : List (List V)) (i : Nat) (hi : i < l.length) (hn : (l[i]).length ≤ 1099511627776) (b : Bool) : ∀ (d j : Nat) (ks : List Int), j + d = l[i].length → ks.length = l[i].length →
 (∀ ks', rowStep (ks.drop j) (l[i].drop j) = some ks' → Ev (fun k => r6_Valid.l0 k l (ks.take j ++ ks') (wrap64 ((i : Int) + 1))) b → Ev (fun k => r6_Valid.l1 k l ks (i : Int) (j : Int)) b) ∧
 (rowStep (ks.drop j) (l[i].drop j) = none → Ev (fun k => r6_Valid.l1 k l ks (i : Int) (j : Int)) false) := by
 intro d
 induction d with
 | zero =>
  intro j ks hj hk
  have e1 : l[i].drop j = [] := List.drop_eq_nil_of_le (by omega)
  have e2 : ks.drop j = [] := List.drop_eq_nil_of_le (by omega)
  rw [e1, e2]
  refine ⟨fun ks' h hE => ?_, fun h => by simp [rowStep] at h⟩
  simp [rowStep] at h
  subst h
  rw [List.append_nil, List.take_of_length_le (by omega)] at hE
  refine Ev.step (f := fun k => r6_Valid.l0 k l ks (wrap64 ((i : Int) + 1))) (fun k => ?_) hE
  simp only [r6_Valid.l1]
  rw [if_pos (by omega), if_pos (by omega), rdL_at hi, if_neg (by omega)]
 | succ d ih =>
  intro j ks hj hk
  have hlt : j < l[i].length := by omega
  have hltk : j < ks.length := by omega
  rw [drop_cons l[i] j hlt, drop_cons ks j hltk]
  have hv := ref_value l[i][j]
  obtain ⟨v, hvv⟩ : ∃ v, v = l[i][j] := ⟨_, rfl⟩
  have one : ∀ k, r6_Valid.l1 (k + 1) l ks (i : Int) (j : Int) = if validV v = true then ((r6_fits.f v.f0 v.f1 v.f2 ks[j]).bind fun t => r6_Valid.j2 k l ks (i : Int) (j : Int) (!t) v.f0 v.f1 v.f2) else r6_Valid.j2 k l ks (i : Int) (j : Int) true v.f0 v.f1 v.f2 := fun k => by
   simp only [r6_Valid.l1]
   rw [if_pos (by omega), if_pos (by omega), rdL_at hi, if_pos (by omega), if_pos (by omega), rdV_at hlt, hv, ← hvv]
   simp only [Option.bind_some]
   rw [if_pos (show (j : Int) < (ks.length : Int) by omega), rd_at hltk]
  rw [← hvv]
  have bad : Ev (fun k => r6_Valid.j2 k l ks (i : Int) (j : Int) true v.f0 v.f1 v.f2) false := Ev.step (f := fun _ => some false) (fun k => by simp [r6_Valid.j2]) (Ev.now _)
  by_cases c0 : validV v = true
  rotate_left
  · refine ⟨fun ks' h hE => ?_, fun h => ?_⟩
    · simp only [rowStep] at h
      rw [if_neg (fun h => c0 h.1)] at h
      cases h
    exact Ev.step (f := fun k => r6_Valid.j2 k l ks (i : Int) (j : Int) true v.f0 v.f1 v.f2) (fun k => by rw [one, if_neg c0]) bad
  by_cases c1 : ks[j] = 0 ∨ ks[j] = v.f0 ∨ v.f0 = 0
  rotate_left
  · have hfit : r6_fits.f v.f0 v.f1 v.f2 ks[j] = some false := by
     unfold r6_fits.f
     rw [if_neg (by omega), if_neg (by omega)]
     congr 1
     rw [beq_eq_false_iff_ne]
     omega
    refine ⟨fun ks' h hE => ?_, fun h => ?_⟩
    · simp only [rowStep] at h
      rw [if_neg (fun h => c1 h.2)] at h
      cases h
    exact Ev.step (f := fun k => r6_Valid.j2 k l ks (i : Int) (j : Int) true v.f0 v.f1 v.f2) (fun k => by rw [one, if_pos c0, hfit]; rfl) bad
  have hfit : r6_fits.f v.f0 v.f1 v.f2 ks[j] = some true := by
   unfold r6_fits.f
   by_cases d0 : v.f0 = 0
   · rw [if_pos d0]
   rw [if_neg d0]
   by_cases d1 : ks[j] = 0
   · rw [if_pos d1]
   rw [if_neg d1]
   have : v.f0 = ks[j] := by omega
   simp [this]
  obtain ⟨ks2, hks2⟩ : ∃ ks2, ks2 = ks.set j (if ks[j] = 0 then v.f0 else ks[j]) := ⟨_, rfl⟩
  have hl2 : ks2.length = l[i].length := by rw [hks2]; simpa using hk
  have hd2 : ks2.drop (j + 1) = ks.drop (j + 1) := by rw [hks2, List.drop_set]; simp
  have ht2 : ks2.take (j + 1) = ks.take j ++ [if ks[j] = 0 then v.f0 else ks[j]] := by
   rw [hks2, take_snoc _ _ (by simpa using hltk)]
   rw [List.take_set, List.set_eq_of_length_le (by rw [List.length_take]; omega)]
   simp
  have step : ∀ k, r6_Valid.l1 (k + 2) l ks (i : Int) (j : Int) = r6_Valid.l1 k l ks2 (i : Int) ((j + 1 : Nat) : Int) := fun k => by
   rw [one, if_pos c0, hfit]
   simp only [Option.bind_some, Bool.not_true, r6_Valid.j2]
   rw [if_neg (by simp), w64 _ (by omega) (by omega)]
   by_cases d0 : v.f0 = 0
   rotate_left
   · rw [if_neg d0, if_pos (by omega), if_pos (by omega), Int.toNat_natCast]
     have e : (if ks[j] = 0 then v.f0 else ks[j]) = v.f0 := by split <;> omega
     rw [hks2, e]; rfl
   rw [if_pos d0]
   have : ks2 = ks := by
    rw [hks2]
    have e : (if ks[j] = 0 then v.f0 else ks[j]) = ks[j] := by split <;> omega
    rw [e]
    exact List.set_getElem_self hltk
   rw [this]; rfl
  have two : ∀ r, Ev (fun k => r6_Valid.l1 k l ks2 (i : Int) ((j + 1 : Nat) : Int)) r → Ev (fun k => r6_Valid.l1 k l ks (i : Int) (j : Int)) r := fun r h =>
   Ev.step (f := fun k => r6_Valid.l1 (k + 1) l ks (i : Int) (j : Int)) (fun k => rfl) (Ev.step (f := fun k => r6_Valid.l1 k l ks2 (i : Int) ((j + 1 : Nat) : Int)) step h)
  obtain ⟨i1, i2⟩ := ih (j + 1) ks2 (by omega) hl2
  rw [hd2] at i1 i2
  refine ⟨fun ks' h hE => ?_, fun h => ?_⟩
  rotate_left
  · simp only [rowStep] at h
    rw [if_pos ⟨c0, c1⟩] at h
    exact two _ (i2 (Option.map_eq_none_iff.1 h))
  simp only [rowStep] at h
  rw [if_pos ⟨c0, c1⟩] at h
  obtain ⟨t, ht, rfl⟩ := Option.map_eq_some_iff.1 h
  refine two _ (i1 t ht ?_)
  rw [ht2, List.append_assoc]
  exact hE
theorem rvalid_l0 (l : List (List V)) (hl : RowsV l) : ∀ (d i : Nat) (ks : List Int), i + d = l.length → Ev (fun k => r6_Valid.l0 k l ks (i : Int)) (validFrom ks (l.drop i)) := by
 intro d
 induction d with
 | zero =>
  intro i ks hi
  rw [List.drop_eq_nil_of_le (by omega)]
  refine Ev.step (f := fun _ => some true) (fun k => ?_) (Ev.now true)
  simp only [r6_Valid.l0]
  rw [if_neg (by omega)]
 | succ d ih =>
  intro i ks hi
  have hlt : i < l.length := by omega
  have hr := hl.1 l[i] (List.getElem_mem hlt)
  have hn := hl.2
  rw [drop_cons l i hlt]
  simp only [validFrom]
  by_cases c : l[i].length = ks.length
  rotate_left
  · have one : ∀ k, r6_Valid.l0 (k + 1) l ks (i : Int) = some false := fun k => by
     simp only [r6_Valid.l0]
     rw [if_pos (by omega), if_pos (by omega), rdL_at hlt, if_neg (by omega)]
    rw [rowStep_ne ks l[i] c]
    exact Ev.step (fun k => one k) (Ev.now false)
  have one : ∀ k, r6_Valid.l0 (k + 1) l ks (i : Int) = r6_Valid.l1 k l ks (i : Int) ((0 : Nat) : Int) := fun k => by
   simp only [r6_Valid.l0]
   rw [if_pos (by omega), if_pos (by omega), rdL_at hlt, if_pos (by omega)]
   rfl
  cases hrs : rowStep ks l[i] with
  | none =>
   obtain ⟨_, i2⟩ := rvalid_l1 l i hlt hr.2 false l[i].length 0 ks (by omega) c.symm
   exact Ev.step (fun k => one k) (i2 (by simpa using hrs))
  | some t =>
   obtain ⟨i1, _⟩ := rvalid_l1 l i hlt hr.2 (validFrom t (l.drop (i + 1))) l[i].length 0 ks (by omega) c.symm
   refine Ev.step (fun k => one k) (i1 t (by simpa using hrs) ?_)
   rw [w64 _ (by omega) (by omega)]
   exact ih (i + 1) t (by omega)
theorem rvalid_ev (l : List (List V)) (hl : RowsV l) : Ev (fun k => r6_Valid.f k l) (validB l) := by
 cases l with
 | nil => exact Ev.congr (f := fun _ => some true) (fun k => by simp [r6_Valid.f]) (Ev.now _)
 | cons r rs =>
  have hr := hl.1 r (by simp)
  have h := rvalid_l0 (r :: rs) hl (r :: rs).length 0 (List.replicate r.length 0) (by omega)
  rw [List.drop_zero] at h
  refine Ev.congr (f := fun k => r6_Valid.l0 k (r :: rs) (List.replicate r.length 0) ((0 : Nat) : Int)) (fun k => ?_) h
  unfold r6_Valid.f
  have e : rd_L4 (r :: rs) 0 = r := rfl
  rw [e, if_neg a82_, if_pos (by simp), if_pos (by omega), Int.toNat_natCast, if_pos (by omega)]
  rfl
section
attribute [local go_sem] max2_int min2_int max_two min_two
def fitsB (l : List (List V)) (ks : List KeyT) : Bool := validB l && keysB l ks
theorem fits_good {l : List (List V)} {ks : List KeyT} (hv : RowsV l) (h : fitsB l ks = true) : ∀ row ∈ l, RowGood ks row := by
 unfold fitsB at h
 rw [Bool.and_eq_true] at h
 obtain ⟨h1, h2⟩ := h
 intro row hrow
 refine ⟨validB_valid h1 row hrow, fun k hk => ?_, (hv.1 row hrow).2⟩
 have hk2 : hasB l k.f0 = true := List.all_eq_true.1 h2 k hk
 cases l with
 | nil => cases hrow
 | cons r rs =>
  have hl := validB_len h1 row hrow
  have := of_decide_eq_true hk2
  omega
def cutR (l : List (List V)) (a n : Int) : List (List V) := (l.drop a.toNat).take n.toNat
theorem cutR_eq (l : List (List V)) (a n f g : Int) (h0 : 0 ≤ a) (h1 : 0 ≤ n) (hf : (if (l.length : Int) < a then (l.length : Int) else a) = f) (hg : (if (l.length : Int) - f < n then (l.length : Int) - f else n) = g) : (l.take (f + g).toNat).drop f.toNat = cutR l a n := by
 unfold cutR
 rw [List.drop_take]
 by_cases c : (l.length : Int) < a
 · rw [if_pos c] at hf
   subst hf
   rw [List.drop_eq_nil_of_le (by omega), List.drop_eq_nil_of_le (by omega)]
   simp
 rw [if_neg c] at hf
 subst hf
 by_cases c2 : (l.length : Int) - a < n
 rotate_left
 · rw [if_neg c2] at hg
   subst hg
   congr 1
   omega
 rw [if_pos c2] at hg
 rw [List.take_of_length_le (by rw [List.length_drop]; omega), List.take_of_length_le (by rw [List.length_drop]; omega)]
open Classical in
noncomputable def bag_Cut.f (l0 : List (List V)) (l1 : List KeyT) (a2 a3 : Int) : Option (List (List V) × Int) := if RowsV l0 ∧ l1.length ≤ 1099511627776 ∧ a2 ≤ 9223372036854775807 ∧ a3 ≤ 9223372036854775807 then some (if fitsB l0 l1 = true ∧ 0 ≤ a2 ∧ 0 ≤ a3 then (cutR (sortR l1 l0) a2 a3, 0) else ([], 1)) else none
theorem bag_Cut.calls (A0 : Option Addr) (c0 : Nat) (l0 : List (List V)) (A1 : Option Addr) (c1 : Nat) (l1 : List KeyT) (a2 a3 : Int) (r1 : List (List V)) (r2 : Int) (w : World) (hr0 : Kd.C kRow w A0 l0.length l0) (hc0 : l0.length ≤ c0) (hr1 : Kd.C kKey w A1 l1.length l1) (hc1 : l1.length ≤ c1) (h : bag_Cut.f l0 l1 a2 a3 = some (r1, r2)) :
 Calls Tryz.prog 18 #[.slice A0 l0.length c0, .slice A1 l1.length c1, .int .i64 a2, .int .i64 a3] w fun e w' => ∃ v0_ : Value, e = .returned (.tuple #[v0_, .int .i64 r2]) ∧ Kd.V kRow 53 w' w.heap.size (fun k_ => (w.heap.size ≤ k_)) v0_ r1 ∧ Below w.heap.size w w' := by
 unfold bag_Cut.f at h
 split at h
 case isFalse => cases h
 rename_i hv
 obtain ⟨hv, hk, h2, h3⟩ := hv
 have H := kA_ (Option.some.inj h)
 have HV := kA_ hv
 have HKN := kA_ hk
 have H2 := kA_ h2
 have H3 := kA_ h3
 have HF := kA_ (fits_calls A0 c0 l0 A1 c1 l1 w hr0 hc0 hr1 hc1 hv hk)
 have HR0 := kA_ hr0
 have HR1 := kA_ hr1
 clear h hv hk h2 h3 hr0 hr1 hc0 hc1
 change Aside0 (Calls _ _ _ _ fun e w' => e = .returned (.bool (fitsB l0 l1)) ∧ Below w.heap.size w w') at HF
 have bad : ∀ (P : Prop) [Decidable P], ¬ P → Aside0 ((if P then (cutR (sortR l1 l0) a2 a3, 0) else ([], 1)) = (r1, r2)) → r1 = [] ∧ r2 = 1 := fun P _ hP hh => by
  have := hh.out
  rw [if_neg hP] at this
  obtain ⟨e1, e2⟩ := Prod.mk.inj this
  exact ⟨e1.symm, e2.symm⟩
 cases hq : fitsB l0 l1 with
 | false =>
  have HN := kA_ (bad _ (by rw [hq]; simp) H)
  rw [hq] at HF
  clear hq bad H
  go_enter Tryz.func18, Tryz.ntmps18
  go_wp2_with fail
  refine HF.out.mono ?_
  rintro e w1 ⟨rfl, hb1⟩
  have HB := kA_ hb1
  clear hb1
  go_wp2
  go_ret2
  refine ⟨.slice none 0 0, by rw [HN.out.2]; rfl, ?_, HB.out⟩
  rw [HN.out.1]
  exact Kd.V_nil _ _ _ _ _
 | true =>
  rw [hq] at HF
  by_cases hn2 : a2 < 0
  · have HN := kA_ (bad _ (by omega) H)
    have d2 : decide (a2 < 0) = true := decide_eq_true hn2
    clear hq bad H hn2
    go_enter Tryz.func18, Tryz.ntmps18
    go_wp2_with fail
    refine HF.out.mono ?_
    rintro e w1 ⟨rfl, hb1⟩
    have HB := kA_ hb1
    clear hb1
    go_wp2
    go_ret2
    refine ⟨.slice none 0 0, by rw [HN.out.2]; rfl, ?_, HB.out⟩
    rw [HN.out.1]
    exact Kd.V_nil _ _ _ _ _
  have d2 : decide (a2 < 0) = false := decide_eq_false hn2
  by_cases hn3 : a3 < 0
  · have HN := kA_ (bad _ (by omega) H)
    have d3 : decide (a3 < 0) = true := decide_eq_true hn3
    clear hq bad H hn2 hn3
    go_enter Tryz.func18, Tryz.ntmps18
    go_wp2_with fail
    refine HF.out.mono ?_
    rintro e w1 ⟨rfl, hb1⟩
    have HB := kA_ hb1
    clear hb1
    go_wp2
    go_ret2
    refine ⟨.slice none 0 0, by rw [HN.out.2]; rfl, ?_, HB.out⟩
    rw [HN.out.1]
    exact Kd.V_nil _ _ _ _ _
  have d3 : decide (a3 < 0) = false := decide_eq_false hn3
  have hgood : Aside0 (r1 = cutR (sortR l1 l0) a2 a3 ∧ r2 = 0) := ⟨by
   have := H.out
   rw [if_pos ⟨hq, by omega, by omega⟩] at this
   obtain ⟨e1, e2⟩ := Prod.mk.inj this
   exact ⟨e1.symm, e2.symm⟩⟩
  have HG := kA_ (fits_good HV.out hq)
  have HLR : Aside0 ((sortR l1 l0).length ≤ 1099511627776) := ⟨by rw [(sortR_perm l1 l0).length_eq]; exact HV.out.2⟩
  have HN2 := kA_ hn2
  have HN3 := kA_ hn3
  have HA := kA_ (fun w1 (hb : Below w.heap.size w w1) => arranged_calls A0 c0 l0 A1 c1 l1 w1 (Kd.C_below HR0.out hb) (Kd.C_below HR1.out hb) HG.out HV.out.2 HKN.out)
  obtain ⟨rs, hrs⟩ : ∃ rs, rs = sortR l1 l0 := ⟨_, rfl⟩
  rw [← hrs] at hgood HLR
  simp only [← hrs] at HA
  obtain ⟨f, hf⟩ : ∃ f, (if (rs.length : Int) < a2 then (rs.length : Int) else a2) = f := ⟨_, rfl⟩
  obtain ⟨g, hg⟩ : ∃ g, (if (rs.length : Int) - f < a3 then (rs.length : Int) - f else a3) = g := ⟨_, rfl⟩
  have HCUT := kA_ (cutR_eq rs a2 a3 f g (by omega) (by omega) hf hg)
  have hf0 : 0 ≤ f ∧ f ≤ rs.length := by rw [← hf]; split <;> omega
  have hg0 : 0 ≤ g ∧ g ≤ rs.length - f := by rw [← hg]; split <;> omega
  have HFB := kA_ hf0
  have HGB := kA_ hg0
  have hw1 : wrap64 ((rs.length : Int) - f) = (rs.length : Int) - f := by have := HLR.out; unfold wrap64; omega
  have hw2 : wrap64 (f + g) = f + g := by have := HLR.out; unfold wrap64; omega
  clear hq bad H hn2 hn3 hf0 hg0 hrs
  go_enter Tryz.func18, Tryz.ntmps18
  go_wp2_with fail
  refine HF.out.mono ?_
  rintro e w1 ⟨rfl, hb1⟩
  have HB := kA_ hb1
  clear hb1
  go_wp2_with fail
  refine (HA.out w1 HB.out).mono ?_
  rintro e w2 ⟨v2, rfl, hR2, hb2⟩
  obtain ⟨Av, cv, ev, hlc, hC⟩ := Kd.R_reads hR2
  subst ev
  have HB2 := kA_ (HB.out.trans (hb2.mono HB.out.size))
  have HM := kA_ (C_relM hR2)
  obtain ⟨i0, hi, hzz⟩ := Option.map_eq_some_iff.1 infoRow
  simp only [Prod.mk.injEq] at hzz
  have hcut := cut_mid (P := Tryz.prog) 22 53 .i64 .i64 Tryz.underlying22 hi 1 hzz.2.1 Av rs.length cv f (f + g) HFB.out.1 (by have := HGB.out; omega) (by have := HGB.out; omega) hlc
  have hcm := (Kd.C_mid (lo := f.toNat) (hi := (f + g).toNat) HM.out (by have := HGB.out; omega) (by have := HGB.out; have := HFB.out; omega) hlc)
  change Kd.C (relM w2 w1.heap.size).kd w2 (if cv = f.toNat then Av else Av.map (·.add (f.toNat * 1))) _ _ at hcm
  obtain ⟨A', hA'⟩ : ∃ A', A' = (if cv = f.toNat then Av else Av.map (·.add (f.toNat * 1))) := ⟨_, rfl⟩
  have hlm : ((rs.take (f + g).toNat).drop f.toNat).length = (f + g).toNat - f.toNat := by
   rw [List.length_drop, List.length_take]
   have := HGB.out
   have := HFB.out
   omega
  rw [← hA'] at hcm hcut
  rw [hlm, HCUT.out] at hcm
  rw [HCUT.out] at hlm
  obtain ⟨n', hn'⟩ : ∃ n', n' = (f + g).toNat - f.toNat := ⟨_, rfl⟩
  rw [← hn'] at hcm hcut hlm
  have HCM := kA_ hcm
  have HLM : Aside0 ((cutR rs a2 a3).length ≤ 2199023255552) := ⟨by
   have h1 : (cutR rs a2 a3).length ≤ rs.length := by unfold cutR; rw [List.length_take, List.length_drop]; omega
   have := HLR.out
   omega⟩
  have HB1S := kA_ HB.out.size
  have HB2S := kA_ hb2.size
  clear hR2 hb2 hC hlc hzz hi hcm hA' hlm hn'
  go_wp2_with fail
  refine (cloneRows_calls _ A' n' (cv - f.toNat) (cutR rs a2 a3) w2 HCM.out HLM.out).mono ?_
  rintro e w3 ⟨v3, rfl, hR3, hb3⟩
  have HR3 := kA_ (R_relM hR3 hb3 HB2S.out (Nat.le_refl _))
  have HB3 := kA_ (HB2.out.trans (hb3.mono HB2.out.size))
  clear hR3 hb3
  go_wp2
  go_ret2
  refine ⟨v3, by rw [hgood.out.2]; rfl, ?_, HB3.out⟩
  rw [hgood.out.1]
  exact Kd.R_V (base' := w.heap.size) (Kd.R_mono (Kd.R_bound HR3.out) (fun k hk => Nat.le_trans HB1S.out hk.2.1))
end
section
attribute [local go_sem] max2_int min2_int max_two min_two max_three min_three max_four min_four
def r6_Column.f (l0 : List (List (S36))) (a1 : Int) : Option (Bool) := if a1 < 0 then (some false) else (if a1 ≥ 64 then (some false) else (if (l0.length : Int) = 0 then (some true) else (if 0 < (l0.length : Int) then (some (decide (a1 < ((rd_L4 l0 0).length : Int)))) else (none))))
theorem r6_Column.calls (A0 : Option Addr) (c0 : Nat) (l0 : List (List (S36))) (a1 : Int) (r : Bool) (w : World) (hr0 : Kd.C (Kd.slice 36 k36) w A0 l0.length l0) (hc0 : l0.length ≤ c0) (h : r6_Column.f l0 a1 = some r) :
 Calls Tryz.prog 86 #[.slice A0 l0.length c0, .int .i64 a1] w fun e w' => e = .returned (.bool r) ∧ Drawn0 w w' := by
 have HR0 := kA_ hr0
 have HC0 := kA_ hc0
 clear hr0 hc0
 have H : (if a1 < 0 then (some false) else (if a1 ≥ 64 then (some false) else (if (l0.length : Int) = 0 then (some true) else (if 0 < (l0.length : Int) then (some (decide (a1 < ((rd_L4 l0 0).length : Int)))) else (none))))) = some r := h
 clear h
 by_cases c3 : a1 < 0
 · rw [if_pos c3] at H
   have c3b0 : decide (a1 < 0) = true := dT_ c3
   clear c3
   obtain rfl := Option.some.inj H
   go_enter Tryz.func86, Tryz.ntmps86
   go_wp2
   go_ret
   exact ⟨a29_, a12_⟩
 rw [if_neg c3] at H
 have c3b0 : decide (a1 < 0) = false := dF_ c3
 clear c3
 by_cases c4 : a1 ≥ 64
 · rw [if_pos c4] at H
   have c4b0 : decide (64 ≤ a1) = true := dT_ c4
   clear c4
   obtain rfl := Option.some.inj H
   go_enter Tryz.func86, Tryz.ntmps86
   go_wp2
   go_ret
   exact ⟨a29_, a12_⟩
 rw [if_neg c4] at H
 have c4b0 : decide (64 ≤ a1) = false := dF_ c4
 clear c4
 by_cases c5 : (l0.length : Int) = 0
 · rw [if_pos c5] at H
   have c5b0 : ((l0.length : Int) == 0) = true := beq_iff_eq.mpr c5
   have c5b1 : ((l0.length : Int) != 0) = false := bne_eq_false_iff_eq.mpr c5
   clear c5
   obtain rfl := Option.some.inj H
   go_enter Tryz.func86, Tryz.ntmps86
   go_wp2
   go_ret
   exact ⟨a29_, a12_⟩
 rw [if_neg c5] at H
 have c5b0 : ((l0.length : Int) == 0) = false := beq_eq_false_iff_ne.mpr c5
 have c5b1 : ((l0.length : Int) != 0) = true := bne_iff_ne.mpr c5
 have c5b2 : ¬ (l0 = []) := fun h_ => c5 (by rw [h_]; rfl)
 by_cases c6 : 0 < (l0.length : Int)
 rotate_left
 · rw [if_neg c6] at H
   exact absurd H (by simp)
 rw [if_pos c6] at H
 have c6b0 : decide (0 < (l0.length : Int)) = true := dT_ c6
 have c6b1 : decide (0 < l0.length) = true := dT_ (by omega)
 clear c6
 obtain rfl := Option.some.inj H
 have p173 : 0 ≤ (0 : Int) := (by omega)
 have q173 : 0 < (l0.length : Int) := oT_ (by assumption)
 obtain ⟨ad173, A173_0, c173_0, e173, hx173_0, hl173_0, hi173_0⟩ := at_L4 HR0.out 0 p173 q173
 cases e173
 have qi173 : (0 < l0.length) = True := eq_true (by omega)
 (try rw [show ((0 : Int)).toNat = 0 from rfl] at hx173_0)
 (try rw [Addr.add_zero'] at hx173_0)
 have HR173_0 := kA_ hi173_0
 have HC173_0 := kA_ hl173_0
 clear hi173_0 hl173_0
 replace p173 := eq_true p173
 replace q173 := eq_true q173
 go_enter Tryz.func86, Tryz.ntmps86
 go_wp2
 go_ret
 exact ⟨a29_, a12_⟩
def r6_copyOf.l0 : Nat → List (S36) → List (S36) → Int → Option ((List (S36)))
 | 0, _, _, _ => none
 | k + 1, x0, x3, x4 => if x4 < (x0.length : Int) then (if 0 ≤ x4 then (if x3.length < 4398046511104 then (r6_copyOf.l0 k x0 (x3 ++ [(⟨(rd_T36 x0 x4).f0, (rd_T36 x0 x4).f1, (rd_T36 x0 x4).f2⟩ : S36)]) (wrap64 (x4 + 1))) else (none)) else (none)) else (some x3)
def r6_copyOf.f (k : Nat) (l0 : List (S36)) : Option ((List (S36))) := r6_copyOf.l0 k l0 ([] : List (S36)) 0
theorem r6_copyOf.calls (k : Nat) (A0 : Option Addr) (c0 : Nat) (l0 : List (S36)) (r : List (S36)) (w : World) (hr0 : Kd.C k36 w A0 l0.length l0) (hc0 : l0.length ≤ c0) (h : r6_copyOf.f k l0 = some r) :
 Calls Tryz.prog 88 #[.slice A0 l0.length c0] w fun e w' => ∃ v0_ : Value, e = .returned (v0_) ∧ Kd.R k36 36 w' w.heap.size (fun _ => True) v0_ r ∧ Below w.heap.size w w' := by
 have hu36 := Tryz.underlying36
 have HR0 := kA_ hr0
 have HC0 := kA_ hc0
 clear hr0 hc0
 have HB := kA_ (Below.refl w.heap.size w)
 have H : (r6_copyOf.l0 k l0 ([] : List (S36)) 0) = some r := h
 clear h
 have H' := kA_ H
 clear H
 go_enter Tryz.func88, Tryz.ntmps88
 go_wp2
 go_loopg [3, 4] k (fun kq v3 v4 w' => ∃ (x3_1 : List (S36)) (x4_1 : Int), v4 = .int .i64 x4_1 ∧ Aside0 (r6_copyOf.l0 kq l0 x3_1 x4_1 = some r) ∧ Aside0 (kq ≤ k) ∧ Aside0 (Kd.R k36 36 w' w.heap.size (fun _ => True) v3 x3_1) ∧ Aside0 (Below w.heap.size w w'))
 case atStart => exact ⟨(([] : List (S36))), (0), a4_, H', ⟨Nat.le_refl _⟩, ⟨a32_⟩, ⟨a2_⟩⟩
 case round =>
  clear H'
  obtain ⟨x3_1, x4_1, rfl, HA, HK1, HO_3, HB⟩ := hrel
  cases gk with
  | zero => exact absurd HA.out (by simp [r6_copyOf.l0])
  | succ k1 =>
   have H := HA.out
   clear HA
   simp only [r6_copyOf.l0] at H
   by_cases c2 : x4_1 < (l0.length : Int)
   rotate_left
   · rw [if_neg c2] at H
     have c2b0 : decide (x4_1 < (l0.length : Int)) = false := dF_ c2
     clear c2
     obtain rfl := Option.some.inj H
     go_wp2
     go_ret
     exact ⟨_, a5_, by (with_reducible repeat (first | apply Kd.R_alloc | apply Kd.R_drewN | apply Kd.R_drew)); exact HO_3.out, a2_⟩
   rw [if_pos c2] at H
   have c2b0 : decide (x4_1 < (l0.length : Int)) = true := dT_ c2
   clear c2
   by_cases c3 : 0 ≤ x4_1
   rotate_left
   · rw [if_neg c3] at H
     exact absurd H (by simp)
   rw [if_pos c3] at H
   have c3b0 : decide (0 ≤ x4_1) = true := dT_ c3
   clear c3
   by_cases c4 : x3_1.length < 4398046511104
   rotate_left
   · rw [if_neg c4] at H
     exact absurd H (by simp)
   rw [if_pos c4] at H
   have LMc4 := kA_ c4
   clear c4
   obtain ⟨y177, hy177⟩ : ∃ y_ : List (S36), y_ = (x3_1 ++ [(⟨(rd_T36 l0 x4_1).f0, (rd_T36 l0 x4_1).f1, (rd_T36 l0 x4_1).f2⟩ : S36)]) := ⟨_, rfl⟩
   replace H : (r6_copyOf.l0 k1 l0 y177 (wrap64 (x4_1 + 1))) = some r := by first | (rw [hy177]; with_reducible exact H) | (have H2_ := (Option.bind_some _ _).symm.trans H; rw [hy177]; with_reducible exact H2_) | (have H2_ := (Option.bind_some _ _).symm.trans H; with_reducible exact H2_) | with_reducible exact H | (rw [hy177]; exact H) | exact H
   have Ny177 := kA_ hy177
   clear hy177
   have H' := kA_ H
   clear H
   have p176 : 0 ≤ (x4_1 : Int) := oT_ (by assumption)
   have q176 : x4_1 < (l0.length : Int) := oT_ (by assumption)
   obtain ⟨ad176, e176, hx176_0, hx176_1, hx176_2⟩ := at_T36 HR0.out x4_1 p176 q176
   cases e176
   replace hx176_0 := cB_ HB.out hx176_0
   replace hx176_1 := cB_ HB.out hx176_1
   replace hx176_2 := cB_ HB.out hx176_2
   replace p176 := eq_true p176
   replace q176 := eq_true q176
   go_wp2_with (first | ((with_reducible refine gate_builtin (b := .append) (xs := #[.tmp 11, .tmp 16]) rfl ?_); at_builtin; refine Kd.R_append k36 (w0 := w) w.heap.size rfl (.tmp 11) (.tmp 16) 53 36 (.agg #[(.int .u8 0), (.int .i64 0), (.string ⟨#[]⟩)]) 32 rfl Tryz.underlying53 info36 rfl (by decide) (by omega) u3 x3_1 (⟨(rd_T36 l0 x4_1).f0, (rd_T36 l0 x4_1).f1, (rd_T36 l0 x4_1).f2⟩ : S36) [.int .u8 ((rd_T36 l0 x4_1).f0), .int .i64 ((rd_T36 l0 x4_1).f1), .string ((rd_T36 l0 x4_1).f2)] (fun _ => True) (fun _ => False) rfl rfl ?aP (fun _ hk => hk.elim) ?aF ?aO ?aB ?aS ?aL ?_; (case aP => exact k36_mkM _ _ _ (⟨(rd_T36 l0 x4_1).f0, (rd_T36 l0 x4_1).f1, (rd_T36 l0 x4_1).f2⟩ : S36)); (case aB => exact a0_); (case aF => exact (fun _ _ => trivial)); (case aO => exact a24_); (case aS => exact (below_size a0_)); (case aL => have := LMc4.out; omega); intro v178 w5 ho hb hg hat; rw [← Ny177.out] at ho; have n0_ := kA_ (hb); have n1_ := kA_ (ho); clear HB; clear HO_3; have HB := n0_; have HO179 := n1_; clear n0_ n1_; clear ho hb hg hat))
   go_roundg k1
   case measure => have := HK1.out; omega
   case rel => exact ⟨(y177), (wrap64 (x4_1 + 1)), a4_, H', ⟨by have := HK1.out; omega⟩, ⟨by (with_reducible repeat (first | apply Kd.R_alloc | apply Kd.R_drewN | apply Kd.R_drew)); exact HO179.out⟩, ⟨a2_⟩⟩
def r1_ints.f (a0 : Int) (a1 : Int) : Option (Int) := if a0 < a1 then (some (-1)) else (if a0 > a1 then (some 1) else (some 0))
theorem r1_ints.calls (a0 : Int) (a1 : Int) (r : Int) (w : World) (h : r1_ints.f a0 a1 = some r) :
 Calls Tryz.prog 100 #[.int .i64 a0, .int .i64 a1] w fun e w' => e = .returned (.int .i64 r) ∧ Drawn0 w w' := by
 have H : (if a0 < a1 then (some (-1)) else (if a0 > a1 then (some 1) else (some 0))) = some r := h
 clear h
 by_cases c3 : a0 < a1
 · rw [if_pos c3] at H
   have c3b0 : decide (a0 < a1) = true := dT_ c3
   clear c3
   obtain rfl := Option.some.inj H
   go_enter Tryz.func100, Tryz.ntmps100
   go_wp2
   go_ret
   exact ⟨a29_, a12_⟩
 rw [if_neg c3] at H
 have c3b0 : decide (a0 < a1) = false := dF_ c3
 clear c3
 by_cases c4 : a0 > a1
 · rw [if_pos c4] at H
   have c4b0 : decide (a1 < a0) = true := dT_ c4
   clear c4
   obtain rfl := Option.some.inj H
   go_enter Tryz.func100, Tryz.ntmps100
   go_wp2
   go_ret
   exact ⟨a29_, a12_⟩
 rw [if_neg c4] at H
 have c4b0 : decide (a1 < a0) = false := dF_ c4
 clear c4
 obtain rfl := Option.some.inj H
 go_enter Tryz.func100, Tryz.ntmps100
 go_wp2
 go_ret
 exact ⟨a29_, a12_⟩
mutual
def r1_texts.l0 : Nat → ByteArray → ByteArray → Int → Option (Int)
 | 0, _, _, _ => none
 | k + 1, x0, x1, x5 => if x5 < (x0.size : Int) then (r1_texts.j1 k x0 x1 x5 (decide (x5 < (x1.size : Int)))) else (r1_texts.j1 k x0 x1 x5 false)
def r1_texts.j1 : Nat → ByteArray → ByteArray → Int → Bool → Option (Int)
 | 0, _, _, _, _ => none
 | k + 1, x0, x1, x5, x15 => if x15 = true then (if 0 ≤ x5 then (if x5 < (x0.size : Int) then (if x5 < (x1.size : Int) then (if (bt x0 x5) < (bt x1 x5) then (some (-1)) else (if (bt x0 x5) > (bt x1 x5) then (some 1) else (r1_texts.l0 k x0 x1 (wrap64 (x5 + 1))))) else (none)) else (none)) else (none)) else (if (x0.size : Int) < (x1.size : Int) then (some (-1)) else (if (x0.size : Int) > (x1.size : Int) then (some 1) else (some 0)))
end
def r1_texts.f (k : Nat) (a0 : ByteArray) (a1 : ByteArray) : Option (Int) := r1_texts.l0 k a0 a1 0
theorem r1_texts.calls (k : Nat) (a0 : ByteArray) (a1 : ByteArray) (r : Int) (w : World) (h : r1_texts.f k a0 a1 = some r) :
 Calls Tryz.prog 101 #[.string a0, .string a1] w fun e w' => e = .returned (.int .i64 r) ∧ Drawn0 w w' := by
 have H : (r1_texts.l0 k a0 a1 0) = some r := h
 clear h
 have H' := kA_ H
 clear H
 go_enter Tryz.func101, Tryz.ntmps101
 go_wp2
 repeat (go_quiet (fail); try go_wp2)
 go_loopg [5] k (fun kq v5 w' => ∃ (x5_1 : Int), v5 = .int .i64 x5_1 ∧ Aside0 (r1_texts.l0 kq a0 a1 x5_1 = some r) ∧ Aside0 (kq ≤ k) ∧ Drawn0 w w')
 case atStart => exact ⟨(0), a4_, H', ⟨Nat.le_refl _⟩, a12_⟩
 case round =>
  clear H'
  try clear c1
  try clear p2
  obtain ⟨x5_1, rfl, HA, HK1, ⟨m1, rfl⟩⟩ := hrel
  cases gk with
  | zero => exact absurd HA.out (by simp [r1_texts.l0])
  | succ k1 =>
   have H := HA.out
   clear HA
   simp only [r1_texts.l0] at H
   have HC3 := kA_ H
   clear H
   go_upto_region 2 with (fail)
   repeat (go_quiet (fail); go_upto_region 2 with (fail))
   go_cut [15] (fun v15 wc => ∃ (kq : Nat) (x15_2 : Bool), v15 = .bool x15_2 ∧ Aside0 (r1_texts.j1 kq a0 a1 x5_1 x15_2 = some r) ∧ Aside0 (kq ≤ k1) ∧ Drawn0 w wc)
   case first =>
    have H := HC3.out
    clear HC3
    by_cases c4 : x5_1 < (a0.size : Int)
    · rw [if_pos c4] at H
      have c4b0 : decide (x5_1 < (a0.size : Int)) = true := dT_ c4
      clear c4
      (first | rw [c4b0] | (simp only [iL, iW]; rw [c4b0]) | skip)
      have H' := kA_ H
      clear H
      go_wp2
      repeat (go_quiet (fail); try go_wp2)
      go_meet
      case rel => exact ⟨_, (decide (x5_1 < (a1.size : Int))), a4_, H', ⟨a54_⟩, a12_⟩
    rw [if_neg c4] at H
    have c4b0 : decide (x5_1 < (a0.size : Int)) = false := dF_ c4
    clear c4
    (first | rw [c4b0] | (simp only [iL, iW]; rw [c4b0]) | skip)
    have H' := kA_ H
    clear H
    go_wp2
    repeat (go_quiet (fail); try go_wp2)
    go_meet
    case rel => exact ⟨_, (false), a4_, H', ⟨a54_⟩, a12_⟩
   case rest =>
    clear HC3
    try clear c1
    try clear p2
    try clear c4
    try clear c4b0
    try clear p2
    obtain ⟨kq, x15_2, rfl, HA, HJ2, ⟨mc2, rfl⟩⟩ := hcut
    cases kq with
    | zero => exact absurd HA.out (by simp [r1_texts.j1])
    | succ kj2 =>
     have H := HA.out
     clear HA
     simp only [r1_texts.j1] at H
     by_cases c5 : x15_2 = true
     rotate_left
     · replace c5 := Bool.eq_false_iff.mpr c5
       subst c5
       have H1 : (if (a0.size : Int) < (a1.size : Int) then (some (-1)) else (if (a0.size : Int) > (a1.size : Int) then (some 1) else (some 0))) = some r := by rw [if_neg (show ¬ (false = true) by decide)] at H; exact H
       clear H
       have H := H1
       clear H1
       by_cases c15 : (a0.size : Int) < (a1.size : Int)
       · rw [if_pos c15] at H
         have c15b0 : decide ((a0.size : Int) < (a1.size : Int)) = true := dT_ c15
         have c15b1 : decide (a0.size < a1.size) = true := dT_ (Int.ofNat_lt.mp c15)
         clear c15
         obtain rfl := Option.some.inj H
         go_wp2
         repeat (go_quiet (fail); try go_wp2)
         go_ret
         exact ⟨a29_, a12_⟩
       rw [if_neg c15] at H
       have c15b0 : decide ((a0.size : Int) < (a1.size : Int)) = false := dF_ c15
       have c15b1 : decide (a0.size < a1.size) = false := dF_ (fun h => c15 (Int.ofNat_lt.mpr h))
       clear c15
       by_cases c16 : (a0.size : Int) > (a1.size : Int)
       · rw [if_pos c16] at H
         have c16b0 : decide ((a1.size : Int) < (a0.size : Int)) = true := dT_ c16
         have c16b1 : decide (a1.size < a0.size) = true := dT_ (Int.ofNat_lt.mp c16)
         clear c16
         obtain rfl := Option.some.inj H
         go_wp2
         repeat (go_quiet (fail); try go_wp2)
         go_ret
         exact ⟨a29_, a12_⟩
       rw [if_neg c16] at H
       have c16b0 : decide ((a1.size : Int) < (a0.size : Int)) = false := dF_ c16
       have c16b1 : decide (a1.size < a0.size) = false := dF_ (fun h => c16 (Int.ofNat_lt.mpr h))
       clear c16
       obtain rfl := Option.some.inj H
       go_wp2
       repeat (go_quiet (fail); try go_wp2)
       go_ret
       exact ⟨a29_, a12_⟩
     subst c5
     have H1 : (if 0 ≤ x5_1 then (if x5_1 < (a0.size : Int) then (if x5_1 < (a1.size : Int) then (if (bt a0 x5_1) < (bt a1 x5_1) then (some (-1)) else (if (bt a0 x5_1) > (bt a1 x5_1) then (some 1) else (r1_texts.l0 kj2 a0 a1 (wrap64 (x5_1 + 1))))) else (none)) else (none)) else (none)) = some r := by rw [if_pos rfl] at H; exact H
     clear H
     have H := H1
     clear H1
     by_cases c6 : 0 ≤ x5_1
     rotate_left
     · rw [if_neg c6] at H
       exact absurd H (by simp)
     rw [if_pos c6] at H
     have c6b0 : decide (0 ≤ x5_1) = true := dT_ c6
     clear c6
     by_cases c7 : x5_1 < (a0.size : Int)
     rotate_left
     · rw [if_neg c7] at H
       exact absurd H (by simp)
     rw [if_pos c7] at H
     have c7b0 : decide (x5_1 < (a0.size : Int)) = true := dT_ c7
     clear c7
     by_cases c9 : x5_1 < (a1.size : Int)
     rotate_left
     · rw [if_neg c9] at H
       exact absurd H (by simp)
     rw [if_pos c9] at H
     have c9b0 : decide (x5_1 < (a1.size : Int)) = true := dT_ c9
     clear c9
     by_cases c11 : (bt a0 x5_1) < (bt a1 x5_1)
     · rw [if_pos c11] at H
       have c11b0 : decide ((bt a0 x5_1) < (bt a1 x5_1)) = true := dT_ c11
       clear c11
       obtain rfl := Option.some.inj H
       have p8 : 0 ≤ (x5_1 : Int) := oT_ (by assumption)
       have q8 : x5_1 < (a0.size : Int) := oT_ (by assumption)
       have hx8 := bt_at a0 x5_1
       replace p8 := eq_true p8
       replace q8 := eq_true q8
       have p10 : 0 ≤ (x5_1 : Int) := oT_ (by assumption)
       have q10 : x5_1 < (a1.size : Int) := oT_ (by assumption)
       have hx10 := bt_at a1 x5_1
       replace p10 := eq_true p10
       replace q10 := eq_true q10
       go_wp2
       repeat (go_quiet (fail); try go_wp2)
       go_ret
       exact ⟨a29_, a12_⟩
     rw [if_neg c11] at H
     have c11b0 : decide ((bt a0 x5_1) < (bt a1 x5_1)) = false := dF_ c11
     clear c11
     by_cases c14 : (bt a0 x5_1) > (bt a1 x5_1)
     · rw [if_pos c14] at H
       have c14b0 : decide ((bt a1 x5_1) < (bt a0 x5_1)) = true := dT_ c14
       clear c14
       obtain rfl := Option.some.inj H
       have p8 : 0 ≤ (x5_1 : Int) := oT_ (by assumption)
       have q8 : x5_1 < (a0.size : Int) := oT_ (by assumption)
       have hx8 := bt_at a0 x5_1
       replace p8 := eq_true p8
       replace q8 := eq_true q8
       have p10 : 0 ≤ (x5_1 : Int) := oT_ (by assumption)
       have q10 : x5_1 < (a1.size : Int) := oT_ (by assumption)
       have hx10 := bt_at a1 x5_1
       replace p10 := eq_true p10
       replace q10 := eq_true q10
       have p12 : 0 ≤ (x5_1 : Int) := oT_ (by assumption)
       have q12 : x5_1 < (a0.size : Int) := oT_ (by assumption)
       have hx12 := bt_at a0 x5_1
       replace p12 := eq_true p12
       replace q12 := eq_true q12
       have p13 : 0 ≤ (x5_1 : Int) := oT_ (by assumption)
       have q13 : x5_1 < (a1.size : Int) := oT_ (by assumption)
       have hx13 := bt_at a1 x5_1
       replace p13 := eq_true p13
       replace q13 := eq_true q13
       go_wp2
       repeat (go_quiet (fail); try go_wp2)
       go_ret
       exact ⟨a29_, a12_⟩
     rw [if_neg c14] at H
     have c14b0 : decide ((bt a1 x5_1) < (bt a0 x5_1)) = false := dF_ c14
     clear c14
     have H' := kA_ H
     clear H
     have p8 : 0 ≤ (x5_1 : Int) := oT_ (by assumption)
     have q8 : x5_1 < (a0.size : Int) := oT_ (by assumption)
     have hx8 := bt_at a0 x5_1
     replace p8 := eq_true p8
     replace q8 := eq_true q8
     have p10 : 0 ≤ (x5_1 : Int) := oT_ (by assumption)
     have q10 : x5_1 < (a1.size : Int) := oT_ (by assumption)
     have hx10 := bt_at a1 x5_1
     replace p10 := eq_true p10
     replace q10 := eq_true q10
     have p12 : 0 ≤ (x5_1 : Int) := oT_ (by assumption)
     have q12 : x5_1 < (a0.size : Int) := oT_ (by assumption)
     have hx12 := bt_at a0 x5_1
     replace p12 := eq_true p12
     replace q12 := eq_true q12
     have p13 : 0 ≤ (x5_1 : Int) := oT_ (by assumption)
     have q13 : x5_1 < (a1.size : Int) := oT_ (by assumption)
     have hx13 := bt_at a1 x5_1
     replace p13 := eq_true p13
     replace q13 := eq_true q13
     go_wp2
     repeat (go_quiet (fail); try go_wp2)
     go_roundg kj2
     case measure => have := HK1.out; have := HJ2.out; omega
     case rel => exact ⟨(wrap64 (x5_1 + 1)), a4_, H', ⟨by have := HK1.out; have := HJ2.out; omega⟩, a12_⟩
def r1_Compare.j0 : Nat → Int → Bool → Int → Int → ByteArray → Int → Int → ByteArray → Option (Int)
 | 0, _, _, _, _, _, _, _, _ => none
 | k + 1, x19, x22, x181000, x181001, x181002, x182000, x182001, x182002 => if x22 = true then ((r1_ints.f x181001 x182001).bind fun t183 => (some t183)) else (if x19 = 2 then ((r1_texts.f k x181002 x182002).bind fun t184 => (some t184)) else ((r1_ints.f x181001 x182001).bind fun t185 => (if t185 = 0 then ((r1_texts.f k x181002 x182002).bind fun t186 => (some t186)) else (some t185))))
def r1_Compare.f (k : Nat) (a0_0 : Int) (a0_1 : Int) (a0_2 : ByteArray) (a1_0 : Int) (a1_1 : Int) (a1_2 : ByteArray) : Option (Int) := if a0_0 = a1_0 then (if a0_0 = 0 then (some 0) else (if a0_0 = 1 then (r1_Compare.j0 k a0_0 (a0_0 == 1) a0_0 a0_1 a0_2 a1_0 a1_1 a1_2) else (r1_Compare.j0 k a0_0 (a0_0 == 3) a0_0 a0_1 a0_2 a1_0 a1_1 a1_2))) else ((r1_ints.f (wrap64 (a0_0)) (wrap64 (a1_0))).bind fun t182 => (some t182))
theorem r1_Compare.calls (k : Nat) (a0_0 : Int) (a0_1 : Int) (a0_2 : ByteArray) (a1_0 : Int) (a1_1 : Int) (a1_2 : ByteArray) (r : Int) (w : World) (h : r1_Compare.f k a0_0 a0_1 a0_2 a1_0 a1_1 a1_2 = some r) :
 Calls Tryz.prog 85 #[.agg #[.int .u8 a0_0, .int .i64 a0_1, .string a0_2], .agg #[.int .u8 a1_0, .int .i64 a1_1, .string a1_2]] w fun e w' => e = .returned (.int .i64 r) ∧ Below w.heap.size w w' := by
 have hu36 := Tryz.underlying36
 have HB := kA_ (Below.refl w.heap.size w)
 have H : (if a0_0 = a1_0 then (if a0_0 = 0 then (some 0) else (if a0_0 = 1 then (r1_Compare.j0 k a0_0 (a0_0 == 1) a0_0 a0_1 a0_2 a1_0 a1_1 a1_2) else (r1_Compare.j0 k a0_0 (a0_0 == 3) a0_0 a0_1 a0_2 a1_0 a1_1 a1_2))) else ((r1_ints.f (wrap64 (a0_0)) (wrap64 (a1_0))).bind fun t182 => (some t182))) = some r := h
 clear h
 by_cases c3 : a0_0 = a1_0
 rotate_left
 · rw [if_neg c3] at H
   have c3b0 : (a0_0 == a1_0) = false := beq_eq_false_iff_ne.mpr c3
   have c3b1 : (a0_0 != a1_0) = true := bne_iff_ne.mpr c3
   replace H := Option.bind_eq_some_iff.mp H
   obtain ⟨t182, A360, H⟩ := H
   replace H : (some t182) = some r := H
   have A36 := kA_ A360
   clear A360
   obtain rfl := Option.some.inj H
   go_enter Tryz.func85, Tryz.ntmps85
   go_wp2_with (first | ((with_reducible refine gate_dst (N := 2) rfl ?_); refine box_event ?hg (N := 2) ?hd (cs := #[.int .u8 a0_0, .int .i64 a0_1, .string a0_2]) (t := 36) ?hr ?_; (case hd => rfl); (case hg => rfl); (case hr => first | (go_simp; done) | (go_simp; rfl)); intro gb180 hg w37 hbox hb; have n0_ := kA_ (below_step a0_ hb); have n1_ := kA_ (hbox); have n2_ := kA_ ((a7_ : w.heap.size ≤ gb180)); have n3_ := kA_ ((a7_ : w.heap.size ≤ gb180)); clear HB; have HB := n0_; have BK180 := n1_; have GW180 := n2_; have GE180 := n3_; clear n0_ n1_ n2_ n3_; clear hb hbox hg) | ((with_reducible refine gate_dst (N := 3) rfl ?_); refine box_event ?hg (N := 3) ?hd (cs := #[.int .u8 a1_0, .int .i64 a1_1, .string a1_2]) (t := 36) ?hr ?_; (case hd => rfl); (case hg => rfl); (case hr => first | (go_simp; done) | (go_simp; rfl)); intro gb181 hg w38 hbox hb; have n0_ := kA_ (blk_below (g := gb180) (o := .cells #[.int .u8 a0_0, .int .i64 a0_1, .string a0_2] 36 (0, 0)) a23_ hb); have n1_ := kA_ (below_step a15_ hb); have n2_ := kA_ (hbox); have n3_ := kA_ ((a85_ : w.heap.size ≤ gb181)); have n4_ := kA_ ((a85_ : w.heap.size ≤ gb181)); have n5_ := kA_ ((by rw [hg]; exact Nat.ne_of_lt (blk_lt (g := gb180) (o := .cells #[.int .u8 a0_0, .int .i64 a0_1, .string a0_2] 36 (0, 0)) a23_) : gb180 ≠ gb181)); have n6_ := kA_ ((by rw [hg]; exact Nat.ne_of_gt (blk_lt (g := gb180) (o := .cells #[.int .u8 a0_0, .int .i64 a0_1, .string a0_2] 36 (0, 0)) a23_) : gb181 ≠ gb180)); clear BK180; clear HB; have BK180 := n0_; have HB := n1_; have BK181 := n2_; have GW181 := n3_; have GE181 := n4_; have NB180_181 := n5_; have NB181_180 := n6_; clear n0_ n1_ n2_ n3_ n4_ n5_ n6_; clear hb hbox hg; have hnb39 := NB180_181.out; have hnc39 := NB181_180.out; have hcz40_0 : w38.cell? ⟨gb180, 0, none⟩ = some (.int .u8 a0_0) := (blk_cell BK180.out 0).trans rfl; have hcz40_1 : w38.cell? ⟨gb180, 1, none⟩ = some (.int .i64 a0_1) := (blk_cell BK180.out 1).trans rfl; have hcz40_2 : w38.cell? ⟨gb180, 2, none⟩ = some (.string a0_2) := (blk_cell BK180.out 2).trans rfl; have hfz40_0 := blk_frozen BK180.out 0; have hfz40_1 := blk_frozen BK180.out 1; have hfz40_2 := blk_frozen BK180.out 2; have hcz41_0 : w38.cell? ⟨gb181, 0, none⟩ = some (.int .u8 a1_0) := (blk_cell BK181.out 0).trans rfl; have hcz41_1 : w38.cell? ⟨gb181, 1, none⟩ = some (.int .i64 a1_1) := (blk_cell BK181.out 1).trans rfl; have hcz41_2 : w38.cell? ⟨gb181, 2, none⟩ = some (.string a1_2) := (blk_cell BK181.out 2).trans rfl; have hfz41_0 := blk_frozen BK181.out 0; have hfz41_1 := blk_frozen BK181.out 1; have hfz41_2 := blk_frozen BK181.out 2) | ((with_reducible refine gate_callee (f := 100) rfl ?_); refine goesL_ (some 17) rfl rfl Tryz.func100 a3_ rfl #[.int .i64 (wrap64 (a0_0)), .int .i64 (wrap64 (a1_0))] rfl a1_ ?_; (with_reducible refine (r1_ints.calls (wrap64 (a0_0)) (wrap64 (a1_0)) t182 _ A36.out).mono ?_); rintro e w' ⟨rfl, ⟨nd, rfl⟩⟩; refine ⟨_, rfl, ?_⟩))
   go_ret
   exact ⟨a5_, a25_⟩
 rw [if_pos c3] at H
 have c3b0 : (a0_0 == a1_0) = true := beq_iff_eq.mpr c3
 have c3b1 : (a0_0 != a1_0) = false := bne_eq_false_iff_eq.mpr c3
 clear c3
 by_cases c4 : a0_0 = 0
 · rw [if_pos c4] at H
   have c4b0 : (a0_0 == 0) = true := beq_iff_eq.mpr c4
   have c4b1 : (a0_0 != 0) = false := bne_eq_false_iff_eq.mpr c4
   clear c4
   obtain rfl := Option.some.inj H
   go_enter Tryz.func85, Tryz.ntmps85
   go_wp2_with (first | ((with_reducible refine gate_dst (N := 2) rfl ?_); refine box_event ?hg (N := 2) ?hd (cs := #[.int .u8 a0_0, .int .i64 a0_1, .string a0_2]) (t := 36) ?hr ?_; (case hd => rfl); (case hg => rfl); (case hr => first | (go_simp; done) | (go_simp; rfl)); intro gb180 hg w5 hbox hb; have n0_ := kA_ (below_step a0_ hb); have n1_ := kA_ (hbox); have n2_ := kA_ ((a7_ : w.heap.size ≤ gb180)); have n3_ := kA_ ((a7_ : w.heap.size ≤ gb180)); clear HB; have HB := n0_; have BK180 := n1_; have GW180 := n2_; have GE180 := n3_; clear n0_ n1_ n2_ n3_; clear hb hbox hg) | ((with_reducible refine gate_dst (N := 3) rfl ?_); refine box_event ?hg (N := 3) ?hd (cs := #[.int .u8 a1_0, .int .i64 a1_1, .string a1_2]) (t := 36) ?hr ?_; (case hd => rfl); (case hg => rfl); (case hr => first | (go_simp; done) | (go_simp; rfl)); intro gb181 hg w6 hbox hb; have n0_ := kA_ (blk_below (g := gb180) (o := .cells #[.int .u8 a0_0, .int .i64 a0_1, .string a0_2] 36 (0, 0)) a23_ hb); have n1_ := kA_ (below_step a15_ hb); have n2_ := kA_ (hbox); have n3_ := kA_ ((a85_ : w.heap.size ≤ gb181)); have n4_ := kA_ ((a85_ : w.heap.size ≤ gb181)); have n5_ := kA_ ((by rw [hg]; exact Nat.ne_of_lt (blk_lt (g := gb180) (o := .cells #[.int .u8 a0_0, .int .i64 a0_1, .string a0_2] 36 (0, 0)) a23_) : gb180 ≠ gb181)); have n6_ := kA_ ((by rw [hg]; exact Nat.ne_of_gt (blk_lt (g := gb180) (o := .cells #[.int .u8 a0_0, .int .i64 a0_1, .string a0_2] 36 (0, 0)) a23_) : gb181 ≠ gb180)); clear BK180; clear HB; have BK180 := n0_; have HB := n1_; have BK181 := n2_; have GW181 := n3_; have GE181 := n4_; have NB180_181 := n5_; have NB181_180 := n6_; clear n0_ n1_ n2_ n3_ n4_ n5_ n6_; clear hb hbox hg; have hnb7 := NB180_181.out; have hnc7 := NB181_180.out; have hcz8_0 : w6.cell? ⟨gb180, 0, none⟩ = some (.int .u8 a0_0) := (blk_cell BK180.out 0).trans rfl; have hcz8_1 : w6.cell? ⟨gb180, 1, none⟩ = some (.int .i64 a0_1) := (blk_cell BK180.out 1).trans rfl; have hcz8_2 : w6.cell? ⟨gb180, 2, none⟩ = some (.string a0_2) := (blk_cell BK180.out 2).trans rfl; have hfz8_0 := blk_frozen BK180.out 0; have hfz8_1 := blk_frozen BK180.out 1; have hfz8_2 := blk_frozen BK180.out 2; have hcz9_0 : w6.cell? ⟨gb181, 0, none⟩ = some (.int .u8 a1_0) := (blk_cell BK181.out 0).trans rfl; have hcz9_1 : w6.cell? ⟨gb181, 1, none⟩ = some (.int .i64 a1_1) := (blk_cell BK181.out 1).trans rfl; have hcz9_2 : w6.cell? ⟨gb181, 2, none⟩ = some (.string a1_2) := (blk_cell BK181.out 2).trans rfl; have hfz9_0 := blk_frozen BK181.out 0; have hfz9_1 := blk_frozen BK181.out 1; have hfz9_2 := blk_frozen BK181.out 2))
   go_ret
   exact ⟨a5_, a25_⟩
 rw [if_neg c4] at H
 have c4b0 : (a0_0 == 0) = false := beq_eq_false_iff_ne.mpr c4
 have c4b1 : (a0_0 != 0) = true := bne_iff_ne.mpr c4
 have HC10 := kA_ H
 clear H
 go_enter Tryz.func85, Tryz.ntmps85
 go_upto_if 22 with (first | ((with_reducible refine gate_dst (N := 2) rfl ?_); refine box_event ?hg (N := 2) ?hd (cs := #[.int .u8 a0_0, .int .i64 a0_1, .string a0_2]) (t := 36) ?hr ?_; (case hd => rfl); (case hg => rfl); (case hr => first | (go_simp; done) | (go_simp; rfl)); intro gb180 hg w11 hbox hb; have n0_ := kA_ (below_step a0_ hb); have n1_ := kA_ (hbox); have n2_ := kA_ ((a7_ : w.heap.size ≤ gb180)); have n3_ := kA_ ((a7_ : w.heap.size ≤ gb180)); clear HB; have HB := n0_; have BK180 := n1_; have GW180 := n2_; have GE180 := n3_; clear n0_ n1_ n2_ n3_; clear hb hbox hg) | ((with_reducible refine gate_dst (N := 3) rfl ?_); refine box_event ?hg (N := 3) ?hd (cs := #[.int .u8 a1_0, .int .i64 a1_1, .string a1_2]) (t := 36) ?hr ?_; (case hd => rfl); (case hg => rfl); (case hr => first | (go_simp; done) | (go_simp; rfl)); intro gb181 hg w12 hbox hb; have n0_ := kA_ (blk_below (g := gb180) (o := .cells #[.int .u8 a0_0, .int .i64 a0_1, .string a0_2] 36 (0, 0)) a23_ hb); have n1_ := kA_ (below_step a15_ hb); have n2_ := kA_ (hbox); have n3_ := kA_ ((a85_ : w.heap.size ≤ gb181)); have n4_ := kA_ ((a85_ : w.heap.size ≤ gb181)); have n5_ := kA_ ((by rw [hg]; exact Nat.ne_of_lt (blk_lt (g := gb180) (o := .cells #[.int .u8 a0_0, .int .i64 a0_1, .string a0_2] 36 (0, 0)) a23_) : gb180 ≠ gb181)); have n6_ := kA_ ((by rw [hg]; exact Nat.ne_of_gt (blk_lt (g := gb180) (o := .cells #[.int .u8 a0_0, .int .i64 a0_1, .string a0_2] 36 (0, 0)) a23_) : gb181 ≠ gb180)); clear BK180; clear HB; have BK180 := n0_; have HB := n1_; have BK181 := n2_; have GW181 := n3_; have GE181 := n4_; have NB180_181 := n5_; have NB181_180 := n6_; clear n0_ n1_ n2_ n3_ n4_ n5_ n6_; clear hb hbox hg; have hnb13 := NB180_181.out; have hnc13 := NB181_180.out; have hcz14_0 : w12.cell? ⟨gb180, 0, none⟩ = some (.int .u8 a0_0) := (blk_cell BK180.out 0).trans rfl; have hcz14_1 : w12.cell? ⟨gb180, 1, none⟩ = some (.int .i64 a0_1) := (blk_cell BK180.out 1).trans rfl; have hcz14_2 : w12.cell? ⟨gb180, 2, none⟩ = some (.string a0_2) := (blk_cell BK180.out 2).trans rfl; have hfz14_0 := blk_frozen BK180.out 0; have hfz14_1 := blk_frozen BK180.out 1; have hfz14_2 := blk_frozen BK180.out 2; have hcz15_0 : w12.cell? ⟨gb181, 0, none⟩ = some (.int .u8 a1_0) := (blk_cell BK181.out 0).trans rfl; have hcz15_1 : w12.cell? ⟨gb181, 1, none⟩ = some (.int .i64 a1_1) := (blk_cell BK181.out 1).trans rfl; have hcz15_2 : w12.cell? ⟨gb181, 2, none⟩ = some (.string a1_2) := (blk_cell BK181.out 2).trans rfl; have hfz15_0 := blk_frozen BK181.out 0; have hfz15_1 := blk_frozen BK181.out 1; have hfz15_2 := blk_frozen BK181.out 2))
 (try simp only [Act.put, tA, tZ, tS])
 go_cut [22] (fun v22 wc => ∃ (kq : Nat) (x22_9 : Bool), v22 = .bool x22_9 ∧ Aside0 (r1_Compare.j0 kq a0_0 x22_9 a0_0 a0_1 a0_2 a1_0 a1_1 a1_2 = some r) ∧ Aside0 (kq ≤ k) ∧ Aside0 (wc.heap[gb180]? = some (.cells #[.int .u8 a0_0, .int .i64 a0_1, .string a0_2] 36 (0, 0))) ∧ Aside0 (wc.heap[gb181]? = some (.cells #[.int .u8 a1_0, .int .i64 a1_1, .string a1_2] 36 (0, 0))) ∧ Aside0 (Below w.heap.size w wc))
 case first =>
  have H := HC10.out
  clear HC10
  by_cases c16 : a0_0 = 1
  · rw [if_pos c16] at H
    have c16b0 : (a0_0 == 1) = true := beq_iff_eq.mpr c16
    have c16b1 : (a0_0 != 1) = false := bne_eq_false_iff_eq.mpr c16
    clear c16
    (first | rw [c16b0] | (simp only [iL, iW]; rw [c16b0]) | skip)
    have H' := kA_ H
    clear H
    go_wp2
    go_meet
    case rel => exact ⟨_, ((a0_0 == 1)), a4_, H', ⟨by first | omega | exact Nat.le_refl _⟩, ⟨a89_⟩, ⟨a90_⟩, ⟨a25_⟩⟩
  rw [if_neg c16] at H
  have c16b0 : (a0_0 == 1) = false := beq_eq_false_iff_ne.mpr c16
  have c16b1 : (a0_0 != 1) = true := bne_iff_ne.mpr c16
  (first | rw [c16b0] | (simp only [iL, iW]; rw [c16b0]) | skip)
  have H' := kA_ H
  clear H
  go_wp2
  go_meet
  case rel => exact ⟨_, ((a0_0 == 3)), a4_, H', ⟨by first | omega | exact Nat.le_refl _⟩, ⟨a89_⟩, ⟨a90_⟩, ⟨a25_⟩⟩
 case rest =>
  clear HC10
  try clear c1
  try clear p2
  try clear c3
  try clear c3b0
  try clear c3b1
  try clear c4
  try clear c4b0
  try clear c4b1
  try clear p6
  try clear c7
  try clear c8
  try clear c13
  try clear c16
  try clear c16b0
  try clear c16b1
  try clear hcz14_0
  try clear hcz14_1
  try clear hcz14_2
  try clear hcz15_0
  try clear hcz15_1
  try clear hcz15_2
  try clear hcz8_0
  try clear hcz8_1
  try clear hcz8_2
  try clear hcz9_0
  try clear hcz9_1
  try clear hcz9_2
  try clear hfz14_0
  try clear hfz14_1
  try clear hfz14_2
  try clear hfz15_0
  try clear hfz15_1
  try clear hfz15_2
  try clear hfz8_0
  try clear hfz8_1
  try clear hfz8_2
  try clear hfz9_0
  try clear hfz9_1
  try clear hfz9_2
  obtain ⟨kq, x22_9, rfl, HA, HJ9, BK180, BK181, HB⟩ := hcut
  cases kq with
  | zero => exact absurd HA.out (by simp [r1_Compare.j0])
  | succ kj9 =>
   have H := HA.out
   clear HA
   simp only [r1_Compare.j0] at H
   by_cases c17 : x22_9 = true
   · subst c17
     have H1 : ((r1_ints.f a0_1 a1_1).bind fun t183 => (some t183)) = some r := by rw [if_pos rfl] at H; exact H
     clear H
     have H := H1
     clear H1
     replace H := Option.bind_eq_some_iff.mp H
     obtain ⟨t183, A180, H⟩ := H
     replace H : (some t183) = some r := H
     have A18 := kA_ A180
     clear A180
     obtain rfl := Option.some.inj H
     have hnb19 := NB180_181.out
     have hnc19 := NB181_180.out
     have hcz20_0 : wc.cell? ⟨gb180, 0, none⟩ = some (.int .u8 a0_0) := (blk_cell BK180.out 0).trans rfl
     have hcz20_1 : wc.cell? ⟨gb180, 1, none⟩ = some (.int .i64 a0_1) := (blk_cell BK180.out 1).trans rfl
     have hcz20_2 : wc.cell? ⟨gb180, 2, none⟩ = some (.string a0_2) := (blk_cell BK180.out 2).trans rfl
     have hfz20_0 := blk_frozen BK180.out 0
     have hfz20_1 := blk_frozen BK180.out 1
     have hfz20_2 := blk_frozen BK180.out 2
     have hcz21_0 : wc.cell? ⟨gb181, 0, none⟩ = some (.int .u8 a1_0) := (blk_cell BK181.out 0).trans rfl
     have hcz21_1 : wc.cell? ⟨gb181, 1, none⟩ = some (.int .i64 a1_1) := (blk_cell BK181.out 1).trans rfl
     have hcz21_2 : wc.cell? ⟨gb181, 2, none⟩ = some (.string a1_2) := (blk_cell BK181.out 2).trans rfl
     have hfz21_0 := blk_frozen BK181.out 0
     have hfz21_1 := blk_frozen BK181.out 1
     have hfz21_2 := blk_frozen BK181.out 2
     go_wp2_with (first | ((with_reducible refine gate_callee (f := 100) rfl ?_); refine goesL_ (some 29) rfl rfl Tryz.func100 a3_ rfl #[.int .i64 a0_1, .int .i64 a1_1] rfl a1_ ?_; (with_reducible refine (r1_ints.calls a0_1 a1_1 t183 _ A18.out).mono ?_); rintro e w' ⟨rfl, ⟨nd, rfl⟩⟩; refine ⟨_, rfl, ?_⟩))
     go_ret
     exact ⟨a5_, a25_⟩
   replace c17 := Bool.eq_false_iff.mpr c17
   subst c17
   have H1 : (if a0_0 = 2 then ((r1_texts.f kj9 a0_2 a1_2).bind fun t184 => (some t184)) else ((r1_ints.f a0_1 a1_1).bind fun t185 => (if t185 = 0 then ((r1_texts.f kj9 a0_2 a1_2).bind fun t186 => (some t186)) else (some t185)))) = some r := by rw [if_neg (show ¬ (false = true) by decide)] at H; exact H
   clear H
   have H := H1
   clear H1
   by_cases c22 : a0_0 = 2
   · rw [if_pos c22] at H
     have c22b0 : (a0_0 == 2) = true := beq_iff_eq.mpr c22
     have c22b1 : (a0_0 != 2) = false := bne_eq_false_iff_eq.mpr c22
     clear c22
     replace H := Option.bind_eq_some_iff.mp H
     obtain ⟨t184, A230, H⟩ := H
     replace H : (some t184) = some r := H
     have A23 := kA_ A230
     clear A230
     obtain rfl := Option.some.inj H
     have hnb24 := NB180_181.out
     have hnc24 := NB181_180.out
     have hcz25_0 : wc.cell? ⟨gb180, 0, none⟩ = some (.int .u8 a0_0) := (blk_cell BK180.out 0).trans rfl
     have hcz25_1 : wc.cell? ⟨gb180, 1, none⟩ = some (.int .i64 a0_1) := (blk_cell BK180.out 1).trans rfl
     have hcz25_2 : wc.cell? ⟨gb180, 2, none⟩ = some (.string a0_2) := (blk_cell BK180.out 2).trans rfl
     have hfz25_0 := blk_frozen BK180.out 0
     have hfz25_1 := blk_frozen BK180.out 1
     have hfz25_2 := blk_frozen BK180.out 2
     have hcz26_0 : wc.cell? ⟨gb181, 0, none⟩ = some (.int .u8 a1_0) := (blk_cell BK181.out 0).trans rfl
     have hcz26_1 : wc.cell? ⟨gb181, 1, none⟩ = some (.int .i64 a1_1) := (blk_cell BK181.out 1).trans rfl
     have hcz26_2 : wc.cell? ⟨gb181, 2, none⟩ = some (.string a1_2) := (blk_cell BK181.out 2).trans rfl
     have hfz26_0 := blk_frozen BK181.out 0
     have hfz26_1 := blk_frozen BK181.out 1
     have hfz26_2 := blk_frozen BK181.out 2
     go_wp2_with (first | ((with_reducible refine gate_callee (f := 101) rfl ?_); refine goesL_ (some 36) rfl rfl Tryz.func101 a3_ rfl #[.string a0_2, .string a1_2] rfl a1_ ?_; (with_reducible refine (r1_texts.calls kj9 a0_2 a1_2 t184 _ A23.out).mono ?_); rintro e w' ⟨rfl, ⟨nd, rfl⟩⟩; refine ⟨_, rfl, ?_⟩))
     go_ret
     exact ⟨a5_, a25_⟩
   rw [if_neg c22] at H
   have c22b0 : (a0_0 == 2) = false := beq_eq_false_iff_ne.mpr c22
   have c22b1 : (a0_0 != 2) = true := bne_iff_ne.mpr c22
   replace H := Option.bind_eq_some_iff.mp H
   obtain ⟨t185, A270, H⟩ := H
   replace H : (if t185 = 0 then ((r1_texts.f kj9 a0_2 a1_2).bind fun t186 => (some t186)) else (some t185)) = some r := H
   have A27 := kA_ A270
   clear A270
   by_cases c28 : t185 = 0
   rotate_left
   · rw [if_neg c28] at H
     have c28b0 : (t185 == 0) = false := beq_eq_false_iff_ne.mpr c28
     have c28b1 : (t185 != 0) = true := bne_iff_ne.mpr c28
     obtain rfl := Option.some.inj H
     have hnb33 := NB180_181.out
     have hnc33 := NB181_180.out
     have hcz34_0 : wc.cell? ⟨gb180, 0, none⟩ = some (.int .u8 a0_0) := (blk_cell BK180.out 0).trans rfl
     have hcz34_1 : wc.cell? ⟨gb180, 1, none⟩ = some (.int .i64 a0_1) := (blk_cell BK180.out 1).trans rfl
     have hcz34_2 : wc.cell? ⟨gb180, 2, none⟩ = some (.string a0_2) := (blk_cell BK180.out 2).trans rfl
     have hfz34_0 := blk_frozen BK180.out 0
     have hfz34_1 := blk_frozen BK180.out 1
     have hfz34_2 := blk_frozen BK180.out 2
     have hcz35_0 : wc.cell? ⟨gb181, 0, none⟩ = some (.int .u8 a1_0) := (blk_cell BK181.out 0).trans rfl
     have hcz35_1 : wc.cell? ⟨gb181, 1, none⟩ = some (.int .i64 a1_1) := (blk_cell BK181.out 1).trans rfl
     have hcz35_2 : wc.cell? ⟨gb181, 2, none⟩ = some (.string a1_2) := (blk_cell BK181.out 2).trans rfl
     have hfz35_0 := blk_frozen BK181.out 0
     have hfz35_1 := blk_frozen BK181.out 1
     have hfz35_2 := blk_frozen BK181.out 2
     go_wp2_with (first | ((with_reducible refine gate_callee (f := 100) rfl ?_); refine goesL_ (some 41) rfl rfl Tryz.func100 a3_ rfl #[.int .i64 a0_1, .int .i64 a1_1] rfl a1_ ?_; (with_reducible refine (r1_ints.calls a0_1 a1_1 t185 _ A27.out).mono ?_); rintro e w' ⟨rfl, ⟨nd, rfl⟩⟩; refine ⟨_, rfl, ?_⟩))
     go_ret
     exact ⟨a5_, a25_⟩
   rw [if_pos c28] at H
   have c28b0 : (t185 == 0) = true := beq_iff_eq.mpr c28
   have c28b1 : (t185 != 0) = false := bne_eq_false_iff_eq.mpr c28
   clear c28
   replace H := Option.bind_eq_some_iff.mp H
   obtain ⟨t186, A290, H⟩ := H
   replace H : (some t186) = some r := H
   have A29 := kA_ A290
   clear A290
   obtain rfl := Option.some.inj H
   have hnb30 := NB180_181.out
   have hnc30 := NB181_180.out
   have hcz31_0 : wc.cell? ⟨gb180, 0, none⟩ = some (.int .u8 a0_0) := (blk_cell BK180.out 0).trans rfl
   have hcz31_1 : wc.cell? ⟨gb180, 1, none⟩ = some (.int .i64 a0_1) := (blk_cell BK180.out 1).trans rfl
   have hcz31_2 : wc.cell? ⟨gb180, 2, none⟩ = some (.string a0_2) := (blk_cell BK180.out 2).trans rfl
   have hfz31_0 := blk_frozen BK180.out 0
   have hfz31_1 := blk_frozen BK180.out 1
   have hfz31_2 := blk_frozen BK180.out 2
   have hcz32_0 : wc.cell? ⟨gb181, 0, none⟩ = some (.int .u8 a1_0) := (blk_cell BK181.out 0).trans rfl
   have hcz32_1 : wc.cell? ⟨gb181, 1, none⟩ = some (.int .i64 a1_1) := (blk_cell BK181.out 1).trans rfl
   have hcz32_2 : wc.cell? ⟨gb181, 2, none⟩ = some (.string a1_2) := (blk_cell BK181.out 2).trans rfl
   have hfz32_0 := blk_frozen BK181.out 0
   have hfz32_1 := blk_frozen BK181.out 1
   have hfz32_2 := blk_frozen BK181.out 2
   go_wp2_with (first | ((with_reducible refine gate_callee (f := 100) rfl ?_); refine goesL_ (some 41) rfl rfl Tryz.func100 a3_ rfl #[.int .i64 a0_1, .int .i64 a1_1] rfl a1_ ?_; (with_reducible refine (r1_ints.calls a0_1 a1_1 t185 _ A27.out).mono ?_); rintro e w' ⟨rfl, ⟨nd, rfl⟩⟩; refine ⟨_, rfl, ?_⟩) | ((with_reducible refine gate_callee (f := 101) rfl ?_); refine goesL_ (some 49) rfl rfl Tryz.func101 a3_ rfl #[.string a0_2, .string a1_2] rfl a1_ ?_; (with_reducible refine (r1_texts.calls kj9 a0_2 a1_2 t186 _ A29.out).mono ?_); rintro e w' ⟨rfl, ⟨nd, rfl⟩⟩; refine ⟨_, rfl, ?_⟩))
   go_ret
   exact ⟨a5_, a25_⟩
mutual
def r6_CompareBy.l0 : Nat → List (S36) → List (S36) → List (S64) → Int → Option (Int)
 | 0, _, _, _, _ => none
 | k + 1, x0, x1, x2, x7 => if x7 < (x2.length : Int) then (if 0 ≤ x7 then (if ((rd_T64 x2 x7).f0) < 0 then (r6_CompareBy.j1 k x0 x1 x2 x7 ((rd_T64 x2 x7).f0) true) else (if ((rd_T64 x2 x7).f0) ≥ (x0.length : Int) then (r6_CompareBy.j1 k x0 x1 x2 x7 ((rd_T64 x2 x7).f0) true) else (r6_CompareBy.j1 k x0 x1 x2 x7 ((rd_T64 x2 x7).f0) (decide (((rd_T64 x2 x7).f0) ≥ (x1.length : Int)))))) else (none)) else (some 0)
def r6_CompareBy.j1 : Nat → List (S36) → List (S36) → List (S64) → Int → Int → Bool → Option (Int)
 | 0, _, _, _, _, _, _ => none
 | k + 1, x0, x1, x2, x7, x8, x34 => if x34 = true then (some 0) else (if 0 ≤ x8 then (if x8 < (x0.length : Int) then (if x8 < (x1.length : Int) then ((r1_Compare.f k ((rd_T36 x0 x8).f0) ((rd_T36 x0 x8).f1) ((rd_T36 x0 x8).f2) ((rd_T36 x1 x8).f0) ((rd_T36 x1 x8).f1) ((rd_T36 x1 x8).f2)).bind fun t190 => (if t190 = 0 then (r6_CompareBy.j2 k x0 x1 x2 x7 t190 false) else (if 0 ≤ x7 then (if x7 < (x2.length : Int) then (r6_CompareBy.j2 k x0 x1 x2 x7 t190 ((rd_T64 x2 x7).f1)) else (none)) else (none)))) else (none)) else (none)) else (none))
def r6_CompareBy.j2 : Nat → List (S36) → List (S36) → List (S64) → Int → Int → Bool → Option (Int)
 | 0, _, _, _, _, _, _ => none
 | k + 1, x0, x1, x2, x7, x9, x52 => if x52 = true then (some (wrap64 (-x9))) else (if x9 = 0 then (r6_CompareBy.l0 k x0 x1 x2 (wrap64 (x7 + 1))) else (some x9))
end
def r6_CompareBy.f (k : Nat) (l0 : List (S36)) (l1 : List (S36)) (l2 : List (S64)) : Option (Int) := r6_CompareBy.l0 k l0 l1 l2 0
def r6_CompareBy.T7 : Bool × List (List Nat × List Nat) := (true, [([], []), ([], []), ([0, 1], [0, 1]), ([2], [2]), ([], []), ([], []), ([4, 5], [4, 5]), ([6], [6]), ([3, 7], [3, 7]), ([8, 8, 0, 1, 2, 3, 4, 5, 6, 7, 8], [8])])
def r6_CompareBy.B7 : List Nat := [0, 0, 3, 7, 0, 0, 48, 112, 255, 511]
theorem r6_CompareBy.tab7 : rtab .any (opsOf Tryz.f66 7) = r6_CompareBy.T7 := by kernel_rfl
theorem r6_CompareBy.bits7 : waitsOk r6_CompareBy.T7.2 r6_CompareBy.B7 = true := by kernel_rfl
theorem r6_CompareBy.calls (k : Nat) (A0 : Option Addr) (c0 : Nat) (l0 : List (S36)) (A1 : Option Addr) (c1 : Nat) (l1 : List (S36)) (A2 : Option Addr) (c2 : Nat) (l2 : List (S64)) (r : Int) (w : World) (hr0 : Kd.C k36 w A0 l0.length l0) (hc0 : l0.length ≤ c0) (hr1 : Kd.C k36 w A1 l1.length l1) (hc1 : l1.length ≤ c1) (hr2 : Kd.C k64 w A2 l2.length l2) (hc2 : l2.length ≤ c2) (h : r6_CompareBy.f k l0 l1 l2 = some r) :
 Calls Tryz.prog 66 #[.slice A0 l0.length c0, .slice A1 l1.length c1, .slice A2 l2.length c2] w fun e w' => e = .returned (.int .i64 r) ∧ Below w.heap.size w w' := by
 have hu36 := Tryz.underlying36
 have HR0 := kA_ hr0
 have HC0 := kA_ hc0
 clear hr0 hc0
 have HR1 := kA_ hr1
 have HC1 := kA_ hc1
 clear hr1 hc1
 have HR2 := kA_ hr2
 have HC2 := kA_ hc2
 clear hr2 hc2
 have HB := kA_ (Below.refl w.heap.size w)
 have H : (r6_CompareBy.l0 k l0 l1 l2 0) = some r := h
 clear h
 have H' := kA_ H
 clear H
 go_enter Tryz.func66, Tryz.ntmps66
 go_wp2
 go_loopg [7] k (fun kq v7 w' => ∃ (x7_1 : Int), v7 = .int .i64 x7_1 ∧ Aside0 (r6_CompareBy.l0 kq l0 l1 l2 x7_1 = some r) ∧ Aside0 (kq ≤ k) ∧ Aside0 (Below w.heap.size w w'))
 case atStart => exact ⟨(0), a4_, H', ⟨Nat.le_refl _⟩, ⟨a2_⟩⟩
 case round =>
  clear H'
  try clear c1
  try clear c2
  try clear p2
  obtain ⟨x7_1, rfl, HA, HK1, HB⟩ := hrel
  cases gk with
  | zero => exact absurd HA.out (by simp [r6_CompareBy.l0])
  | succ k1 =>
   have H := HA.out
   clear HA
   simp only [r6_CompareBy.l0] at H
   by_cases c4 : x7_1 < (l2.length : Int)
   rotate_left
   · rw [if_neg c4] at H
     have c4b0 : decide (x7_1 < (l2.length : Int)) = false := dF_ c4
     clear c4
     obtain rfl := Option.some.inj H
     go_wp2
     go_ret
     exact ⟨a5_, a2_⟩
   rw [if_pos c4] at H
   have c4b0 : decide (x7_1 < (l2.length : Int)) = true := dT_ c4
   clear c4
   by_cases c5 : 0 ≤ x7_1
   rotate_left
   · rw [if_neg c5] at H
     exact absurd H (by simp)
   rw [if_pos c5] at H
   have c5b0 : decide (0 ≤ x7_1) = true := dT_ c5
   clear c5
   have HC6 := kA_ H
   clear H
   have p187 : 0 ≤ (x7_1 : Int) := oT_ (by assumption)
   have q187 : x7_1 < (l2.length : Int) := oT_ (by assumption)
   obtain ⟨ad187, e187, hx187_0, hx187_1⟩ := at_T64 HR2.out x7_1 p187 q187
   cases e187
   replace hx187_0 := cB_ HB.out hx187_0
   replace hx187_1 := cB_ HB.out hx187_1
   replace p187 := eq_true p187
   replace q187 := eq_true q187
   go_upto_region 5 with (fail)
   go_cut [34] (fun v34 wc => ∃ (kq : Nat) (x34_5 : Bool), v34 = .bool x34_5 ∧ Aside0 (r6_CompareBy.j1 kq l0 l1 l2 x7_1 ((rd_T64 l2 x7_1).f0) x34_5 = some r) ∧ Aside0 (kq ≤ k1) ∧ Aside0 (Below w.heap.size w wc))
   case first =>
    have H := HC6.out
    clear HC6
    by_cases c7 : ((rd_T64 l2 x7_1).f0) < 0
    · rw [if_pos c7] at H
      have c7b0 : decide (((rd_T64 l2 x7_1).f0) < 0) = true := dT_ c7
      clear c7
      (first | rw [c7b0] | (simp only [iL, iW]; rw [c7b0]) | skip)
      have H' := kA_ H
      clear H
      go_wp2
      go_meet
      case rel => exact ⟨_, (true), a4_, H', ⟨a54_⟩, ⟨a2_⟩⟩
    rw [if_neg c7] at H
    have c7b0 : decide (((rd_T64 l2 x7_1).f0) < 0) = false := dF_ c7
    clear c7
    (first | rw [c7b0] | (simp only [iL, iW]; rw [c7b0]) | skip)
    by_cases c8 : ((rd_T64 l2 x7_1).f0) ≥ (l0.length : Int)
    · rw [if_pos c8] at H
      have c8b0 : decide ((l0.length : Int) ≤ ((rd_T64 l2 x7_1).f0)) = true := dT_ c8
      clear c8
      have H' := kA_ H
      clear H
      go_wp2
      go_meet
      case rel => exact ⟨_, (true), a4_, H', ⟨a54_⟩, ⟨a2_⟩⟩
    rw [if_neg c8] at H
    have c8b0 : decide ((l0.length : Int) ≤ ((rd_T64 l2 x7_1).f0)) = false := dF_ c8
    clear c8
    have H' := kA_ H
    clear H
    go_wp2
    go_meet
    case rel => exact ⟨_, (decide (((rd_T64 l2 x7_1).f0) ≥ (l1.length : Int))), a4_, H', ⟨a54_⟩, ⟨a2_⟩⟩
   case rest =>
    clear HC6
    try clear c1
    try clear p1
    try clear q1
    try clear hx1
    try clear c2
    try clear p2
    try clear c4
    try clear c4b0
    try clear c5
    try clear c5b0
    try clear c6
    try clear c7
    try clear c7b0
    try clear c8
    try clear c8b0
    try clear hx187_0
    try clear hx187_1
    try clear p187
    try clear p2
    try clear q187
    obtain ⟨kq, x34_5, rfl, HA, HJ5, HB⟩ := hcut
    cases kq with
    | zero => exact absurd HA.out (by simp [r6_CompareBy.j1])
    | succ kj5 =>
     have H := HA.out
     clear HA
     simp only [r6_CompareBy.j1] at H
     by_cases c9 : x34_5 = true
     · subst c9
       have H1 : (some 0) = some r := by rw [if_pos rfl] at H; exact H
       clear H
       have H := H1
       clear H1
       obtain rfl := Option.some.inj H
       go_wp2
       go_ret
       exact ⟨a5_, a2_⟩
     replace c9 := Bool.eq_false_iff.mpr c9
     subst c9
     have H1 : (if 0 ≤ ((rd_T64 l2 x7_1).f0) then (if ((rd_T64 l2 x7_1).f0) < (l0.length : Int) then (if ((rd_T64 l2 x7_1).f0) < (l1.length : Int) then ((r1_Compare.f kj5 ((rd_T36 l0 ((rd_T64 l2 x7_1).f0)).f0) ((rd_T36 l0 ((rd_T64 l2 x7_1).f0)).f1) ((rd_T36 l0 ((rd_T64 l2 x7_1).f0)).f2) ((rd_T36 l1 ((rd_T64 l2 x7_1).f0)).f0) ((rd_T36 l1 ((rd_T64 l2 x7_1).f0)).f1) ((rd_T36 l1 ((rd_T64 l2 x7_1).f0)).f2)).bind fun t190 => (if t190 = 0 then (r6_CompareBy.j2 kj5 l0 l1 l2 x7_1 t190 false) else (if 0 ≤ x7_1 then (if x7_1 < (l2.length : Int) then (r6_CompareBy.j2 kj5 l0 l1 l2 x7_1 t190 ((rd_T64 l2 x7_1).f1)) else (none)) else (none)))) else (none)) else (none)) else (none)) = some r := by rw [if_neg (show ¬ (false = true) by decide)] at H; exact H
     clear H
     have H := H1
     clear H1
     by_cases c10 : 0 ≤ ((rd_T64 l2 x7_1).f0)
     rotate_left
     · rw [if_neg c10] at H
       exact absurd H (by simp)
     rw [if_pos c10] at H
     have c10b0 : decide (0 ≤ ((rd_T64 l2 x7_1).f0)) = true := dT_ c10
     clear c10
     by_cases c11 : ((rd_T64 l2 x7_1).f0) < (l0.length : Int)
     rotate_left
     · rw [if_neg c11] at H
       exact absurd H (by simp)
     rw [if_pos c11] at H
     have c11b0 : decide (((rd_T64 l2 x7_1).f0) < (l0.length : Int)) = true := dT_ c11
     clear c11
     by_cases c12 : ((rd_T64 l2 x7_1).f0) < (l1.length : Int)
     rotate_left
     · rw [if_neg c12] at H
       exact absurd H (by simp)
     rw [if_pos c12] at H
     have c12b0 : decide (((rd_T64 l2 x7_1).f0) < (l1.length : Int)) = true := dT_ c12
     clear c12
     replace H := Option.bind_eq_some_iff.mp H
     obtain ⟨t190, A130, H⟩ := H
     replace H : (if t190 = 0 then (r6_CompareBy.j2 kj5 l0 l1 l2 x7_1 t190 false) else (if 0 ≤ x7_1 then (if x7_1 < (l2.length : Int) then (r6_CompareBy.j2 kj5 l0 l1 l2 x7_1 t190 ((rd_T64 l2 x7_1).f1)) else (none)) else (none))) = some r := H
     have A13 := kA_ A130
     clear A130
     have HC14 := kA_ H
     clear H
     try go_wp2
     have n0_ := kA_ (b1_ HB.out)
     clear HB
     have HB := n0_
     clear n0_
     have p188 : 0 ≤ (((rd_T64 l2 x7_1).f0) : Int) := oT_ (by assumption)
     have q188 : ((rd_T64 l2 x7_1).f0) < (l0.length : Int) := oT_ (by assumption)
     obtain ⟨ad188, e188, hx188_0, hx188_1, hx188_2⟩ := at_T36 HR0.out ((rd_T64 l2 x7_1).f0) p188 q188
     have hw188_2 := hx188_2
     have hw188_1 := hx188_1
     have hw188_0 := hx188_0
     cases e188
     replace hx188_0 := cB_ HB.out hx188_0
     replace hx188_1 := cB_ HB.out hx188_1
     replace hx188_2 := cB_ HB.out hx188_2
     replace p188 := eq_true p188
     replace q188 := eq_true q188
     have p189 : 0 ≤ (((rd_T64 l2 x7_1).f0) : Int) := oT_ (by assumption)
     have q189 : ((rd_T64 l2 x7_1).f0) < (l1.length : Int) := oT_ (by assumption)
     obtain ⟨ad189, e189, hx189_0, hx189_1, hx189_2⟩ := at_T36 HR1.out ((rd_T64 l2 x7_1).f0) p189 q189
     have hw189_2 := hx189_2
     have hw189_1 := hx189_1
     have hw189_0 := hx189_0
     cases e189
     replace hx189_0 := cB_ HB.out hx189_0
     replace hx189_1 := cB_ HB.out hx189_1
     replace hx189_2 := cB_ HB.out hx189_2
     replace p189 := eq_true p189
     replace q189 := eq_true q189
     refine start_ (n := 10) (S := fun w' => w'.cell? (ad188.add ((((rd_T64 l2 x7_1).f0)).toNat * 3)) = some (.int .u8 ((rd_T36 l0 ((rd_T64 l2 x7_1).f0)).f0)) ∧ w'.cell? ⟨(ad188.add ((((rd_T64 l2 x7_1).f0)).toNat * 3)).block, (ad188.add ((((rd_T64 l2 x7_1).f0)).toNat * 3)).off + 1, none⟩ = some (.int .i64 ((rd_T36 l0 ((rd_T64 l2 x7_1).f0)).f1)) ∧ w'.cell? ⟨(ad188.add ((((rd_T64 l2 x7_1).f0)).toNat * 3)).block, (ad188.add ((((rd_T64 l2 x7_1).f0)).toNat * 3)).off + 2, none⟩ = some (.string ((rd_T36 l0 ((rd_T64 l2 x7_1).f0)).f2)) ∧ w'.cell? (ad189.add ((((rd_T64 l2 x7_1).f0)).toNat * 3)) = some (.int .u8 ((rd_T36 l1 ((rd_T64 l2 x7_1).f0)).f0)) ∧ w'.cell? ⟨(ad189.add ((((rd_T64 l2 x7_1).f0)).toNat * 3)).block, (ad189.add ((((rd_T64 l2 x7_1).f0)).toNat * 3)).off + 1, none⟩ = some (.int .i64 ((rd_T36 l1 ((rd_T64 l2 x7_1).f0)).f1)) ∧ w'.cell? ⟨(ad189.add ((((rd_T64 l2 x7_1).f0)).toNat * 3)).block, (ad189.add ((((rd_T64 l2 x7_1).f0)).toNat * 3)).off + 2, none⟩ = some (.string ((rd_T36 l1 ((rd_T64 l2 x7_1).f0)).f2))) (ds := []) #[X,X,X,X,X,X,X,X,X,X] a3_ rfl rfl ⟨(cB_ HB.out hw188_0), (cB_ HB.out hw188_1), (cB_ HB.out hw188_2), (cB_ HB.out hw189_0), (cB_ HB.out hw189_1), (cB_ HB.out hw189_2)⟩ (fun hHeld => ?_); refine with_tabW r6_CompareBy.tab7 r6_CompareBy.bits7 (fun HT_ HW_ => ?_)
     generalize wc.drew = w15 at HB hx188_0 hx188_1 hx188_2 hx189_0 hx189_1 hx189_2 hHeld ⊢
     refine pure_ (i := 0) (N := some 35) (v := ?_) (a' := ?_) #[Y,X,X,X,X,X,X,X,X,X] rfl rfl (any_of HT_.out a3_) (fun _ _ _ h => h) (Or.inl ⟨by rfl, ?_⟩) ?_ ?_
     rotate_left
     · intro w'
       go_simp
       with_reducible rfl
     rotate_left
     · simp only [Act.put, tA, tZ, tS, iL, iW]
       rfl
     refine pure_ (i := 1) (N := some 36) (v := ?_) (a' := ?_) #[Y,Y,X,X,X,X,X,X,X,X] rfl rfl (any_of HT_.out a3_) (fun _ _ _ h => h) (Or.inl ⟨by rfl, ?_⟩) ?_ ?_
     rotate_left
     · intro w'
       go_simp
       with_reducible rfl
     rotate_left
     · simp only [Act.put, tA, tZ, tS, iL, iW]
       rfl
     refine pure_ (i := 2) (N := some 37) (v := ?_) (a' := ?_) #[Y,Y,Y,X,X,X,X,X,X,X] rfl rfl (any_of HT_.out a3_) (fun _ _ _ h => h) (Or.inl ⟨by rfl, ?_⟩) ?_ ?_
     rotate_left
     · intro w'
       go_simp
       with_reducible rfl
     rotate_left
     · simp only [Act.put, tA, tZ, tS, iL, iW]
       rfl
     refine pure_ (i := 4) (N := some 39) (v := ?_) (a' := ?_) #[Y,Y,Y,X,Y,X,X,X,X,X] rfl rfl (any_of HT_.out a3_) (fun _ _ _ h => h) (Or.inl ⟨by rfl, ?_⟩) ?_ ?_
     rotate_left
     · intro w'
       go_simp
       with_reducible rfl
     rotate_left
     · simp only [Act.put, tA, tZ, tS, iL, iW]
       rfl
     refine pure_ (i := 5) (N := some 40) (v := ?_) (a' := ?_) #[Y,Y,Y,X,Y,Y,X,X,X,X] rfl rfl (any_of HT_.out a3_) (fun _ _ _ h => h) (Or.inl ⟨by rfl, ?_⟩) ?_ ?_
     rotate_left
     · intro w'
       go_simp
       with_reducible rfl
     rotate_left
     · simp only [Act.put, tA, tZ, tS, iL, iW]
       rfl
     refine pure_ (i := 6) (N := some 41) (v := ?_) (a' := ?_) #[Y,Y,Y,X,Y,Y,Y,X,X,X] rfl rfl (any_of HT_.out a3_) (fun _ _ _ h => h) (Or.inl ⟨by rfl, ?_⟩) ?_ ?_
     rotate_left
     · intro w'
       go_simp
       with_reducible rfl
     rotate_left
     · simp only [Act.put, tA, tZ, tS, iL, iW]
       rfl
     refine take_ (i := 3) (N := some 38) (v := ?_) (a' := ?_) #[Y,Y,Y,Y,Y,Y,Y,X,X,X] rfl rfl (take_ofW HT_.out HW_.out a3_) (fun _ _ _ h => h) (Or.inl ⟨by rfl, ?_⟩) hHeld ?_ ?_
     rotate_left
     · rintro w' ⟨s0, s1, s2, s3, s4, s5⟩
       go_simp
       with_reducible rfl
     rotate_left
     · simp only [Act.put, tA, tZ, tS, iL, iW]
       rfl
     refine take_ (i := 7) (N := some 42) (v := ?_) (a' := ?_) #[Y,Y,Y,Y,Y,Y,Y,Y,X,X] rfl rfl (take_ofW HT_.out HW_.out a3_) (fun _ _ _ h => h) (Or.inl ⟨by rfl, ?_⟩) hHeld ?_ ?_
     rotate_left
     · rintro w' ⟨s0, s1, s2, s3, s4, s5⟩
       go_simp
       with_reducible rfl
     rotate_left
     · simp only [Act.put, tA, tZ, tS, iL, iW]
       rfl
     refine one_ (i := 8) (N := some 43) #[Y,Y,Y,Y,Y,Y,Y,Y,Y,X] rfl rfl (one_of HT_.out a3_) (by decide) (fun K hK => ?_)
     refine goes_ Tryz.func85 a3_ rfl #[.agg #[.int .u8 ((rd_T36 l0 ((rd_T64 l2 x7_1).f0)).f0), .int .i64 ((rd_T36 l0 ((rd_T64 l2 x7_1).f0)).f1), .string ((rd_T36 l0 ((rd_T64 l2 x7_1).f0)).f2)], .agg #[.int .u8 ((rd_T36 l1 ((rd_T64 l2 x7_1).f0)).f0), .int .i64 ((rd_T36 l1 ((rd_T64 l2 x7_1).f0)).f1), .string ((rd_T36 l1 ((rd_T64 l2 x7_1).f0)).f2)]] (by rfl) rfl rfl a1_ ?_
     with_reducible refine (r1_Compare.calls kj5 ((rd_T36 l0 ((rd_T64 l2 x7_1).f0)).f0) ((rd_T36 l0 ((rd_T64 l2 x7_1).f0)).f1) ((rd_T36 l0 ((rd_T64 l2 x7_1).f0)).f2) ((rd_T36 l1 ((rd_T64 l2 x7_1).f0)).f0) ((rd_T36 l1 ((rd_T64 l2 x7_1).f0)).f1) ((rd_T36 l1 ((rd_T64 l2 x7_1).f0)).f2) t190 _ A13.out).mono ?_
     rintro e w16 ⟨rfl, hb⟩
     refine ⟨_, rfl, ?_⟩
     have n0_ := kA_ (below_step a0_ hb)
     clear HB
     have HB := n0_
     clear n0_
     (try clear hb)
     (try clear hb2)
     (try clear hk)
     (try clear hi)
     refine hK.out _ _ ⟨(cB_ HB.out hw188_0), (cB_ HB.out hw188_1), (cB_ HB.out hw188_2), (cB_ HB.out hw189_0), (cB_ HB.out hw189_1), (cB_ HB.out hw189_2)⟩ (fun hHeld => ?_)
     clear hK K
     refine norm_ (a' := ?_) ?_ ?_
     rotate_left
     · show Act.put _ (some 43) _ = _
       simp only [Act.put, tA, tZ, tS, iL, iW]
       rfl
     refine pure_ (i := 9) (N := some 9) (v := ?_) (a' := ?_) #[Y,Y,Y,Y,Y,Y,Y,Y,Y,Y] rfl rfl (any_of HT_.out a3_) (fun _ _ _ h => h) (Or.inl ⟨by rfl, ?_⟩) ?_ ?_
     rotate_left
     · intro w'
       go_simp
       with_reducible rfl
     rotate_left
     · simp only [Act.put, tA, tZ, tS, iL, iW]
       rfl
     refine done_ (done_of HT_.out a3_) ?_
     go_upto_region 8 with (fail)
     go_cut [52] (fun v52 wc => ∃ (kq : Nat) (x52_13 : Bool), v52 = .bool x52_13 ∧ Aside0 (r6_CompareBy.j2 kq l0 l1 l2 x7_1 t190 x52_13 = some r) ∧ Aside0 (kq ≤ kj5) ∧ Aside0 (Below w.heap.size w wc))
     case first =>
      have H := HC14.out
      clear HC14
      by_cases c17 : t190 = 0
      · rw [if_pos c17] at H
        have c17b0 : (t190 == 0) = true := beq_iff_eq.mpr c17
        have c17b1 : (t190 != 0) = false := bne_eq_false_iff_eq.mpr c17
        clear c17
        (first | rw [c17b0] | (simp only [iL, iW]; rw [c17b0]) | skip)
        have H' := kA_ H
        clear H
        go_wp2
        go_meet
        case rel => exact ⟨_, (false), a4_, H', ⟨by have := HK1.out; have := HJ5.out; first | omega | exact Nat.le_refl _⟩, ⟨a2_⟩⟩
      rw [if_neg c17] at H
      have c17b0 : (t190 == 0) = false := beq_eq_false_iff_ne.mpr c17
      have c17b1 : (t190 != 0) = true := bne_iff_ne.mpr c17
      (first | rw [c17b0] | (simp only [iL, iW]; rw [c17b0]) | skip)
      by_cases c18 : 0 ≤ x7_1
      rotate_left
      · rw [if_neg c18] at H
        exact absurd H (by simp)
      rw [if_pos c18] at H
      have c18b0 : decide (0 ≤ x7_1) = true := dT_ c18
      clear c18
      by_cases c19 : x7_1 < (l2.length : Int)
      rotate_left
      · rw [if_neg c19] at H
        exact absurd H (by simp)
      rw [if_pos c19] at H
      have c19b0 : decide (x7_1 < (l2.length : Int)) = true := dT_ c19
      clear c19
      have H' := kA_ H
      clear H
      have p191 : 0 ≤ (x7_1 : Int) := oT_ (by assumption)
      have q191 : x7_1 < (l2.length : Int) := oT_ (by assumption)
      obtain ⟨ad191, e191, hx191_0, hx191_1⟩ := at_T64 HR2.out x7_1 p191 q191
      obtain rfl : ad187 = ad191 := (by injection e191)
      replace hx191_0 := cB_ HB.out hx191_0
      replace hx191_1 := cB_ HB.out hx191_1
      replace p191 := eq_true p191
      replace q191 := eq_true q191
      go_wp2
      go_meet
      case rel => exact ⟨_, ((rd_T64 l2 x7_1).f1), a4_, H', ⟨by have := HK1.out; have := HJ5.out; first | omega | exact Nat.le_refl _⟩, ⟨a2_⟩⟩
     case rest =>
      clear HC14
      try clear c1
      try clear p1
      try clear q1
      try clear hx1
      try clear c2
      try clear p2
      try clear c4
      try clear c4b0
      try clear c5
      try clear c5b0
      try clear c6
      try clear c7
      try clear c7b0
      try clear c8
      try clear c8b0
      try clear c9
      try clear c10
      try clear c10b0
      try clear c11
      try clear c11b0
      try clear c12
      try clear c12b0
      try clear c17
      try clear c17b0
      try clear c17b1
      try clear c18
      try clear c18b0
      try clear p18
      try clear q18
      try clear hx18
      try clear c19
      try clear c19b0
      try clear p19
      try clear q19
      try clear hx19
      try clear hx187_0
      try clear hx187_1
      try clear hx188_0
      try clear hx188_1
      try clear hx188_2
      try clear hx189_0
      try clear hx189_1
      try clear hx189_2
      try clear hx191_0
      try clear hx191_1
      try clear p1
      try clear p187
      try clear p188
      try clear p189
      try clear p191
      try clear p2
      try clear q1
      try clear q187
      try clear q188
      try clear q189
      try clear q191
      obtain ⟨kq, x52_13, rfl, HA, HJ13, HB⟩ := hcut
      cases kq with
      | zero => exact absurd HA.out (by simp [r6_CompareBy.j2])
      | succ kj13 =>
       have H := HA.out
       clear HA
       simp only [r6_CompareBy.j2] at H
       by_cases c20 : x52_13 = true
       · subst c20
         have H1 : (some (wrap64 (-t190))) = some r := by rw [if_pos rfl] at H; exact H
         clear H
         have H := H1
         clear H1
         obtain rfl := Option.some.inj H
         go_wp2
         go_ret
         exact ⟨a5_, a2_⟩
       replace c20 := Bool.eq_false_iff.mpr c20
       subst c20
       have H1 : (if t190 = 0 then (r6_CompareBy.l0 kj13 l0 l1 l2 (wrap64 (x7_1 + 1))) else (some t190)) = some r := by rw [if_neg (show ¬ (false = true) by decide)] at H; exact H
       clear H
       have H := H1
       clear H1
       by_cases c21 : t190 = 0
       rotate_left
       · rw [if_neg c21] at H
         have c21b0 : (t190 == 0) = false := beq_eq_false_iff_ne.mpr c21
         have c21b1 : (t190 != 0) = true := bne_iff_ne.mpr c21
         obtain rfl := Option.some.inj H
         go_wp2
         go_ret
         exact ⟨a5_, a2_⟩
       rw [if_pos c21] at H
       have c21b0 : (t190 == 0) = true := beq_iff_eq.mpr c21
       have c21b1 : (t190 != 0) = false := bne_eq_false_iff_eq.mpr c21
       clear c21
       have H' := kA_ H
       clear H
       go_wp2
       go_roundg kj13
       case measure => have := HK1.out; have := HJ5.out; have := HJ13.out; omega
       case rel => exact ⟨(wrap64 (x7_1 + 1)), a4_, H', ⟨by have := HK1.out; have := HJ5.out; have := HJ13.out; omega⟩, ⟨a2_⟩⟩
mutual
def r1_CompareRows.l0 : Nat → List (S36) → List (S36) → Int → Option (Int)
 | 0, _, _, _ => none
 | k + 1, x0, x1, x5 => if x5 < (x0.length : Int) then (r1_CompareRows.j1 k x0 x1 x5 (decide (x5 < (x1.length : Int)))) else (r1_CompareRows.j1 k x0 x1 x5 false)
def r1_CompareRows.j1 : Nat → List (S36) → List (S36) → Int → Bool → Option (Int)
 | 0, _, _, _, _ => none
 | k + 1, x0, x1, x5, x16 => if x16 = true then (if 0 ≤ x5 then (if x5 < (x0.length : Int) then (if x5 < (x1.length : Int) then ((r1_Compare.f k ((rd_T36 x0 x5).f0) ((rd_T36 x0 x5).f1) ((rd_T36 x0 x5).f2) ((rd_T36 x1 x5).f0) ((rd_T36 x1 x5).f1) ((rd_T36 x1 x5).f2)).bind fun t194 => (if t194 = 0 then (r1_CompareRows.l0 k x0 x1 (wrap64 (x5 + 1))) else (some t194))) else (none)) else (none)) else (none)) else ((r1_ints.f (x0.length : Int) (x1.length : Int)).bind fun t195 => (some t195))
end
def r1_CompareRows.f (k : Nat) (l0 : List (S36)) (l1 : List (S36)) : Option (Int) := r1_CompareRows.l0 k l0 l1 0
def r1_CompareRows.T4 : Bool × List (List Nat × List Nat) := (true, [([], []), ([], []), ([0, 1], [0, 1]), ([2], [2]), ([], []), ([], []), ([4, 5], [4, 5]), ([6], [6]), ([3, 7], [3, 7]), ([8, 8, 0, 1, 2, 3, 4, 5, 6, 7, 8], [8])])
def r1_CompareRows.B4 : List Nat := [0, 0, 3, 7, 0, 0, 48, 112, 255, 511]
theorem r1_CompareRows.tab4 : rtab .any (opsOf Tryz.f123 4) = r1_CompareRows.T4 := by kernel_rfl
theorem r1_CompareRows.bits4 : waitsOk r1_CompareRows.T4.2 r1_CompareRows.B4 = true := by kernel_rfl
theorem r1_CompareRows.calls (k : Nat) (A0 : Option Addr) (c0 : Nat) (l0 : List (S36)) (A1 : Option Addr) (c1 : Nat) (l1 : List (S36)) (r : Int) (w : World) (hr0 : Kd.C k36 w A0 l0.length l0) (hc0 : l0.length ≤ c0) (hr1 : Kd.C k36 w A1 l1.length l1) (hc1 : l1.length ≤ c1) (h : r1_CompareRows.f k l0 l1 = some r) :
 Calls Tryz.prog 123 #[.slice A0 l0.length c0, .slice A1 l1.length c1] w fun e w' => e = .returned (.int .i64 r) ∧ Below w.heap.size w w' := by
 have hu36 := Tryz.underlying36
 have HR0 := kA_ hr0
 have HC0 := kA_ hc0
 clear hr0 hc0
 have HR1 := kA_ hr1
 have HC1 := kA_ hc1
 clear hr1 hc1
 have HB := kA_ (Below.refl w.heap.size w)
 have H : (r1_CompareRows.l0 k l0 l1 0) = some r := h
 clear h
 have H' := kA_ H
 clear H
 go_enter Tryz.func123, Tryz.ntmps123
 go_wp2
 go_loopg [5] k (fun kq v5 w' => ∃ (x5_1 : Int), v5 = .int .i64 x5_1 ∧ Aside0 (r1_CompareRows.l0 kq l0 l1 x5_1 = some r) ∧ Aside0 (kq ≤ k) ∧ Aside0 (Below w.heap.size w w'))
 case atStart => exact ⟨(0), a4_, H', ⟨Nat.le_refl _⟩, ⟨a2_⟩⟩
 case round =>
  clear H'
  try clear c1
  try clear p2
  obtain ⟨x5_1, rfl, HA, HK1, HB⟩ := hrel
  cases gk with
  | zero => exact absurd HA.out (by simp [r1_CompareRows.l0])
  | succ k1 =>
   have H := HA.out
   clear HA
   simp only [r1_CompareRows.l0] at H
   have HC3 := kA_ H
   clear H
   go_upto_region 2 with (fail)
   go_cut [16] (fun v16 wc => ∃ (kq : Nat) (x16_2 : Bool), v16 = .bool x16_2 ∧ Aside0 (r1_CompareRows.j1 kq l0 l1 x5_1 x16_2 = some r) ∧ Aside0 (kq ≤ k1) ∧ Aside0 (Below w.heap.size w wc))
   case first =>
    have H := HC3.out
    clear HC3
    by_cases c4 : x5_1 < (l0.length : Int)
    · rw [if_pos c4] at H
      have c4b0 : decide (x5_1 < (l0.length : Int)) = true := dT_ c4
      clear c4
      (first | rw [c4b0] | (simp only [iL, iW]; rw [c4b0]) | skip)
      have H' := kA_ H
      clear H
      go_wp2
      go_meet
      case rel => exact ⟨_, (decide (x5_1 < (l1.length : Int))), a4_, H', ⟨a54_⟩, ⟨a2_⟩⟩
    rw [if_neg c4] at H
    have c4b0 : decide (x5_1 < (l0.length : Int)) = false := dF_ c4
    clear c4
    (first | rw [c4b0] | (simp only [iL, iW]; rw [c4b0]) | skip)
    have H' := kA_ H
    clear H
    go_wp2
    go_meet
    case rel => exact ⟨_, (false), a4_, H', ⟨a54_⟩, ⟨a2_⟩⟩
   case rest =>
    clear HC3
    try clear c1
    try clear p2
    try clear c4
    try clear c4b0
    try clear p2
    obtain ⟨kq, x16_2, rfl, HA, HJ2, HB⟩ := hcut
    cases kq with
    | zero => exact absurd HA.out (by simp [r1_CompareRows.j1])
    | succ kj2 =>
     have H := HA.out
     clear HA
     simp only [r1_CompareRows.j1] at H
     by_cases c5 : x16_2 = true
     rotate_left
     · replace c5 := Bool.eq_false_iff.mpr c5
       subst c5
       have H1 : ((r1_ints.f (l0.length : Int) (l1.length : Int)).bind fun t195 => (some t195)) = some r := by rw [if_neg (show ¬ (false = true) by decide)] at H; exact H
       clear H
       have H := H1
       clear H1
       replace H := Option.bind_eq_some_iff.mp H
       obtain ⟨t195, A150, H⟩ := H
       replace H : (some t195) = some r := H
       have A15 := kA_ A150
       clear A150
       obtain rfl := Option.some.inj H
       go_wp2_with (first | ((with_reducible refine gate_callee (f := 100) rfl ?_); refine goesL_ (some 35) rfl rfl Tryz.func100 a3_ rfl #[.int .i64 (l0.length : Int), .int .i64 (l1.length : Int)] rfl a1_ ?_; (with_reducible refine (r1_ints.calls (l0.length : Int) (l1.length : Int) t195 _ A15.out).mono ?_); rintro e w' ⟨rfl, ⟨nd, rfl⟩⟩; refine ⟨_, rfl, ?_⟩))
       go_ret
       exact ⟨a5_, a2_⟩
     subst c5
     have H1 : (if 0 ≤ x5_1 then (if x5_1 < (l0.length : Int) then (if x5_1 < (l1.length : Int) then ((r1_Compare.f kj2 ((rd_T36 l0 x5_1).f0) ((rd_T36 l0 x5_1).f1) ((rd_T36 l0 x5_1).f2) ((rd_T36 l1 x5_1).f0) ((rd_T36 l1 x5_1).f1) ((rd_T36 l1 x5_1).f2)).bind fun t194 => (if t194 = 0 then (r1_CompareRows.l0 kj2 l0 l1 (wrap64 (x5_1 + 1))) else (some t194))) else (none)) else (none)) else (none)) = some r := by rw [if_pos rfl] at H; exact H
     clear H
     have H := H1
     clear H1
     by_cases c6 : 0 ≤ x5_1
     rotate_left
     · rw [if_neg c6] at H
       exact absurd H (by simp)
     rw [if_pos c6] at H
     have c6b0 : decide (0 ≤ x5_1) = true := dT_ c6
     clear c6
     by_cases c7 : x5_1 < (l0.length : Int)
     rotate_left
     · rw [if_neg c7] at H
       exact absurd H (by simp)
     rw [if_pos c7] at H
     have c7b0 : decide (x5_1 < (l0.length : Int)) = true := dT_ c7
     clear c7
     by_cases c8 : x5_1 < (l1.length : Int)
     rotate_left
     · rw [if_neg c8] at H
       exact absurd H (by simp)
     rw [if_pos c8] at H
     have c8b0 : decide (x5_1 < (l1.length : Int)) = true := dT_ c8
     clear c8
     replace H := Option.bind_eq_some_iff.mp H
     obtain ⟨t194, A90, H⟩ := H
     replace H : (if t194 = 0 then (r1_CompareRows.l0 kj2 l0 l1 (wrap64 (x5_1 + 1))) else (some t194)) = some r := H
     have A9 := kA_ A90
     clear A90
     by_cases c10 : t194 = 0
     rotate_left
     · rw [if_neg c10] at H
       have c10b0 : (t194 == 0) = false := beq_eq_false_iff_ne.mpr c10
       have c10b1 : (t194 != 0) = true := bne_iff_ne.mpr c10
       obtain rfl := Option.some.inj H
       try go_wp2
       have n0_ := kA_ (b1_ HB.out)
       clear HB
       have HB := n0_
       clear n0_
       have p192 : 0 ≤ (x5_1 : Int) := oT_ (by assumption)
       have q192 : x5_1 < (l0.length : Int) := oT_ (by assumption)
       obtain ⟨ad192, e192, hx192_0, hx192_1, hx192_2⟩ := at_T36 HR0.out x5_1 p192 q192
       have hw192_2 := hx192_2
       have hw192_1 := hx192_1
       have hw192_0 := hx192_0
       cases e192
       replace hx192_0 := cB_ HB.out hx192_0
       replace hx192_1 := cB_ HB.out hx192_1
       replace hx192_2 := cB_ HB.out hx192_2
       replace p192 := eq_true p192
       replace q192 := eq_true q192
       have p193 : 0 ≤ (x5_1 : Int) := oT_ (by assumption)
       have q193 : x5_1 < (l1.length : Int) := oT_ (by assumption)
       obtain ⟨ad193, e193, hx193_0, hx193_1, hx193_2⟩ := at_T36 HR1.out x5_1 p193 q193
       have hw193_2 := hx193_2
       have hw193_1 := hx193_1
       have hw193_0 := hx193_0
       cases e193
       replace hx193_0 := cB_ HB.out hx193_0
       replace hx193_1 := cB_ HB.out hx193_1
       replace hx193_2 := cB_ HB.out hx193_2
       replace p193 := eq_true p193
       replace q193 := eq_true q193
       refine start_ (n := 10) (S := fun w' => w'.cell? (ad192.add ((x5_1).toNat * 3)) = some (.int .u8 ((rd_T36 l0 x5_1).f0)) ∧ w'.cell? ⟨(ad192.add ((x5_1).toNat * 3)).block, (ad192.add ((x5_1).toNat * 3)).off + 1, none⟩ = some (.int .i64 ((rd_T36 l0 x5_1).f1)) ∧ w'.cell? ⟨(ad192.add ((x5_1).toNat * 3)).block, (ad192.add ((x5_1).toNat * 3)).off + 2, none⟩ = some (.string ((rd_T36 l0 x5_1).f2)) ∧ w'.cell? (ad193.add ((x5_1).toNat * 3)) = some (.int .u8 ((rd_T36 l1 x5_1).f0)) ∧ w'.cell? ⟨(ad193.add ((x5_1).toNat * 3)).block, (ad193.add ((x5_1).toNat * 3)).off + 1, none⟩ = some (.int .i64 ((rd_T36 l1 x5_1).f1)) ∧ w'.cell? ⟨(ad193.add ((x5_1).toNat * 3)).block, (ad193.add ((x5_1).toNat * 3)).off + 2, none⟩ = some (.string ((rd_T36 l1 x5_1).f2))) (ds := []) #[X,X,X,X,X,X,X,X,X,X] a3_ rfl rfl ⟨(cB_ HB.out hw192_0), (cB_ HB.out hw192_1), (cB_ HB.out hw192_2), (cB_ HB.out hw193_0), (cB_ HB.out hw193_1), (cB_ HB.out hw193_2)⟩ (fun hHeld => ?_); refine with_tabW r1_CompareRows.tab4 r1_CompareRows.bits4 (fun HT_ HW_ => ?_)
       generalize wc.drew = w13 at HB hx192_0 hx192_1 hx192_2 hx193_0 hx193_1 hx193_2 hHeld ⊢
       refine pure_ (i := 0) (N := some 19) (v := ?_) (a' := ?_) #[Y,X,X,X,X,X,X,X,X,X] rfl rfl (any_of HT_.out a3_) (fun _ _ _ h => h) (Or.inl ⟨by rfl, ?_⟩) ?_ ?_
       rotate_left
       · intro w'
         go_simp
         with_reducible rfl
       rotate_left
       · simp only [Act.put, tA, tZ, tS, iL, iW]
         rfl
       refine pure_ (i := 1) (N := some 20) (v := ?_) (a' := ?_) #[Y,Y,X,X,X,X,X,X,X,X] rfl rfl (any_of HT_.out a3_) (fun _ _ _ h => h) (Or.inl ⟨by rfl, ?_⟩) ?_ ?_
       rotate_left
       · intro w'
         go_simp
         with_reducible rfl
       rotate_left
       · simp only [Act.put, tA, tZ, tS, iL, iW]
         rfl
       refine pure_ (i := 2) (N := some 21) (v := ?_) (a' := ?_) #[Y,Y,Y,X,X,X,X,X,X,X] rfl rfl (any_of HT_.out a3_) (fun _ _ _ h => h) (Or.inl ⟨by rfl, ?_⟩) ?_ ?_
       rotate_left
       · intro w'
         go_simp
         with_reducible rfl
       rotate_left
       · simp only [Act.put, tA, tZ, tS, iL, iW]
         rfl
       refine pure_ (i := 4) (N := some 23) (v := ?_) (a' := ?_) #[Y,Y,Y,X,Y,X,X,X,X,X] rfl rfl (any_of HT_.out a3_) (fun _ _ _ h => h) (Or.inl ⟨by rfl, ?_⟩) ?_ ?_
       rotate_left
       · intro w'
         go_simp
         with_reducible rfl
       rotate_left
       · simp only [Act.put, tA, tZ, tS, iL, iW]
         rfl
       refine pure_ (i := 5) (N := some 24) (v := ?_) (a' := ?_) #[Y,Y,Y,X,Y,Y,X,X,X,X] rfl rfl (any_of HT_.out a3_) (fun _ _ _ h => h) (Or.inl ⟨by rfl, ?_⟩) ?_ ?_
       rotate_left
       · intro w'
         go_simp
         with_reducible rfl
       rotate_left
       · simp only [Act.put, tA, tZ, tS, iL, iW]
         rfl
       refine pure_ (i := 6) (N := some 25) (v := ?_) (a' := ?_) #[Y,Y,Y,X,Y,Y,Y,X,X,X] rfl rfl (any_of HT_.out a3_) (fun _ _ _ h => h) (Or.inl ⟨by rfl, ?_⟩) ?_ ?_
       rotate_left
       · intro w'
         go_simp
         with_reducible rfl
       rotate_left
       · simp only [Act.put, tA, tZ, tS, iL, iW]
         rfl
       refine take_ (i := 3) (N := some 22) (v := ?_) (a' := ?_) #[Y,Y,Y,Y,Y,Y,Y,X,X,X] rfl rfl (take_ofW HT_.out HW_.out a3_) (fun _ _ _ h => h) (Or.inl ⟨by rfl, ?_⟩) hHeld ?_ ?_
       rotate_left
       · rintro w' ⟨s0, s1, s2, s3, s4, s5⟩
         go_simp
         with_reducible rfl
       rotate_left
       · simp only [Act.put, tA, tZ, tS, iL, iW]
         rfl
       refine take_ (i := 7) (N := some 26) (v := ?_) (a' := ?_) #[Y,Y,Y,Y,Y,Y,Y,Y,X,X] rfl rfl (take_ofW HT_.out HW_.out a3_) (fun _ _ _ h => h) (Or.inl ⟨by rfl, ?_⟩) hHeld ?_ ?_
       rotate_left
       · rintro w' ⟨s0, s1, s2, s3, s4, s5⟩
         go_simp
         with_reducible rfl
       rotate_left
       · simp only [Act.put, tA, tZ, tS, iL, iW]
         rfl
       refine one_ (i := 8) (N := some 27) #[Y,Y,Y,Y,Y,Y,Y,Y,Y,X] rfl rfl (one_of HT_.out a3_) (by decide) (fun K hK => ?_)
       refine goes_ Tryz.func85 a3_ rfl #[.agg #[.int .u8 ((rd_T36 l0 x5_1).f0), .int .i64 ((rd_T36 l0 x5_1).f1), .string ((rd_T36 l0 x5_1).f2)], .agg #[.int .u8 ((rd_T36 l1 x5_1).f0), .int .i64 ((rd_T36 l1 x5_1).f1), .string ((rd_T36 l1 x5_1).f2)]] (by rfl) rfl rfl a1_ ?_
       with_reducible refine (r1_Compare.calls kj2 ((rd_T36 l0 x5_1).f0) ((rd_T36 l0 x5_1).f1) ((rd_T36 l0 x5_1).f2) ((rd_T36 l1 x5_1).f0) ((rd_T36 l1 x5_1).f1) ((rd_T36 l1 x5_1).f2) t194 _ A9.out).mono ?_
       rintro e w14 ⟨rfl, hb⟩
       refine ⟨_, rfl, ?_⟩
       have n0_ := kA_ (below_step a0_ hb)
       clear HB
       have HB := n0_
       clear n0_
       (try clear hb)
       (try clear hb2)
       (try clear hk)
       (try clear hi)
       refine hK.out _ _ ⟨(cB_ HB.out hw192_0), (cB_ HB.out hw192_1), (cB_ HB.out hw192_2), (cB_ HB.out hw193_0), (cB_ HB.out hw193_1), (cB_ HB.out hw193_2)⟩ (fun hHeld => ?_)
       clear hK K
       refine norm_ (a' := ?_) ?_ ?_
       rotate_left
       · show Act.put _ (some 27) _ = _
         simp only [Act.put, tA, tZ, tS, iL, iW]
         rfl
       refine pure_ (i := 9) (N := some 6) (v := ?_) (a' := ?_) #[Y,Y,Y,Y,Y,Y,Y,Y,Y,Y] rfl rfl (any_of HT_.out a3_) (fun _ _ _ h => h) (Or.inl ⟨by rfl, ?_⟩) ?_ ?_
       rotate_left
       · intro w'
         go_simp
         with_reducible rfl
       rotate_left
       · simp only [Act.put, tA, tZ, tS, iL, iW]
         rfl
       refine done_ (done_of HT_.out a3_) ?_
       try go_wp2
       go_ret
       exact ⟨a5_, a2_⟩
     rw [if_pos c10] at H
     have c10b0 : (t194 == 0) = true := beq_iff_eq.mpr c10
     have c10b1 : (t194 != 0) = false := bne_eq_false_iff_eq.mpr c10
     clear c10
     have H' := kA_ H
     clear H
     try go_wp2
     have n0_ := kA_ (b1_ HB.out)
     clear HB
     have HB := n0_
     clear n0_
     have p192 : 0 ≤ (x5_1 : Int) := oT_ (by assumption)
     have q192 : x5_1 < (l0.length : Int) := oT_ (by assumption)
     obtain ⟨ad192, e192, hx192_0, hx192_1, hx192_2⟩ := at_T36 HR0.out x5_1 p192 q192
     have hw192_2 := hx192_2
     have hw192_1 := hx192_1
     have hw192_0 := hx192_0
     cases e192
     replace hx192_0 := cB_ HB.out hx192_0
     replace hx192_1 := cB_ HB.out hx192_1
     replace hx192_2 := cB_ HB.out hx192_2
     replace p192 := eq_true p192
     replace q192 := eq_true q192
     have p193 : 0 ≤ (x5_1 : Int) := oT_ (by assumption)
     have q193 : x5_1 < (l1.length : Int) := oT_ (by assumption)
     obtain ⟨ad193, e193, hx193_0, hx193_1, hx193_2⟩ := at_T36 HR1.out x5_1 p193 q193
     have hw193_2 := hx193_2
     have hw193_1 := hx193_1
     have hw193_0 := hx193_0
     cases e193
     replace hx193_0 := cB_ HB.out hx193_0
     replace hx193_1 := cB_ HB.out hx193_1
     replace hx193_2 := cB_ HB.out hx193_2
     replace p193 := eq_true p193
     replace q193 := eq_true q193
     refine start_ (n := 10) (S := fun w' => w'.cell? (ad192.add ((x5_1).toNat * 3)) = some (.int .u8 ((rd_T36 l0 x5_1).f0)) ∧ w'.cell? ⟨(ad192.add ((x5_1).toNat * 3)).block, (ad192.add ((x5_1).toNat * 3)).off + 1, none⟩ = some (.int .i64 ((rd_T36 l0 x5_1).f1)) ∧ w'.cell? ⟨(ad192.add ((x5_1).toNat * 3)).block, (ad192.add ((x5_1).toNat * 3)).off + 2, none⟩ = some (.string ((rd_T36 l0 x5_1).f2)) ∧ w'.cell? (ad193.add ((x5_1).toNat * 3)) = some (.int .u8 ((rd_T36 l1 x5_1).f0)) ∧ w'.cell? ⟨(ad193.add ((x5_1).toNat * 3)).block, (ad193.add ((x5_1).toNat * 3)).off + 1, none⟩ = some (.int .i64 ((rd_T36 l1 x5_1).f1)) ∧ w'.cell? ⟨(ad193.add ((x5_1).toNat * 3)).block, (ad193.add ((x5_1).toNat * 3)).off + 2, none⟩ = some (.string ((rd_T36 l1 x5_1).f2))) (ds := []) #[X,X,X,X,X,X,X,X,X,X] a3_ rfl rfl ⟨(cB_ HB.out hw192_0), (cB_ HB.out hw192_1), (cB_ HB.out hw192_2), (cB_ HB.out hw193_0), (cB_ HB.out hw193_1), (cB_ HB.out hw193_2)⟩ (fun hHeld => ?_); refine with_tabW r1_CompareRows.tab4 r1_CompareRows.bits4 (fun HT_ HW_ => ?_)
     generalize wc.drew = w11 at HB hx192_0 hx192_1 hx192_2 hx193_0 hx193_1 hx193_2 hHeld ⊢
     refine pure_ (i := 0) (N := some 19) (v := ?_) (a' := ?_) #[Y,X,X,X,X,X,X,X,X,X] rfl rfl (any_of HT_.out a3_) (fun _ _ _ h => h) (Or.inl ⟨by rfl, ?_⟩) ?_ ?_
     rotate_left
     · intro w'
       go_simp
       with_reducible rfl
     rotate_left
     · simp only [Act.put, tA, tZ, tS, iL, iW]
       rfl
     refine pure_ (i := 1) (N := some 20) (v := ?_) (a' := ?_) #[Y,Y,X,X,X,X,X,X,X,X] rfl rfl (any_of HT_.out a3_) (fun _ _ _ h => h) (Or.inl ⟨by rfl, ?_⟩) ?_ ?_
     rotate_left
     · intro w'
       go_simp
       with_reducible rfl
     rotate_left
     · simp only [Act.put, tA, tZ, tS, iL, iW]
       rfl
     refine pure_ (i := 2) (N := some 21) (v := ?_) (a' := ?_) #[Y,Y,Y,X,X,X,X,X,X,X] rfl rfl (any_of HT_.out a3_) (fun _ _ _ h => h) (Or.inl ⟨by rfl, ?_⟩) ?_ ?_
     rotate_left
     · intro w'
       go_simp
       with_reducible rfl
     rotate_left
     · simp only [Act.put, tA, tZ, tS, iL, iW]
       rfl
     refine pure_ (i := 4) (N := some 23) (v := ?_) (a' := ?_) #[Y,Y,Y,X,Y,X,X,X,X,X] rfl rfl (any_of HT_.out a3_) (fun _ _ _ h => h) (Or.inl ⟨by rfl, ?_⟩) ?_ ?_
     rotate_left
     · intro w'
       go_simp
       with_reducible rfl
     rotate_left
     · simp only [Act.put, tA, tZ, tS, iL, iW]
       rfl
     refine pure_ (i := 5) (N := some 24) (v := ?_) (a' := ?_) #[Y,Y,Y,X,Y,Y,X,X,X,X] rfl rfl (any_of HT_.out a3_) (fun _ _ _ h => h) (Or.inl ⟨by rfl, ?_⟩) ?_ ?_
     rotate_left
     · intro w'
       go_simp
       with_reducible rfl
     rotate_left
     · simp only [Act.put, tA, tZ, tS, iL, iW]
       rfl
     refine pure_ (i := 6) (N := some 25) (v := ?_) (a' := ?_) #[Y,Y,Y,X,Y,Y,Y,X,X,X] rfl rfl (any_of HT_.out a3_) (fun _ _ _ h => h) (Or.inl ⟨by rfl, ?_⟩) ?_ ?_
     rotate_left
     · intro w'
       go_simp
       with_reducible rfl
     rotate_left
     · simp only [Act.put, tA, tZ, tS, iL, iW]
       rfl
     refine take_ (i := 3) (N := some 22) (v := ?_) (a' := ?_) #[Y,Y,Y,Y,Y,Y,Y,X,X,X] rfl rfl (take_ofW HT_.out HW_.out a3_) (fun _ _ _ h => h) (Or.inl ⟨by rfl, ?_⟩) hHeld ?_ ?_
     rotate_left
     · rintro w' ⟨s0, s1, s2, s3, s4, s5⟩
       go_simp
       with_reducible rfl
     rotate_left
     · simp only [Act.put, tA, tZ, tS, iL, iW]
       rfl
     refine take_ (i := 7) (N := some 26) (v := ?_) (a' := ?_) #[Y,Y,Y,Y,Y,Y,Y,Y,X,X] rfl rfl (take_ofW HT_.out HW_.out a3_) (fun _ _ _ h => h) (Or.inl ⟨by rfl, ?_⟩) hHeld ?_ ?_
     rotate_left
     · rintro w' ⟨s0, s1, s2, s3, s4, s5⟩
       go_simp
       with_reducible rfl
     rotate_left
     · simp only [Act.put, tA, tZ, tS, iL, iW]
       rfl
     refine one_ (i := 8) (N := some 27) #[Y,Y,Y,Y,Y,Y,Y,Y,Y,X] rfl rfl (one_of HT_.out a3_) (by decide) (fun K hK => ?_)
     refine goes_ Tryz.func85 a3_ rfl #[.agg #[.int .u8 ((rd_T36 l0 x5_1).f0), .int .i64 ((rd_T36 l0 x5_1).f1), .string ((rd_T36 l0 x5_1).f2)], .agg #[.int .u8 ((rd_T36 l1 x5_1).f0), .int .i64 ((rd_T36 l1 x5_1).f1), .string ((rd_T36 l1 x5_1).f2)]] (by rfl) rfl rfl a1_ ?_
     with_reducible refine (r1_Compare.calls kj2 ((rd_T36 l0 x5_1).f0) ((rd_T36 l0 x5_1).f1) ((rd_T36 l0 x5_1).f2) ((rd_T36 l1 x5_1).f0) ((rd_T36 l1 x5_1).f1) ((rd_T36 l1 x5_1).f2) t194 _ A9.out).mono ?_
     rintro e w12 ⟨rfl, hb⟩
     refine ⟨_, rfl, ?_⟩
     have n0_ := kA_ (below_step a0_ hb)
     clear HB
     have HB := n0_
     clear n0_
     (try clear hb)
     (try clear hb2)
     (try clear hk)
     (try clear hi)
     refine hK.out _ _ ⟨(cB_ HB.out hw192_0), (cB_ HB.out hw192_1), (cB_ HB.out hw192_2), (cB_ HB.out hw193_0), (cB_ HB.out hw193_1), (cB_ HB.out hw193_2)⟩ (fun hHeld => ?_)
     clear hK K
     refine norm_ (a' := ?_) ?_ ?_
     rotate_left
     · show Act.put _ (some 27) _ = _
       simp only [Act.put, tA, tZ, tS, iL, iW]
       rfl
     refine pure_ (i := 9) (N := some 6) (v := ?_) (a' := ?_) #[Y,Y,Y,Y,Y,Y,Y,Y,Y,Y] rfl rfl (any_of HT_.out a3_) (fun _ _ _ h => h) (Or.inl ⟨by rfl, ?_⟩) ?_ ?_
     rotate_left
     · intro w'
       go_simp
       with_reducible rfl
     rotate_left
     · simp only [Act.put, tA, tZ, tS, iL, iW]
       rfl
     refine done_ (done_of HT_.out a3_) ?_
     try go_wp2
     go_roundg kj2
     case measure => have := HK1.out; have := HJ2.out; omega
     case rel => exact ⟨(wrap64 (x5_1 + 1)), a4_, H', ⟨by have := HK1.out; have := HJ2.out; omega⟩, ⟨a2_⟩⟩
def r6_before.f (k : Nat) (l0 : List (S36)) (l1 : List (S36)) (l2 : List (S64)) : Option (Bool) := (r6_CompareBy.f k l0 l1 l2).bind fun t196 => (if t196 = 0 then ((r1_CompareRows.f k l0 l1).bind fun t197 => (some (decide (t197 < 0)))) else (some (decide (t196 < 0))))
theorem r6_before.calls (k : Nat) (A0 : Option Addr) (c0 : Nat) (l0 : List (S36)) (A1 : Option Addr) (c1 : Nat) (l1 : List (S36)) (A2 : Option Addr) (c2 : Nat) (l2 : List (S64)) (r : Bool) (w : World) (hr0 : Kd.C k36 w A0 l0.length l0) (hc0 : l0.length ≤ c0) (hr1 : Kd.C k36 w A1 l1.length l1) (hc1 : l1.length ≤ c1) (hr2 : Kd.C k64 w A2 l2.length l2) (hc2 : l2.length ≤ c2) (h : r6_before.f k l0 l1 l2 = some r) :
 Calls Tryz.prog 102 #[.slice A0 l0.length c0, .slice A1 l1.length c1, .slice A2 l2.length c2] w fun e w' => e = .returned (.bool r) ∧ Below w.heap.size w w' := by
 have HR0 := kA_ hr0
 have HC0 := kA_ hc0
 clear hr0 hc0
 have HR1 := kA_ hr1
 have HC1 := kA_ hc1
 clear hr1 hc1
 have HR2 := kA_ hr2
 have HC2 := kA_ hc2
 clear hr2 hc2
 have HB := kA_ (Below.refl w.heap.size w)
 have H : ((r6_CompareBy.f k l0 l1 l2).bind fun t196 => (if t196 = 0 then ((r1_CompareRows.f k l0 l1).bind fun t197 => (some (decide (t197 < 0)))) else (some (decide (t196 < 0))))) = some r := h
 clear h
 replace H := Option.bind_eq_some_iff.mp H
 obtain ⟨t196, A40, H⟩ := H
 replace H : (if t196 = 0 then ((r1_CompareRows.f k l0 l1).bind fun t197 => (some (decide (t197 < 0)))) else (some (decide (t196 < 0)))) = some r := H
 have A4 := kA_ A40
 clear A40
 by_cases c5 : t196 = 0
 rotate_left
 · rw [if_neg c5] at H
   have c5b0 : (t196 == 0) = false := beq_eq_false_iff_ne.mpr c5
   have c5b1 : (t196 != 0) = true := bne_iff_ne.mpr c5
   obtain rfl := Option.some.inj H
   go_enter Tryz.func102, Tryz.ntmps102
   go_wp2_with (first | ((with_reducible refine gate_callee (f := 66) rfl ?_); refine goesL_ (some 11) rfl rfl Tryz.func66 a3_ rfl #[.slice A0 l0.length c0, .slice A1 l1.length c1, .slice A2 l2.length c2] rfl a1_ ?_; (with_reducible refine (r6_CompareBy.calls k _ _ l0 _ _ l1 _ _ l2 t196 _ ?side1 ?side2 ?side3 ?side4 ?side5 ?side6 A4.out).mono ?_); (case side1 => repeat (first | exact HR0.out | (with_reducible refine Kd.cA_ ?_ _) | (with_reducible refine Kd.cN_ ?_ _) | (with_reducible refine Kd.cD_ ?_))); (case side2 => exact HC0.out); (case side3 => repeat (first | exact HR1.out | (with_reducible refine Kd.cA_ ?_ _) | (with_reducible refine Kd.cN_ ?_ _) | (with_reducible refine Kd.cD_ ?_))); (case side4 => exact HC1.out); (case side5 => repeat (first | exact HR2.out | (with_reducible refine Kd.cA_ ?_ _) | (with_reducible refine Kd.cN_ ?_ _) | (with_reducible refine Kd.cD_ ?_))); (case side6 => exact HC2.out); rintro e w9 ⟨rfl, hb⟩; refine ⟨_, rfl, ?_⟩; have n0_ := kA_ (below_step a0_ hb); clear HB; have HB := n0_; clear n0_; (try clear hb); (try clear hb2); (try clear hk); (try clear hi)))
   go_ret
   exact ⟨a5_, a2_⟩
 rw [if_pos c5] at H
 have c5b0 : (t196 == 0) = true := beq_iff_eq.mpr c5
 have c5b1 : (t196 != 0) = false := bne_eq_false_iff_eq.mpr c5
 clear c5
 replace H := Option.bind_eq_some_iff.mp H
 obtain ⟨t197, A60, H⟩ := H
 replace H : (some (decide (t197 < 0))) = some r := H
 have A6 := kA_ A60
 clear A60
 obtain rfl := Option.some.inj H
 go_enter Tryz.func102, Tryz.ntmps102
 go_wp2_with (first | ((with_reducible refine gate_callee (f := 66) rfl ?_); refine goesL_ (some 11) rfl rfl Tryz.func66 a3_ rfl #[.slice A0 l0.length c0, .slice A1 l1.length c1, .slice A2 l2.length c2] rfl a1_ ?_; (with_reducible refine (r6_CompareBy.calls k _ _ l0 _ _ l1 _ _ l2 t196 _ ?side1 ?side2 ?side3 ?side4 ?side5 ?side6 A4.out).mono ?_); (case side1 => repeat (first | exact HR0.out | (with_reducible refine Kd.cA_ ?_ _) | (with_reducible refine Kd.cN_ ?_ _) | (with_reducible refine Kd.cD_ ?_))); (case side2 => exact HC0.out); (case side3 => repeat (first | exact HR1.out | (with_reducible refine Kd.cA_ ?_ _) | (with_reducible refine Kd.cN_ ?_ _) | (with_reducible refine Kd.cD_ ?_))); (case side4 => exact HC1.out); (case side5 => repeat (first | exact HR2.out | (with_reducible refine Kd.cA_ ?_ _) | (with_reducible refine Kd.cN_ ?_ _) | (with_reducible refine Kd.cD_ ?_))); (case side6 => exact HC2.out); rintro e w7 ⟨rfl, hb⟩; refine ⟨_, rfl, ?_⟩; have n0_ := kA_ (below_step a0_ hb); clear HB; have HB := n0_; clear n0_; (try clear hb); (try clear hb2); (try clear hk); (try clear hi)) | ((with_reducible refine gate_callee (f := 123) rfl ?_); refine goesL_ (some 18) rfl rfl Tryz.func123 a3_ rfl #[.slice A0 l0.length c0, .slice A1 l1.length c1] rfl a1_ ?_; (with_reducible refine (r1_CompareRows.calls k _ _ l0 _ _ l1 t197 _ ?side1 ?side2 ?side3 ?side4 A6.out).mono ?_); (case side1 => repeat (first | exact (Kd.C_below HR0.out HB.out) | (with_reducible refine Kd.cA_ ?_ _) | (with_reducible refine Kd.cN_ ?_ _) | (with_reducible refine Kd.cD_ ?_))); (case side2 => exact HC0.out); (case side3 => repeat (first | exact (Kd.C_below HR1.out HB.out) | (with_reducible refine Kd.cA_ ?_ _) | (with_reducible refine Kd.cN_ ?_ _) | (with_reducible refine Kd.cD_ ?_))); (case side4 => exact HC1.out); rintro e w8 ⟨rfl, hb⟩; refine ⟨_, rfl, ?_⟩; have n0_ := kA_ (below_step a0_ hb); clear HB; have HB := n0_; clear n0_; (try clear hb); (try clear hb2); (try clear hk); (try clear hi)))
 go_ret
 exact ⟨a5_, a2_⟩
mutual
def r6_merge.l0 : Nat → List (List (S36)) → List (List (S36)) → List (S64) → List (List (S36)) → Int → Int → Option ((List (List (S36))))
 | 0, _, _, _, _, _, _ => none
 | k + 1, x0, x1, x2, x7, x8, x9 => if x8 < (x0.length : Int) then (r6_merge.j1 k x0 x1 x2 x7 x8 x9 true) else (r6_merge.j1 k x0 x1 x2 x7 x8 x9 (decide (x9 < (x1.length : Int))))
def r6_merge.j1 : Nat → List (List (S36)) → List (List (S36)) → List (S64) → List (List (S36)) → Int → Int → Bool → Option ((List (List (S36))))
 | 0, _, _, _, _, _, _, _ => none
 | k + 1, x0, x1, x2, x7, x8, x9, x19 => if x19 = true then (if x9 ≥ (x1.length : Int) then (if 0 ≤ x8 then (if x8 < (x0.length : Int) then (if x7.length < 5864062014805 then (r6_merge.l0 k x0 x1 x2 (x7 ++ [rd_L4 x0 x8]) (wrap64 (x8 + 1)) x9) else (none)) else (none)) else (none)) else (if x8 < (x0.length : Int) then (if 0 ≤ x9 then (if x9 < (x1.length : Int) then (if 0 ≤ x8 then ((r6_before.f k (rd_L4 x1 x9) (rd_L4 x0 x8) x2).bind fun t204 => (if t204 = true then (if x7.length < 5864062014805 then (r6_merge.l0 k x0 x1 x2 (x7 ++ [rd_L4 x1 x9]) x8 (wrap64 (x9 + 1))) else (none)) else (if x7.length < 5864062014805 then (r6_merge.l0 k x0 x1 x2 (x7 ++ [rd_L4 x0 x8]) (wrap64 (x8 + 1)) x9) else (none)))) else (none)) else (none)) else (none)) else (if 0 ≤ x9 then (if x9 < (x1.length : Int) then (if x7.length < 5864062014805 then (r6_merge.l0 k x0 x1 x2 (x7 ++ [rd_L4 x1 x9]) x8 (wrap64 (x9 + 1))) else (none)) else (none)) else (none)))) else (some x7)
end
def r6_merge.f (k : Nat) (l0 : List (List (S36))) (l1 : List (List (S36))) (l2 : List (S64)) : Option ((List (List (S36)))) := r6_merge.l0 k l0 l1 l2 ([] : List (List (S36))) 0 0
def r6_merge.T4 : Bool × List (List Nat × List Nat) := (true, [([], []), ([], []), ([1], [1]), ([0, 2], [0, 2]), ([3], [3]), ([4], [4]), ([4], [4]), ([6, 4], [4, 6]), ([5, 7, 4], [4, 5, 7]), ([8, 4, 4], [4, 8]), ([9], [9]), ([9], [9]), ([10, 11, 9], [9, 10, 11]), ([12, 9], [9, 12]), ([9], [9]), ([9], [9]), ([14, 15, 9], [9, 14, 15]), ([16, 9], [9, 16]), ([9], [9]), ([13, 17, 18, 9, 9], [9, 13, 17, 18]), ([19, 9], [9, 19]), ([9, 20, 4], [4, 9, 20]), ([4, 21], [4, 21])])
def r6_merge.B4 : List Nat := [0, 0, 2, 7, 15, 31, 31, 95, 255, 511, 1023, 1023, 4095, 8191, 1023, 1023, 50175, 115711, 1023, 524287, 1048575, 2097151, 4194303]
theorem r6_merge.tab4 : rtab .any (opsOf Tryz.f89 4) = r6_merge.T4 := by kernel_rfl
theorem r6_merge.bits4 : waitsOk r6_merge.T4.2 r6_merge.B4 = true := by kernel_rfl
theorem r6_merge.calls (k : Nat) (P0_ : Nat → Prop) (A0 : Option Addr) (c0 : Nat) (l0 : List (List (S36))) (P1_ : Nat → Prop) (A1 : Option Addr) (c1 : Nat) (l1 : List (List (S36))) (A2 : Option Addr) (c2 : Nat) (l2 : List (S64)) (r : List (List (S36))) (w : World) (hs0 : Kd.V (Kd.slice 36 k36) 53 w w.heap.size (fun k_ => P0_ k_) (.slice A0 l0.length c0) l0) (hs1 : Kd.V (Kd.slice 36 k36) 53 w w.heap.size (fun k_ => P1_ k_) (.slice A1 l1.length c1) l1) (hr2 : Kd.C k64 w A2 l2.length l2) (hc2 : l2.length ≤ c2) (h : r6_merge.f k l0 l1 l2 = some r) :
 Calls Tryz.prog 89 #[.slice A0 l0.length c0, .slice A1 l1.length c1, .slice A2 l2.length c2] w fun e w' => ∃ v0_ : Value, e = .returned (v0_) ∧ Kd.N (Kd.slice 36 k36) 53 w' w.heap.size (fun k_ => ((P0_ k_ ∨ P1_ k_) ∨ w.heap.size ≤ k_)) v0_ r ∧ Below w.heap.size w w' := by
 have HO0 := kA_ (show Kd.V (Kd.slice 36 k36) 53 w w.heap.size (fun k_ => ((P0_ k_ ∨ P1_ k_) ∨ w.heap.size ≤ k_)) (.slice A0 l0.length c0) l0 from Kd.V_mono hs0 (fun k_ hk => .inl (.inl hk)))
 have HO1 := kA_ (show Kd.V (Kd.slice 36 k36) 53 w w.heap.size (fun k_ => ((P0_ k_ ∨ P1_ k_) ∨ w.heap.size ≤ k_)) (.slice A1 l1.length c1) l1 from Kd.V_mono hs1 (fun k_ hk => .inl (.inr hk)))
 have HR2 := kA_ hr2
 have HC2 := kA_ hc2
 clear hr2 hc2
 have HB := kA_ (Below.refl w.heap.size w)
 have H : (r6_merge.l0 k l0 l1 l2 ([] : List (List (S36))) 0 0) = some r := h
 clear h
 have H' := kA_ H
 clear H
 go_enter Tryz.func89, Tryz.ntmps89
 go_wp2
 go_loopg [7, 8, 9] k (fun kq v7 v8 v9 w' => ∃ (x7_1 : List (List (S36))) (x8_1 : Int) (x9_1 : Int), v8 = .int .i64 x8_1 ∧ v9 = .int .i64 x9_1 ∧ Aside0 (r6_merge.l0 kq l0 l1 l2 x7_1 x8_1 x9_1 = some r) ∧ Aside0 (kq ≤ k) ∧ Aside0 (Kd.V (Kd.slice 36 k36) 53 w' w.heap.size (fun k_ => ((P0_ k_ ∨ P1_ k_) ∨ w.heap.size ≤ k_) ∧ some k_ ≠ (v7 : Value).ownBlock) (.slice A0 l0.length c0) l0) ∧ Aside0 (Kd.V (Kd.slice 36 k36) 53 w' w.heap.size (fun k_ => ((P0_ k_ ∨ P1_ k_) ∨ w.heap.size ≤ k_) ∧ some k_ ≠ (v7 : Value).ownBlock) (.slice A1 l1.length c1) l1) ∧ Aside0 (Kd.N (Kd.slice 36 k36) 53 w' w.heap.size (fun k_ => ((P0_ k_ ∨ P1_ k_) ∨ w.heap.size ≤ k_)) v7 x7_1) ∧ Aside0 (Below w.heap.size w w'))
 case atStart => exact ⟨(([] : List (List (S36)))), (0), (0), a4_, a4_, H', ⟨Nat.le_refl _⟩, ⟨by (with_reducible repeat (first | apply Kd.vA_ | apply Kd.vN_ | apply Kd.vD_)); exact Kd.V_mono HO0.out (fun _ hk => ⟨hk, (by simp [Value.ownBlock])⟩)⟩, ⟨by (with_reducible repeat (first | apply Kd.vA_ | apply Kd.vN_ | apply Kd.vD_)); exact Kd.V_mono HO1.out (fun _ hk => ⟨hk, (by simp [Value.ownBlock])⟩)⟩, ⟨a88_⟩, ⟨a2_⟩⟩
 case round =>
  clear H'
  try clear c1
  try clear c2
  try clear p2
  obtain ⟨x7_1, x8_1, x9_1, rfl, rfl, HA, HK1, HO_0, HO_1, HO_7, HB⟩ := hrel
  cases gk with
  | zero => exact absurd HA.out (by simp [r6_merge.l0])
  | succ k1 =>
   have H := HA.out
   clear HA
   simp only [r6_merge.l0] at H
   have HC4 := kA_ H
   clear H
   go_upto_region 3 with (fail)
   go_cut [19] (fun v19 wc => ∃ (kq : Nat) (x19_3 : Bool), v19 = .bool x19_3 ∧ Aside0 (r6_merge.j1 kq l0 l1 l2 x7_1 x8_1 x9_1 x19_3 = some r) ∧ Aside0 (kq ≤ k1) ∧ Aside0 (Kd.V (Kd.slice 36 k36) 53 wc w.heap.size (fun k_ => ((P0_ k_ ∨ P1_ k_) ∨ w.heap.size ≤ k_) ∧ some k_ ≠ (u7 : Value).ownBlock) (.slice A0 l0.length c0) l0) ∧ Aside0 (Kd.V (Kd.slice 36 k36) 53 wc w.heap.size (fun k_ => ((P0_ k_ ∨ P1_ k_) ∨ w.heap.size ≤ k_) ∧ some k_ ≠ (u7 : Value).ownBlock) (.slice A1 l1.length c1) l1) ∧ Aside0 (Kd.N (Kd.slice 36 k36) 53 wc w.heap.size (fun k_ => ((P0_ k_ ∨ P1_ k_) ∨ w.heap.size ≤ k_)) u7 x7_1) ∧ Aside0 (Below w.heap.size w wc))
   case first =>
    have H := HC4.out
    clear HC4
    by_cases c5 : x8_1 < (l0.length : Int)
    · rw [if_pos c5] at H
      have c5b0 : decide (x8_1 < (l0.length : Int)) = true := dT_ c5
      clear c5
      (first | rw [c5b0] | (simp only [iL, iW]; rw [c5b0]) | skip)
      have H' := kA_ H
      clear H
      go_wp2
      go_meet
      case rel => exact ⟨_, (true), a4_, H', ⟨a54_⟩, ⟨a50_⟩, ⟨a51_⟩, ⟨by (with_reducible repeat (first | apply Kd.nA_ | apply Kd.nN_ | apply Kd.nD_)); exact HO_7.out⟩, ⟨a2_⟩⟩
    rw [if_neg c5] at H
    have c5b0 : decide (x8_1 < (l0.length : Int)) = false := dF_ c5
    clear c5
    (first | rw [c5b0] | (simp only [iL, iW]; rw [c5b0]) | skip)
    have H' := kA_ H
    clear H
    go_wp2
    go_meet
    case rel => exact ⟨_, (decide (x9_1 < (l1.length : Int))), a4_, H', ⟨a54_⟩, ⟨a50_⟩, ⟨a51_⟩, ⟨by (with_reducible repeat (first | apply Kd.nA_ | apply Kd.nN_ | apply Kd.nD_)); exact HO_7.out⟩, ⟨a2_⟩⟩
   case rest =>
    clear HC4
    try clear c1
    try clear c2
    try clear p2
    try clear c5
    try clear c5b0
    try clear p2
    obtain ⟨kq, x19_3, rfl, HA, HJ3, HO_0, HO_1, HO_7, HB⟩ := hcut
    cases kq with
    | zero => exact absurd HA.out (by simp [r6_merge.j1])
    | succ kj3 =>
     have H := HA.out
     clear HA
     simp only [r6_merge.j1] at H
     by_cases c6 : x19_3 = true
     rotate_left
     · replace c6 := Bool.eq_false_iff.mpr c6
       subst c6
       have H1 : (some x7_1) = some r := by rw [if_neg (show ¬ (false = true) by decide)] at H; exact H
       clear H
       have H := H1
       clear H1
       obtain rfl := Option.some.inj H
       go_wp2
       go_ret
       exact ⟨_, a5_, by (with_reducible repeat (first | apply Kd.nA_ | apply Kd.nN_ | apply Kd.nD_)); exact HO_7.out, a2_⟩
     subst c6
     have H1 : (if x9_1 ≥ (l1.length : Int) then (if 0 ≤ x8_1 then (if x8_1 < (l0.length : Int) then (if x7_1.length < 5864062014805 then (r6_merge.l0 kj3 l0 l1 l2 (x7_1 ++ [rd_L4 l0 x8_1]) (wrap64 (x8_1 + 1)) x9_1) else (none)) else (none)) else (none)) else (if x8_1 < (l0.length : Int) then (if 0 ≤ x9_1 then (if x9_1 < (l1.length : Int) then (if 0 ≤ x8_1 then ((r6_before.f kj3 (rd_L4 l1 x9_1) (rd_L4 l0 x8_1) l2).bind fun t204 => (if t204 = true then (if x7_1.length < 5864062014805 then (r6_merge.l0 kj3 l0 l1 l2 (x7_1 ++ [rd_L4 l1 x9_1]) x8_1 (wrap64 (x9_1 + 1))) else (none)) else (if x7_1.length < 5864062014805 then (r6_merge.l0 kj3 l0 l1 l2 (x7_1 ++ [rd_L4 l0 x8_1]) (wrap64 (x8_1 + 1)) x9_1) else (none)))) else (none)) else (none)) else (none)) else (if 0 ≤ x9_1 then (if x9_1 < (l1.length : Int) then (if x7_1.length < 5864062014805 then (r6_merge.l0 kj3 l0 l1 l2 (x7_1 ++ [rd_L4 l1 x9_1]) x8_1 (wrap64 (x9_1 + 1))) else (none)) else (none)) else (none)))) = some r := by rw [if_pos rfl] at H; exact H
     clear H
     have H := H1
     clear H1
     by_cases c7 : x9_1 ≥ (l1.length : Int)
     · rw [if_pos c7] at H
       have c7b0 : decide ((l1.length : Int) ≤ x9_1) = true := dT_ c7
       clear c7
       by_cases c8 : 0 ≤ x8_1
       rotate_left
       · rw [if_neg c8] at H
         exact absurd H (by simp)
       rw [if_pos c8] at H
       have c8b0 : decide (0 ≤ x8_1) = true := dT_ c8
       clear c8
       by_cases c9 : x8_1 < (l0.length : Int)
       rotate_left
       · rw [if_neg c9] at H
         exact absurd H (by simp)
       rw [if_pos c9] at H
       have c9b0 : decide (x8_1 < (l0.length : Int)) = true := dT_ c9
       clear c9
       by_cases c10 : x7_1.length < 5864062014805
       rotate_left
       · rw [if_neg c10] at H
         exact absurd H (by simp)
       rw [if_pos c10] at H
       have LMc10 := kA_ c10
       clear c10
       obtain ⟨y199, hy199⟩ : ∃ y_ : List (List (S36)), y_ = (x7_1 ++ [rd_L4 l0 x8_1]) := ⟨_, rfl⟩
       replace H : (r6_merge.l0 kj3 l0 l1 l2 y199 (wrap64 (x8_1 + 1)) x9_1) = some r := by first | (rw [hy199]; with_reducible exact H) | (have H2_ := (Option.bind_some _ _).symm.trans H; rw [hy199]; with_reducible exact H2_) | (have H2_ := (Option.bind_some _ _).symm.trans H; with_reducible exact H2_) | with_reducible exact H | (rw [hy199]; exact H) | exact H
       have Ny199 := kA_ hy199
       clear hy199
       have H' := kA_ H
       clear H
       try go_wp2
       have n0_ := kA_ (Kd.vD_ HO_0.out)
       have n1_ := kA_ (Kd.vD_ HO_1.out)
       have n2_ := kA_ (Kd.nD_ HO_7.out)
       have n3_ := kA_ (b1_ HB.out)
       clear HO_0
       clear HO_1
       clear HO_7
       clear HB
       have HO_0 := n0_
       have HO_1 := n1_
       have HO_7 := n2_
       have HB := n3_
       clear n0_ n1_ n2_ n3_
       refine start_ (n := 23) (S := fun w' => True) (ds := []) #[X,X,X,X,X,X,X,X,X,X,X,X,X,X,X,X,X,X,X,X,X,X,X] a3_ rfl rfl trivial (fun hHeld => ?_); refine with_tabW r6_merge.tab4 r6_merge.bits4 (fun HT_ HW_ => ?_)
       generalize wc.drew = w11 at HO_0 HO_1 HO_7 HB hHeld ⊢
       refine pure_ (i := 0) (N := some 20) (v := ?_) (a' := ?_) #[Y,X,X,X,X,X,X,X,X,X,X,X,X,X,X,X,X,X,X,X,X,X,X] rfl rfl (any_of HT_.out a3_) (fun _ _ _ h => h) (Or.inl ⟨by rfl, ?_⟩) ?_ ?_
       rotate_left
       · intro w'
         go_simp
         with_reducible rfl
       rotate_left
       · simp only [Act.put, tA, tZ, tS, iL, iW]
         rfl
       refine pure_ (i := 1) (N := some 21) (v := ?_) (a' := ?_) #[Y,Y,X,X,X,X,X,X,X,X,X,X,X,X,X,X,X,X,X,X,X,X,X] rfl rfl (any_of HT_.out a3_) (fun _ _ _ h => h) (Or.inl ⟨by rfl, ?_⟩) ?_ ?_
       rotate_left
       · intro w'
         go_simp
         with_reducible rfl
       rotate_left
       · simp only [Act.put, tA, tZ, tS, iL, iW]
         rfl
       refine pure_ (i := 2) (N := some 22) (v := ?_) (a' := ?_) #[Y,Y,Y,X,X,X,X,X,X,X,X,X,X,X,X,X,X,X,X,X,X,X,X] rfl rfl (any_of HT_.out a3_) (fun _ _ _ h => h) (Or.inl ⟨by rfl, ?_⟩) ?_ ?_
       rotate_left
       · intro w'
         go_simp
         with_reducible rfl
       rotate_left
       · simp only [Act.put, tA, tZ, tS, iL, iW]
         rfl
       refine pure_ (i := 3) (N := some 23) (v := ?_) (a' := ?_) #[Y,Y,Y,Y,X,X,X,X,X,X,X,X,X,X,X,X,X,X,X,X,X,X,X] rfl rfl (any_of HT_.out a3_) (fun _ _ _ h => h) (Or.inl ⟨by rfl, ?_⟩) ?_ ?_
       rotate_left
       · intro w'
         go_simp
         with_reducible rfl
       rotate_left
       · simp only [Act.put, tA, tZ, tS, iL, iW]
         rfl
       refine pure_ (i := 4) (N := some 24) (v := ?_) (a' := ?_) #[Y,Y,Y,Y,Y,X,X,X,X,X,X,X,X,X,X,X,X,X,X,X,X,X,X] rfl rfl (any_of HT_.out a3_) (fun _ _ _ h => h) (Or.inl ⟨by rfl, ?_⟩) ?_ ?_
       rotate_left
       · intro w'
         go_simp
         with_reducible rfl
       rotate_left
       · simp only [Act.put, tA, tZ, tS, iL, iW]
         rfl
       refine pure_ (i := 5) (N := some 25) (v := undef) (a' := ?_) #[Y,Y,Y,Y,Y,Y,X,X,X,X,X,X,X,X,X,X,X,X,X,X,X,X,X] rfl rfl (any_of HT_.out a3_) (fun _ _ _ h => h) (Or.inr ⟨by rfl, rfl⟩) ?_ ?_
       rotate_left
       · simp only [Act.put, tA, tZ, tS, iL, iW]
         rfl
       refine pure_ (i := 6) (N := some 26) (v := undef) (a' := ?_) #[Y,Y,Y,Y,Y,Y,Y,X,X,X,X,X,X,X,X,X,X,X,X,X,X,X,X] rfl rfl (any_of HT_.out a3_) (fun _ _ _ h => h) (Or.inr ⟨by rfl, rfl⟩) ?_ ?_
       rotate_left
       · simp only [Act.put, tA, tZ, tS, iL, iW]
         rfl
       refine pure_ (i := 7) (N := some 27) (v := undef) (a' := ?_) #[Y,Y,Y,Y,Y,Y,Y,Y,X,X,X,X,X,X,X,X,X,X,X,X,X,X,X] rfl rfl (any_of HT_.out a3_) (fun _ _ _ h => h) (Or.inr ⟨by rfl, rfl⟩) ?_ ?_
       rotate_left
       · simp only [Act.put, tA, tZ, tS, iL, iW]
         rfl
       refine pure_ (i := 8) (N := some 28) (v := undef) (a' := ?_) #[Y,Y,Y,Y,Y,Y,Y,Y,Y,X,X,X,X,X,X,X,X,X,X,X,X,X,X] rfl rfl (any_of HT_.out a3_) (fun _ _ _ h => h) (Or.inr ⟨by rfl, rfl⟩) ?_ ?_
       rotate_left
       · simp only [Act.put, tA, tZ, tS, iL, iW]
         rfl
       refine pure_ (i := 9) (N := some 29) (v := undef) (a' := ?_) #[Y,Y,Y,Y,Y,Y,Y,Y,Y,Y,X,X,X,X,X,X,X,X,X,X,X,X,X] rfl rfl (any_of HT_.out a3_) (fun _ _ _ h => h) (Or.inr ⟨by rfl, rfl⟩) ?_ ?_
       rotate_left
       · simp only [Act.put, tA, tZ, tS, iL, iW]
         rfl
       refine pure_ (i := 10) (N := some 30) (v := undef) (a' := ?_) #[Y,Y,Y,Y,Y,Y,Y,Y,Y,Y,Y,X,X,X,X,X,X,X,X,X,X,X,X] rfl rfl (any_of HT_.out a3_) (fun _ _ _ h => h) (Or.inr ⟨by rfl, rfl⟩) ?_ ?_
       rotate_left
       · simp only [Act.put, tA, tZ, tS, iL, iW]
         rfl
       refine pure_ (i := 11) (N := some 31) (v := undef) (a' := ?_) #[Y,Y,Y,Y,Y,Y,Y,Y,Y,Y,Y,Y,X,X,X,X,X,X,X,X,X,X,X] rfl rfl (any_of HT_.out a3_) (fun _ _ _ h => h) (Or.inr ⟨by rfl, rfl⟩) ?_ ?_
       rotate_left
       · simp only [Act.put, tA, tZ, tS, iL, iW]
         rfl
       refine pure_ (i := 12) (N := some 32) (v := undef) (a' := ?_) #[Y,Y,Y,Y,Y,Y,Y,Y,Y,Y,Y,Y,Y,X,X,X,X,X,X,X,X,X,X] rfl rfl (any_of HT_.out a3_) (fun _ _ _ h => h) (Or.inr ⟨by rfl, rfl⟩) ?_ ?_
       rotate_left
       · simp only [Act.put, tA, tZ, tS, iL, iW]
         rfl
       refine pure_ (i := 13) (N := some 33) (v := undef) (a' := ?_) #[Y,Y,Y,Y,Y,Y,Y,Y,Y,Y,Y,Y,Y,Y,X,X,X,X,X,X,X,X,X] rfl rfl (any_of HT_.out a3_) (fun _ _ _ h => h) (Or.inr ⟨by rfl, rfl⟩) ?_ ?_
       rotate_left
       · simp only [Act.put, tA, tZ, tS, iL, iW]
         rfl
       refine pure_ (i := 14) (N := some 34) (v := undef) (a' := ?_) #[Y,Y,Y,Y,Y,Y,Y,Y,Y,Y,Y,Y,Y,Y,Y,X,X,X,X,X,X,X,X] rfl rfl (any_of HT_.out a3_) (fun _ _ _ h => h) (Or.inr ⟨by rfl, rfl⟩) ?_ ?_
       rotate_left
       · simp only [Act.put, tA, tZ, tS, iL, iW]
         rfl
       refine pure_ (i := 15) (N := some 35) (v := undef) (a' := ?_) #[Y,Y,Y,Y,Y,Y,Y,Y,Y,Y,Y,Y,Y,Y,Y,Y,X,X,X,X,X,X,X] rfl rfl (any_of HT_.out a3_) (fun _ _ _ h => h) (Or.inr ⟨by rfl, rfl⟩) ?_ ?_
       rotate_left
       · simp only [Act.put, tA, tZ, tS, iL, iW]
         rfl
       refine pure_ (i := 16) (N := some 36) (v := undef) (a' := ?_) #[Y,Y,Y,Y,Y,Y,Y,Y,Y,Y,Y,Y,Y,Y,Y,Y,Y,X,X,X,X,X,X] rfl rfl (any_of HT_.out a3_) (fun _ _ _ h => h) (Or.inr ⟨by rfl, rfl⟩) ?_ ?_
       rotate_left
       · simp only [Act.put, tA, tZ, tS, iL, iW]
         rfl
       refine pure_ (i := 17) (N := some 37) (v := undef) (a' := ?_) #[Y,Y,Y,Y,Y,Y,Y,Y,Y,Y,Y,Y,Y,Y,Y,Y,Y,Y,X,X,X,X,X] rfl rfl (any_of HT_.out a3_) (fun _ _ _ h => h) (Or.inr ⟨by rfl, rfl⟩) ?_ ?_
       rotate_left
       · simp only [Act.put, tA, tZ, tS, iL, iW]
         rfl
       refine pure_ (i := 18) (N := some 38) (v := undef) (a' := ?_) #[Y,Y,Y,Y,Y,Y,Y,Y,Y,Y,Y,Y,Y,Y,Y,Y,Y,Y,Y,X,X,X,X] rfl rfl (any_of HT_.out a3_) (fun _ _ _ h => h) (Or.inr ⟨by rfl, rfl⟩) ?_ ?_
       rotate_left
       · simp only [Act.put, tA, tZ, tS, iL, iW]
         rfl
       refine pure_ (i := 19) (N := some 39) (v := undef) (a' := ?_) #[Y,Y,Y,Y,Y,Y,Y,Y,Y,Y,Y,Y,Y,Y,Y,Y,Y,Y,Y,Y,X,X,X] rfl rfl (any_of HT_.out a3_) (fun _ _ _ h => h) (Or.inr ⟨by rfl, rfl⟩) ?_ ?_
       rotate_left
       · simp only [Act.put, tA, tZ, tS, iL, iW]
         rfl
       refine pure_ (i := 20) (N := some 40) (v := undef) (a' := ?_) #[Y,Y,Y,Y,Y,Y,Y,Y,Y,Y,Y,Y,Y,Y,Y,Y,Y,Y,Y,Y,Y,X,X] rfl rfl (any_of HT_.out a3_) (fun _ _ _ h => h) (Or.inr ⟨by rfl, rfl⟩) ?_ ?_
       rotate_left
       · simp only [Act.put, tA, tZ, tS, iL, iW]
         rfl
       refine pure_ (i := 21) (N := some 41) (v := undef) (a' := ?_) #[Y,Y,Y,Y,Y,Y,Y,Y,Y,Y,Y,Y,Y,Y,Y,Y,Y,Y,Y,Y,Y,Y,X] rfl rfl (any_of HT_.out a3_) (fun _ _ _ h => h) (Or.inr ⟨by rfl, rfl⟩) ?_ ?_
       rotate_left
       · simp only [Act.put, tA, tZ, tS, iL, iW]
         rfl
       refine pure_ (i := 22) (N := some 42) (v := ?_) (a' := ?_) #[Y,Y,Y,Y,Y,Y,Y,Y,Y,Y,Y,Y,Y,Y,Y,Y,Y,Y,Y,Y,Y,Y,Y] rfl rfl (any_of HT_.out a3_) (fun _ _ _ h => h) (Or.inl ⟨by rfl, ?_⟩) ?_ ?_
       rotate_left
       · intro w'
         go_simp
         with_reducible rfl
       rotate_left
       · simp only [Act.put, tA, tZ, tS, iL, iW]
         rfl
       refine done_ (done_of HT_.out a3_) ?_
       have p198 : 0 ≤ (x8_1 : Int) := oT_ (by assumption)
       have q198 : x8_1 < (l0.length : Int) := oT_ (by assumption)
       obtain ⟨ad198, A198_0, c198_0, e198, hx198_0, hl198_0, hi198_0⟩ := at_L4 (Kd.V_reads' HO_0.out).2.2 x8_1 p198 q198
       cases e198
       obtain ⟨ce198, hce198, hMe198, hcc198⟩ := Kd.V_get HO_0.out [] x8_1 p198 (by first | exact q198 | exact oT_ (by assumption) | (have e_ := (Kd.V_reads' HO_0.out).1; omega))
       obtain ⟨ua198_0, uc198_0, rfl, ul198_0, ge198_0⟩ := Kd.FK_slice_open hMe198
       have hv198_0 := hcc198 0 _ rfl
       rw [Nat.add_zero, show ((Kd.slice 36 k36)).sz = 1 from rfl, Nat.mul_one] at hv198_0
       replace hv198_0 := Option.some.inj (hv198_0.symm.trans hx198_0)
       injection hv198_0 with hva_ hvn_ hvc_
       rw [hva_] at ge198_0
       rw [hvc_] at ul198_0
       have HL198_0 := kA_ (show Kd.V k36 36 _ w.heap.size _ _ (rd_L4 l0 x8_1) from Kd.V_mk ul198_0 ge198_0)
       clear hva_ hvn_ hvc_ ge198_0 ul198_0
       clear hcc198 hce198
       have HR198_0 := kA_ hi198_0
       have HC198_0 := kA_ hl198_0
       clear hi198_0 hl198_0
       replace p198 := eq_true p198
       replace q198 := eq_true q198
       try go_wp2_with (first | ((with_reducible refine gate_builtin (b := .append) (xs := #[.tmp 43, .tmp 48]) rfl ?_); (try (refine gate_guard (by rfl) ?_; dsimp only)); at_builtin; refine Kd.N_append (Kd.slice 36 k36) (w0 := w) w.heap.size rfl (.tmp 43) (.tmp 48) 22 53 (.slice none 0 0) 24 rfl Tryz.underlying22 info53 rfl (by decide) (by omega) u7 x7_1 (rd_L4 l0 x8_1) [.slice A198_0 (rd_L4 l0 x8_1).length c198_0] (fun k_ => ((P0_ k_ ∨ P1_ k_) ∨ w.heap.size ≤ k_)) (fun k_ => ((fun k_ => ((P0_ k_ ∨ P1_ k_) ∨ w.heap.size ≤ k_))) k_ ∧ some k_ ≠ (u7 : Value).ownBlock) rfl rfl ?aP (fun _ hk => hk) ?aF ?aO ?aB ?aS ?aL ?_; (case aP => exact (Kd.FK_slice_mk (Kd.V_reads' (Kd.V_mono (ok' := (fun k_ => ((fun k_ => ((P0_ k_ ∨ P1_ k_) ∨ w.heap.size ≤ k_))) k_ ∧ some k_ ≠ (u7 : Value).ownBlock)) (HL198_0.out) (fun k_ hk => ⟨hk.1, hk.2⟩))).2.1 (Kd.V_F (Kd.V_mono (ok' := (fun k_ => ((fun k_ => ((P0_ k_ ∨ P1_ k_) ∨ w.heap.size ≤ k_))) k_ ∧ some k_ ≠ (u7 : Value).ownBlock)) (HL198_0.out) (fun k_ hk => ⟨hk.1, hk.2⟩))))); (case aB => exact a0_); (case aF => exact (fun k_ hk => (.inr (Nat.le_trans (below_size a0_) hk)))); (case aO => exact a30_); (case aS => exact (below_size a0_)); (case aL => have := LMc10.out; omega); intro v200 w12 ho hb hg hat; rw [← Ny199.out] at ho; have n0_ := kA_ (Kd.V_afterv (ok := (fun k_ => ((P0_ k_ ∨ P1_ k_) ∨ w.heap.size ≤ k_))) a52_ hg hat); have n1_ := kA_ (Kd.V_afterv (ok := (fun k_ => ((P0_ k_ ∨ P1_ k_) ∨ w.heap.size ≤ k_))) a53_ hg hat); have n2_ := kA_ (Kd.V_afterv (ok := (fun k_ => ((P0_ k_ ∨ P1_ k_) ∨ w.heap.size ≤ k_))) (by (with_reducible repeat (first | apply Kd.vA_ | apply Kd.vN_ | apply Kd.vD_)); exact HL198_0.out) hg hat); have n3_ := kA_ (hb); have n4_ := kA_ (ho); clear HO_0; clear HO_1; clear HL198_0; clear HB; clear HO_7; have HO_0 := n0_; have HO_1 := n1_; have HL198_0 := n2_; have HB := n3_; have HO201 := n4_; clear n0_ n1_ n2_ n3_ n4_; clear ho hb hg hat))
       go_roundg kj3
       case measure => have := HK1.out; have := HJ3.out; omega
       case rel => exact ⟨(y199), (wrap64 (x8_1 + 1)), (x9_1), a4_, a4_, H', ⟨by have := HK1.out; have := HJ3.out; omega⟩, ⟨a50_⟩, ⟨a51_⟩, ⟨by (with_reducible repeat (first | apply Kd.nA_ | apply Kd.nN_ | apply Kd.nD_)); exact HO201.out⟩, ⟨a2_⟩⟩
     rw [if_neg c7] at H
     have c7b0 : decide ((l1.length : Int) ≤ x9_1) = false := dF_ c7
     clear c7
     by_cases c13 : x8_1 < (l0.length : Int)
     rotate_left
     · rw [if_neg c13] at H
       have c13b0 : decide (x8_1 < (l0.length : Int)) = false := dF_ c13
       clear c13
       by_cases c27 : 0 ≤ x9_1
       rotate_left
       · rw [if_neg c27] at H
         exact absurd H (by simp)
       rw [if_pos c27] at H
       have c27b0 : decide (0 ≤ x9_1) = true := dT_ c27
       clear c27
       by_cases c28 : x9_1 < (l1.length : Int)
       rotate_left
       · rw [if_neg c28] at H
         exact absurd H (by simp)
       rw [if_pos c28] at H
       have c28b0 : decide (x9_1 < (l1.length : Int)) = true := dT_ c28
       clear c28
       by_cases c29 : x7_1.length < 5864062014805
       rotate_left
       · rw [if_neg c29] at H
         exact absurd H (by simp)
       rw [if_pos c29] at H
       have LMc29 := kA_ c29
       clear c29
       obtain ⟨y214, hy214⟩ : ∃ y_ : List (List (S36)), y_ = (x7_1 ++ [rd_L4 l1 x9_1]) := ⟨_, rfl⟩
       replace H : (r6_merge.l0 kj3 l0 l1 l2 y214 x8_1 (wrap64 (x9_1 + 1))) = some r := by first | (rw [hy214]; with_reducible exact H) | (have H2_ := (Option.bind_some _ _).symm.trans H; rw [hy214]; with_reducible exact H2_) | (have H2_ := (Option.bind_some _ _).symm.trans H; with_reducible exact H2_) | with_reducible exact H | (rw [hy214]; exact H) | exact H
       have Ny214 := kA_ hy214
       clear hy214
       have H' := kA_ H
       clear H
       try go_wp2
       have n0_ := kA_ (Kd.vD_ HO_0.out)
       have n1_ := kA_ (Kd.vD_ HO_1.out)
       have n2_ := kA_ (Kd.nD_ HO_7.out)
       have n3_ := kA_ (b1_ HB.out)
       clear HO_0
       clear HO_1
       clear HO_7
       clear HB
       have HO_0 := n0_
       have HO_1 := n1_
       have HO_7 := n2_
       have HB := n3_
       clear n0_ n1_ n2_ n3_
       refine start_ (n := 23) (S := fun w' => True) (ds := []) #[X,X,X,X,X,X,X,X,X,X,X,X,X,X,X,X,X,X,X,X,X,X,X] a3_ rfl rfl trivial (fun hHeld => ?_); refine with_tabW r6_merge.tab4 r6_merge.bits4 (fun HT_ HW_ => ?_)
       generalize wc.drew = w30 at HO_0 HO_1 HO_7 HB hHeld ⊢
       refine pure_ (i := 0) (N := some 20) (v := ?_) (a' := ?_) #[Y,X,X,X,X,X,X,X,X,X,X,X,X,X,X,X,X,X,X,X,X,X,X] rfl rfl (any_of HT_.out a3_) (fun _ _ _ h => h) (Or.inl ⟨by rfl, ?_⟩) ?_ ?_
       rotate_left
       · intro w'
         go_simp
         with_reducible rfl
       rotate_left
       · simp only [Act.put, tA, tZ, tS, iL, iW]
         rfl
       refine pure_ (i := 1) (N := some 21) (v := ?_) (a' := ?_) #[Y,Y,X,X,X,X,X,X,X,X,X,X,X,X,X,X,X,X,X,X,X,X,X] rfl rfl (any_of HT_.out a3_) (fun _ _ _ h => h) (Or.inl ⟨by rfl, ?_⟩) ?_ ?_
       rotate_left
       · intro w'
         go_simp
         with_reducible rfl
       rotate_left
       · simp only [Act.put, tA, tZ, tS, iL, iW]
         rfl
       refine pure_ (i := 2) (N := some 22) (v := ?_) (a' := ?_) #[Y,Y,Y,X,X,X,X,X,X,X,X,X,X,X,X,X,X,X,X,X,X,X,X] rfl rfl (any_of HT_.out a3_) (fun _ _ _ h => h) (Or.inl ⟨by rfl, ?_⟩) ?_ ?_
       rotate_left
       · intro w'
         go_simp
         with_reducible rfl
       rotate_left
       · simp only [Act.put, tA, tZ, tS, iL, iW]
         rfl
       refine pure_ (i := 3) (N := some 23) (v := ?_) (a' := ?_) #[Y,Y,Y,Y,X,X,X,X,X,X,X,X,X,X,X,X,X,X,X,X,X,X,X] rfl rfl (any_of HT_.out a3_) (fun _ _ _ h => h) (Or.inl ⟨by rfl, ?_⟩) ?_ ?_
       rotate_left
       · intro w'
         go_simp
         with_reducible rfl
       rotate_left
       · simp only [Act.put, tA, tZ, tS, iL, iW]
         rfl
       refine pure_ (i := 4) (N := some 24) (v := ?_) (a' := ?_) #[Y,Y,Y,Y,Y,X,X,X,X,X,X,X,X,X,X,X,X,X,X,X,X,X,X] rfl rfl (any_of HT_.out a3_) (fun _ _ _ h => h) (Or.inl ⟨by rfl, ?_⟩) ?_ ?_
       rotate_left
       · intro w'
         go_simp
         with_reducible rfl
       rotate_left
       · simp only [Act.put, tA, tZ, tS, iL, iW]
         rfl
       refine pure_ (i := 5) (N := some 25) (v := ?_) (a' := ?_) #[Y,Y,Y,Y,Y,Y,X,X,X,X,X,X,X,X,X,X,X,X,X,X,X,X,X] rfl rfl (any_of HT_.out a3_) (fun _ _ _ h => h) (Or.inl ⟨by rfl, ?_⟩) ?_ ?_
       rotate_left
       · intro w'
         go_simp
         with_reducible rfl
       rotate_left
       · simp only [Act.put, tA, tZ, tS, iL, iW]
         rfl
       refine pure_ (i := 6) (N := some 26) (v := ?_) (a' := ?_) #[Y,Y,Y,Y,Y,Y,Y,X,X,X,X,X,X,X,X,X,X,X,X,X,X,X,X] rfl rfl (any_of HT_.out a3_) (fun _ _ _ h => h) (Or.inl ⟨by rfl, ?_⟩) ?_ ?_
       rotate_left
       · intro w'
         go_simp
         with_reducible rfl
       rotate_left
       · simp only [Act.put, tA, tZ, tS, iL, iW]
         rfl
       refine pure_ (i := 7) (N := some 27) (v := ?_) (a' := ?_) #[Y,Y,Y,Y,Y,Y,Y,Y,X,X,X,X,X,X,X,X,X,X,X,X,X,X,X] rfl rfl (any_of HT_.out a3_) (fun _ _ _ h => h) (Or.inl ⟨by rfl, ?_⟩) ?_ ?_
       rotate_left
       · intro w'
         go_simp
         with_reducible rfl
       rotate_left
       · simp only [Act.put, tA, tZ, tS, iL, iW]
         rfl
       refine pure_ (i := 8) (N := some 28) (v := ?_) (a' := ?_) #[Y,Y,Y,Y,Y,Y,Y,Y,Y,X,X,X,X,X,X,X,X,X,X,X,X,X,X] rfl rfl (any_of HT_.out a3_) (fun _ _ _ h => h) (Or.inl ⟨by rfl, ?_⟩) ?_ ?_
       rotate_left
       · intro w'
         go_simp
         with_reducible rfl
       rotate_left
       · simp only [Act.put, tA, tZ, tS, iL, iW]
         rfl
       refine pure_ (i := 9) (N := some 29) (v := ?_) (a' := ?_) #[Y,Y,Y,Y,Y,Y,Y,Y,Y,Y,X,X,X,X,X,X,X,X,X,X,X,X,X] rfl rfl (any_of HT_.out a3_) (fun _ _ _ h => h) (Or.inl ⟨by rfl, ?_⟩) ?_ ?_
       rotate_left
       · intro w'
         go_simp
         with_reducible rfl
       rotate_left
       · simp only [Act.put, tA, tZ, tS, iL, iW]
         rfl
       refine pure_ (i := 10) (N := some 30) (v := undef) (a' := ?_) #[Y,Y,Y,Y,Y,Y,Y,Y,Y,Y,Y,X,X,X,X,X,X,X,X,X,X,X,X] rfl rfl (any_of HT_.out a3_) (fun _ _ _ h => h) (Or.inr ⟨by rfl, rfl⟩) ?_ ?_
       rotate_left
       · simp only [Act.put, tA, tZ, tS, iL, iW]
         rfl
       refine pure_ (i := 11) (N := some 31) (v := undef) (a' := ?_) #[Y,Y,Y,Y,Y,Y,Y,Y,Y,Y,Y,Y,X,X,X,X,X,X,X,X,X,X,X] rfl rfl (any_of HT_.out a3_) (fun _ _ _ h => h) (Or.inr ⟨by rfl, rfl⟩) ?_ ?_
       rotate_left
       · simp only [Act.put, tA, tZ, tS, iL, iW]
         rfl
       refine pure_ (i := 12) (N := some 32) (v := undef) (a' := ?_) #[Y,Y,Y,Y,Y,Y,Y,Y,Y,Y,Y,Y,Y,X,X,X,X,X,X,X,X,X,X] rfl rfl (any_of HT_.out a3_) (fun _ _ _ h => h) (Or.inr ⟨by rfl, rfl⟩) ?_ ?_
       rotate_left
       · simp only [Act.put, tA, tZ, tS, iL, iW]
         rfl
       refine pure_ (i := 13) (N := some 33) (v := undef) (a' := ?_) #[Y,Y,Y,Y,Y,Y,Y,Y,Y,Y,Y,Y,Y,Y,X,X,X,X,X,X,X,X,X] rfl rfl (any_of HT_.out a3_) (fun _ _ _ h => h) (Or.inr ⟨by rfl, rfl⟩) ?_ ?_
       rotate_left
       · simp only [Act.put, tA, tZ, tS, iL, iW]
         rfl
       refine pure_ (i := 14) (N := some 34) (v := undef) (a' := ?_) #[Y,Y,Y,Y,Y,Y,Y,Y,Y,Y,Y,Y,Y,Y,Y,X,X,X,X,X,X,X,X] rfl rfl (any_of HT_.out a3_) (fun _ _ _ h => h) (Or.inr ⟨by rfl, rfl⟩) ?_ ?_
       rotate_left
       · simp only [Act.put, tA, tZ, tS, iL, iW]
         rfl
       refine pure_ (i := 15) (N := some 35) (v := undef) (a' := ?_) #[Y,Y,Y,Y,Y,Y,Y,Y,Y,Y,Y,Y,Y,Y,Y,Y,X,X,X,X,X,X,X] rfl rfl (any_of HT_.out a3_) (fun _ _ _ h => h) (Or.inr ⟨by rfl, rfl⟩) ?_ ?_
       rotate_left
       · simp only [Act.put, tA, tZ, tS, iL, iW]
         rfl
       refine pure_ (i := 16) (N := some 36) (v := undef) (a' := ?_) #[Y,Y,Y,Y,Y,Y,Y,Y,Y,Y,Y,Y,Y,Y,Y,Y,Y,X,X,X,X,X,X] rfl rfl (any_of HT_.out a3_) (fun _ _ _ h => h) (Or.inr ⟨by rfl, rfl⟩) ?_ ?_
       rotate_left
       · simp only [Act.put, tA, tZ, tS, iL, iW]
         rfl
       refine pure_ (i := 17) (N := some 37) (v := undef) (a' := ?_) #[Y,Y,Y,Y,Y,Y,Y,Y,Y,Y,Y,Y,Y,Y,Y,Y,Y,Y,X,X,X,X,X] rfl rfl (any_of HT_.out a3_) (fun _ _ _ h => h) (Or.inr ⟨by rfl, rfl⟩) ?_ ?_
       rotate_left
       · simp only [Act.put, tA, tZ, tS, iL, iW]
         rfl
       refine pure_ (i := 18) (N := some 38) (v := undef) (a' := ?_) #[Y,Y,Y,Y,Y,Y,Y,Y,Y,Y,Y,Y,Y,Y,Y,Y,Y,Y,Y,X,X,X,X] rfl rfl (any_of HT_.out a3_) (fun _ _ _ h => h) (Or.inr ⟨by rfl, rfl⟩) ?_ ?_
       rotate_left
       · simp only [Act.put, tA, tZ, tS, iL, iW]
         rfl
       refine pure_ (i := 19) (N := some 39) (v := undef) (a' := ?_) #[Y,Y,Y,Y,Y,Y,Y,Y,Y,Y,Y,Y,Y,Y,Y,Y,Y,Y,Y,Y,X,X,X] rfl rfl (any_of HT_.out a3_) (fun _ _ _ h => h) (Or.inr ⟨by rfl, rfl⟩) ?_ ?_
       rotate_left
       · simp only [Act.put, tA, tZ, tS, iL, iW]
         rfl
       refine pure_ (i := 20) (N := some 40) (v := undef) (a' := ?_) #[Y,Y,Y,Y,Y,Y,Y,Y,Y,Y,Y,Y,Y,Y,Y,Y,Y,Y,Y,Y,Y,X,X] rfl rfl (any_of HT_.out a3_) (fun _ _ _ h => h) (Or.inr ⟨by rfl, rfl⟩) ?_ ?_
       rotate_left
       · simp only [Act.put, tA, tZ, tS, iL, iW]
         rfl
       refine pure_ (i := 21) (N := some 41) (v := ?_) (a' := ?_) #[Y,Y,Y,Y,Y,Y,Y,Y,Y,Y,Y,Y,Y,Y,Y,Y,Y,Y,Y,Y,Y,Y,X] rfl rfl (any_of HT_.out a3_) (fun _ _ _ h => h) (Or.inl ⟨by rfl, ?_⟩) ?_ ?_
       rotate_left
       · intro w'
         go_simp
         with_reducible rfl
       rotate_left
       · simp only [Act.put, tA, tZ, tS, iL, iW]
         rfl
       refine pure_ (i := 22) (N := some 42) (v := ?_) (a' := ?_) #[Y,Y,Y,Y,Y,Y,Y,Y,Y,Y,Y,Y,Y,Y,Y,Y,Y,Y,Y,Y,Y,Y,Y] rfl rfl (any_of HT_.out a3_) (fun _ _ _ h => h) (Or.inl ⟨by rfl, ?_⟩) ?_ ?_
       rotate_left
       · intro w'
         go_simp
         with_reducible rfl
       rotate_left
       · simp only [Act.put, tA, tZ, tS, iL, iW]
         rfl
       refine done_ (done_of HT_.out a3_) ?_
       have p213 : 0 ≤ (x9_1 : Int) := oT_ (by assumption)
       have q213 : x9_1 < (l1.length : Int) := oT_ (by assumption)
       obtain ⟨ad213, A213_0, c213_0, e213, hx213_0, hl213_0, hi213_0⟩ := at_L4 (Kd.V_reads' HO_1.out).2.2 x9_1 p213 q213
       cases e213
       obtain ⟨ce213, hce213, hMe213, hcc213⟩ := Kd.V_get HO_1.out [] x9_1 p213 (by first | exact q213 | exact oT_ (by assumption) | (have e_ := (Kd.V_reads' HO_1.out).1; omega))
       obtain ⟨ua213_0, uc213_0, rfl, ul213_0, ge213_0⟩ := Kd.FK_slice_open hMe213
       have hv213_0 := hcc213 0 _ rfl
       rw [Nat.add_zero, show ((Kd.slice 36 k36)).sz = 1 from rfl, Nat.mul_one] at hv213_0
       replace hv213_0 := Option.some.inj (hv213_0.symm.trans hx213_0)
       injection hv213_0 with hva_ hvn_ hvc_
       rw [hva_] at ge213_0
       rw [hvc_] at ul213_0
       have HL213_0 := kA_ (show Kd.V k36 36 _ w.heap.size _ _ (rd_L4 l1 x9_1) from Kd.V_mk ul213_0 ge213_0)
       clear hva_ hvn_ hvc_ ge213_0 ul213_0
       clear hcc213 hce213
       have HR213_0 := kA_ hi213_0
       have HC213_0 := kA_ hl213_0
       clear hi213_0 hl213_0
       replace p213 := eq_true p213
       replace q213 := eq_true q213
       try go_wp2_with (first | ((with_reducible refine gate_builtin (b := .append) (xs := #[.tmp 52, .tmp 57]) rfl ?_); (try (refine gate_guard (by rfl) ?_; dsimp only)); at_builtin; refine Kd.N_append (Kd.slice 36 k36) (w0 := w) w.heap.size rfl (.tmp 52) (.tmp 57) 22 53 (.slice none 0 0) 24 rfl Tryz.underlying22 info53 rfl (by decide) (by omega) u7 x7_1 (rd_L4 l1 x9_1) [.slice A213_0 (rd_L4 l1 x9_1).length c213_0] (fun k_ => ((P0_ k_ ∨ P1_ k_) ∨ w.heap.size ≤ k_)) (fun k_ => ((fun k_ => ((P0_ k_ ∨ P1_ k_) ∨ w.heap.size ≤ k_))) k_ ∧ some k_ ≠ (u7 : Value).ownBlock) rfl rfl ?aP (fun _ hk => hk) ?aF ?aO ?aB ?aS ?aL ?_; (case aP => exact (Kd.FK_slice_mk (Kd.V_reads' (Kd.V_mono (ok' := (fun k_ => ((fun k_ => ((P0_ k_ ∨ P1_ k_) ∨ w.heap.size ≤ k_))) k_ ∧ some k_ ≠ (u7 : Value).ownBlock)) (HL213_0.out) (fun k_ hk => ⟨hk.1, hk.2⟩))).2.1 (Kd.V_F (Kd.V_mono (ok' := (fun k_ => ((fun k_ => ((P0_ k_ ∨ P1_ k_) ∨ w.heap.size ≤ k_))) k_ ∧ some k_ ≠ (u7 : Value).ownBlock)) (HL213_0.out) (fun k_ hk => ⟨hk.1, hk.2⟩))))); (case aB => exact a0_); (case aF => exact (fun k_ hk => (.inr (Nat.le_trans (below_size a0_) hk)))); (case aO => exact a30_); (case aS => exact (below_size a0_)); (case aL => have := LMc29.out; omega); intro v215 w31 ho hb hg hat; rw [← Ny214.out] at ho; have n0_ := kA_ (Kd.V_afterv (ok := (fun k_ => ((P0_ k_ ∨ P1_ k_) ∨ w.heap.size ≤ k_))) a52_ hg hat); have n1_ := kA_ (Kd.V_afterv (ok := (fun k_ => ((P0_ k_ ∨ P1_ k_) ∨ w.heap.size ≤ k_))) a53_ hg hat); have n2_ := kA_ (Kd.V_afterv (ok := (fun k_ => ((P0_ k_ ∨ P1_ k_) ∨ w.heap.size ≤ k_))) (by (with_reducible repeat (first | apply Kd.vA_ | apply Kd.vN_ | apply Kd.vD_)); exact HL213_0.out) hg hat); have n3_ := kA_ (hb); have n4_ := kA_ (ho); clear HO_0; clear HO_1; clear HL213_0; clear HB; clear HO_7; have HO_0 := n0_; have HO_1 := n1_; have HL213_0 := n2_; have HB := n3_; have HO216 := n4_; clear n0_ n1_ n2_ n3_ n4_; clear ho hb hg hat))
       go_roundg kj3
       case measure => have := HK1.out; have := HJ3.out; omega
       case rel => exact ⟨(y214), (x8_1), (wrap64 (x9_1 + 1)), a4_, a4_, H', ⟨by have := HK1.out; have := HJ3.out; omega⟩, ⟨a50_⟩, ⟨a51_⟩, ⟨by (with_reducible repeat (first | apply Kd.nA_ | apply Kd.nN_ | apply Kd.nD_)); exact HO216.out⟩, ⟨a2_⟩⟩
     rw [if_pos c13] at H
     have c13b0 : decide (x8_1 < (l0.length : Int)) = true := dT_ c13
     clear c13
     by_cases c14 : 0 ≤ x9_1
     rotate_left
     · rw [if_neg c14] at H
       exact absurd H (by simp)
     rw [if_pos c14] at H
     have c14b0 : decide (0 ≤ x9_1) = true := dT_ c14
     clear c14
     by_cases c15 : x9_1 < (l1.length : Int)
     rotate_left
     · rw [if_neg c15] at H
       exact absurd H (by simp)
     rw [if_pos c15] at H
     have c15b0 : decide (x9_1 < (l1.length : Int)) = true := dT_ c15
     clear c15
     by_cases c16 : 0 ≤ x8_1
     rotate_left
     · rw [if_neg c16] at H
       exact absurd H (by simp)
     rw [if_pos c16] at H
     have c16b0 : decide (0 ≤ x8_1) = true := dT_ c16
     clear c16
     replace H := Option.bind_eq_some_iff.mp H
     obtain ⟨t204, A170, H⟩ := H
     replace H : (if t204 = true then (if x7_1.length < 5864062014805 then (r6_merge.l0 kj3 l0 l1 l2 (x7_1 ++ [rd_L4 l1 x9_1]) x8_1 (wrap64 (x9_1 + 1))) else (none)) else (if x7_1.length < 5864062014805 then (r6_merge.l0 kj3 l0 l1 l2 (x7_1 ++ [rd_L4 l0 x8_1]) (wrap64 (x8_1 + 1)) x9_1) else (none))) = some r := H
     have A17 := kA_ A170
     clear A170
     by_cases c18 : t204 = true
     · subst c18
       have H1 : (if x7_1.length < 5864062014805 then (r6_merge.l0 kj3 l0 l1 l2 (x7_1 ++ [rd_L4 l1 x9_1]) x8_1 (wrap64 (x9_1 + 1))) else (none)) = some r := by rw [if_pos rfl] at H; exact H
       clear H
       have H := H1
       clear H1
       by_cases c19 : x7_1.length < 5864062014805
       rotate_left
       · rw [if_neg c19] at H
         exact absurd H (by simp)
       rw [if_pos c19] at H
       have LMc19 := kA_ c19
       clear c19
       obtain ⟨y206, hy206⟩ : ∃ y_ : List (List (S36)), y_ = (x7_1 ++ [rd_L4 l1 x9_1]) := ⟨_, rfl⟩
       replace H : (r6_merge.l0 kj3 l0 l1 l2 y206 x8_1 (wrap64 (x9_1 + 1))) = some r := by first | (rw [hy206]; with_reducible exact H) | (have H2_ := (Option.bind_some _ _).symm.trans H; rw [hy206]; with_reducible exact H2_) | (have H2_ := (Option.bind_some _ _).symm.trans H; with_reducible exact H2_) | with_reducible exact H | (rw [hy206]; exact H) | exact H
       have Ny206 := kA_ hy206
       clear hy206
       have H' := kA_ H
       clear H
       try go_wp2
       have n0_ := kA_ (Kd.vD_ HO_0.out)
       have n1_ := kA_ (Kd.vD_ HO_1.out)
       have n2_ := kA_ (Kd.nD_ HO_7.out)
       have n3_ := kA_ (b1_ HB.out)
       clear HO_0
       clear HO_1
       clear HO_7
       clear HB
       have HO_0 := n0_
       have HO_1 := n1_
       have HO_7 := n2_
       have HB := n3_
       clear n0_ n1_ n2_ n3_
       have p202 : 0 ≤ (x9_1 : Int) := oT_ (by assumption)
       have q202 : x9_1 < (l1.length : Int) := oT_ (by assumption)
       obtain ⟨ad202, A202_0, c202_0, e202, hx202_0, hl202_0, hi202_0⟩ := at_L4 (Kd.V_reads' HO_1.out).2.2 x9_1 p202 q202
       cases e202
       obtain ⟨ce202, hce202, hMe202, hcc202⟩ := Kd.V_get HO_1.out [] x9_1 p202 (by first | exact q202 | exact oT_ (by assumption) | (have e_ := (Kd.V_reads' HO_1.out).1; omega))
       obtain ⟨ua202_0, uc202_0, rfl, ul202_0, ge202_0⟩ := Kd.FK_slice_open hMe202
       have hv202_0 := hcc202 0 _ rfl
       rw [Nat.add_zero, show ((Kd.slice 36 k36)).sz = 1 from rfl, Nat.mul_one] at hv202_0
       replace hv202_0 := Option.some.inj (hv202_0.symm.trans hx202_0)
       injection hv202_0 with hva_ hvn_ hvc_
       rw [hva_] at ge202_0
       rw [hvc_] at ul202_0
       have HL202_0 := kA_ (show Kd.V k36 36 _ w.heap.size _ _ (rd_L4 l1 x9_1) from Kd.V_mk ul202_0 ge202_0)
       clear hva_ hvn_ hvc_ ge202_0 ul202_0
       clear hcc202 hce202
       have HR202_0 := kA_ hi202_0
       have HC202_0 := kA_ hl202_0
       clear hi202_0 hl202_0
       replace p202 := eq_true p202
       replace q202 := eq_true q202
       have p203 : 0 ≤ (x8_1 : Int) := oT_ (by assumption)
       have q203 : x8_1 < (l0.length : Int) := oT_ (by assumption)
       obtain ⟨ad203, A203_0, c203_0, e203, hx203_0, hl203_0, hi203_0⟩ := at_L4 (Kd.V_reads' HO_0.out).2.2 x8_1 p203 q203
       cases e203
       obtain ⟨ce203, hce203, hMe203, hcc203⟩ := Kd.V_get HO_0.out [] x8_1 p203 (by first | exact q203 | exact oT_ (by assumption) | (have e_ := (Kd.V_reads' HO_0.out).1; omega))
       obtain ⟨ua203_0, uc203_0, rfl, ul203_0, ge203_0⟩ := Kd.FK_slice_open hMe203
       have hv203_0 := hcc203 0 _ rfl
       rw [Nat.add_zero, show ((Kd.slice 36 k36)).sz = 1 from rfl, Nat.mul_one] at hv203_0
       replace hv203_0 := Option.some.inj (hv203_0.symm.trans hx203_0)
       injection hv203_0 with hva_ hvn_ hvc_
       rw [hva_] at ge203_0
       rw [hvc_] at ul203_0
       have HL203_0 := kA_ (show Kd.V k36 36 _ w.heap.size _ _ (rd_L4 l0 x8_1) from Kd.V_mk ul203_0 ge203_0)
       clear hva_ hvn_ hvc_ ge203_0 ul203_0
       clear hcc203 hce203
       have HR203_0 := kA_ hi203_0
       have HC203_0 := kA_ hl203_0
       clear hi203_0 hl203_0
       replace p203 := eq_true p203
       replace q203 := eq_true q203
       refine start_ (n := 23) (S := fun w' => w'.cell? (ad202.add (x9_1).toNat) = some (.slice A202_0 (rd_L4 l1 x9_1).length c202_0) ∧ w'.cell? (ad203.add (x8_1).toNat) = some (.slice A203_0 (rd_L4 l0 x8_1).length c203_0)) (ds := []) #[X,X,X,X,X,X,X,X,X,X,X,X,X,X,X,X,X,X,X,X,X,X,X] a3_ rfl rfl ⟨hx202_0, hx203_0⟩ (fun hHeld => ?_); refine with_tabW r6_merge.tab4 r6_merge.bits4 (fun HT_ HW_ => ?_)
       generalize wc.drew = w20 at HO_0 HO_1 HO_7 HB HL202_0 HL203_0 HR202_0 HR203_0 hx202_0 hx203_0 hHeld ⊢
       refine pure_ (i := 0) (N := some 20) (v := ?_) (a' := ?_) #[Y,X,X,X,X,X,X,X,X,X,X,X,X,X,X,X,X,X,X,X,X,X,X] rfl rfl (any_of HT_.out a3_) (fun _ _ _ h => h) (Or.inl ⟨by rfl, ?_⟩) ?_ ?_
       rotate_left
       · intro w'
         go_simp
         with_reducible rfl
       rotate_left
       · simp only [Act.put, tA, tZ, tS, iL, iW]
         rfl
       refine pure_ (i := 1) (N := some 21) (v := ?_) (a' := ?_) #[Y,Y,X,X,X,X,X,X,X,X,X,X,X,X,X,X,X,X,X,X,X,X,X] rfl rfl (any_of HT_.out a3_) (fun _ _ _ h => h) (Or.inl ⟨by rfl, ?_⟩) ?_ ?_
       rotate_left
       · intro w'
         go_simp
         with_reducible rfl
       rotate_left
       · simp only [Act.put, tA, tZ, tS, iL, iW]
         rfl
       refine pure_ (i := 2) (N := some 22) (v := ?_) (a' := ?_) #[Y,Y,Y,X,X,X,X,X,X,X,X,X,X,X,X,X,X,X,X,X,X,X,X] rfl rfl (any_of HT_.out a3_) (fun _ _ _ h => h) (Or.inl ⟨by rfl, ?_⟩) ?_ ?_
       rotate_left
       · intro w'
         go_simp
         with_reducible rfl
       rotate_left
       · simp only [Act.put, tA, tZ, tS, iL, iW]
         rfl
       refine pure_ (i := 3) (N := some 23) (v := ?_) (a' := ?_) #[Y,Y,Y,Y,X,X,X,X,X,X,X,X,X,X,X,X,X,X,X,X,X,X,X] rfl rfl (any_of HT_.out a3_) (fun _ _ _ h => h) (Or.inl ⟨by rfl, ?_⟩) ?_ ?_
       rotate_left
       · intro w'
         go_simp
         with_reducible rfl
       rotate_left
       · simp only [Act.put, tA, tZ, tS, iL, iW]
         rfl
       refine pure_ (i := 4) (N := some 24) (v := ?_) (a' := ?_) #[Y,Y,Y,Y,Y,X,X,X,X,X,X,X,X,X,X,X,X,X,X,X,X,X,X] rfl rfl (any_of HT_.out a3_) (fun _ _ _ h => h) (Or.inl ⟨by rfl, ?_⟩) ?_ ?_
       rotate_left
       · intro w'
         go_simp
         with_reducible rfl
       rotate_left
       · simp only [Act.put, tA, tZ, tS, iL, iW]
         rfl
       refine pure_ (i := 5) (N := some 25) (v := ?_) (a' := ?_) #[Y,Y,Y,Y,Y,Y,X,X,X,X,X,X,X,X,X,X,X,X,X,X,X,X,X] rfl rfl (any_of HT_.out a3_) (fun _ _ _ h => h) (Or.inl ⟨by rfl, ?_⟩) ?_ ?_
       rotate_left
       · intro w'
         go_simp
         with_reducible rfl
       rotate_left
       · simp only [Act.put, tA, tZ, tS, iL, iW]
         rfl
       refine pure_ (i := 6) (N := some 26) (v := ?_) (a' := ?_) #[Y,Y,Y,Y,Y,Y,Y,X,X,X,X,X,X,X,X,X,X,X,X,X,X,X,X] rfl rfl (any_of HT_.out a3_) (fun _ _ _ h => h) (Or.inl ⟨by rfl, ?_⟩) ?_ ?_
       rotate_left
       · intro w'
         go_simp
         with_reducible rfl
       rotate_left
       · simp only [Act.put, tA, tZ, tS, iL, iW]
         rfl
       refine pure_ (i := 7) (N := some 27) (v := ?_) (a' := ?_) #[Y,Y,Y,Y,Y,Y,Y,Y,X,X,X,X,X,X,X,X,X,X,X,X,X,X,X] rfl rfl (any_of HT_.out a3_) (fun _ _ _ h => h) (Or.inl ⟨by rfl, ?_⟩) ?_ ?_
       rotate_left
       · intro w'
         go_simp
         with_reducible rfl
       rotate_left
       · simp only [Act.put, tA, tZ, tS, iL, iW]
         rfl
       refine pure_ (i := 8) (N := some 28) (v := ?_) (a' := ?_) #[Y,Y,Y,Y,Y,Y,Y,Y,Y,X,X,X,X,X,X,X,X,X,X,X,X,X,X] rfl rfl (any_of HT_.out a3_) (fun _ _ _ h => h) (Or.inl ⟨by rfl, ?_⟩) ?_ ?_
       rotate_left
       · intro w'
         go_simp
         with_reducible rfl
       rotate_left
       · simp only [Act.put, tA, tZ, tS, iL, iW]
         rfl
       refine pure_ (i := 9) (N := some 29) (v := ?_) (a' := ?_) #[Y,Y,Y,Y,Y,Y,Y,Y,Y,Y,X,X,X,X,X,X,X,X,X,X,X,X,X] rfl rfl (any_of HT_.out a3_) (fun _ _ _ h => h) (Or.inl ⟨by rfl, ?_⟩) ?_ ?_
       rotate_left
       · intro w'
         go_simp
         with_reducible rfl
       rotate_left
       · simp only [Act.put, tA, tZ, tS, iL, iW]
         rfl
       refine pure_ (i := 10) (N := some 30) (v := ?_) (a' := ?_) #[Y,Y,Y,Y,Y,Y,Y,Y,Y,Y,Y,X,X,X,X,X,X,X,X,X,X,X,X] rfl rfl (any_of HT_.out a3_) (fun _ _ _ h => h) (Or.inl ⟨by rfl, ?_⟩) ?_ ?_
       rotate_left
       · intro w'
         go_simp
         with_reducible rfl
       rotate_left
       · simp only [Act.put, tA, tZ, tS, iL, iW]
         rfl
       refine pure_ (i := 11) (N := some 31) (v := ?_) (a' := ?_) #[Y,Y,Y,Y,Y,Y,Y,Y,Y,Y,Y,Y,X,X,X,X,X,X,X,X,X,X,X] rfl rfl (any_of HT_.out a3_) (fun _ _ _ h => h) (Or.inl ⟨by rfl, ?_⟩) ?_ ?_
       rotate_left
       · intro w'
         go_simp
         with_reducible rfl
       rotate_left
       · simp only [Act.put, tA, tZ, tS, iL, iW]
         rfl
       refine pure_ (i := 12) (N := some 32) (v := ?_) (a' := ?_) #[Y,Y,Y,Y,Y,Y,Y,Y,Y,Y,Y,Y,Y,X,X,X,X,X,X,X,X,X,X] rfl rfl (any_of HT_.out a3_) (fun _ _ _ h => h) (Or.inl ⟨by rfl, ?_⟩) ?_ ?_
       rotate_left
       · intro w'
         go_simp
         with_reducible rfl
       rotate_left
       · simp only [Act.put, tA, tZ, tS, iL, iW]
         rfl
       refine pure_ (i := 14) (N := some 34) (v := ?_) (a' := ?_) #[Y,Y,Y,Y,Y,Y,Y,Y,Y,Y,Y,Y,Y,X,Y,X,X,X,X,X,X,X,X] rfl rfl (any_of HT_.out a3_) (fun _ _ _ h => h) (Or.inl ⟨by rfl, ?_⟩) ?_ ?_
       rotate_left
       · intro w'
         go_simp
         with_reducible rfl
       rotate_left
       · simp only [Act.put, tA, tZ, tS, iL, iW]
         rfl
       refine pure_ (i := 15) (N := some 35) (v := ?_) (a' := ?_) #[Y,Y,Y,Y,Y,Y,Y,Y,Y,Y,Y,Y,Y,X,Y,Y,X,X,X,X,X,X,X] rfl rfl (any_of HT_.out a3_) (fun _ _ _ h => h) (Or.inl ⟨by rfl, ?_⟩) ?_ ?_
       rotate_left
       · intro w'
         go_simp
         with_reducible rfl
       rotate_left
       · simp only [Act.put, tA, tZ, tS, iL, iW]
         rfl
       refine pure_ (i := 16) (N := some 36) (v := ?_) (a' := ?_) #[Y,Y,Y,Y,Y,Y,Y,Y,Y,Y,Y,Y,Y,X,Y,Y,Y,X,X,X,X,X,X] rfl rfl (any_of HT_.out a3_) (fun _ _ _ h => h) (Or.inl ⟨by rfl, ?_⟩) ?_ ?_
       rotate_left
       · intro w'
         go_simp
         with_reducible rfl
       rotate_left
       · simp only [Act.put, tA, tZ, tS, iL, iW]
         rfl
       refine pure_ (i := 18) (N := some 38) (v := ?_) (a' := ?_) #[Y,Y,Y,Y,Y,Y,Y,Y,Y,Y,Y,Y,Y,X,Y,Y,Y,X,Y,X,X,X,X] rfl rfl (any_of HT_.out a3_) (fun _ _ _ h => h) (Or.inl ⟨by rfl, ?_⟩) ?_ ?_
       rotate_left
       · intro w'
         go_simp
         with_reducible rfl
       rotate_left
       · simp only [Act.put, tA, tZ, tS, iL, iW]
         rfl
       refine take_ (i := 13) (N := some 33) (v := ?_) (a' := ?_) #[Y,Y,Y,Y,Y,Y,Y,Y,Y,Y,Y,Y,Y,Y,Y,Y,Y,X,Y,X,X,X,X] rfl rfl (take_ofW HT_.out HW_.out a3_) (fun _ _ _ h => h) (Or.inl ⟨by rfl, ?_⟩) hHeld ?_ ?_
       rotate_left
       · rintro w' ⟨s0, s1⟩
         go_simp
         with_reducible rfl
       rotate_left
       · simp only [Act.put, tA, tZ, tS, iL, iW]
         rfl
       refine take_ (i := 17) (N := some 37) (v := ?_) (a' := ?_) #[Y,Y,Y,Y,Y,Y,Y,Y,Y,Y,Y,Y,Y,Y,Y,Y,Y,Y,Y,X,X,X,X] rfl rfl (take_ofW HT_.out HW_.out a3_) (fun _ _ _ h => h) (Or.inl ⟨by rfl, ?_⟩) hHeld ?_ ?_
       rotate_left
       · rintro w' ⟨s0, s1⟩
         go_simp
         with_reducible rfl
       rotate_left
       · simp only [Act.put, tA, tZ, tS, iL, iW]
         rfl
       refine one_ (i := 19) (N := some 39) #[Y,Y,Y,Y,Y,Y,Y,Y,Y,Y,Y,Y,Y,Y,Y,Y,Y,Y,Y,Y,X,X,X] rfl rfl (one_of HT_.out a3_) (by decide) (fun K hK => ?_)
       refine goes_ Tryz.func102 a3_ rfl #[.slice A202_0 (rd_L4 l1 x9_1).length c202_0, .slice A203_0 (rd_L4 l0 x8_1).length c203_0, .slice A2 l2.length c2] (by rfl) rfl rfl a1_ ?_
       with_reducible refine (r6_before.calls kj3 _ _ (rd_L4 l1 x9_1) _ _ (rd_L4 l0 x8_1) _ _ l2 true _ ?side1 ?side2 ?side3 ?side4 ?side5 ?side6 A17.out).mono ?_
       (case side1 => repeat (first | exact a43_ | (with_reducible refine Kd.cA_ ?_ _) | (with_reducible refine Kd.cN_ ?_ _) | (with_reducible refine Kd.cD_ ?_)))
       (case side2 => exact HC202_0.out)
       (case side3 => repeat (first | exact a44_ | (with_reducible refine Kd.cA_ ?_ _) | (with_reducible refine Kd.cN_ ?_ _) | (with_reducible refine Kd.cD_ ?_)))
       (case side4 => exact HC203_0.out)
       (case side5 => repeat (first | exact (Kd.C_below HR2.out HB.out) | (with_reducible refine Kd.cA_ ?_ _) | (with_reducible refine Kd.cN_ ?_ _) | (with_reducible refine Kd.cD_ ?_)))
       (case side6 => exact HC2.out)
       rintro e w21 ⟨rfl, hb⟩
       have HS0_ := (hb.cell (bLC_ _ _ (hHeld.1))).trans (hHeld.1)
       have HS1_ := (hb.cell (bLC_ _ _ (hHeld.2))).trans (hHeld.2)
       refine ⟨_, rfl, ?_⟩
       have n0_ := kA_ (Kd.V_below a52_ hb)
       have n1_ := kA_ (Kd.V_below a53_ hb)
       have n2_ := kA_ (Kd.N_below a30_ hb)
       have n3_ := kA_ (Kd.V_below a67_ hb)
       have n4_ := kA_ (Kd.V_below a68_ hb)
       have n5_ := kA_ (Kd.C_below a43_ hb)
       have n6_ := kA_ (Kd.C_below a44_ hb)
       have n7_ := kA_ (below_step a0_ hb)
       clear HO_0
       clear HO_1
       clear HO_7
       clear HL202_0
       clear HL203_0
       clear HR202_0
       clear HR203_0
       clear HB
       have HO_0 := n0_
       have HO_1 := n1_
       have HO_7 := n2_
       have HL202_0 := n3_
       have HL203_0 := n4_
       have HR202_0 := n5_
       have HR203_0 := n6_
       have HB := n7_
       clear n0_ n1_ n2_ n3_ n4_ n5_ n6_ n7_
       (try clear hb)
       (try clear hb2)
       (try clear hk)
       (try clear hi)
       refine hK.out _ _ ⟨HS0_, HS1_⟩ (fun hHeld => ?_)
       clear hK K
       refine norm_ (a' := ?_) ?_ ?_
       rotate_left
       · show Act.put _ (some 39) _ = _
         simp only [Act.put, tA, tZ, tS, iL, iW]
         rfl
       refine pure_ (i := 20) (N := some 40) (v := ?_) (a' := ?_) #[Y,Y,Y,Y,Y,Y,Y,Y,Y,Y,Y,Y,Y,Y,Y,Y,Y,Y,Y,Y,Y,X,X] rfl rfl (any_of HT_.out a3_) (fun _ _ _ h => h) (Or.inl ⟨by rfl, ?_⟩) ?_ ?_
       rotate_left
       · intro w'
         go_simp
         with_reducible rfl
       rotate_left
       · simp only [Act.put, tA, tZ, tS, iL, iW]
         rfl
       refine pure_ (i := 21) (N := some 41) (v := ?_) (a' := ?_) #[Y,Y,Y,Y,Y,Y,Y,Y,Y,Y,Y,Y,Y,Y,Y,Y,Y,Y,Y,Y,Y,Y,X] rfl rfl (any_of HT_.out a3_) (fun _ _ _ h => h) (Or.inl ⟨by rfl, ?_⟩) ?_ ?_
       rotate_left
       · intro w'
         go_simp
         with_reducible rfl
       rotate_left
       · simp only [Act.put, tA, tZ, tS, iL, iW]
         rfl
       refine pure_ (i := 22) (N := some 42) (v := ?_) (a' := ?_) #[Y,Y,Y,Y,Y,Y,Y,Y,Y,Y,Y,Y,Y,Y,Y,Y,Y,Y,Y,Y,Y,Y,Y] rfl rfl (any_of HT_.out a3_) (fun _ _ _ h => h) (Or.inl ⟨by rfl, ?_⟩) ?_ ?_
       rotate_left
       · intro w'
         go_simp
         with_reducible rfl
       rotate_left
       · simp only [Act.put, tA, tZ, tS, iL, iW]
         rfl
       refine done_ (done_of HT_.out a3_) ?_
       have p205 : 0 ≤ (x9_1 : Int) := oT_ (by assumption)
       have q205 : x9_1 < (l1.length : Int) := oT_ (by assumption)
       obtain ⟨ad205, A205_0, c205_0, e205, hx205_0, hl205_0, hi205_0⟩ := at_L4 (Kd.V_reads' HO_1.out).2.2 x9_1 p205 q205
       obtain rfl : ad202 = ad205 := (by injection e205)
       obtain ⟨ce205, hce205, hMe205, hcc205⟩ := Kd.V_get HO_1.out [] x9_1 p205 (by first | exact q205 | exact oT_ (by assumption) | (have e_ := (Kd.V_reads' HO_1.out).1; omega))
       obtain ⟨ua205_0, uc205_0, rfl, ul205_0, ge205_0⟩ := Kd.FK_slice_open hMe205
       have hv205_0 := hcc205 0 _ rfl
       rw [Nat.add_zero, show ((Kd.slice 36 k36)).sz = 1 from rfl, Nat.mul_one] at hv205_0
       replace hv205_0 := Option.some.inj (hv205_0.symm.trans hx205_0)
       injection hv205_0 with hva_ hvn_ hvc_
       rw [hva_] at ge205_0
       rw [hvc_] at ul205_0
       have HL205_0 := kA_ (show Kd.V k36 36 _ w.heap.size _ _ (rd_L4 l1 x9_1) from Kd.V_mk ul205_0 ge205_0)
       clear hva_ hvn_ hvc_ ge205_0 ul205_0
       clear hcc205 hce205
       have HR205_0 := kA_ hi205_0
       have HC205_0 := kA_ hl205_0
       clear hi205_0 hl205_0
       replace p205 := eq_true p205
       replace q205 := eq_true q205
       try clear hHeld
       try clear HS3_
       try clear HS2_
       try clear HS1_
       try clear HS0_
       try go_wp2_with (first | ((with_reducible refine gate_builtin (b := .append) (xs := #[.tmp 52, .tmp 57]) rfl ?_); (try (refine gate_guard (by rfl) ?_; dsimp only)); at_builtin; refine Kd.N_append (Kd.slice 36 k36) (w0 := w) w.heap.size rfl (.tmp 52) (.tmp 57) 22 53 (.slice none 0 0) 24 rfl Tryz.underlying22 info53 rfl (by decide) (by omega) u7 x7_1 (rd_L4 l1 x9_1) [.slice A205_0 (rd_L4 l1 x9_1).length c205_0] (fun k_ => ((P0_ k_ ∨ P1_ k_) ∨ w.heap.size ≤ k_)) (fun k_ => ((fun k_ => ((P0_ k_ ∨ P1_ k_) ∨ w.heap.size ≤ k_))) k_ ∧ some k_ ≠ (u7 : Value).ownBlock) rfl rfl ?aP (fun _ hk => hk) ?aF ?aO ?aB ?aS ?aL ?_; (case aP => exact (Kd.FK_slice_mk (Kd.V_reads' (Kd.V_mono (ok' := (fun k_ => ((fun k_ => ((P0_ k_ ∨ P1_ k_) ∨ w.heap.size ≤ k_))) k_ ∧ some k_ ≠ (u7 : Value).ownBlock)) (HL205_0.out) (fun k_ hk => ⟨hk.1, hk.2⟩))).2.1 (Kd.V_F (Kd.V_mono (ok' := (fun k_ => ((fun k_ => ((P0_ k_ ∨ P1_ k_) ∨ w.heap.size ≤ k_))) k_ ∧ some k_ ≠ (u7 : Value).ownBlock)) (HL205_0.out) (fun k_ hk => ⟨hk.1, hk.2⟩))))); (case aB => exact a0_); (case aF => exact (fun k_ hk => (.inr (Nat.le_trans (below_size a0_) hk)))); (case aO => exact a30_); (case aS => exact (below_size a0_)); (case aL => have := LMc19.out; omega); intro v207 w22 ho hb hg hat; rw [← Ny206.out] at ho; have n0_ := kA_ (Kd.V_afterv (ok := (fun k_ => ((P0_ k_ ∨ P1_ k_) ∨ w.heap.size ≤ k_))) a52_ hg hat); have n1_ := kA_ (Kd.V_afterv (ok := (fun k_ => ((P0_ k_ ∨ P1_ k_) ∨ w.heap.size ≤ k_))) a53_ hg hat); have n2_ := kA_ (Kd.V_afterv (ok := (fun k_ => ((P0_ k_ ∨ P1_ k_) ∨ w.heap.size ≤ k_))) a67_ hg hat); have n3_ := kA_ (Kd.V_afterv (ok := (fun k_ => ((P0_ k_ ∨ P1_ k_) ∨ w.heap.size ≤ k_))) a68_ hg hat); have n4_ := kA_ (Kd.V_afterv (ok := (fun k_ => ((P0_ k_ ∨ P1_ k_) ∨ w.heap.size ≤ k_))) (by (with_reducible repeat (first | apply Kd.vA_ | apply Kd.vN_ | apply Kd.vD_)); exact HL205_0.out) hg hat); have n5_ := kA_ (hb); have n6_ := kA_ (ho); clear HO_0; clear HO_1; clear HL202_0; clear HL203_0; clear HL205_0; clear HB; clear HO_7; have HO_0 := n0_; have HO_1 := n1_; have HL202_0 := n2_; have HL203_0 := n3_; have HL205_0 := n4_; have HB := n5_; have HO208 := n6_; clear n0_ n1_ n2_ n3_ n4_ n5_ n6_; clear ho hb hg hat))
       go_roundg kj3
       case measure => have := HK1.out; have := HJ3.out; omega
       case rel => exact ⟨(y206), (x8_1), (wrap64 (x9_1 + 1)), a4_, a4_, H', ⟨by have := HK1.out; have := HJ3.out; omega⟩, ⟨a50_⟩, ⟨a51_⟩, ⟨by (with_reducible repeat (first | apply Kd.nA_ | apply Kd.nN_ | apply Kd.nD_)); exact HO208.out⟩, ⟨a2_⟩⟩
     replace c18 := Bool.eq_false_iff.mpr c18
     subst c18
     have H1 : (if x7_1.length < 5864062014805 then (r6_merge.l0 kj3 l0 l1 l2 (x7_1 ++ [rd_L4 l0 x8_1]) (wrap64 (x8_1 + 1)) x9_1) else (none)) = some r := by rw [if_neg (show ¬ (false = true) by decide)] at H; exact H
     clear H
     have H := H1
     clear H1
     by_cases c23 : x7_1.length < 5864062014805
     rotate_left
     · rw [if_neg c23] at H
       exact absurd H (by simp)
     rw [if_pos c23] at H
     have LMc23 := kA_ c23
     clear c23
     obtain ⟨y210, hy210⟩ : ∃ y_ : List (List (S36)), y_ = (x7_1 ++ [rd_L4 l0 x8_1]) := ⟨_, rfl⟩
     replace H : (r6_merge.l0 kj3 l0 l1 l2 y210 (wrap64 (x8_1 + 1)) x9_1) = some r := by first | (rw [hy210]; with_reducible exact H) | (have H2_ := (Option.bind_some _ _).symm.trans H; rw [hy210]; with_reducible exact H2_) | (have H2_ := (Option.bind_some _ _).symm.trans H; with_reducible exact H2_) | with_reducible exact H | (rw [hy210]; exact H) | exact H
     have Ny210 := kA_ hy210
     clear hy210
     have H' := kA_ H
     clear H
     try go_wp2
     have n0_ := kA_ (Kd.vD_ HO_0.out)
     have n1_ := kA_ (Kd.vD_ HO_1.out)
     have n2_ := kA_ (Kd.nD_ HO_7.out)
     have n3_ := kA_ (b1_ HB.out)
     clear HO_0
     clear HO_1
     clear HO_7
     clear HB
     have HO_0 := n0_
     have HO_1 := n1_
     have HO_7 := n2_
     have HB := n3_
     clear n0_ n1_ n2_ n3_
     have p202 : 0 ≤ (x9_1 : Int) := oT_ (by assumption)
     have q202 : x9_1 < (l1.length : Int) := oT_ (by assumption)
     obtain ⟨ad202, A202_0, c202_0, e202, hx202_0, hl202_0, hi202_0⟩ := at_L4 (Kd.V_reads' HO_1.out).2.2 x9_1 p202 q202
     cases e202
     obtain ⟨ce202, hce202, hMe202, hcc202⟩ := Kd.V_get HO_1.out [] x9_1 p202 (by first | exact q202 | exact oT_ (by assumption) | (have e_ := (Kd.V_reads' HO_1.out).1; omega))
     obtain ⟨ua202_0, uc202_0, rfl, ul202_0, ge202_0⟩ := Kd.FK_slice_open hMe202
     have hv202_0 := hcc202 0 _ rfl
     rw [Nat.add_zero, show ((Kd.slice 36 k36)).sz = 1 from rfl, Nat.mul_one] at hv202_0
     replace hv202_0 := Option.some.inj (hv202_0.symm.trans hx202_0)
     injection hv202_0 with hva_ hvn_ hvc_
     rw [hva_] at ge202_0
     rw [hvc_] at ul202_0
     have HL202_0 := kA_ (show Kd.V k36 36 _ w.heap.size _ _ (rd_L4 l1 x9_1) from Kd.V_mk ul202_0 ge202_0)
     clear hva_ hvn_ hvc_ ge202_0 ul202_0
     clear hcc202 hce202
     have HR202_0 := kA_ hi202_0
     have HC202_0 := kA_ hl202_0
     clear hi202_0 hl202_0
     replace p202 := eq_true p202
     replace q202 := eq_true q202
     have p203 : 0 ≤ (x8_1 : Int) := oT_ (by assumption)
     have q203 : x8_1 < (l0.length : Int) := oT_ (by assumption)
     obtain ⟨ad203, A203_0, c203_0, e203, hx203_0, hl203_0, hi203_0⟩ := at_L4 (Kd.V_reads' HO_0.out).2.2 x8_1 p203 q203
     cases e203
     obtain ⟨ce203, hce203, hMe203, hcc203⟩ := Kd.V_get HO_0.out [] x8_1 p203 (by first | exact q203 | exact oT_ (by assumption) | (have e_ := (Kd.V_reads' HO_0.out).1; omega))
     obtain ⟨ua203_0, uc203_0, rfl, ul203_0, ge203_0⟩ := Kd.FK_slice_open hMe203
     have hv203_0 := hcc203 0 _ rfl
     rw [Nat.add_zero, show ((Kd.slice 36 k36)).sz = 1 from rfl, Nat.mul_one] at hv203_0
     replace hv203_0 := Option.some.inj (hv203_0.symm.trans hx203_0)
     injection hv203_0 with hva_ hvn_ hvc_
     rw [hva_] at ge203_0
     rw [hvc_] at ul203_0
     have HL203_0 := kA_ (show Kd.V k36 36 _ w.heap.size _ _ (rd_L4 l0 x8_1) from Kd.V_mk ul203_0 ge203_0)
     clear hva_ hvn_ hvc_ ge203_0 ul203_0
     clear hcc203 hce203
     have HR203_0 := kA_ hi203_0
     have HC203_0 := kA_ hl203_0
     clear hi203_0 hl203_0
     replace p203 := eq_true p203
     replace q203 := eq_true q203
     refine start_ (n := 23) (S := fun w' => w'.cell? (ad202.add (x9_1).toNat) = some (.slice A202_0 (rd_L4 l1 x9_1).length c202_0) ∧ w'.cell? (ad203.add (x8_1).toNat) = some (.slice A203_0 (rd_L4 l0 x8_1).length c203_0)) (ds := []) #[X,X,X,X,X,X,X,X,X,X,X,X,X,X,X,X,X,X,X,X,X,X,X] a3_ rfl rfl ⟨hx202_0, hx203_0⟩ (fun hHeld => ?_); refine with_tabW r6_merge.tab4 r6_merge.bits4 (fun HT_ HW_ => ?_)
     generalize wc.drew = w24 at HO_0 HO_1 HO_7 HB HL202_0 HL203_0 HR202_0 HR203_0 hx202_0 hx203_0 hHeld ⊢
     refine pure_ (i := 0) (N := some 20) (v := ?_) (a' := ?_) #[Y,X,X,X,X,X,X,X,X,X,X,X,X,X,X,X,X,X,X,X,X,X,X] rfl rfl (any_of HT_.out a3_) (fun _ _ _ h => h) (Or.inl ⟨by rfl, ?_⟩) ?_ ?_
     rotate_left
     · intro w'
       go_simp
       with_reducible rfl
     rotate_left
     · simp only [Act.put, tA, tZ, tS, iL, iW]
       rfl
     refine pure_ (i := 1) (N := some 21) (v := ?_) (a' := ?_) #[Y,Y,X,X,X,X,X,X,X,X,X,X,X,X,X,X,X,X,X,X,X,X,X] rfl rfl (any_of HT_.out a3_) (fun _ _ _ h => h) (Or.inl ⟨by rfl, ?_⟩) ?_ ?_
     rotate_left
     · intro w'
       go_simp
       with_reducible rfl
     rotate_left
     · simp only [Act.put, tA, tZ, tS, iL, iW]
       rfl
     refine pure_ (i := 2) (N := some 22) (v := ?_) (a' := ?_) #[Y,Y,Y,X,X,X,X,X,X,X,X,X,X,X,X,X,X,X,X,X,X,X,X] rfl rfl (any_of HT_.out a3_) (fun _ _ _ h => h) (Or.inl ⟨by rfl, ?_⟩) ?_ ?_
     rotate_left
     · intro w'
       go_simp
       with_reducible rfl
     rotate_left
     · simp only [Act.put, tA, tZ, tS, iL, iW]
       rfl
     refine pure_ (i := 3) (N := some 23) (v := ?_) (a' := ?_) #[Y,Y,Y,Y,X,X,X,X,X,X,X,X,X,X,X,X,X,X,X,X,X,X,X] rfl rfl (any_of HT_.out a3_) (fun _ _ _ h => h) (Or.inl ⟨by rfl, ?_⟩) ?_ ?_
     rotate_left
     · intro w'
       go_simp
       with_reducible rfl
     rotate_left
     · simp only [Act.put, tA, tZ, tS, iL, iW]
       rfl
     refine pure_ (i := 4) (N := some 24) (v := ?_) (a' := ?_) #[Y,Y,Y,Y,Y,X,X,X,X,X,X,X,X,X,X,X,X,X,X,X,X,X,X] rfl rfl (any_of HT_.out a3_) (fun _ _ _ h => h) (Or.inl ⟨by rfl, ?_⟩) ?_ ?_
     rotate_left
     · intro w'
       go_simp
       with_reducible rfl
     rotate_left
     · simp only [Act.put, tA, tZ, tS, iL, iW]
       rfl
     refine pure_ (i := 5) (N := some 25) (v := ?_) (a' := ?_) #[Y,Y,Y,Y,Y,Y,X,X,X,X,X,X,X,X,X,X,X,X,X,X,X,X,X] rfl rfl (any_of HT_.out a3_) (fun _ _ _ h => h) (Or.inl ⟨by rfl, ?_⟩) ?_ ?_
     rotate_left
     · intro w'
       go_simp
       with_reducible rfl
     rotate_left
     · simp only [Act.put, tA, tZ, tS, iL, iW]
       rfl
     refine pure_ (i := 6) (N := some 26) (v := ?_) (a' := ?_) #[Y,Y,Y,Y,Y,Y,Y,X,X,X,X,X,X,X,X,X,X,X,X,X,X,X,X] rfl rfl (any_of HT_.out a3_) (fun _ _ _ h => h) (Or.inl ⟨by rfl, ?_⟩) ?_ ?_
     rotate_left
     · intro w'
       go_simp
       with_reducible rfl
     rotate_left
     · simp only [Act.put, tA, tZ, tS, iL, iW]
       rfl
     refine pure_ (i := 7) (N := some 27) (v := ?_) (a' := ?_) #[Y,Y,Y,Y,Y,Y,Y,Y,X,X,X,X,X,X,X,X,X,X,X,X,X,X,X] rfl rfl (any_of HT_.out a3_) (fun _ _ _ h => h) (Or.inl ⟨by rfl, ?_⟩) ?_ ?_
     rotate_left
     · intro w'
       go_simp
       with_reducible rfl
     rotate_left
     · simp only [Act.put, tA, tZ, tS, iL, iW]
       rfl
     refine pure_ (i := 8) (N := some 28) (v := ?_) (a' := ?_) #[Y,Y,Y,Y,Y,Y,Y,Y,Y,X,X,X,X,X,X,X,X,X,X,X,X,X,X] rfl rfl (any_of HT_.out a3_) (fun _ _ _ h => h) (Or.inl ⟨by rfl, ?_⟩) ?_ ?_
     rotate_left
     · intro w'
       go_simp
       with_reducible rfl
     rotate_left
     · simp only [Act.put, tA, tZ, tS, iL, iW]
       rfl
     refine pure_ (i := 9) (N := some 29) (v := ?_) (a' := ?_) #[Y,Y,Y,Y,Y,Y,Y,Y,Y,Y,X,X,X,X,X,X,X,X,X,X,X,X,X] rfl rfl (any_of HT_.out a3_) (fun _ _ _ h => h) (Or.inl ⟨by rfl, ?_⟩) ?_ ?_
     rotate_left
     · intro w'
       go_simp
       with_reducible rfl
     rotate_left
     · simp only [Act.put, tA, tZ, tS, iL, iW]
       rfl
     refine pure_ (i := 10) (N := some 30) (v := ?_) (a' := ?_) #[Y,Y,Y,Y,Y,Y,Y,Y,Y,Y,Y,X,X,X,X,X,X,X,X,X,X,X,X] rfl rfl (any_of HT_.out a3_) (fun _ _ _ h => h) (Or.inl ⟨by rfl, ?_⟩) ?_ ?_
     rotate_left
     · intro w'
       go_simp
       with_reducible rfl
     rotate_left
     · simp only [Act.put, tA, tZ, tS, iL, iW]
       rfl
     refine pure_ (i := 11) (N := some 31) (v := ?_) (a' := ?_) #[Y,Y,Y,Y,Y,Y,Y,Y,Y,Y,Y,Y,X,X,X,X,X,X,X,X,X,X,X] rfl rfl (any_of HT_.out a3_) (fun _ _ _ h => h) (Or.inl ⟨by rfl, ?_⟩) ?_ ?_
     rotate_left
     · intro w'
       go_simp
       with_reducible rfl
     rotate_left
     · simp only [Act.put, tA, tZ, tS, iL, iW]
       rfl
     refine pure_ (i := 12) (N := some 32) (v := ?_) (a' := ?_) #[Y,Y,Y,Y,Y,Y,Y,Y,Y,Y,Y,Y,Y,X,X,X,X,X,X,X,X,X,X] rfl rfl (any_of HT_.out a3_) (fun _ _ _ h => h) (Or.inl ⟨by rfl, ?_⟩) ?_ ?_
     rotate_left
     · intro w'
       go_simp
       with_reducible rfl
     rotate_left
     · simp only [Act.put, tA, tZ, tS, iL, iW]
       rfl
     refine pure_ (i := 14) (N := some 34) (v := ?_) (a' := ?_) #[Y,Y,Y,Y,Y,Y,Y,Y,Y,Y,Y,Y,Y,X,Y,X,X,X,X,X,X,X,X] rfl rfl (any_of HT_.out a3_) (fun _ _ _ h => h) (Or.inl ⟨by rfl, ?_⟩) ?_ ?_
     rotate_left
     · intro w'
       go_simp
       with_reducible rfl
     rotate_left
     · simp only [Act.put, tA, tZ, tS, iL, iW]
       rfl
     refine pure_ (i := 15) (N := some 35) (v := ?_) (a' := ?_) #[Y,Y,Y,Y,Y,Y,Y,Y,Y,Y,Y,Y,Y,X,Y,Y,X,X,X,X,X,X,X] rfl rfl (any_of HT_.out a3_) (fun _ _ _ h => h) (Or.inl ⟨by rfl, ?_⟩) ?_ ?_
     rotate_left
     · intro w'
       go_simp
       with_reducible rfl
     rotate_left
     · simp only [Act.put, tA, tZ, tS, iL, iW]
       rfl
     refine pure_ (i := 16) (N := some 36) (v := ?_) (a' := ?_) #[Y,Y,Y,Y,Y,Y,Y,Y,Y,Y,Y,Y,Y,X,Y,Y,Y,X,X,X,X,X,X] rfl rfl (any_of HT_.out a3_) (fun _ _ _ h => h) (Or.inl ⟨by rfl, ?_⟩) ?_ ?_
     rotate_left
     · intro w'
       go_simp
       with_reducible rfl
     rotate_left
     · simp only [Act.put, tA, tZ, tS, iL, iW]
       rfl
     refine pure_ (i := 18) (N := some 38) (v := ?_) (a' := ?_) #[Y,Y,Y,Y,Y,Y,Y,Y,Y,Y,Y,Y,Y,X,Y,Y,Y,X,Y,X,X,X,X] rfl rfl (any_of HT_.out a3_) (fun _ _ _ h => h) (Or.inl ⟨by rfl, ?_⟩) ?_ ?_
     rotate_left
     · intro w'
       go_simp
       with_reducible rfl
     rotate_left
     · simp only [Act.put, tA, tZ, tS, iL, iW]
       rfl
     refine take_ (i := 13) (N := some 33) (v := ?_) (a' := ?_) #[Y,Y,Y,Y,Y,Y,Y,Y,Y,Y,Y,Y,Y,Y,Y,Y,Y,X,Y,X,X,X,X] rfl rfl (take_ofW HT_.out HW_.out a3_) (fun _ _ _ h => h) (Or.inl ⟨by rfl, ?_⟩) hHeld ?_ ?_
     rotate_left
     · rintro w' ⟨s0, s1⟩
       go_simp
       with_reducible rfl
     rotate_left
     · simp only [Act.put, tA, tZ, tS, iL, iW]
       rfl
     refine take_ (i := 17) (N := some 37) (v := ?_) (a' := ?_) #[Y,Y,Y,Y,Y,Y,Y,Y,Y,Y,Y,Y,Y,Y,Y,Y,Y,Y,Y,X,X,X,X] rfl rfl (take_ofW HT_.out HW_.out a3_) (fun _ _ _ h => h) (Or.inl ⟨by rfl, ?_⟩) hHeld ?_ ?_
     rotate_left
     · rintro w' ⟨s0, s1⟩
       go_simp
       with_reducible rfl
     rotate_left
     · simp only [Act.put, tA, tZ, tS, iL, iW]
       rfl
     refine one_ (i := 19) (N := some 39) #[Y,Y,Y,Y,Y,Y,Y,Y,Y,Y,Y,Y,Y,Y,Y,Y,Y,Y,Y,Y,X,X,X] rfl rfl (one_of HT_.out a3_) (by decide) (fun K hK => ?_)
     refine goes_ Tryz.func102 a3_ rfl #[.slice A202_0 (rd_L4 l1 x9_1).length c202_0, .slice A203_0 (rd_L4 l0 x8_1).length c203_0, .slice A2 l2.length c2] (by rfl) rfl rfl a1_ ?_
     with_reducible refine (r6_before.calls kj3 _ _ (rd_L4 l1 x9_1) _ _ (rd_L4 l0 x8_1) _ _ l2 false _ ?side1 ?side2 ?side3 ?side4 ?side5 ?side6 A17.out).mono ?_
     (case side1 => repeat (first | exact a43_ | (with_reducible refine Kd.cA_ ?_ _) | (with_reducible refine Kd.cN_ ?_ _) | (with_reducible refine Kd.cD_ ?_)))
     (case side2 => exact HC202_0.out)
     (case side3 => repeat (first | exact a44_ | (with_reducible refine Kd.cA_ ?_ _) | (with_reducible refine Kd.cN_ ?_ _) | (with_reducible refine Kd.cD_ ?_)))
     (case side4 => exact HC203_0.out)
     (case side5 => repeat (first | exact (Kd.C_below HR2.out HB.out) | (with_reducible refine Kd.cA_ ?_ _) | (with_reducible refine Kd.cN_ ?_ _) | (with_reducible refine Kd.cD_ ?_)))
     (case side6 => exact HC2.out)
     rintro e w25 ⟨rfl, hb⟩
     have HS0_ := (hb.cell (bLC_ _ _ (hHeld.1))).trans (hHeld.1)
     have HS1_ := (hb.cell (bLC_ _ _ (hHeld.2))).trans (hHeld.2)
     refine ⟨_, rfl, ?_⟩
     have n0_ := kA_ (Kd.V_below a52_ hb)
     have n1_ := kA_ (Kd.V_below a53_ hb)
     have n2_ := kA_ (Kd.N_below a30_ hb)
     have n3_ := kA_ (Kd.V_below a67_ hb)
     have n4_ := kA_ (Kd.V_below a68_ hb)
     have n5_ := kA_ (Kd.C_below a43_ hb)
     have n6_ := kA_ (Kd.C_below a44_ hb)
     have n7_ := kA_ (below_step a0_ hb)
     clear HO_0
     clear HO_1
     clear HO_7
     clear HL202_0
     clear HL203_0
     clear HR202_0
     clear HR203_0
     clear HB
     have HO_0 := n0_
     have HO_1 := n1_
     have HO_7 := n2_
     have HL202_0 := n3_
     have HL203_0 := n4_
     have HR202_0 := n5_
     have HR203_0 := n6_
     have HB := n7_
     clear n0_ n1_ n2_ n3_ n4_ n5_ n6_ n7_
     (try clear hb)
     (try clear hb2)
     (try clear hk)
     (try clear hi)
     refine hK.out _ _ ⟨HS0_, HS1_⟩ (fun hHeld => ?_)
     clear hK K
     refine norm_ (a' := ?_) ?_ ?_
     rotate_left
     · show Act.put _ (some 39) _ = _
       simp only [Act.put, tA, tZ, tS, iL, iW]
       rfl
     refine pure_ (i := 20) (N := some 40) (v := ?_) (a' := ?_) #[Y,Y,Y,Y,Y,Y,Y,Y,Y,Y,Y,Y,Y,Y,Y,Y,Y,Y,Y,Y,Y,X,X] rfl rfl (any_of HT_.out a3_) (fun _ _ _ h => h) (Or.inl ⟨by rfl, ?_⟩) ?_ ?_
     rotate_left
     · intro w'
       go_simp
       with_reducible rfl
     rotate_left
     · simp only [Act.put, tA, tZ, tS, iL, iW]
       rfl
     refine pure_ (i := 21) (N := some 41) (v := ?_) (a' := ?_) #[Y,Y,Y,Y,Y,Y,Y,Y,Y,Y,Y,Y,Y,Y,Y,Y,Y,Y,Y,Y,Y,Y,X] rfl rfl (any_of HT_.out a3_) (fun _ _ _ h => h) (Or.inl ⟨by rfl, ?_⟩) ?_ ?_
     rotate_left
     · intro w'
       go_simp
       with_reducible rfl
     rotate_left
     · simp only [Act.put, tA, tZ, tS, iL, iW]
       rfl
     refine pure_ (i := 22) (N := some 42) (v := ?_) (a' := ?_) #[Y,Y,Y,Y,Y,Y,Y,Y,Y,Y,Y,Y,Y,Y,Y,Y,Y,Y,Y,Y,Y,Y,Y] rfl rfl (any_of HT_.out a3_) (fun _ _ _ h => h) (Or.inl ⟨by rfl, ?_⟩) ?_ ?_
     rotate_left
     · intro w'
       go_simp
       with_reducible rfl
     rotate_left
     · simp only [Act.put, tA, tZ, tS, iL, iW]
       rfl
     refine done_ (done_of HT_.out a3_) ?_
     have p209 : 0 ≤ (x8_1 : Int) := oT_ (by assumption)
     have q209 : x8_1 < (l0.length : Int) := oT_ (by assumption)
     obtain ⟨ad209, A209_0, c209_0, e209, hx209_0, hl209_0, hi209_0⟩ := at_L4 (Kd.V_reads' HO_0.out).2.2 x8_1 p209 q209
     obtain rfl : ad203 = ad209 := (by injection e209)
     obtain ⟨ce209, hce209, hMe209, hcc209⟩ := Kd.V_get HO_0.out [] x8_1 p209 (by first | exact q209 | exact oT_ (by assumption) | (have e_ := (Kd.V_reads' HO_0.out).1; omega))
     obtain ⟨ua209_0, uc209_0, rfl, ul209_0, ge209_0⟩ := Kd.FK_slice_open hMe209
     have hv209_0 := hcc209 0 _ rfl
     rw [Nat.add_zero, show ((Kd.slice 36 k36)).sz = 1 from rfl, Nat.mul_one] at hv209_0
     replace hv209_0 := Option.some.inj (hv209_0.symm.trans hx209_0)
     injection hv209_0 with hva_ hvn_ hvc_
     rw [hva_] at ge209_0
     rw [hvc_] at ul209_0
     have HL209_0 := kA_ (show Kd.V k36 36 _ w.heap.size _ _ (rd_L4 l0 x8_1) from Kd.V_mk ul209_0 ge209_0)
     clear hva_ hvn_ hvc_ ge209_0 ul209_0
     clear hcc209 hce209
     have HR209_0 := kA_ hi209_0
     have HC209_0 := kA_ hl209_0
     clear hi209_0 hl209_0
     replace p209 := eq_true p209
     replace q209 := eq_true q209
     try clear hHeld
     try clear HS3_
     try clear HS2_
     try clear HS1_
     try clear HS0_
     try go_wp2_with (first | ((with_reducible refine gate_builtin (b := .append) (xs := #[.tmp 43, .tmp 48]) rfl ?_); (try (refine gate_guard (by rfl) ?_; dsimp only)); at_builtin; refine Kd.N_append (Kd.slice 36 k36) (w0 := w) w.heap.size rfl (.tmp 43) (.tmp 48) 22 53 (.slice none 0 0) 24 rfl Tryz.underlying22 info53 rfl (by decide) (by omega) u7 x7_1 (rd_L4 l0 x8_1) [.slice A209_0 (rd_L4 l0 x8_1).length c209_0] (fun k_ => ((P0_ k_ ∨ P1_ k_) ∨ w.heap.size ≤ k_)) (fun k_ => ((fun k_ => ((P0_ k_ ∨ P1_ k_) ∨ w.heap.size ≤ k_))) k_ ∧ some k_ ≠ (u7 : Value).ownBlock) rfl rfl ?aP (fun _ hk => hk) ?aF ?aO ?aB ?aS ?aL ?_; (case aP => exact (Kd.FK_slice_mk (Kd.V_reads' (Kd.V_mono (ok' := (fun k_ => ((fun k_ => ((P0_ k_ ∨ P1_ k_) ∨ w.heap.size ≤ k_))) k_ ∧ some k_ ≠ (u7 : Value).ownBlock)) (HL209_0.out) (fun k_ hk => ⟨hk.1, hk.2⟩))).2.1 (Kd.V_F (Kd.V_mono (ok' := (fun k_ => ((fun k_ => ((P0_ k_ ∨ P1_ k_) ∨ w.heap.size ≤ k_))) k_ ∧ some k_ ≠ (u7 : Value).ownBlock)) (HL209_0.out) (fun k_ hk => ⟨hk.1, hk.2⟩))))); (case aB => exact a0_); (case aF => exact (fun k_ hk => (.inr (Nat.le_trans (below_size a0_) hk)))); (case aO => exact a30_); (case aS => exact (below_size a0_)); (case aL => have := LMc23.out; omega); intro v211 w26 ho hb hg hat; rw [← Ny210.out] at ho; have n0_ := kA_ (Kd.V_afterv (ok := (fun k_ => ((P0_ k_ ∨ P1_ k_) ∨ w.heap.size ≤ k_))) a52_ hg hat); have n1_ := kA_ (Kd.V_afterv (ok := (fun k_ => ((P0_ k_ ∨ P1_ k_) ∨ w.heap.size ≤ k_))) a53_ hg hat); have n2_ := kA_ (Kd.V_afterv (ok := (fun k_ => ((P0_ k_ ∨ P1_ k_) ∨ w.heap.size ≤ k_))) a67_ hg hat); have n3_ := kA_ (Kd.V_afterv (ok := (fun k_ => ((P0_ k_ ∨ P1_ k_) ∨ w.heap.size ≤ k_))) a68_ hg hat); have n4_ := kA_ (Kd.V_afterv (ok := (fun k_ => ((P0_ k_ ∨ P1_ k_) ∨ w.heap.size ≤ k_))) (by (with_reducible repeat (first | apply Kd.vA_ | apply Kd.vN_ | apply Kd.vD_)); exact HL209_0.out) hg hat); have n5_ := kA_ (hb); have n6_ := kA_ (ho); clear HO_0; clear HO_1; clear HL202_0; clear HL203_0; clear HL209_0; clear HB; clear HO_7; have HO_0 := n0_; have HO_1 := n1_; have HL202_0 := n2_; have HL203_0 := n3_; have HL209_0 := n4_; have HB := n5_; have HO212 := n6_; clear n0_ n1_ n2_ n3_ n4_ n5_ n6_; clear ho hb hg hat))
     go_roundg kj3
     case measure => have := HK1.out; have := HJ3.out; omega
     case rel => exact ⟨(y210), (wrap64 (x8_1 + 1)), (x9_1), a4_, a4_, H', ⟨by have := HK1.out; have := HJ3.out; omega⟩, ⟨a50_⟩, ⟨a51_⟩, ⟨by (with_reducible repeat (first | apply Kd.nA_ | apply Kd.nN_ | apply Kd.nD_)); exact HO212.out⟩, ⟨a2_⟩⟩
mutual
def r6_full.l0 : Nat → List (List (S36)) → List (S64) → List (List (List (S36))) → Int → Option ((List (List (S36))))
 | 0, _, _, _, _ => none
 | k + 1, x0, x1, x5, x6 => if x6 < (x0.length : Int) then (if 0 ≤ x6 then ((r6_copyOf.f k (rd_L4 x0 x6)).bind fun t218 => (if x5.length < 5864062014805 then (r6_full.l0 k x0 x1 (x5 ++ [(([t218] : List (List (S36))))]) (wrap64 (x6 + 1))) else (none))) else (none)) else (r6_full.l1 k x1 x5)
def r6_full.l1 : Nat → List (S64) → List (List (List (S36))) → Option ((List (List (S36))))
 | 0, _, _ => none
 | k + 1, x1, x5 => if (x5.length : Int) > 1 then (r6_full.l2 k x1 x5 ([] : List (List (List (S36)))) 0) else (if (x5.length : Int) = 0 then (some ([] : List (List (S36)))) else (if 0 < (x5.length : Int) then (some (rd_L7 x5 0)) else (none)))
def r6_full.l2 : Nat → List (S64) → List (List (List (S36))) → List (List (List (S36))) → Int → Option ((List (List (S36))))
 | 0, _, _, _, _ => none
 | k + 1, x1, x5, x7, x8 => if x8 < (x5.length : Int) then (if (wrap64 (x8 + 1)) < (x5.length : Int) then (if 0 ≤ x8 then (if 0 ≤ (wrap64 (x8 + 1)) then ((r6_merge.f k (rd_L7 x5 x8) (rd_L7 x5 (wrap64 (x8 + 1))) x1).bind fun t230 => (if x7.length < 5864062014805 then (r6_full.l2 k x1 x5 (x7 ++ [t230]) (wrap64 (x8 + 2))) else (none))) else (none)) else (none)) else (if 0 ≤ x8 then (if x7.length < 5864062014805 then (r6_full.l2 k x1 x5 (x7 ++ [rd_L7 x5 x8]) (wrap64 (x8 + 2))) else (none)) else (none))) else (r6_full.l1 k x1 x7)
end
def r6_full.f (k : Nat) (l0 : List (List (S36))) (l1 : List (S64)) : Option ((List (List (S36)))) := r6_full.l0 k l0 l1 ([] : List (List (List (S36)))) 0
def r6_full.T12 : Bool × List (List Nat × List Nat) := (true, [([], []), ([], []), ([], []), ([1, 2], [1, 2]), ([3], [3]), ([], []), ([], []), ([6], [6]), ([5, 7], [5, 7]), ([8], [8]), ([], []), ([4, 9, 10], [4, 9, 10]), ([11], [11]), ([0, 12, 11], [0, 12]), ([13, 13, 0, 1, 2, 3, 4, 5, 6, 7, 8, 9, 10, 11, 12, 13], [0, 13])])
def r6_full.B12 : List Nat := [0, 0, 0, 6, 14, 0, 0, 64, 224, 480, 0, 2046, 4094, 8191, 16383]
theorem r6_full.tab12 : rtab .any (opsOf Tryz.f67 12) = r6_full.T12 := by kernel_rfl
theorem r6_full.bits12 : waitsOk r6_full.T12.2 r6_full.B12 = true := by kernel_rfl
theorem r6_full.calls (k : Nat) (A0 : Option Addr) (c0 : Nat) (l0 : List (List (S36))) (A1 : Option Addr) (c1 : Nat) (l1 : List (S64)) (r : List (List (S36))) (w : World) (hr0 : Kd.C (Kd.slice 36 k36) w A0 l0.length l0) (hc0 : l0.length ≤ c0) (hr1 : Kd.C k64 w A1 l1.length l1) (hc1 : l1.length ≤ c1) (h : r6_full.f k l0 l1 = some r) :
 Calls Tryz.prog 67 #[.slice A0 l0.length c0, .slice A1 l1.length c1] w fun e w' => ∃ v0_ : Value, e = .returned (v0_) ∧ Kd.V (Kd.slice 36 k36) 53 w' w.heap.size (fun k_ => (w.heap.size ≤ k_)) v0_ r ∧ Below w.heap.size w w' := by
 have HR0 := kA_ hr0
 have HC0 := kA_ hc0
 clear hr0 hc0
 have HR1 := kA_ hr1
 have HC1 := kA_ hc1
 clear hr1 hc1
 have HB := kA_ (Below.refl w.heap.size w)
 have H : (r6_full.l0 k l0 l1 ([] : List (List (List (S36)))) 0) = some r := h
 clear h
 have H' := kA_ H
 clear H
 go_enter Tryz.func67, Tryz.ntmps67
 go_wp2
 go_loopg [5, 6] k (fun kq v5 v6 w' => ∃ (x5_1 : List (List (List (S36)))) (x6_1 : Int), v6 = .int .i64 x6_1 ∧ Aside0 (r6_full.l0 kq l0 l1 x5_1 x6_1 = some r) ∧ Aside0 (kq ≤ k) ∧ Aside0 (Kd.N (Kd.slice 53 (Kd.slice 36 k36)) 22 w' w.heap.size (fun k_ => (w.heap.size ≤ k_)) v5 x5_1) ∧ Aside0 (Below w.heap.size w w'))
 case atStart => exact ⟨(([] : List (List (List (S36))))), (0), a4_, H', ⟨Nat.le_refl _⟩, ⟨a32_⟩, ⟨a2_⟩⟩
 case round =>
  clear H'
  try clear c1
  try clear p2
  obtain ⟨x5_1, x6_1, rfl, HA, HK1, HO_5, HB⟩ := hrel
  cases gk with
  | zero => exact absurd HA.out (by simp [r6_full.l0])
  | succ k1 =>
   have H := HA.out
   clear HA
   simp only [r6_full.l0] at H
   by_cases c3 : x6_1 < (l0.length : Int)
   · rw [if_pos c3] at H
     have c3b0 : decide (x6_1 < (l0.length : Int)) = true := dT_ c3
     clear c3
     by_cases c4 : 0 ≤ x6_1
     rotate_left
     · rw [if_neg c4] at H
       exact absurd H (by simp)
     rw [if_pos c4] at H
     have c4b0 : decide (0 ≤ x6_1) = true := dT_ c4
     clear c4
     replace H := Option.bind_eq_some_iff.mp H
     obtain ⟨t218, A50, H⟩ := H
     replace H : (if x5_1.length < 5864062014805 then (r6_full.l0 k1 l0 l1 (x5_1 ++ [(([t218] : List (List (S36))))]) (wrap64 (x6_1 + 1))) else (none)) = some r := H
     have A5 := kA_ A50
     clear A50
     obtain ⟨y221, hy221⟩ : ∃ y_ : List (List (S36)), y_ = (([t218] : List (List (S36)))) := ⟨_, rfl⟩
     replace H : (if x5_1.length < 5864062014805 then (r6_full.l0 k1 l0 l1 (x5_1 ++ [y221]) (wrap64 (x6_1 + 1))) else (none)) = some r := by first | (rw [hy221]; with_reducible exact H) | (have H2_ := (Option.bind_some _ _).symm.trans H; rw [hy221]; with_reducible exact H2_) | (have H2_ := (Option.bind_some _ _).symm.trans H; with_reducible exact H2_) | with_reducible exact H | (rw [hy221]; exact H) | exact H
     have Ny221 := kA_ hy221
     clear hy221
     by_cases c6 : x5_1.length < 5864062014805
     rotate_left
     · rw [if_neg c6] at H
       exact absurd H (by simp)
     rw [if_pos c6] at H
     have LMc6 := kA_ c6
     clear c6
     obtain ⟨y224, hy224⟩ : ∃ y_ : List (List (List (S36))), y_ = (x5_1 ++ [y221]) := ⟨_, rfl⟩
     replace H : (r6_full.l0 k1 l0 l1 y224 (wrap64 (x6_1 + 1))) = some r := by first | (rw [hy224]; with_reducible exact H) | (have H2_ := (Option.bind_some _ _).symm.trans H; rw [hy224]; with_reducible exact H2_) | (have H2_ := (Option.bind_some _ _).symm.trans H; with_reducible exact H2_) | with_reducible exact H | (rw [hy224]; exact H) | exact H
     have Ny224 := kA_ hy224
     clear hy224
     have H' := kA_ H
     clear H
     have p217 : 0 ≤ (x6_1 : Int) := oT_ (by assumption)
     have q217 : x6_1 < (l0.length : Int) := oT_ (by assumption)
     obtain ⟨ad217, A217_0, c217_0, e217, hx217_0, hl217_0, hi217_0⟩ := at_L4 HR0.out x6_1 p217 q217
     cases e217
     replace hx217_0 := cB_ HB.out hx217_0
     have HR217_0 := kA_ hi217_0
     have HC217_0 := kA_ hl217_0
     clear hi217_0 hl217_0
     replace p217 := eq_true p217
     replace q217 := eq_true q217
     go_wp2_with (first | ((with_reducible refine gate_callee (f := 88) rfl ?_); refine goesL_ (some 20) rfl rfl Tryz.func88 a3_ rfl #[.slice A217_0 (rd_L4 l0 x6_1).length c217_0] rfl a1_ ?_; (with_reducible refine (r6_copyOf.calls k1 _ _ (rd_L4 l0 x6_1) t218 _ ?side1 ?side2 A5.out).mono ?_); (case side1 => repeat (first | exact (Kd.C_below HR217_0.out HB.out) | (with_reducible refine Kd.cA_ ?_ _) | (with_reducible refine Kd.cN_ ?_ _) | (with_reducible refine Kd.cD_ ?_))); (case side2 => exact HC217_0.out); rintro e w7 ⟨v219, rfl, ho0, hb⟩; refine ⟨_, rfl, ?_⟩; have n0_ := kA_ (Kd.N_elder' a41_ (Kd.R_base ho0) hb); have n1_ := kA_ (Kd.R_lower (Kd.R_newM (M := fun k_ => (w.heap.size ≤ k_)) ho0 (below_size a0_) (fun k_ h_ => h_)) (below_size a0_)); have n2_ := kA_ (below_step a0_ hb); clear HO_5; clear HB; have HO_5 := n0_; have HO220 := n1_; have HB := n2_; clear n0_ n1_ n2_; (try clear hb); (try clear hb2); (try clear hk); (try clear hi); (try clear ho0); obtain ⟨Ao8, co8, eo8⟩ := Kd.R_slice HO220.out; subst eo8) | ((with_reducible refine gate_dst (N := 21) rfl ?_); refine Kd.N_lit (Kd.slice 36 k36) _ 53 ?hg (N' := 21) ?hd (xs := ([t218] : List (List (S36)))) (inner := [.slice Ao8 t218.length co8]) (ok := (fun k_ => (w.heap.size ≤ k_) ∧ some k_ ≠ (u5 : Value).ownBlock)) (okp := (fun k_ => (w.heap.size ≤ k_) ∧ some k_ ≠ (u5 : Value).ownBlock)) ?hr ?hp (fun _ hk => hk) ((show ∀ k_, w7.heap.size ≤ k_ → (fun k_ => (w.heap.size ≤ k_) ∧ some k_ ≠ (u5 : Value).ownBlock) k_ from fun k_ hk => ⟨(Nat.le_trans (below_size a0_) hk), Kd.fresh' (Kd.N_lt a41_) k_ hk⟩) _ (Nat.le_refl _)) (Below.refl _ _) (Nat.le_refl _) (by simp) ?_; (case hd => rfl); (case hg => rfl); (case hr => first | (go_simp; done) | (go_simp; rfl)); (case hp => exact (Reps.one (show Kd.FK (Kd.slice 36 k36) _ _ t218 [.slice Ao8 t218.length co8] from (Kd.FK_slice_mk (Kd.R_reads' (Kd.R_mono (ok' := (fun k_ => (w.heap.size ≤ k_) ∧ some k_ ≠ (u5 : Value).ownBlock)) (Kd.R_apart' (HO220.out) (Kd.N_typed HO_5.out) (by decide)) (fun k_ hk => ⟨hk.1.1, hk.2⟩))).2.1 (Kd.R_F (Kd.R_mono (ok' := (fun k_ => (w.heap.size ≤ k_) ∧ some k_ ≠ (u5 : Value).ownBlock)) (Kd.R_apart' (HO220.out) (Kd.N_typed HO_5.out) (by decide)) (fun k_ hk => ⟨hk.1.1, hk.2⟩))))) (Reps.none _ _))); intro v222 w9 ho10 hb hg_ hnew_; clear hg_ hnew_; (first | rw [← Ny221.out] at ho10 | (simp only [Int.reduceToNat] at ho10; rw [← Ny221.out] at ho10)); have n0_ := kA_ (Kd.N_elder' a41_ (Kd.N_base ho10) hb); have n1_ := kA_ (Kd.N_lower ho10 (below_size a0_)); have n2_ := kA_ (below_step a0_ hb); clear HO_5; clear HB; clear HO220; have HO_5 := n0_; have HO223 := n1_; have HB := n2_; clear n0_ n1_ n2_; clear hb ho10; obtain ⟨Ao12, co12, eo12⟩ := Kd.N_slice HO223.out; subst eo12) | ((with_reducible refine gate_builtin (b := .append) (xs := #[.tmp 15, .tmp 22]) rfl ?_); at_builtin; refine Kd.N_append (Kd.slice 53 (Kd.slice 36 k36)) (w0 := w) w.heap.size rfl (.tmp 15) (.tmp 22) 56 22 (.slice none 0 0) 24 rfl Tryz.underlying56 info22 rfl (by decide) (by omega) u5 x5_1 y221 [.slice Ao12 y221.length co12] (fun k_ => (w.heap.size ≤ k_)) (fun k_ => ((fun k_ => (w.heap.size ≤ k_))) k_ ∧ some k_ ≠ (u5 : Value).ownBlock) rfl rfl ?aP (fun _ hk => hk) ?aF ?aO ?aB ?aS ?aL ?_; (case aP => exact (Kd.FK_slice_mk (Kd.N_reads' (Kd.N_mono (ok' := (fun k_ => ((fun k_ => (w.heap.size ≤ k_))) k_ ∧ some k_ ≠ (u5 : Value).ownBlock)) (HO223.out) (fun k_ hk => ⟨hk.1, hk.2⟩))).2.1 (Kd.N_F (Kd.N_mono (ok' := (fun k_ => ((fun k_ => (w.heap.size ≤ k_))) k_ ∧ some k_ ≠ (u5 : Value).ownBlock)) (HO223.out) (fun k_ hk => ⟨hk.1, hk.2⟩))))); (case aB => exact a0_); (case aF => exact (fun k_ hk => (Nat.le_trans (below_size a0_) hk))); (case aO => exact (by (with_reducible repeat (first | apply Kd.nA_ | apply Kd.nN_ | apply Kd.nD_)); exact Kd.N_mono HO_5.out (fun _ hk => hk.1.1))); (case aS => exact (below_size a0_)); (case aL => have := LMc6.out; omega); intro v225 w11 ho hb hg hat; rw [← Ny224.out] at ho; have n0_ := kA_ (hb); have n1_ := kA_ (ho); clear HB; clear HO_5; clear HO223; have HB := n0_; have HO226 := n1_; clear n0_ n1_; clear ho hb hg hat))
     go_roundg k1
     case measure => have := HK1.out; omega
     case rel => exact ⟨(y224), (wrap64 (x6_1 + 1)), a4_, H', ⟨by have := HK1.out; omega⟩, ⟨by (with_reducible repeat (first | apply Kd.nA_ | apply Kd.nN_ | apply Kd.nD_)); exact HO226.out⟩, ⟨a2_⟩⟩
   rw [if_neg c3] at H
   have c3b0 : decide (x6_1 < (l0.length : Int)) = false := dF_ c3
   clear c3
   have H' := kA_ H
   clear H
   go_wp2
   go_loopg [5] k1 (fun kq v5 w' => ∃ (x5_2 : List (List (List (S36)))), Aside0 (r6_full.l1 kq l1 x5_2 = some r) ∧ Aside0 (kq ≤ k1) ∧ Aside0 (Kd.N (Kd.slice 53 (Kd.slice 36 k36)) 22 w' w.heap.size (fun k_ => (w.heap.size ≤ k_)) v5 x5_2) ∧ Aside0 (Below w.heap.size w w'))
   case atStart => exact ⟨(x5_1), H', ⟨Nat.le_refl _⟩, ⟨by (with_reducible repeat (first | apply Kd.nA_ | apply Kd.nN_ | apply Kd.nD_)); exact HO_5.out⟩, ⟨a2_⟩⟩
   case round =>
    clear H'
    try clear c1
    try clear c2
    try clear p2
    try clear q2
    try clear hx2
    try clear c3
    try clear c3b0
    try clear c4
    try clear c4b0
    try clear c6
    try clear p6
    try clear c8
    try clear hx217_0
    try clear p2
    try clear p217
    try clear q217
    obtain ⟨x5_2, HA, HK2, HO_5, HB⟩ := hrel
    cases gk with
    | zero => exact absurd HA.out (by simp [r6_full.l1])
    | succ k2 =>
     have H := HA.out
     clear HA
     simp only [r6_full.l1] at H
     by_cases c13 : (x5_2.length : Int) > 1
     rotate_left
     · rw [if_neg c13] at H
       have c13b0 : decide (1 < (x5_2.length : Int)) = false := dF_ c13
       have c13b1 : decide (1 < x5_2.length) = false := dF_ (by omega)
       clear c13
       by_cases c29 : (x5_2.length : Int) = 0
       · rw [if_pos c29] at H
         have c29b0 : ((x5_2.length : Int) == 0) = true := beq_iff_eq.mpr c29
         have c29b1 : ((x5_2.length : Int) != 0) = false := bne_eq_false_iff_eq.mpr c29
         clear c29
         obtain rfl := Option.some.inj H
         obtain ⟨Ao30, co30, eo30⟩ := Kd.N_slice HO_5.out
         subst eo30
         go_wp2
         go_ret
         exact ⟨.slice none 0 0, a5_, Kd.V_nil _ _ _ _ _, a2_⟩
       rw [if_neg c29] at H
       have c29b0 : ((x5_2.length : Int) == 0) = false := beq_eq_false_iff_ne.mpr c29
       have c29b1 : ((x5_2.length : Int) != 0) = true := bne_iff_ne.mpr c29
       have c29b2 : ¬ (x5_2 = []) := fun h_ => c29 (by rw [h_]; rfl)
       by_cases c31 : 0 < (x5_2.length : Int)
       rotate_left
       · rw [if_neg c31] at H
         exact absurd H (by simp)
       rw [if_pos c31] at H
       have c31b0 : decide (0 < (x5_2.length : Int)) = true := dT_ c31
       have c31b1 : decide (0 < x5_2.length) = true := dT_ (by omega)
       clear c31
       obtain rfl := Option.some.inj H
       obtain ⟨Ao32, co32, eo32⟩ := Kd.N_slice HO_5.out
       subst eo32
       have p227 : 0 ≤ (0 : Int) := (by omega)
       have q227 : 0 < (x5_2.length : Int) := oT_ (by assumption)
       obtain ⟨ad227, A227_0, c227_0, e227, hx227_0, hl227_0, hi227_0⟩ := at_L7 (Kd.N_reads' HO_5.out).2.2 0 p227 q227
       cases e227
       obtain ⟨ce227, hce227, hMe227, hcc227⟩ := Kd.N_get HO_5.out [] 0 p227 (by first | exact q227 | exact oT_ (by assumption) | (have e_ := (Kd.N_reads' HO_5.out).1; omega))
       obtain ⟨ua227_0, uc227_0, rfl, ul227_0, ge227_0⟩ := Kd.FK_slice_open hMe227
       have hv227_0 := hcc227 0 _ rfl
       rw [Nat.add_zero, show ((Kd.slice 53 (Kd.slice 36 k36))).sz = 1 from rfl, Nat.mul_one] at hv227_0
       replace hv227_0 := Option.some.inj (hv227_0.symm.trans hx227_0)
       injection hv227_0 with hva_ hvn_ hvc_
       rw [hva_] at ge227_0
       rw [hvc_] at ul227_0
       have HL227_0 := kA_ (show Kd.V (Kd.slice 36 k36) 53 _ w.heap.size _ _ (rd_L7 x5_2 0) from Kd.V_mk ul227_0 ge227_0)
       clear hva_ hvn_ hvc_ ge227_0 ul227_0
       clear hcc227 hce227
       have qi227 : (0 < x5_2.length) = True := eq_true (by omega)
       (try rw [show ((0 : Int)).toNat = 0 from rfl] at hx227_0)
       (try rw [Addr.add_zero'] at hx227_0)
       have HR227_0 := kA_ hi227_0
       have HC227_0 := kA_ hl227_0
       clear hi227_0 hl227_0
       replace p227 := eq_true p227
       replace q227 := eq_true q227
       go_wp2
       go_ret
       exact ⟨_, a5_, by (with_reducible repeat (first | apply Kd.vA_ | apply Kd.vN_ | apply Kd.vD_)); exact Kd.V_mono HL227_0.out (fun _ hk => hk.1), a2_⟩
     rw [if_pos c13] at H
     have c13b0 : decide (1 < (x5_2.length : Int)) = true := dT_ c13
     have c13b1 : decide (1 < x5_2.length) = true := dT_ (by omega)
     clear c13
     have H' := kA_ H
     clear H
     obtain ⟨Ao14, co14, eo14⟩ := Kd.N_slice HO_5.out
     subst eo14
     go_wp2
     go_loopg [7, 8] k2 (fun kq v7 v8 w' => ∃ (x7_3 : List (List (List (S36)))) (x8_3 : Int), v8 = .int .i64 x8_3 ∧ Aside0 (r6_full.l2 kq l1 x5_2 x7_3 x8_3 = some r) ∧ Aside0 (kq ≤ k2) ∧ Aside0 (Kd.N (Kd.slice 53 (Kd.slice 36 k36)) 22 w' w.heap.size (fun k_ => (w.heap.size ≤ k_) ∧ some k_ ≠ (v7 : Value).ownBlock) (.slice Ao14 x5_2.length co14) x5_2) ∧ Aside0 (Kd.N (Kd.slice 53 (Kd.slice 36 k36)) 22 w' w.heap.size (fun k_ => (w.heap.size ≤ k_) ∧ some k_ ≠ ((.slice Ao14 x5_2.length co14) : Value).ownBlock) v7 x7_3) ∧ Aside0 (Below w.heap.size w w'))
     case atStart => exact ⟨(([] : List (List (List (S36))))), (0), a4_, H', ⟨Nat.le_refl _⟩, ⟨by (with_reducible repeat (first | apply Kd.nA_ | apply Kd.nN_ | apply Kd.nD_)); exact Kd.N_mono HO_5.out (fun _ hk => ⟨hk, (by simp [Value.ownBlock])⟩)⟩, ⟨a32_⟩, ⟨a2_⟩⟩
     case round =>
      clear H'
      try clear c1
      try clear c2
      try clear p2
      try clear q2
      try clear hx2
      try clear c3
      try clear c3b0
      try clear c4
      try clear c4b0
      try clear c6
      try clear p6
      try clear c8
      try clear c13
      try clear c13b0
      try clear c13b1
      try clear hx217_0
      try clear p2
      try clear p217
      try clear p6
      try clear q2
      try clear q217
      obtain ⟨x7_3, x8_3, rfl, HA, HK3, HO_5, HO_7, HB⟩ := hrel
      cases gk with
      | zero => exact absurd HA.out (by simp [r6_full.l2])
      | succ k3 =>
       have H := HA.out
       clear HA
       simp only [r6_full.l2] at H
       by_cases c15 : x8_3 < (x5_2.length : Int)
       rotate_left
       · rw [if_neg c15] at H
         have c15b0 : decide (x8_3 < (x5_2.length : Int)) = false := dF_ c15
         clear c15
         have H' := kA_ H
         clear H
         go_wp2
         go_roundg k3
         case measure => have := HK1.out; have := HK2.out; have := HK3.out; omega
         case rel => exact ⟨(x7_3), H', ⟨a93_⟩, ⟨by (with_reducible repeat (first | apply Kd.nA_ | apply Kd.nN_ | apply Kd.nD_)); exact Kd.N_mono HO_7.out (fun _ hk => hk.1)⟩, ⟨a2_⟩⟩
       rw [if_pos c15] at H
       have c15b0 : decide (x8_3 < (x5_2.length : Int)) = true := dT_ c15
       clear c15
       by_cases c16 : (wrap64 (x8_3 + 1)) < (x5_2.length : Int)
       rotate_left
       · rw [if_neg c16] at H
         have c16b0 : decide ((wrap64 (x8_3 + 1)) < (x5_2.length : Int)) = false := dF_ c16
         clear c16
         by_cases c26 : 0 ≤ x8_3
         rotate_left
         · rw [if_neg c26] at H
           exact absurd H (by simp)
         rw [if_pos c26] at H
         have c26b0 : decide (0 ≤ x8_3) = true := dT_ c26
         clear c26
         by_cases c27 : x7_3.length < 5864062014805
         rotate_left
         · rw [if_neg c27] at H
           exact absurd H (by simp)
         rw [if_pos c27] at H
         have LMc27 := kA_ c27
         clear c27
         obtain ⟨y237, hy237⟩ : ∃ y_ : List (List (List (S36))), y_ = (x7_3 ++ [rd_L7 x5_2 x8_3]) := ⟨_, rfl⟩
         replace H : (r6_full.l2 k3 l1 x5_2 y237 (wrap64 (x8_3 + 2))) = some r := by first | (rw [hy237]; with_reducible exact H) | (have H2_ := (Option.bind_some _ _).symm.trans H; rw [hy237]; with_reducible exact H2_) | (have H2_ := (Option.bind_some _ _).symm.trans H; with_reducible exact H2_) | with_reducible exact H | (rw [hy237]; exact H) | exact H
         have Ny237 := kA_ hy237
         clear hy237
         have H' := kA_ H
         clear H
         have p236 : 0 ≤ (x8_3 : Int) := oT_ (by assumption)
         have q236 : x8_3 < (x5_2.length : Int) := oT_ (by assumption)
         obtain ⟨ad236, A236_0, c236_0, e236, hx236_0, hl236_0, hi236_0⟩ := at_L7 (Kd.N_reads' HO_5.out).2.2 x8_3 p236 q236
         cases e236
         obtain ⟨ce236, hce236, hMe236, hcc236⟩ := Kd.N_get HO_5.out [] x8_3 p236 (by first | exact q236 | exact oT_ (by assumption) | (have e_ := (Kd.N_reads' HO_5.out).1; omega))
         obtain ⟨ua236_0, uc236_0, rfl, ul236_0, ge236_0⟩ := Kd.FK_slice_open hMe236
         have hv236_0 := hcc236 0 _ rfl
         rw [Nat.add_zero, show ((Kd.slice 53 (Kd.slice 36 k36))).sz = 1 from rfl, Nat.mul_one] at hv236_0
         replace hv236_0 := Option.some.inj (hv236_0.symm.trans hx236_0)
         injection hv236_0 with hva_ hvn_ hvc_
         rw [hva_] at ge236_0
         rw [hvc_] at ul236_0
         have HL236_0 := kA_ (show Kd.V (Kd.slice 36 k36) 53 _ w.heap.size _ _ (rd_L7 x5_2 x8_3) from Kd.V_mk ul236_0 ge236_0)
         clear hva_ hvn_ hvc_ ge236_0 ul236_0
         clear hcc236 hce236
         have HR236_0 := kA_ hi236_0
         have HC236_0 := kA_ hl236_0
         clear hi236_0 hl236_0
         replace p236 := eq_true p236
         replace q236 := eq_true q236
         go_wp2_with (first | ((with_reducible refine gate_builtin (b := .append) (xs := #[.tmp 52, .tmp 57]) rfl ?_); at_builtin; refine Kd.N_append (Kd.slice 53 (Kd.slice 36 k36)) (w0 := w) w.heap.size rfl (.tmp 52) (.tmp 57) 56 22 (.slice none 0 0) 24 rfl Tryz.underlying56 info22 rfl (by decide) (by omega) u7 x7_3 (rd_L7 x5_2 x8_3) [.slice A236_0 (rd_L7 x5_2 x8_3).length c236_0] (fun k_ => (w.heap.size ≤ k_) ∧ some k_ ≠ (.slice (some ad236) x5_2.length co14 : Value).ownBlock) (fun k_ => ((fun k_ => (w.heap.size ≤ k_) ∧ some k_ ≠ (.slice (some ad236) x5_2.length co14 : Value).ownBlock)) k_ ∧ some k_ ≠ (u7 : Value).ownBlock) rfl rfl ?aP (fun _ hk => hk) ?aF ?aO ?aB ?aS ?aL ?_; (case aP => exact (Kd.FK_slice_mk (Kd.V_reads' (Kd.V_mono (ok' := (fun k_ => ((fun k_ => (w.heap.size ≤ k_) ∧ some k_ ≠ (.slice (some ad236) x5_2.length co14 : Value).ownBlock)) k_ ∧ some k_ ≠ (u7 : Value).ownBlock)) (HL236_0.out) (fun k_ hk => ⟨⟨hk.1.1, hk.2⟩, hk.1.2⟩))).2.1 (Kd.V_F (Kd.V_mono (ok' := (fun k_ => ((fun k_ => (w.heap.size ≤ k_) ∧ some k_ ≠ (.slice (some ad236) x5_2.length co14 : Value).ownBlock)) k_ ∧ some k_ ≠ (u7 : Value).ownBlock)) (HL236_0.out) (fun k_ hk => ⟨⟨hk.1.1, hk.2⟩, hk.1.2⟩))))); (case aB => exact a0_); (case aF => exact (fun k_ hk => ⟨(Nat.le_trans (below_size a0_) hk), Kd.fresh' (Kd.N_lt a41_) k_ hk⟩)); (case aO => exact a30_); (case aS => exact (below_size a0_)); (case aL => have := LMc27.out; omega); intro v238 w28 ho hb hg hat; rw [← Ny237.out] at ho; have n0_ := kA_ (Kd.N_afterv (ok := (fun k_ => (w.heap.size ≤ k_))) a41_ hg hat); have n1_ := kA_ (Kd.V_afterv (ok := (fun k_ => (w.heap.size ≤ k_) ∧ some k_ ≠ (.slice (some ad236) x5_2.length co14 : Value).ownBlock)) (by (with_reducible repeat (first | apply Kd.vA_ | apply Kd.vN_ | apply Kd.vD_)); exact Kd.V_mono HL236_0.out (fun _ hk => ⟨⟨hk.1.1, hk.2⟩, hk.1.2⟩)) hg hat); have n2_ := kA_ (hb); have n3_ := kA_ (ho); clear HO_5; clear HL236_0; clear HB; clear HO_7; have HO_5 := n0_; have HL236_0 := n1_; have HB := n2_; have HO239 := n3_; clear n0_ n1_ n2_ n3_; clear ho hb hg hat))
         go_roundg k3
         case measure => have := HK1.out; have := HK2.out; have := HK3.out; omega
         case rel => exact ⟨(y237), (wrap64 (x8_3 + 2)), a4_, H', ⟨a93_⟩, ⟨by (with_reducible repeat (first | apply Kd.nA_ | apply Kd.nN_ | apply Kd.nD_)); exact HO_5.out⟩, ⟨by (with_reducible repeat (first | apply Kd.nA_ | apply Kd.nN_ | apply Kd.nD_)); exact HO239.out⟩, ⟨a2_⟩⟩
       rw [if_pos c16] at H
       have c16b0 : decide ((wrap64 (x8_3 + 1)) < (x5_2.length : Int)) = true := dT_ c16
       clear c16
       by_cases c17 : 0 ≤ x8_3
       rotate_left
       · rw [if_neg c17] at H
         exact absurd H (by simp)
       rw [if_pos c17] at H
       have c17b0 : decide (0 ≤ x8_3) = true := dT_ c17
       clear c17
       obtain ⟨ji18, hji18⟩ : ∃ j_ : Int, (wrap64 (x8_3 + 1)) = j_ := ⟨_, rfl⟩
       replace H : (if 0 ≤ (ji18) then ((r6_merge.f k3 (rd_L7 x5_2 x8_3) (rd_L7 x5_2 (ji18)) l1).bind fun t230 => (if x7_3.length < 5864062014805 then (r6_full.l2 k3 l1 x5_2 (x7_3 ++ [t230]) (wrap64 (x8_3 + 2))) else (none))) else (none)) = some r := by first | (rw [hji18] at H; exact H) | (simp only [hji18] at H ⊢; exact H)
       (try rw [hji18] at c16b0)
       have hji18w : (IntKind.i64.wrap (x8_3 + 1)) = ji18 := (iL _).trans hji18
       by_cases c19 : 0 ≤ (ji18)
       rotate_left
       · rw [if_neg c19] at H
         exact absurd H (by simp)
       rw [if_pos c19] at H
       have c19b0 : decide (0 ≤ (ji18)) = true := dT_ c19
       clear c19
       replace H := Option.bind_eq_some_iff.mp H
       obtain ⟨t230, A200, H⟩ := H
       replace H : (if x7_3.length < 5864062014805 then (r6_full.l2 k3 l1 x5_2 (x7_3 ++ [t230]) (wrap64 (x8_3 + 2))) else (none)) = some r := H
       have A20 := kA_ A200
       clear A200
       by_cases c21 : x7_3.length < 5864062014805
       rotate_left
       · rw [if_neg c21] at H
         exact absurd H (by simp)
       rw [if_pos c21] at H
       have LMc21 := kA_ c21
       clear c21
       obtain ⟨y233, hy233⟩ : ∃ y_ : List (List (List (S36))), y_ = (x7_3 ++ [t230]) := ⟨_, rfl⟩
       replace H : (r6_full.l2 k3 l1 x5_2 y233 (wrap64 (x8_3 + 2))) = some r := by first | (rw [hy233]; with_reducible exact H) | (have H2_ := (Option.bind_some _ _).symm.trans H; rw [hy233]; with_reducible exact H2_) | (have H2_ := (Option.bind_some _ _).symm.trans H; with_reducible exact H2_) | with_reducible exact H | (rw [hy233]; exact H) | exact H
       have Ny233 := kA_ hy233
       clear hy233
       have H' := kA_ H
       clear H
       try go_wp2
       have n0_ := kA_ (Kd.nD_ HO_5.out)
       have n1_ := kA_ (Kd.nD_ HO_7.out)
       have n2_ := kA_ (b1_ HB.out)
       clear HO_5
       clear HO_7
       clear HB
       have HO_5 := n0_
       have HO_7 := n1_
       have HB := n2_
       clear n0_ n1_ n2_
       have p228 : 0 ≤ (x8_3 : Int) := oT_ (by assumption)
       have q228 : x8_3 < (x5_2.length : Int) := oT_ (by assumption)
       obtain ⟨ad228, A228_0, c228_0, e228, hx228_0, hl228_0, hi228_0⟩ := at_L7 (Kd.N_reads' HO_5.out).2.2 x8_3 p228 q228
       cases e228
       obtain ⟨ce228, hce228, hMe228, hcc228⟩ := Kd.N_get HO_5.out [] x8_3 p228 (by first | exact q228 | exact oT_ (by assumption) | (have e_ := (Kd.N_reads' HO_5.out).1; omega))
       obtain ⟨ua228_0, uc228_0, rfl, ul228_0, ge228_0⟩ := Kd.FK_slice_open hMe228
       have hv228_0 := hcc228 0 _ rfl
       rw [Nat.add_zero, show ((Kd.slice 53 (Kd.slice 36 k36))).sz = 1 from rfl, Nat.mul_one] at hv228_0
       replace hv228_0 := Option.some.inj (hv228_0.symm.trans hx228_0)
       injection hv228_0 with hva_ hvn_ hvc_
       rw [hva_] at ge228_0
       rw [hvc_] at ul228_0
       have HL228_0 := kA_ (show Kd.V (Kd.slice 36 k36) 53 _ w.heap.size _ _ (rd_L7 x5_2 x8_3) from Kd.V_mk ul228_0 ge228_0)
       clear hva_ hvn_ hvc_ ge228_0 ul228_0
       clear hcc228 hce228
       have HR228_0 := kA_ hi228_0
       have HC228_0 := kA_ hl228_0
       clear hi228_0 hl228_0
       replace p228 := eq_true p228
       replace q228 := eq_true q228
       have p229 : 0 ≤ ((ji18) : Int) := oT_ (by assumption)
       have q229 : (ji18) < (x5_2.length : Int) := oT_ (by assumption)
       obtain ⟨ad229, A229_0, c229_0, e229, hx229_0, hl229_0, hi229_0⟩ := at_L7 (Kd.N_reads' HO_5.out).2.2 (ji18) p229 q229
       obtain rfl : ad228 = ad229 := (by injection e229)
       obtain ⟨ce229, hce229, hMe229, hcc229⟩ := Kd.N_get HO_5.out [] (ji18) p229 (by first | exact q229 | exact oT_ (by assumption) | (have e_ := (Kd.N_reads' HO_5.out).1; omega))
       obtain ⟨ua229_0, uc229_0, rfl, ul229_0, ge229_0⟩ := Kd.FK_slice_open hMe229
       have hv229_0 := hcc229 0 _ rfl
       rw [Nat.add_zero, show ((Kd.slice 53 (Kd.slice 36 k36))).sz = 1 from rfl, Nat.mul_one] at hv229_0
       replace hv229_0 := Option.some.inj (hv229_0.symm.trans hx229_0)
       injection hv229_0 with hva_ hvn_ hvc_
       rw [hva_] at ge229_0
       rw [hvc_] at ul229_0
       have HL229_0 := kA_ (show Kd.V (Kd.slice 36 k36) 53 _ w.heap.size _ _ (rd_L7 x5_2 (ji18)) from Kd.V_mk ul229_0 ge229_0)
       clear hva_ hvn_ hvc_ ge229_0 ul229_0
       clear hcc229 hce229
       have HR229_0 := kA_ hi229_0
       have HC229_0 := kA_ hl229_0
       clear hi229_0 hl229_0
       replace p229 := eq_true p229
       replace q229 := eq_true q229
       refine start_ (n := 15) (S := fun w' => w'.cell? (ad228.add (x8_3).toNat) = some (.slice A228_0 (rd_L7 x5_2 x8_3).length c228_0) ∧ w'.cell? (ad228.add ((ji18)).toNat) = some (.slice A229_0 (rd_L7 x5_2 (ji18)).length c229_0)) (ds := [12, 13]) #[X,X,X,X,X,X,X,X,X,X,X,X,X,X,X] a3_ rfl rfl ⟨hx228_0, hx229_0⟩ (fun hHeld => ?_); refine with_tabW r6_full.tab12 r6_full.bits12 (fun HT_ HW_ => ?_)
       generalize wr.drew = w22 at HO_5 HO_7 HB HL228_0 HL229_0 HR228_0 HR229_0 hx228_0 hx229_0 hHeld ⊢
       refine pure_ (i := 0) (N := some 38) (v := ?_) (a' := ?_) #[Y,X,X,X,X,X,X,X,X,X,X,X,X,X,X] rfl rfl (any_of HT_.out a3_) (fun _ _ _ h => h) (Or.inl ⟨by rfl, ?_⟩) ?_ ?_
       rotate_left
       · intro w'
         go_simp
         with_reducible rfl
       rotate_left
       · simp only [Act.put, tA, tZ, tS, iL, iW]
         rfl
       refine pure_ (i := 1) (N := some 39) (v := ?_) (a' := ?_) #[Y,Y,X,X,X,X,X,X,X,X,X,X,X,X,X] rfl rfl (any_of HT_.out a3_) (fun _ _ _ h => h) (Or.inl ⟨by rfl, ?_⟩) ?_ ?_
       rotate_left
       · intro w'
         go_simp
         with_reducible rfl
       rotate_left
       · simp only [Act.put, tA, tZ, tS, iL, iW]
         rfl
       refine pure_ (i := 2) (N := some 40) (v := ?_) (a' := ?_) #[Y,Y,Y,X,X,X,X,X,X,X,X,X,X,X,X] rfl rfl (any_of HT_.out a3_) (fun _ _ _ h => h) (Or.inl ⟨by rfl, ?_⟩) ?_ ?_
       rotate_left
       · intro w'
         go_simp
         with_reducible rfl
       rotate_left
       · simp only [Act.put, tA, tZ, tS, iL, iW]
         rfl
       refine pure_ (i := 3) (N := some 41) (v := ?_) (a' := ?_) #[Y,Y,Y,Y,X,X,X,X,X,X,X,X,X,X,X] rfl rfl (any_of HT_.out a3_) (fun _ _ _ h => h) (Or.inl ⟨by rfl, ?_⟩) ?_ ?_
       rotate_left
       · intro w'
         go_simp
         with_reducible rfl
       rotate_left
       · simp only [Act.put, tA, tZ, tS, iL, iW]
         rfl
       refine pure_ (i := 5) (N := some 43) (v := ?_) (a' := ?_) #[Y,Y,Y,Y,X,Y,X,X,X,X,X,X,X,X,X] rfl rfl (any_of HT_.out a3_) (fun _ _ _ h => h) (Or.inl ⟨by rfl, ?_⟩) ?_ ?_
       rotate_left
       · intro w'
         go_simp
         with_reducible rfl
       rotate_left
       · simp only [Act.put, tA, tZ, tS, iL, iW]
         rfl
       refine pure_ (i := 6) (N := some 44) (v := ?_) (a' := ?_) #[Y,Y,Y,Y,X,Y,Y,X,X,X,X,X,X,X,X] rfl rfl (any_of HT_.out a3_) (fun _ _ _ h => h) (Or.inl ⟨by rfl, ?_⟩) ?_ ?_
       rotate_left
       · intro w'
         go_simp
         with_reducible rfl
       rotate_left
       · simp only [Act.put, tA, tZ, tS, iL, iW]
         rfl
       refine pure_ (i := 7) (N := some 45) (v := ?_) (a' := ?_) #[Y,Y,Y,Y,X,Y,Y,Y,X,X,X,X,X,X,X] rfl rfl (any_of HT_.out a3_) (fun _ _ _ h => h) (Or.inl ⟨by rfl, ?_⟩) ?_ ?_
       rotate_left
       · intro w'
         go_simp
         with_reducible rfl
       rotate_left
       · simp only [Act.put, tA, tZ, tS, iL, iW]
         rfl
       refine pure_ (i := 8) (N := some 46) (v := ?_) (a' := ?_) #[Y,Y,Y,Y,X,Y,Y,Y,Y,X,X,X,X,X,X] rfl rfl (any_of HT_.out a3_) (fun _ _ _ h => h) (Or.inl ⟨by rfl, ?_⟩) ?_ ?_
       rotate_left
       · intro w'
         go_simp
         with_reducible rfl
       rotate_left
       · simp only [Act.put, tA, tZ, tS, iL, iW]
         rfl
       refine pure_ (i := 10) (N := some 48) (v := ?_) (a' := ?_) #[Y,Y,Y,Y,X,Y,Y,Y,Y,X,Y,X,X,X,X] rfl rfl (any_of HT_.out a3_) (fun _ _ _ h => h) (Or.inl ⟨by rfl, ?_⟩) ?_ ?_
       rotate_left
       · intro w'
         go_simp
         with_reducible rfl
       rotate_left
       · simp only [Act.put, tA, tZ, tS, iL, iW]
         rfl
       refine take_ (i := 4) (N := some 42) (v := ?_) (a' := ?_) #[Y,Y,Y,Y,Y,Y,Y,Y,Y,X,Y,X,X,X,X] rfl rfl (take_ofW HT_.out HW_.out a3_) (fun _ _ _ h => h) (Or.inl ⟨by rfl, ?_⟩) hHeld ?_ ?_
       rotate_left
       · rintro w' ⟨s0, s1⟩
         go_simp
         with_reducible rfl
       rotate_left
       · simp only [Act.put, tA, tZ, tS, iL, iW]
         rfl
       refine take_ (i := 9) (N := some 47) (v := ?_) (a' := ?_) #[Y,Y,Y,Y,Y,Y,Y,Y,Y,Y,Y,X,X,X,X] rfl rfl (take_ofW HT_.out HW_.out a3_) (fun _ _ _ h => h) (Or.inl ⟨by rfl, ?_⟩) hHeld ?_ ?_
       rotate_left
       · rintro w' ⟨s0, s1⟩
         go_simp
         with_reducible rfl
       rotate_left
       · simp only [Act.put, tA, tZ, tS, iL, iW]
         rfl
       refine one_ (i := 11) (N := some 49) #[Y,Y,Y,Y,Y,Y,Y,Y,Y,Y,Y,Y,X,X,X] rfl rfl (one_of HT_.out a3_) (by decide) (fun K hK => ?_)
       refine goes_ Tryz.func89 a3_ rfl #[.slice A228_0 (rd_L7 x5_2 x8_3).length c228_0, .slice A229_0 (rd_L7 x5_2 (ji18)).length c229_0, .slice A1 l1.length c1] (by rfl) rfl rfl (by (try simp only [List.map_toArray, List.map_cons, List.map_nil]); first | done | (simp only [hji18]; rfl) | rfl | (simp only [List.length_drop, List.length_take]; rfl)) ?_
       with_reducible refine (r6_merge.calls k3 (fun k_ => (((w.heap.size ≤ k_) ∧ some k_ ≠ (u7 : Value).ownBlock) ∧ some k_ ≠ (.slice (some ad228) x5_2.length co14 : Value).ownBlock)) _ _ (rd_L7 x5_2 x8_3) (fun k_ => (((w.heap.size ≤ k_) ∧ some k_ ≠ (u7 : Value).ownBlock) ∧ some k_ ≠ (.slice (some ad228) x5_2.length co14 : Value).ownBlock)) _ _ (rd_L7 x5_2 (ji18)) _ _ l1 t230 _ ?side1 ?side2 ?side3 ?side4 A20.out).mono ?_
       (case side1 => exact HL228_0.out)
       (case side2 => exact HL229_0.out)
       (case side3 => repeat (first | exact (Kd.C_below HR1.out HB.out) | (with_reducible refine Kd.cA_ ?_ _) | (with_reducible refine Kd.cN_ ?_ _) | (with_reducible refine Kd.cD_ ?_)))
       (case side4 => exact HC1.out)
       rintro e w23 ⟨v231, rfl, ho0, hb⟩
       have HS0_ := (hb.cell (bLC_ _ _ (hHeld.1))).trans (hHeld.1)
       have HS1_ := (hb.cell (bLC_ _ _ (hHeld.2))).trans (hHeld.2)
       refine ⟨_, rfl, ?_⟩
       have n0_ := kA_ (Kd.N_elder' a41_ (Kd.N_base ho0) hb)
       have n1_ := kA_ (Kd.N_elder' a30_ (Kd.N_base ho0) hb)
       have n2_ := kA_ (Kd.V_elder' (by (with_reducible repeat (first | apply Kd.vA_ | apply Kd.vN_ | apply Kd.vD_)); exact HL228_0.out) (Kd.N_base ho0) hb)
       have n3_ := kA_ (Kd.V_elder' (by (with_reducible repeat (first | apply Kd.vA_ | apply Kd.vN_ | apply Kd.vD_)); exact HL229_0.out) (Kd.N_base ho0) hb)
       have n4_ := kA_ (Kd.N_lower (Kd.N_mono (ok' := fun k_ => (w.heap.size ≤ k_) ∧ some k_ ≠ (.slice (some ad228) x5_2.length co14 : Value).ownBlock ∧ some k_ ≠ (u7 : Value).ownBlock) ho0 (fun k_ hk_ => ⟨Or.elim hk_ (fun hs_ => Or.elim hs_ (fun hs_ => hs_.1.1) (fun hs_ => hs_.1.1)) (fun hn_ => (Nat.le_trans (below_size a0_) hn_)), Or.elim hk_ (fun hs_ => Or.elim hs_ (fun hs_ => hs_.2) (fun hs_ => hs_.2)) (fun hn_ => (Kd.fresh' (Kd.N_lt a41_) k_ hn_)), Or.elim hk_ (fun hs_ => Or.elim hs_ (fun hs_ => hs_.1.2) (fun hs_ => hs_.1.2)) (fun hn_ => (Kd.fresh' (Kd.N_lt a30_) k_ hn_))⟩)) (below_size a0_))
       have n5_ := kA_ (Kd.C_below (by repeat (first | (with_reducible exact HR228_0.out) | (with_reducible refine Kd.cA_ ?_ _) | (with_reducible refine Kd.cN_ ?_ _) | (with_reducible refine Kd.cD_ ?_) | exact HR228_0.out)) hb)
       have n6_ := kA_ (Kd.C_below (by repeat (first | (with_reducible exact HR229_0.out) | (with_reducible refine Kd.cA_ ?_ _) | (with_reducible refine Kd.cN_ ?_ _) | (with_reducible refine Kd.cD_ ?_) | exact HR229_0.out)) hb)
       have n7_ := kA_ (below_step a0_ hb)
       clear HO_5
       clear HO_7
       clear HL228_0
       clear HL229_0
       clear HR228_0
       clear HR229_0
       clear HB
       have HO_5 := n0_
       have HO_7 := n1_
       have HL228_0 := n2_
       have HL229_0 := n3_
       have HO232 := n4_
       have HR228_0 := n5_
       have HR229_0 := n6_
       have HB := n7_
       clear n0_ n1_ n2_ n3_ n4_ n5_ n6_ n7_
       (try clear hb)
       (try clear hb2)
       (try clear hk)
       (try clear hi)
       (try clear ho0)
       obtain ⟨Ao25, co25, eo25⟩ := Kd.N_slice HO232.out
       (first | subst eo25 | (injection eo25 with f1_ f2_ f3_; have f4_ := f1_.symm; have f5_ := f3_.symm; clear f1_ f2_ f3_; subst f4_; subst f5_))
       refine hK.out _ _ ⟨HS0_, HS1_⟩ (fun hHeld => ?_)
       clear hK K
       refine norm_ (a' := ?_) ?_ ?_
       rotate_left
       · show Act.put _ (some 49) _ = _
         simp only [Act.put, tA, tZ, tS, iL, iW]
         rfl
       refine last_ (i := 12) (N := some 50) #[Y,Y,Y,Y,Y,Y,Y,Y,Y,Y,Y,Y,Y,X,X] rfl rfl (one_of HT_.out a3_) (by decide) (fun K hK => ?_)
       refine value_ (w1 := ?_) (v := ?_) (by rfl) rfl ?_ ?_
       rotate_left 2
       · go_simp
         constructor
         · rfl
         rfl
       refine hK.out _ _ ?_
       clear hK K
       refine norm_ (a' := ?_) ?_ ?_
       rotate_left
       · show Act.put _ (some 50) _ = _
         simp only [Act.put, tA, tZ, tS, iL, iW]
         rfl
       refine last_ (i := 13) (N := some 51) #[Y,Y,Y,Y,Y,Y,Y,Y,Y,Y,Y,Y,Y,Y,X] rfl rfl (one_of HT_.out a3_) (by decide) (fun K hK => ?_)
       refine Kd.N_append_step (Kd.slice 53 (Kd.slice 36 k36)) (w0 := w) w.heap.size (by rfl) (.tmp 38) (.tmp 50) 56 22 (.slice none 0 0) 24 rfl Tryz.underlying56 info22 rfl (by decide) (by omega) u7 x7_3 t230 [.slice Ao25 t230.length co25] (fun k_ => (w.heap.size ≤ k_) ∧ some k_ ≠ (.slice (some ad228) x5_2.length co14 : Value).ownBlock) (fun k_ => ((fun k_ => (w.heap.size ≤ k_) ∧ some k_ ≠ (.slice (some ad228) x5_2.length co14 : Value).ownBlock)) k_ ∧ some k_ ≠ (u7 : Value).ownBlock) rfl rfl ?aP (fun _ hk => hk) ?aF ?aO ?aB ?aS ?aL ?_
       (case aP => exact (Kd.FK_slice_mk (Kd.N_reads' (Kd.N_mono (ok' := (fun k_ => ((fun k_ => (w.heap.size ≤ k_) ∧ some k_ ≠ (.slice (some ad228) x5_2.length co14 : Value).ownBlock)) k_ ∧ some k_ ≠ (u7 : Value).ownBlock)) (HO232.out) (fun k_ hk => ⟨⟨hk.1, hk.2.1⟩, hk.2.2⟩))).2.1 (Kd.N_F (Kd.N_mono (ok' := (fun k_ => ((fun k_ => (w.heap.size ≤ k_) ∧ some k_ ≠ (.slice (some ad228) x5_2.length co14 : Value).ownBlock)) k_ ∧ some k_ ≠ (u7 : Value).ownBlock)) (HO232.out) (fun k_ hk => ⟨⟨hk.1, hk.2.1⟩, hk.2.2⟩)))))
       (case aB => exact a0_)
       (case aF => exact (fun k_ hk => ⟨(Nat.le_trans (below_size a0_) hk), Kd.fresh' (Kd.N_lt a41_) k_ hk⟩))
       (case aO => exact (by (with_reducible repeat (first | apply Kd.nA_ | apply Kd.nN_ | apply Kd.nD_)); exact Kd.N_mono HO_7.out (fun _ hk => ⟨hk.1.1, hk.1.2⟩)))
       (case aS => exact (below_size a0_))
       (case aL => have := LMc21.out; omega)
       intro v234 w24 ho hb hg hat
       rw [← Ny233.out] at ho
       have n0_ := kA_ (Kd.N_afterv (ok := (fun k_ => (w.heap.size ≤ k_) ∧ some k_ ≠ (.slice Ao25 t230.length co25 : Value).ownBlock)) (by (with_reducible repeat (first | apply Kd.nA_ | apply Kd.nN_ | apply Kd.nD_)); exact Kd.N_mono HO_5.out (fun _ hk => ⟨⟨hk.1.1, hk.2⟩, hk.1.2⟩)) hg hat)
       have n1_ := kA_ (Kd.V_afterv (ok := (fun k_ => (w.heap.size ≤ k_) ∧ some k_ ≠ (.slice (some ad228) x5_2.length co14 : Value).ownBlock ∧ some k_ ≠ (.slice Ao25 t230.length co25 : Value).ownBlock)) (by (with_reducible repeat (first | apply Kd.vA_ | apply Kd.vN_ | apply Kd.vD_)); exact Kd.V_mono HL228_0.out (fun _ hk => ⟨⟨hk.1.1.1, ⟨hk.1.2, hk.2⟩⟩, hk.1.1.2⟩)) hg hat)
       have n2_ := kA_ (Kd.V_afterv (ok := (fun k_ => (w.heap.size ≤ k_) ∧ some k_ ≠ (.slice (some ad228) x5_2.length co14 : Value).ownBlock ∧ some k_ ≠ (.slice Ao25 t230.length co25 : Value).ownBlock)) (by (with_reducible repeat (first | apply Kd.vA_ | apply Kd.vN_ | apply Kd.vD_)); exact Kd.V_mono HL229_0.out (fun _ hk => ⟨⟨hk.1.1.1, ⟨hk.1.2, hk.2⟩⟩, hk.1.1.2⟩)) hg hat)
       have n3_ := kA_ (hb)
       have n4_ := kA_ (ho)
       clear HO_5
       clear HL228_0
       clear HL229_0
       clear HB
       clear HO_7
       clear HO232
       have HO_5 := n0_
       have HL228_0 := n1_
       have HL229_0 := n2_
       have HB := n3_
       have HO235 := n4_
       clear n0_ n1_ n2_ n3_ n4_
       clear ho hb hg hat
       refine hK.out _ _ ?_
       clear hK K
       refine norm_ (a' := ?_) ?_ ?_
       rotate_left
       · show Act.put _ (some 51) _ = _
         simp only [Act.put, tA, tZ, tS, iL, iW]
         rfl
       refine pure_ (i := 14) (N := some 7) (v := ?_) (a' := ?_) #[Y,Y,Y,Y,Y,Y,Y,Y,Y,Y,Y,Y,Y,Y,Y] rfl rfl (any_of HT_.out a3_) (fun _ _ _ h => h) (Or.inl ⟨by rfl, ?_⟩) ?_ ?_
       rotate_left
       · intro w'
         go_simp
         with_reducible rfl
       rotate_left
       · simp only [Act.put, tA, tZ, tS, iL, iW]
         rfl
       refine done_ (done_of HT_.out a3_) ?_
       try go_wp2
       go_roundg k3
       case measure => have := HK1.out; have := HK2.out; have := HK3.out; omega
       case rel => exact ⟨(y233), (wrap64 (x8_3 + 2)), a4_, H', ⟨a93_⟩, ⟨by (with_reducible repeat (first | apply Kd.nA_ | apply Kd.nN_ | apply Kd.nD_)); exact Kd.N_mono HO_5.out (fun _ hk => ⟨hk.1.1, hk.2⟩)⟩, ⟨by (with_reducible repeat (first | apply Kd.nA_ | apply Kd.nN_ | apply Kd.nD_)); exact HO235.out⟩, ⟨a2_⟩⟩
end
end Go.Proofs.YtecgkcgfeghhgaaGreatDoor.PAll
