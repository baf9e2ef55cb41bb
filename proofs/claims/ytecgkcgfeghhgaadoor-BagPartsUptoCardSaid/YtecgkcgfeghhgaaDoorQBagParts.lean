/- The row of BagParts (second form: what it reads is of bulk at most 2^20) and its card. Joined by a program of this session out of its texts. -/
import Derived.Test.YtecgkcgfeghhgaaDoorQB
import Derived.Test.YtecgkcgfeghhgaaDoorCards
import Derived.Test.YtecgkcgfeghhgaaDoorTie
import Derived.Test.YtecgkcgfeghhgaaDoorProg
import Derived.Test.YtecgkcgfeghhgaaDoorRows
import Derived.WalkKit
import Derived.ProofKit
import Derived.OpenShut
import Derived.Carry
import Derived.Deep.DeepHandedRow
import Derived.Lib.LaidTab
set_option linter.unusedVariables false
set_option linter.unusedSimpArgs false
namespace Go.Proofs.YtecgkcgfeghhgaaDoor.PAll
open Go.RowKit Go.Proofs.YtecgkcgfeghhgaaDoorW.PrintWords Go.Proofs.YtecgkcgfeghhgaaDoorW.PrintLast Go.Proofs.YtecgkcgfeghhgaaDoorW.PrintMore
def RowFits (n : Nat) (K : Nat → Int) (r : List V) : Prop := r.length = n ∧ (∀ v ∈ r, validV v = true) ∧ ∀ (j : Nat) (h : j < r.length), r[j].f0 = 0 ∨ r[j].f0 = K j
theorem rowStep_of : ∀ (ks : List Int) (r : List V) (K : Nat → Int), r.length = ks.length → (∀ v ∈ r, validV v = true) → (∀ (j : Nat) (h : j < r.length), r[j].f0 = 0 ∨ r[j].f0 = K j) → (∀ (j : Nat) (h : j < ks.length), ks[j] = 0 ∨ ks[j] = K j) →
    ∃ ks', rowStep ks r = some ks' ∧ ks'.length = ks.length ∧ ∀ (j : Nat) (h : j < ks'.length), ks'[j] = 0 ∨ ks'[j] = K j
  | [], [], _, _, _, _, _ => ⟨[], rfl, rfl, fun j h => by simp at h⟩
  | [], _ :: _, _, h, _, _, _ => by simp at h
  | _ :: _, [], _, h, _, _, _ => by simp at h
  | k :: ks, v :: vs, K, hl, hv, hr, hk => by
    have r0 : v.f0 = 0 ∨ v.f0 = K 0 := hr 0 (by simp)
    have k0 : k = 0 ∨ k = K 0 := hk 0 (by simp)
    obtain ⟨t, ht, htl, htk⟩ := rowStep_of ks vs (fun j => K (j + 1)) (by simpa using hl) (fun u hu => hv u (List.mem_cons_of_mem _ hu)) (fun j h => by have := hr (j + 1) (by simpa using h); simpa using this) (fun j h => by have := hk (j + 1) (by simpa using h); simpa using this)
    refine ⟨(if k = 0 then v.f0 else k) :: t, ?_, by simp [htl], fun j h => ?_⟩
    · simp only [rowStep]
      rw [if_pos ⟨hv v List.mem_cons_self, by omega⟩, ht]
      rfl
    · cases j with
      | zero =>
        simp only [List.getElem_cons_zero]
        split <;> omega
      | succ j =>
        simp only [List.getElem_cons_succ]
        exact htk j (by simpa using h)
theorem validFrom_of (K : Nat → Int) : ∀ (l : List (List V)) (ks : List Int), (∀ r ∈ l, RowFits ks.length K r) → (∀ (j : Nat) (h : j < ks.length), ks[j] = 0 ∨ ks[j] = K j) → validFrom ks l = true
  | [], _, _, _ => rfl
  | r :: rs, ks, h, hk => by
    have hr := h r List.mem_cons_self
    obtain ⟨t, ht, htl, htk⟩ := rowStep_of ks r K hr.1 hr.2.1 hr.2.2 hk
    simp only [validFrom, ht]
    exact validFrom_of K rs t (fun u hu => by rw [htl]; exact h u (List.mem_cons_of_mem _ hu)) htk
theorem validB_of {l : List (List V)} {n : Nat} {K : Nat → Int} (h : ∀ r ∈ l, RowFits n K r) : validB l = true := by
  cases l with
  | nil => rfl
  | cons r rs =>
    have hn : r.length = n := (h r List.mem_cons_self).1
    exact validFrom_of K (r :: rs) (List.replicate r.length 0) (fun u hu => by rw [List.length_replicate, hn]; exact h u hu) (fun j hj => by simp)
theorem validB_fits {l : List (List V)} (h : validB l = true) : ∃ n K, ∀ r ∈ l, RowFits n K r := by
  cases l with
  | nil => exact ⟨0, fun _ => 0, by simp⟩
  | cons r rs =>
    obtain ⟨K, _, hK⟩ := validFrom_kind (r :: rs) _ h
    exact ⟨r.length, fun j => K.getD j 0, fun u hu => ⟨validB_len h u hu, validB_valid h u hu, fun j hj => hK u hu j hj⟩⟩
theorem validB_sub {a b : List (List V)} (h : validB b = true) (hs : ∀ r ∈ a, r ∈ b) : validB a = true := by
  obtain ⟨n, K, hK⟩ := validB_fits h
  exact validB_of (fun r hr => hK r (hs r hr))
theorem validB_eq {a b : List (List V)} (hs : ∀ r, r ∈ a ↔ r ∈ b) : validB a = validB b := by
  rw [Bool.eq_iff_iff]
  exact ⟨fun h => validB_sub h (fun r hr => (hs r).2 hr), fun h => validB_sub h (fun r hr => (hs r).1 hr)⟩
theorem validB_perm {a b : List (List V)} (h : a.Perm b) : validB a = validB b := validB_eq (fun r => h.mem_iff)
theorem RowsOk.perm {a b : List (List V)} (h : RowsOk a) (hp : b.Perm a) : RowsOk b := ⟨fun r hr => h.1 r (hp.mem_iff.1 hr), by rw [hp.length_eq]; exact h.2⟩
theorem RowsV.perm {a b : List (List V)} (h : RowsV a) (hp : b.Perm a) : RowsV b := ⟨fun r hr => h.1 r (hp.mem_iff.1 hr), by rw [hp.length_eq]; exact h.2⟩
theorem RowsOk.app {a b : List (List V)} (ha : RowsOk a) (hb : RowsOk b) (h : a.length + b.length ≤ 1099511627776) : RowsOk (a ++ b) := ⟨fun r hr => (List.mem_append.1 hr).elim (ha.1 r) (hb.1 r), by rw [List.length_append]; exact h⟩
theorem RowsOk.len {a : List (List V)} (h : RowsOk a) : a.length ≤ 1099511627776 ∧ ∀ r ∈ a, r.length ≤ 1099511627776 := ⟨h.2, fun r hr => (h.1 r hr).2.2⟩
theorem RowsV.len {a : List (List V)} (h : RowsV a) : a.length ≤ 1099511627776 ∧ ∀ r ∈ a, r.length ≤ 1099511627776 := ⟨h.2, fun r hr => (h.1 r hr).2⟩
theorem same_ok {a b : List (List V)} (ha : RowsOk a) (hb : RowsOk b) : bag_Same.f a b = some (sameB a b) := if_pos ⟨ha, hb⟩
theorem inter_ok {a b : List (List V)} (h : RowsOk (a ++ b)) : bag_Intersect.f a b = some (if validB (a ++ b) = true then (sortR [] (splitR (cnt (b.map nameOf)) a).1, 0) else ([], 1)) := by
  have e : bag_split.f a b = _ := if_pos h
  unfold bag_Intersect.f
  rw [e]
  split <;> rfl
theorem except_ok {a b : List (List V)} (h : RowsOk (a ++ b)) : bag_Except.f a b = some (if validB (a ++ b) = true then (sortR [] (splitR (cnt (b.map nameOf)) a).2, 0) else ([], 1)) := by
  have e : bag_split.f a b = _ := if_pos h
  unfold bag_Except.f
  rw [e]
  split <;> rfl
theorem union_ok {a b : List (List V)} (h : RowsV (a ++ b)) : bag_Union.f a b = some (if validB (a ++ b) = true then (sortR [] (a ++ b), 0) else ([], 1)) := if_pos h
end Go.Proofs.YtecgkcgfeghhgaaDoor.PAll
namespace Go.Proofs.YtecgkcgfeghhgaaDoor.PAll
open Go.RowKit Go.Proofs.YtecgkcgfeghhgaaDoorW.PrintWords Go.Proofs.YtecgkcgfeghhgaaDoorW.PrintLast Go.Proofs.YtecgkcgfeghhgaaDoorW.PrintMore
attribute [local go_sem] max2_int min2_int max_two min_two max_three min_three max_four min_four
set_option linter.unusedVariables false
set_option linter.unusedSimpArgs false
noncomputable section
mutual
def jointerlaw06_BagParts.j0 : Nat → List (List (S27)) → List (List (S27)) → List (List (S27)) → List (List (S27)) → Bool → Option (Bool)
 | 0, _, _, _, _, _ => none
 | k + 1, x0, x1, x5, x9, x49 => if x49 = true then (some false) else ((bag_Union.f x5 x9).bind fun bt147 => ((bag_Union.f x0 x1).bind fun bt151 => (if bt147.2 = 0 then (if bt151.2 = 0 then ((bag_Same.f bt147.1 x0).bind fun t155 => (jointerlaw06_BagParts.j1 k x0 x1 bt151.1 (!t155))) else (jointerlaw06_BagParts.j1 k x0 x1 bt151.1 true)) else (jointerlaw06_BagParts.j1 k x0 x1 bt151.1 true))))
def jointerlaw06_BagParts.j1 : Nat → List (List (S27)) → List (List (S27)) → List (List (S27)) → Bool → Option (Bool)
 | 0, _, _, _, _ => none
 | k + 1, x0, x1, x13, x73 => if x73 = true then (some false) else ((bag_Except.f x13 x1).bind fun bt156 => (if bt156.2 = 0 then ((bag_Same.f bt156.1 x0).bind fun t160 => (if t160 = true then ((jointerlaw06_awake.f).bind fun t161 => (some t161)) else (some false))) else (some false)))
end
def jointerlaw06_BagParts.f (k : Nat) (l0 : List (List (S27))) (l1 : List (List (S27))) : Option (Bool) := (bag_Intersect.f l0 l1).bind fun bt133 => (if bt133.2 = 0 then ((bag_Intersect.f l1 l0).bind fun bt138 => ((bag_Except.f l0 l1).bind fun bt142 => (if bt138.2 = 0 then (if bt142.2 = 0 then ((jointerref06_SameLists.f k bt133.1 bt138.1).bind fun t146 => (jointerlaw06_BagParts.j0 k l0 l1 bt133.1 bt142.1 (!t146))) else (jointerlaw06_BagParts.j0 k l0 l1 bt133.1 bt142.1 true)) else (jointerlaw06_BagParts.j0 k l0 l1 bt133.1 bt142.1 true)))) else ((jointerlaw06_awake.f).bind fun t137 => (some t137)))
theorem jointerlaw06_BagParts.mono_l : ∀ k, (∀ y0 y1 y2 y3 y4, LeO (jointerlaw06_BagParts.j0 k y0 y1 y2 y3 y4) (jointerlaw06_BagParts.j0 (k + 1) y0 y1 y2 y3 y4)) ∧ (∀ y0 y1 y2 y3, LeO (jointerlaw06_BagParts.j1 k y0 y1 y2 y3) (jointerlaw06_BagParts.j1 (k + 1) y0 y1 y2 y3))
 | 0 => ⟨fun _ _ _ _ _ r h => by simp [jointerlaw06_BagParts.j0] at h, fun _ _ _ _ r h => by simp [jointerlaw06_BagParts.j1] at h⟩
 | k + 1 => by
  obtain ⟨ih0, ih1⟩ := jointerlaw06_BagParts.mono_l k
  refine ⟨?_, ?_⟩
  · intro y0 y1 y2 y3 y4
    unfold jointerlaw06_BagParts.j0
    repeat' first
    | (with_reducible exact ih0 _ _ _ _ _)
    | (with_reducible exact ih1 _ _ _ _)
    | (with_reducible exact jointerref06_SameLists.mono _ _ _)
    | (with_reducible exact LeO.refl _)
    | (with_reducible exact LeO.none _)
    | (with_reducible refine LeO.ite ?_ ?_)
    | (with_reducible refine LeO.bind ?_ (fun _ => ?_))
    | exact ih0 _ _ _ _ _
    | exact ih1 _ _ _ _
    | exact jointerref06_SameLists.mono _ _ _
    | exact LeO.none _
    | refine LeO.ite ?_ ?_
    | refine LeO.bind ?_ (fun _ => ?_)
  · intro y0 y1 y2 y3
    unfold jointerlaw06_BagParts.j1
    repeat' first
    | (with_reducible exact ih0 _ _ _ _ _)
    | (with_reducible exact ih1 _ _ _ _)
    | (with_reducible exact jointerref06_SameLists.mono _ _ _)
    | (with_reducible exact LeO.refl _)
    | (with_reducible exact LeO.none _)
    | (with_reducible refine LeO.ite ?_ ?_)
    | (with_reducible refine LeO.bind ?_ (fun _ => ?_))
    | exact ih0 _ _ _ _ _
    | exact ih1 _ _ _ _
    | exact jointerref06_SameLists.mono _ _ _
    | exact LeO.none _
    | refine LeO.ite ?_ ?_
    | refine LeO.bind ?_ (fun _ => ?_)
theorem jointerlaw06_BagParts.mono : ∀ a0 a1 k, LeO (jointerlaw06_BagParts.f k a0 a1) (jointerlaw06_BagParts.f (k + 1) a0 a1) := by
 intro a0 a1 k
 obtain ⟨ih0, ih1⟩ := jointerlaw06_BagParts.mono_l k
 unfold jointerlaw06_BagParts.f
 repeat' first
  | (with_reducible exact ih0 _ _ _ _ _)
  | (with_reducible exact ih1 _ _ _ _)
  | (with_reducible exact jointerref06_SameLists.mono _ _ _)
  | (with_reducible exact LeO.refl _)
  | (with_reducible exact LeO.none _)
  | (with_reducible refine LeO.ite ?_ ?_)
  | (with_reducible refine LeO.bind ?_ (fun _ => ?_))
  | exact ih0 _ _ _ _ _
  | exact ih1 _ _ _ _
  | exact jointerref06_SameLists.mono _ _ _
  | exact LeO.none _
  | refine LeO.ite ?_ ?_
  | refine LeO.bind ?_ (fun _ => ?_)
set_option maxHeartbeats 8000000 in
set_option maxRecDepth 100000 in
theorem jointerlaw06_BagParts.calls (k : Nat) (A0 : Option Addr) (c0 : Nat) (l0 : List (List (S27))) (A1 : Option Addr) (c1 : Nat) (l1 : List (List (S27))) (r : Bool) (w : World) (hr0 : Kd.C (Kd.slice 27 k27) w A0 l0.length l0) (hc0 : l0.length ≤ c0) (hr1 : Kd.C (Kd.slice 27 k27) w A1 l1.length l1) (hc1 : l1.length ≤ c1) (hT : LaidT w) (h : jointerlaw06_BagParts.f k l0 l1 = some r) :
 Calls Tryd.prog 9 #[.slice A0 l0.length c0, .slice A1 l1.length c1] w fun e w' => e = .returned (.bool r) ∧ Below w.heap.size w w' := by
 have HT := Aside0.mk hT
 clear hT
 have HR0 := Aside0.mk hr0
 have HC0 := Aside0.mk hc0
 clear hr0 hc0
 have HR1 := Aside0.mk hr1
 have HC1 := Aside0.mk hc1
 clear hr1 hc1
 have HB := Aside0.mk (Below.refl w.heap.size w)
 have H : ((bag_Intersect.f l0 l1).bind fun bt133 => (if bt133.2 = 0 then ((bag_Intersect.f l1 l0).bind fun bt138 => ((bag_Except.f l0 l1).bind fun bt142 => (if bt138.2 = 0 then (if bt142.2 = 0 then ((jointerref06_SameLists.f k bt133.1 bt138.1).bind fun t146 => (jointerlaw06_BagParts.j0 k l0 l1 bt133.1 bt142.1 (!t146))) else (jointerlaw06_BagParts.j0 k l0 l1 bt133.1 bt142.1 true)) else (jointerlaw06_BagParts.j0 k l0 l1 bt133.1 bt142.1 true)))) else ((jointerlaw06_awake.f).bind fun t137 => (some t137)))) = some r := h
 clear h
 replace H := Option.bind_eq_some_iff.mp H
 obtain ⟨⟨t133, t136⟩, A30, H⟩ := H
 replace H : (if t136 = 0 then ((bag_Intersect.f l1 l0).bind fun bt138 => ((bag_Except.f l0 l1).bind fun bt142 => (if bt138.2 = 0 then (if bt142.2 = 0 then ((jointerref06_SameLists.f k t133 bt138.1).bind fun t146 => (jointerlaw06_BagParts.j0 k l0 l1 t133 bt142.1 (!t146))) else (jointerlaw06_BagParts.j0 k l0 l1 t133 bt142.1 true)) else (jointerlaw06_BagParts.j0 k l0 l1 t133 bt142.1 true)))) else ((jointerlaw06_awake.f).bind fun t137 => (some t137))) = some r := H
 have A3 := Aside0.mk A30
 clear A30
 by_cases c4 : t136 = 0
 · rw [if_pos c4] at H
   have c4b0 : (t136 == 0) = true := beq_iff_eq.mpr c4
   have c4b1 : (t136 != 0) = false := bne_eq_false_iff_eq.mpr c4
   clear c4
   replace H := Option.bind_eq_some_iff.mp H
   obtain ⟨⟨t138, t141⟩, A50, H⟩ := H
   replace H : ((bag_Except.f l0 l1).bind fun bt142 => (if t141 = 0 then (if bt142.2 = 0 then ((jointerref06_SameLists.f k t133 t138).bind fun t146 => (jointerlaw06_BagParts.j0 k l0 l1 t133 bt142.1 (!t146))) else (jointerlaw06_BagParts.j0 k l0 l1 t133 bt142.1 true)) else (jointerlaw06_BagParts.j0 k l0 l1 t133 bt142.1 true))) = some r := H
   have A5 := Aside0.mk A50
   clear A50
   replace H := Option.bind_eq_some_iff.mp H
   obtain ⟨⟨t142, t145⟩, A60, H⟩ := H
   replace H : (if t141 = 0 then (if t145 = 0 then ((jointerref06_SameLists.f k t133 t138).bind fun t146 => (jointerlaw06_BagParts.j0 k l0 l1 t133 t142 (!t146))) else (jointerlaw06_BagParts.j0 k l0 l1 t133 t142 true)) else (jointerlaw06_BagParts.j0 k l0 l1 t133 t142 true)) = some r := H
   have A6 := Aside0.mk A60
   clear A60
   have HC7 := Aside0.mk H
   clear H
   go_enter Tryd.func9, Tryd.ntmps9
   go_upto_region 6 with (first | ((with_reducible refine gate_callee (f := 21) rfl ?_); refine goesL_ (some 20) rfl rfl Tryd.func21 (by kernel_rfl) rfl #[.slice A0 l0.length c0, .slice A1 l1.length c1] rfl (by (try simp only [List.map_toArray, List.map_cons, List.map_nil]); first | done | rfl | (simp only [List.length_drop, List.length_take]; rfl)) ?_; (with_reducible refine (bag_Intersect.calls _ _ l0 _ _ l1 t133 t136 _ ?side1 ?side2 ?side3 ?side4 ?sideT A3.out).mono ?_); (case sideT => exact LaidT.below HT.out (by repeat (first | (with_reducible first | exact HB.out | apply below_alloc | apply pw_below_drewN | apply below_drew1) | exact HB.out))); (case side1 => repeat (first | exact HR0.out | (with_reducible refine Kd.C_alloc ?_ _) | (with_reducible refine Kd.C_drewN ?_ _) | (with_reducible refine Kd.C_drew ?_))); (case side2 => exact HC0.out); (case side3 => repeat (first | exact HR1.out | (with_reducible refine Kd.C_alloc ?_ _) | (with_reducible refine Kd.C_drewN ?_ _) | (with_reducible refine Kd.C_drew ?_))); (case side4 => exact HC1.out); rintro e w8 ⟨v134, rfl, ho0, hb⟩; refine ⟨_, rfl, ?_⟩; have n0_ := Aside0.mk (Kd.V_lower (Kd.V_mono (ok' := fun k_ => True) ho0 (fun k_ hk_ => trivial)) (below_size (by repeat (first | (with_reducible first | exact HB.out | apply below_alloc | apply pw_below_drewN | apply below_drew1) | exact HB.out)))); have n1_ := Aside0.mk (below_step (by repeat (first | (with_reducible first | exact HB.out | apply below_alloc | apply pw_below_drewN | apply below_drew1) | exact HB.out)) hb); clear HB; have HO135 := n0_; have HB := n1_; clear n0_ n1_; (try clear hb); (try clear hb2); (try clear hk); (try clear hi); (try clear ho0)) | ((with_reducible refine gate_callee (f := 21) rfl ?_); refine goesL_ (some 29) rfl rfl Tryd.func21 (by kernel_rfl) rfl #[.slice A1 l1.length c1, .slice A0 l0.length c0] rfl (by (try simp only [List.map_toArray, List.map_cons, List.map_nil]); first | done | rfl | (simp only [List.length_drop, List.length_take]; rfl)) ?_; (with_reducible refine (bag_Intersect.calls _ _ l1 _ _ l0 t138 t141 _ ?side1 ?side2 ?side3 ?side4 ?sideT A5.out).mono ?_); (case sideT => exact LaidT.below HT.out (by repeat (first | (with_reducible first | exact HB.out | apply below_alloc | apply pw_below_drewN | apply below_drew1) | exact HB.out))); (case side1 => repeat (first | exact (Kd.C_below HR1.out HB.out) | (with_reducible refine Kd.C_alloc ?_ _) | (with_reducible refine Kd.C_drewN ?_ _) | (with_reducible refine Kd.C_drew ?_))); (case side2 => exact HC1.out); (case side3 => repeat (first | exact (Kd.C_below HR0.out HB.out) | (with_reducible refine Kd.C_alloc ?_ _) | (with_reducible refine Kd.C_drewN ?_ _) | (with_reducible refine Kd.C_drew ?_))); (case side4 => exact HC0.out); rintro e w9 ⟨v139, rfl, ho0, hb⟩; refine ⟨_, rfl, ?_⟩; have n0_ := Aside0.mk (Kd.V_below (by (with_reducible repeat (first | apply Kd.V_alloc | apply Kd.V_drewN | apply Kd.V_drew)); exact HO135.out) hb); have n1_ := Aside0.mk (Kd.V_lower (Kd.V_mono (ok' := fun k_ => True) ho0 (fun k_ hk_ => trivial)) (below_size (by repeat (first | (with_reducible first | exact HB.out | apply below_alloc | apply pw_below_drewN | apply below_drew1) | exact HB.out)))); have n2_ := Aside0.mk (below_step (by repeat (first | (with_reducible first | exact HB.out | apply below_alloc | apply pw_below_drewN | apply below_drew1) | exact HB.out)) hb); clear HO135; clear HB; have HO135 := n0_; have HO140 := n1_; have HB := n2_; clear n0_ n1_ n2_; (try clear hb); (try clear hb2); (try clear hk); (try clear hi); (try clear ho0)) | ((with_reducible refine gate_callee (f := 22) rfl ?_); refine goesL_ (some 35) rfl rfl Tryd.func22 (by kernel_rfl) rfl #[.slice A0 l0.length c0, .slice A1 l1.length c1] rfl (by (try simp only [List.map_toArray, List.map_cons, List.map_nil]); first | done | rfl | (simp only [List.length_drop, List.length_take]; rfl)) ?_; (with_reducible refine (bag_Except.calls _ _ l0 _ _ l1 t142 t145 _ ?side1 ?side2 ?side3 ?side4 ?sideT A6.out).mono ?_); (case sideT => exact LaidT.below HT.out (by repeat (first | (with_reducible first | exact HB.out | apply below_alloc | apply pw_below_drewN | apply below_drew1) | exact HB.out))); (case side1 => repeat (first | exact (Kd.C_below HR0.out HB.out) | (with_reducible refine Kd.C_alloc ?_ _) | (with_reducible refine Kd.C_drewN ?_ _) | (with_reducible refine Kd.C_drew ?_))); (case side2 => exact HC0.out); (case side3 => repeat (first | exact (Kd.C_below HR1.out HB.out) | (with_reducible refine Kd.C_alloc ?_ _) | (with_reducible refine Kd.C_drewN ?_ _) | (with_reducible refine Kd.C_drew ?_))); (case side4 => exact HC1.out); rintro e w10 ⟨v143, rfl, ho0, hb⟩; refine ⟨_, rfl, ?_⟩; have n0_ := Aside0.mk (Kd.V_below (by (with_reducible repeat (first | apply Kd.V_alloc | apply Kd.V_drewN | apply Kd.V_drew)); exact HO135.out) hb); have n1_ := Aside0.mk (Kd.V_below (by (with_reducible repeat (first | apply Kd.V_alloc | apply Kd.V_drewN | apply Kd.V_drew)); exact HO140.out) hb); have n2_ := Aside0.mk (Kd.V_lower (Kd.V_mono (ok' := fun k_ => True) ho0 (fun k_ hk_ => trivial)) (below_size (by repeat (first | (with_reducible first | exact HB.out | apply below_alloc | apply pw_below_drewN | apply below_drew1) | exact HB.out)))); have n3_ := Aside0.mk (below_step (by repeat (first | (with_reducible first | exact HB.out | apply below_alloc | apply pw_below_drewN | apply below_drew1) | exact HB.out)) hb); clear HO135; clear HO140; clear HB; have HO135 := n0_; have HO140 := n1_; have HO144 := n2_; have HB := n3_; clear n0_ n1_ n2_ n3_; (try clear hb); (try clear hb2); (try clear hk); (try clear hi); (try clear ho0)))
   (try simp only [Act.put, List.setIfInBounds_toArray, List.set_cons_zero, List.set_cons_succ])
   go_cut [49] (fun v49 wc => ∃ (kq : Nat) (x49_6 : Bool), v49 = .bool x49_6 ∧ Aside0 (jointerlaw06_BagParts.j0 kq l0 l1 t133 t142 x49_6 = some r) ∧ Aside0 (kq ≤ k) ∧ Aside0 (Kd.V (Kd.slice 27 k27) 58 wc w.heap.size (fun _ => True) v134 t133) ∧ Aside0 (Kd.V (Kd.slice 27 k27) 58 wc w.heap.size (fun _ => True) v143 t142) ∧ Aside0 (Below w.heap.size w wc))
   case first =>
    have H := HC7.out
    clear HC7
    by_cases c11 : t141 = 0
    · rw [if_pos c11] at H
      have c11b0 : (t141 == 0) = true := beq_iff_eq.mpr c11
      have c11b1 : (t141 != 0) = false := bne_eq_false_iff_eq.mpr c11
      clear c11
      (first | rw [c11b0] | (simp only [i64_w, i32_w]; rw [c11b0]) | skip)
      by_cases c12 : t145 = 0
      · rw [if_pos c12] at H
        have c12b0 : (t145 == 0) = true := beq_iff_eq.mpr c12
        have c12b1 : (t145 != 0) = false := bne_eq_false_iff_eq.mpr c12
        clear c12
        replace H := Option.bind_eq_some_iff.mp H
        obtain ⟨t146, A130, H⟩ := H
        replace H : (jointerlaw06_BagParts.j0 k l0 l1 t133 t142 (!t146)) = some r := H
        have A13 := Aside0.mk A130
        clear A130
        have H' := Aside0.mk H
        clear H
        obtain ⟨Ao14, co14, eo14⟩ := Kd.V_slice HO135.out
        subst eo14
        obtain ⟨Ao15, co15, eo15⟩ := Kd.V_slice HO140.out
        subst eo15
        go_wp2_with (first | (go_at_call 19; (with_reducible refine (jointerref06_SameLists.calls k _ _ t133 _ _ t138 t146 _ ?side1 ?side2 ?side3 ?side4 A13.out).mono ?_); (case side1 => repeat (first | exact (Kd.V_reads' HO135.out).2.2 | (with_reducible refine Kd.C_alloc ?_ _) | (with_reducible refine Kd.C_drewN ?_ _) | (with_reducible refine Kd.C_drew ?_))); (case side2 => exact (Kd.V_reads' HO135.out).2.1); (case side3 => repeat (first | exact (Kd.V_reads' HO140.out).2.2 | (with_reducible refine Kd.C_alloc ?_ _) | (with_reducible refine Kd.C_drewN ?_ _) | (with_reducible refine Kd.C_drew ?_))); (case side4 => exact (Kd.V_reads' HO140.out).2.1); rintro e w16 ⟨rfl, hb⟩; have n0_ := Aside0.mk (Kd.V_below (by (with_reducible repeat (first | apply Kd.V_alloc | apply Kd.V_drewN | apply Kd.V_drew)); exact HO135.out) hb); have n1_ := Aside0.mk (Kd.V_below (by (with_reducible repeat (first | apply Kd.V_alloc | apply Kd.V_drewN | apply Kd.V_drew)); exact HO140.out) hb); have n2_ := Aside0.mk (Kd.V_below (by (with_reducible repeat (first | apply Kd.V_alloc | apply Kd.V_drewN | apply Kd.V_drew)); exact HO144.out) hb); have n3_ := Aside0.mk (below_step (by repeat (first | (with_reducible first | exact HB.out | apply below_alloc | apply pw_below_drewN | apply below_drew1) | exact HB.out)) hb); clear HO135; clear HO140; clear HO144; clear HB; have HO135 := n0_; have HO140 := n1_; have HO144 := n2_; have HB := n3_; clear n0_ n1_ n2_ n3_; (try clear hb); (try clear hb2); (try clear hk); (try clear hi)))
        go_meet
        case rel => exact ⟨_, (!t146), (by first | rfl | (simp; done) | (simp [*]; done)), H', ⟨by first | omega | exact Nat.le_refl _⟩, ⟨by (with_reducible repeat (first | apply Kd.V_alloc | apply Kd.V_drewN | apply Kd.V_drew)); exact HO135.out⟩, ⟨by (with_reducible repeat (first | apply Kd.V_alloc | apply Kd.V_drewN | apply Kd.V_drew)); exact HO144.out⟩, ⟨by repeat (first | (with_reducible first | exact HB.out | apply below_alloc | apply pw_below_drewN | apply below_drew1) | exact HB.out)⟩⟩
      · rw [if_neg c12] at H
        have c12b0 : (t145 == 0) = false := beq_eq_false_iff_ne.mpr c12
        have c12b1 : (t145 != 0) = true := bne_iff_ne.mpr c12
        have H' := Aside0.mk H
        clear H
        go_wp2
        go_meet
        case rel => exact ⟨_, (true), (by first | rfl | (simp; done) | (simp [*]; done)), H', ⟨by first | omega | exact Nat.le_refl _⟩, ⟨by (with_reducible repeat (first | apply Kd.V_alloc | apply Kd.V_drewN | apply Kd.V_drew)); exact HO135.out⟩, ⟨by (with_reducible repeat (first | apply Kd.V_alloc | apply Kd.V_drewN | apply Kd.V_drew)); exact HO144.out⟩, ⟨by repeat (first | (with_reducible first | exact HB.out | apply below_alloc | apply pw_below_drewN | apply below_drew1) | exact HB.out)⟩⟩
    · rw [if_neg c11] at H
      have c11b0 : (t141 == 0) = false := beq_eq_false_iff_ne.mpr c11
      have c11b1 : (t141 != 0) = true := bne_iff_ne.mpr c11
      (first | rw [c11b0] | (simp only [i64_w, i32_w]; rw [c11b0]) | skip)
      have H' := Aside0.mk H
      clear H
      go_wp2
      go_meet
      case rel => exact ⟨_, (true), (by first | rfl | (simp; done) | (simp [*]; done)), H', ⟨by first | omega | exact Nat.le_refl _⟩, ⟨by (with_reducible repeat (first | apply Kd.V_alloc | apply Kd.V_drewN | apply Kd.V_drew)); exact HO135.out⟩, ⟨by (with_reducible repeat (first | apply Kd.V_alloc | apply Kd.V_drewN | apply Kd.V_drew)); exact HO144.out⟩, ⟨by repeat (first | (with_reducible first | exact HB.out | apply below_alloc | apply pw_below_drewN | apply below_drew1) | exact HB.out)⟩⟩
   case rest =>
    clear HC7
    try clear c1
    try clear c2
    try clear p2
    try clear c4
    try clear c4b0
    try clear c4b1
    try clear c9
    try clear c11
    try clear c11b0
    try clear c11b1
    try clear c12
    try clear c12b0
    try clear c12b1
    obtain ⟨kq, x49_6, rfl, HA, HJ6, HO_5, HO_9, HB⟩ := hcut
    cases kq with
    | zero => exact absurd HA.out (by simp [jointerlaw06_BagParts.j0])
    | succ kj6 =>
     have H := HA.out
     clear HA
     simp only [jointerlaw06_BagParts.j0] at H
     by_cases c17 : x49_6 = true
     · subst c17
       have H1 : (some false) = some r := by rw [if_pos rfl] at H; exact H
       clear H
       have H := H1
       clear H1
       obtain rfl := Option.some.inj H
       go_wp2
       go_ret
       exact ⟨by first | rfl | (simp [errW_none, errW_some] <;> rfl) | (simp [*, errW_none, errW_some] <;> rfl), by repeat (first | (with_reducible first | exact HB.out | apply below_alloc | apply pw_below_drewN | apply below_drew1) | exact HB.out)⟩
     · replace c17 := Bool.eq_false_iff.mpr c17
       subst c17
       have H1 : ((bag_Union.f t133 t142).bind fun bt147 => ((bag_Union.f l0 l1).bind fun bt151 => (if bt147.2 = 0 then (if bt151.2 = 0 then ((bag_Same.f bt147.1 l0).bind fun t155 => (jointerlaw06_BagParts.j1 kj6 l0 l1 bt151.1 (!t155))) else (jointerlaw06_BagParts.j1 kj6 l0 l1 bt151.1 true)) else (jointerlaw06_BagParts.j1 kj6 l0 l1 bt151.1 true)))) = some r := by rw [if_neg (show ¬ (false = true) by decide)] at H; exact H
       clear H
       have H := H1
       clear H1
       replace H := Option.bind_eq_some_iff.mp H
       obtain ⟨⟨t147, t150⟩, A180, H⟩ := H
       replace H : ((bag_Union.f l0 l1).bind fun bt151 => (if t150 = 0 then (if bt151.2 = 0 then ((bag_Same.f t147 l0).bind fun t155 => (jointerlaw06_BagParts.j1 kj6 l0 l1 bt151.1 (!t155))) else (jointerlaw06_BagParts.j1 kj6 l0 l1 bt151.1 true)) else (jointerlaw06_BagParts.j1 kj6 l0 l1 bt151.1 true))) = some r := H
       have A18 := Aside0.mk A180
       clear A180
       replace H := Option.bind_eq_some_iff.mp H
       obtain ⟨⟨t151, t154⟩, A190, H⟩ := H
       replace H : (if t150 = 0 then (if t154 = 0 then ((bag_Same.f t147 l0).bind fun t155 => (jointerlaw06_BagParts.j1 kj6 l0 l1 t151 (!t155))) else (jointerlaw06_BagParts.j1 kj6 l0 l1 t151 true)) else (jointerlaw06_BagParts.j1 kj6 l0 l1 t151 true)) = some r := H
       have A19 := Aside0.mk A190
       clear A190
       have HC20 := Aside0.mk H
       clear H
       obtain ⟨Ao21, co21, eo21⟩ := Kd.V_slice HO_5.out
       subst eo21
       obtain ⟨Ao22, co22, eo22⟩ := Kd.V_slice HO_9.out
       subst eo22
       go_upto_region 10 with (first | ((with_reducible refine gate_callee (f := 23) rfl ?_); refine goesL_ (some 53) rfl rfl Tryd.func23 (by kernel_rfl) rfl #[.slice Ao21 t133.length co21, .slice Ao22 t142.length co22] rfl (by (try simp only [List.map_toArray, List.map_cons, List.map_nil]); first | done | rfl | (simp only [List.length_drop, List.length_take]; rfl)) ?_; (with_reducible refine (bag_Union.calls _ _ t133 _ _ t142 t147 t150 _ ?side1 ?side2 ?side3 ?side4 A18.out).mono ?_); (case side1 => repeat (first | exact (Kd.V_reads' HO_5.out).2.2 | (with_reducible refine Kd.C_alloc ?_ _) | (with_reducible refine Kd.C_drewN ?_ _) | (with_reducible refine Kd.C_drew ?_))); (case side2 => exact (Kd.V_reads' HO_5.out).2.1); (case side3 => repeat (first | exact (Kd.V_reads' HO_9.out).2.2 | (with_reducible refine Kd.C_alloc ?_ _) | (with_reducible refine Kd.C_drewN ?_ _) | (with_reducible refine Kd.C_drew ?_))); (case side4 => exact (Kd.V_reads' HO_9.out).2.1); rintro e w23 ⟨v148, rfl, ho0, hb⟩; refine ⟨_, rfl, ?_⟩; have n0_ := Aside0.mk (Kd.V_below (by (with_reducible repeat (first | apply Kd.V_alloc | apply Kd.V_drewN | apply Kd.V_drew)); exact HO_5.out) hb); have n1_ := Aside0.mk (Kd.V_below (by (with_reducible repeat (first | apply Kd.V_alloc | apply Kd.V_drewN | apply Kd.V_drew)); exact HO_9.out) hb); have n2_ := Aside0.mk (Kd.V_lower (Kd.V_mono (ok' := fun k_ => True) ho0 (fun k_ hk_ => trivial)) (below_size (by repeat (first | (with_reducible first | exact HB.out | apply below_alloc | apply pw_below_drewN | apply below_drew1) | exact HB.out)))); have n3_ := Aside0.mk (below_step (by repeat (first | (with_reducible first | exact HB.out | apply below_alloc | apply pw_below_drewN | apply below_drew1) | exact HB.out)) hb); clear HO_5; clear HO_9; clear HB; have HO_5 := n0_; have HO_9 := n1_; have HO149 := n2_; have HB := n3_; clear n0_ n1_ n2_ n3_; (try clear hb); (try clear hb2); (try clear hk); (try clear hi); (try clear ho0)) | ((with_reducible refine gate_callee (f := 23) rfl ?_); refine goesL_ (some 59) rfl rfl Tryd.func23 (by kernel_rfl) rfl #[.slice A0 l0.length c0, .slice A1 l1.length c1] rfl (by (try simp only [List.map_toArray, List.map_cons, List.map_nil]); first | done | rfl | (simp only [List.length_drop, List.length_take]; rfl)) ?_; (with_reducible refine (bag_Union.calls _ _ l0 _ _ l1 t151 t154 _ ?side1 ?side2 ?side3 ?side4 A19.out).mono ?_); (case side1 => repeat (first | exact (Kd.C_below HR0.out HB.out) | (with_reducible refine Kd.C_alloc ?_ _) | (with_reducible refine Kd.C_drewN ?_ _) | (with_reducible refine Kd.C_drew ?_))); (case side2 => exact HC0.out); (case side3 => repeat (first | exact (Kd.C_below HR1.out HB.out) | (with_reducible refine Kd.C_alloc ?_ _) | (with_reducible refine Kd.C_drewN ?_ _) | (with_reducible refine Kd.C_drew ?_))); (case side4 => exact HC1.out); rintro e w24 ⟨v152, rfl, ho0, hb⟩; refine ⟨_, rfl, ?_⟩; have n0_ := Aside0.mk (Kd.V_below (by (with_reducible repeat (first | apply Kd.V_alloc | apply Kd.V_drewN | apply Kd.V_drew)); exact HO_5.out) hb); have n1_ := Aside0.mk (Kd.V_below (by (with_reducible repeat (first | apply Kd.V_alloc | apply Kd.V_drewN | apply Kd.V_drew)); exact HO_9.out) hb); have n2_ := Aside0.mk (Kd.V_below (by (with_reducible repeat (first | apply Kd.V_alloc | apply Kd.V_drewN | apply Kd.V_drew)); exact HO149.out) hb); have n3_ := Aside0.mk (Kd.V_lower (Kd.V_mono (ok' := fun k_ => True) ho0 (fun k_ hk_ => trivial)) (below_size (by repeat (first | (with_reducible first | exact HB.out | apply below_alloc | apply pw_below_drewN | apply below_drew1) | exact HB.out)))); have n4_ := Aside0.mk (below_step (by repeat (first | (with_reducible first | exact HB.out | apply below_alloc | apply pw_below_drewN | apply below_drew1) | exact HB.out)) hb); clear HO_5; clear HO_9; clear HO149; clear HB; have HO_5 := n0_; have HO_9 := n1_; have HO149 := n2_; have HO153 := n3_; have HB := n4_; clear n0_ n1_ n2_ n3_ n4_; (try clear hb); (try clear hb2); (try clear hk); (try clear hi); (try clear ho0)))
       (try simp only [Act.put, List.setIfInBounds_toArray, List.set_cons_zero, List.set_cons_succ])
       go_cut [73] (fun v73 wc => ∃ (kq : Nat) (x73_19 : Bool), v73 = .bool x73_19 ∧ Aside0 (jointerlaw06_BagParts.j1 kq l0 l1 t151 x73_19 = some r) ∧ Aside0 (kq ≤ kj6) ∧ Aside0 (Kd.V (Kd.slice 27 k27) 58 wc w.heap.size (fun _ => True) v152 t151) ∧ Aside0 (Below w.heap.size w wc))
       case first =>
        have H := HC20.out
        clear HC20
        by_cases c25 : t150 = 0
        · rw [if_pos c25] at H
          have c25b0 : (t150 == 0) = true := beq_iff_eq.mpr c25
          have c25b1 : (t150 != 0) = false := bne_eq_false_iff_eq.mpr c25
          clear c25
          (first | rw [c25b0] | (simp only [i64_w, i32_w]; rw [c25b0]) | skip)
          by_cases c26 : t154 = 0
          · rw [if_pos c26] at H
            have c26b0 : (t154 == 0) = true := beq_iff_eq.mpr c26
            have c26b1 : (t154 != 0) = false := bne_eq_false_iff_eq.mpr c26
            clear c26
            replace H := Option.bind_eq_some_iff.mp H
            obtain ⟨t155, A270, H⟩ := H
            replace H : (jointerlaw06_BagParts.j1 kj6 l0 l1 t151 (!t155)) = some r := H
            have A27 := Aside0.mk A270
            clear A270
            have H' := Aside0.mk H
            clear H
            obtain ⟨Ao28, co28, eo28⟩ := Kd.V_slice HO149.out
            subst eo28
            go_wp2_with (first | (go_at_call 24; (with_reducible refine (bag_Same.calls _ _ t147 _ _ l0 t155 _ ?side1 ?side2 ?side3 ?side4 ?sideT A27.out).mono ?_); (case sideT => exact LaidT.below HT.out (by repeat (first | (with_reducible first | exact HB.out | apply below_alloc | apply pw_below_drewN | apply below_drew1) | exact HB.out))); (case side1 => repeat (first | exact (Kd.V_reads' HO149.out).2.2 | (with_reducible refine Kd.C_alloc ?_ _) | (with_reducible refine Kd.C_drewN ?_ _) | (with_reducible refine Kd.C_drew ?_))); (case side2 => exact (Kd.V_reads' HO149.out).2.1); (case side3 => repeat (first | exact (Kd.C_below HR0.out HB.out) | (with_reducible refine Kd.C_alloc ?_ _) | (with_reducible refine Kd.C_drewN ?_ _) | (with_reducible refine Kd.C_drew ?_))); (case side4 => exact HC0.out); rintro e w29 ⟨rfl, hb⟩; have n0_ := Aside0.mk (Kd.V_below (by (with_reducible repeat (first | apply Kd.V_alloc | apply Kd.V_drewN | apply Kd.V_drew)); exact HO_5.out) hb); have n1_ := Aside0.mk (Kd.V_below (by (with_reducible repeat (first | apply Kd.V_alloc | apply Kd.V_drewN | apply Kd.V_drew)); exact HO_9.out) hb); have n2_ := Aside0.mk (Kd.V_below (by (with_reducible repeat (first | apply Kd.V_alloc | apply Kd.V_drewN | apply Kd.V_drew)); exact HO149.out) hb); have n3_ := Aside0.mk (Kd.V_below (by (with_reducible repeat (first | apply Kd.V_alloc | apply Kd.V_drewN | apply Kd.V_drew)); exact HO153.out) hb); have n4_ := Aside0.mk (below_step (by repeat (first | (with_reducible first | exact HB.out | apply below_alloc | apply pw_below_drewN | apply below_drew1) | exact HB.out)) hb); clear HO_5; clear HO_9; clear HO149; clear HO153; clear HB; have HO_5 := n0_; have HO_9 := n1_; have HO149 := n2_; have HO153 := n3_; have HB := n4_; clear n0_ n1_ n2_ n3_ n4_; (try clear hb); (try clear hb2); (try clear hk); (try clear hi)))
            go_meet
            case rel => exact ⟨_, (!t155), (by first | rfl | (simp; done) | (simp [*]; done)), H', ⟨by have := HJ6.out; first | omega | exact Nat.le_refl _⟩, ⟨by (with_reducible repeat (first | apply Kd.V_alloc | apply Kd.V_drewN | apply Kd.V_drew)); exact HO153.out⟩, ⟨by repeat (first | (with_reducible first | exact HB.out | apply below_alloc | apply pw_below_drewN | apply below_drew1) | exact HB.out)⟩⟩
          · rw [if_neg c26] at H
            have c26b0 : (t154 == 0) = false := beq_eq_false_iff_ne.mpr c26
            have c26b1 : (t154 != 0) = true := bne_iff_ne.mpr c26
            have H' := Aside0.mk H
            clear H
            go_wp2
            go_meet
            case rel => exact ⟨_, (true), (by first | rfl | (simp; done) | (simp [*]; done)), H', ⟨by have := HJ6.out; first | omega | exact Nat.le_refl _⟩, ⟨by (with_reducible repeat (first | apply Kd.V_alloc | apply Kd.V_drewN | apply Kd.V_drew)); exact HO153.out⟩, ⟨by repeat (first | (with_reducible first | exact HB.out | apply below_alloc | apply pw_below_drewN | apply below_drew1) | exact HB.out)⟩⟩
        · rw [if_neg c25] at H
          have c25b0 : (t150 == 0) = false := beq_eq_false_iff_ne.mpr c25
          have c25b1 : (t150 != 0) = true := bne_iff_ne.mpr c25
          (first | rw [c25b0] | (simp only [i64_w, i32_w]; rw [c25b0]) | skip)
          have H' := Aside0.mk H
          clear H
          go_wp2
          go_meet
          case rel => exact ⟨_, (true), (by first | rfl | (simp; done) | (simp [*]; done)), H', ⟨by have := HJ6.out; first | omega | exact Nat.le_refl _⟩, ⟨by (with_reducible repeat (first | apply Kd.V_alloc | apply Kd.V_drewN | apply Kd.V_drew)); exact HO153.out⟩, ⟨by repeat (first | (with_reducible first | exact HB.out | apply below_alloc | apply pw_below_drewN | apply below_drew1) | exact HB.out)⟩⟩
       case rest =>
        clear HC20
        try clear c1
        try clear c2
        try clear p2
        try clear c4
        try clear c4b0
        try clear c4b1
        try clear c9
        try clear c11
        try clear c11b0
        try clear c11b1
        try clear c12
        try clear c12b0
        try clear c12b1
        try clear c17
        try clear c21
        try clear c22
        try clear c23
        try clear c25
        try clear c25b0
        try clear c25b1
        try clear c26
        try clear c26b0
        try clear c26b1
        try clear p2
        obtain ⟨kq, x73_19, rfl, HA, HJ19, HO_13, HB⟩ := hcut
        cases kq with
        | zero => exact absurd HA.out (by simp [jointerlaw06_BagParts.j1])
        | succ kj19 =>
         have H := HA.out
         clear HA
         simp only [jointerlaw06_BagParts.j1] at H
         by_cases c30 : x73_19 = true
         · subst c30
           have H1 : (some false) = some r := by rw [if_pos rfl] at H; exact H
           clear H
           have H := H1
           clear H1
           obtain rfl := Option.some.inj H
           go_wp2
           go_ret
           exact ⟨by first | rfl | (simp [errW_none, errW_some] <;> rfl) | (simp [*, errW_none, errW_some] <;> rfl), by repeat (first | (with_reducible first | exact HB.out | apply below_alloc | apply pw_below_drewN | apply below_drew1) | exact HB.out)⟩
         · replace c30 := Bool.eq_false_iff.mpr c30
           subst c30
           have H1 : ((bag_Except.f t151 l1).bind fun bt156 => (if bt156.2 = 0 then ((bag_Same.f bt156.1 l0).bind fun t160 => (if t160 = true then ((jointerlaw06_awake.f).bind fun t161 => (some t161)) else (some false))) else (some false))) = some r := by rw [if_neg (show ¬ (false = true) by decide)] at H; exact H
           clear H
           have H := H1
           clear H1
           replace H := Option.bind_eq_some_iff.mp H
           obtain ⟨⟨t156, t159⟩, A310, H⟩ := H
           replace H : (if t159 = 0 then ((bag_Same.f t156 l0).bind fun t160 => (if t160 = true then ((jointerlaw06_awake.f).bind fun t161 => (some t161)) else (some false))) else (some false)) = some r := H
           have A31 := Aside0.mk A310
           clear A310
           by_cases c32 : t159 = 0
           · rw [if_pos c32] at H
             have c32b0 : (t159 == 0) = true := beq_iff_eq.mpr c32
             have c32b1 : (t159 != 0) = false := bne_eq_false_iff_eq.mpr c32
             clear c32
             replace H := Option.bind_eq_some_iff.mp H
             obtain ⟨t160, A330, H⟩ := H
             replace H : (if t160 = true then ((jointerlaw06_awake.f).bind fun t161 => (some t161)) else (some false)) = some r := H
             have A33 := Aside0.mk A330
             clear A330
             by_cases c34 : t160 = true
             · subst c34
               have H1 : ((jointerlaw06_awake.f).bind fun t161 => (some t161)) = some r := by rw [if_pos rfl] at H; exact H
               clear H
               have H := H1
               clear H1
               replace H := Option.bind_eq_some_iff.mp H
               obtain ⟨t161, A350, H⟩ := H
               replace H : (some t161) = some r := H
               have A35 := Aside0.mk A350
               clear A350
               obtain rfl := Option.some.inj H
               obtain ⟨Ao36, co36, eo36⟩ := Kd.V_slice HO_13.out
               subst eo36
               go_wp2_with (first | ((with_reducible refine gate_callee (f := 22) rfl ?_); refine goesL_ (some 77) rfl rfl Tryd.func22 (by kernel_rfl) rfl #[.slice Ao36 t151.length co36, .slice A1 l1.length c1] rfl (by (try simp only [List.map_toArray, List.map_cons, List.map_nil]); first | done | rfl | (simp only [List.length_drop, List.length_take]; rfl)) ?_; (with_reducible refine (bag_Except.calls _ _ t151 _ _ l1 t156 t159 _ ?side1 ?side2 ?side3 ?side4 ?sideT A31.out).mono ?_); (case sideT => exact LaidT.below HT.out (by repeat (first | (with_reducible first | exact HB.out | apply below_alloc | apply pw_below_drewN | apply below_drew1) | exact HB.out))); (case side1 => repeat (first | exact (Kd.V_reads' HO_13.out).2.2 | (with_reducible refine Kd.C_alloc ?_ _) | (with_reducible refine Kd.C_drewN ?_ _) | (with_reducible refine Kd.C_drew ?_))); (case side2 => exact (Kd.V_reads' HO_13.out).2.1); (case side3 => repeat (first | exact (Kd.C_below HR1.out HB.out) | (with_reducible refine Kd.C_alloc ?_ _) | (with_reducible refine Kd.C_drewN ?_ _) | (with_reducible refine Kd.C_drew ?_))); (case side4 => exact HC1.out); rintro e w37 ⟨v157, rfl, ho0, hb⟩; refine ⟨_, rfl, ?_⟩; have n0_ := Aside0.mk (Kd.V_below (by (with_reducible repeat (first | apply Kd.V_alloc | apply Kd.V_drewN | apply Kd.V_drew)); exact HO_13.out) hb); have n1_ := Aside0.mk (Kd.V_lower (Kd.V_mono (ok' := fun k_ => True) ho0 (fun k_ hk_ => trivial)) (below_size (by repeat (first | (with_reducible first | exact HB.out | apply below_alloc | apply pw_below_drewN | apply below_drew1) | exact HB.out)))); have n2_ := Aside0.mk (below_step (by repeat (first | (with_reducible first | exact HB.out | apply below_alloc | apply pw_below_drewN | apply below_drew1) | exact HB.out)) hb); clear HO_13; clear HB; have HO_13 := n0_; have HO158 := n1_; have HB := n2_; clear n0_ n1_ n2_; (try clear hb); (try clear hb2); (try clear hk); (try clear hi); (try clear ho0); obtain ⟨Ao38, co38, eo38⟩ := Kd.V_slice HO158.out; subst eo38) | (go_at_call 24; (with_reducible refine (bag_Same.calls _ _ t156 _ _ l0 true _ ?side1 ?side2 ?side3 ?side4 ?sideT A33.out).mono ?_); (case sideT => exact LaidT.below HT.out (by repeat (first | (with_reducible first | exact HB.out | apply below_alloc | apply pw_below_drewN | apply below_drew1) | exact HB.out))); (case side1 => repeat (first | exact (Kd.V_reads' HO158.out).2.2 | (with_reducible refine Kd.C_alloc ?_ _) | (with_reducible refine Kd.C_drewN ?_ _) | (with_reducible refine Kd.C_drew ?_))); (case side2 => exact (Kd.V_reads' HO158.out).2.1); (case side3 => repeat (first | exact (Kd.C_below HR0.out HB.out) | (with_reducible refine Kd.C_alloc ?_ _) | (with_reducible refine Kd.C_drewN ?_ _) | (with_reducible refine Kd.C_drew ?_))); (case side4 => exact HC0.out); rintro e w39 ⟨rfl, hb⟩; have n0_ := Aside0.mk (Kd.V_below (by (with_reducible repeat (first | apply Kd.V_alloc | apply Kd.V_drewN | apply Kd.V_drew)); exact HO_13.out) hb); have n1_ := Aside0.mk (Kd.V_below (by (with_reducible repeat (first | apply Kd.V_alloc | apply Kd.V_drewN | apply Kd.V_drew)); exact HO158.out) hb); have n2_ := Aside0.mk (below_step (by repeat (first | (with_reducible first | exact HB.out | apply below_alloc | apply pw_below_drewN | apply below_drew1) | exact HB.out)) hb); clear HO_13; clear HO158; clear HB; have HO_13 := n0_; have HO158 := n1_; have HB := n2_; clear n0_ n1_ n2_; (try clear hb); (try clear hb2); (try clear hk); (try clear hi)) | (go_at_call 11; (with_reducible refine (jointerlaw06_awake.calls  t161 _ ?sideT A35.out).mono ?_); (case sideT => exact LaidT.below HT.out (by repeat (first | (with_reducible first | exact HB.out | apply below_alloc | apply pw_below_drewN | apply below_drew1) | exact HB.out))); rintro e w40 ⟨rfl, hb⟩; have n0_ := Aside0.mk (Kd.V_below (by (with_reducible repeat (first | apply Kd.V_alloc | apply Kd.V_drewN | apply Kd.V_drew)); exact HO_13.out) hb); have n1_ := Aside0.mk (Kd.V_below (by (with_reducible repeat (first | apply Kd.V_alloc | apply Kd.V_drewN | apply Kd.V_drew)); exact HO158.out) hb); have n2_ := Aside0.mk (below_step (by repeat (first | (with_reducible first | exact HB.out | apply below_alloc | apply pw_below_drewN | apply below_drew1) | exact HB.out)) hb); clear HO_13; clear HO158; clear HB; have HO_13 := n0_; have HO158 := n1_; have HB := n2_; clear n0_ n1_ n2_; (try clear hb); (try clear hb2); (try clear hk); (try clear hi)))
               go_ret
               exact ⟨by first | rfl | (simp [errW_none, errW_some] <;> rfl) | (simp [*, errW_none, errW_some] <;> rfl), by repeat (first | (with_reducible first | exact HB.out | apply below_alloc | apply pw_below_drewN | apply below_drew1) | exact HB.out)⟩
             · replace c34 := Bool.eq_false_iff.mpr c34
               subst c34
               have H1 : (some false) = some r := by rw [if_neg (show ¬ (false = true) by decide)] at H; exact H
               clear H
               have H := H1
               clear H1
               obtain rfl := Option.some.inj H
               obtain ⟨Ao41, co41, eo41⟩ := Kd.V_slice HO_13.out
               subst eo41
               go_wp2_with (first | ((with_reducible refine gate_callee (f := 22) rfl ?_); refine goesL_ (some 77) rfl rfl Tryd.func22 (by kernel_rfl) rfl #[.slice Ao41 t151.length co41, .slice A1 l1.length c1] rfl (by (try simp only [List.map_toArray, List.map_cons, List.map_nil]); first | done | rfl | (simp only [List.length_drop, List.length_take]; rfl)) ?_; (with_reducible refine (bag_Except.calls _ _ t151 _ _ l1 t156 t159 _ ?side1 ?side2 ?side3 ?side4 ?sideT A31.out).mono ?_); (case sideT => exact LaidT.below HT.out (by repeat (first | (with_reducible first | exact HB.out | apply below_alloc | apply pw_below_drewN | apply below_drew1) | exact HB.out))); (case side1 => repeat (first | exact (Kd.V_reads' HO_13.out).2.2 | (with_reducible refine Kd.C_alloc ?_ _) | (with_reducible refine Kd.C_drewN ?_ _) | (with_reducible refine Kd.C_drew ?_))); (case side2 => exact (Kd.V_reads' HO_13.out).2.1); (case side3 => repeat (first | exact (Kd.C_below HR1.out HB.out) | (with_reducible refine Kd.C_alloc ?_ _) | (with_reducible refine Kd.C_drewN ?_ _) | (with_reducible refine Kd.C_drew ?_))); (case side4 => exact HC1.out); rintro e w42 ⟨v157, rfl, ho0, hb⟩; refine ⟨_, rfl, ?_⟩; have n0_ := Aside0.mk (Kd.V_below (by (with_reducible repeat (first | apply Kd.V_alloc | apply Kd.V_drewN | apply Kd.V_drew)); exact HO_13.out) hb); have n1_ := Aside0.mk (Kd.V_lower (Kd.V_mono (ok' := fun k_ => True) ho0 (fun k_ hk_ => trivial)) (below_size (by repeat (first | (with_reducible first | exact HB.out | apply below_alloc | apply pw_below_drewN | apply below_drew1) | exact HB.out)))); have n2_ := Aside0.mk (below_step (by repeat (first | (with_reducible first | exact HB.out | apply below_alloc | apply pw_below_drewN | apply below_drew1) | exact HB.out)) hb); clear HO_13; clear HB; have HO_13 := n0_; have HO158 := n1_; have HB := n2_; clear n0_ n1_ n2_; (try clear hb); (try clear hb2); (try clear hk); (try clear hi); (try clear ho0); obtain ⟨Ao43, co43, eo43⟩ := Kd.V_slice HO158.out; subst eo43) | (go_at_call 24; (with_reducible refine (bag_Same.calls _ _ t156 _ _ l0 false _ ?side1 ?side2 ?side3 ?side4 ?sideT A33.out).mono ?_); (case sideT => exact LaidT.below HT.out (by repeat (first | (with_reducible first | exact HB.out | apply below_alloc | apply pw_below_drewN | apply below_drew1) | exact HB.out))); (case side1 => repeat (first | exact (Kd.V_reads' HO158.out).2.2 | (with_reducible refine Kd.C_alloc ?_ _) | (with_reducible refine Kd.C_drewN ?_ _) | (with_reducible refine Kd.C_drew ?_))); (case side2 => exact (Kd.V_reads' HO158.out).2.1); (case side3 => repeat (first | exact (Kd.C_below HR0.out HB.out) | (with_reducible refine Kd.C_alloc ?_ _) | (with_reducible refine Kd.C_drewN ?_ _) | (with_reducible refine Kd.C_drew ?_))); (case side4 => exact HC0.out); rintro e w44 ⟨rfl, hb⟩; have n0_ := Aside0.mk (Kd.V_below (by (with_reducible repeat (first | apply Kd.V_alloc | apply Kd.V_drewN | apply Kd.V_drew)); exact HO_13.out) hb); have n1_ := Aside0.mk (Kd.V_below (by (with_reducible repeat (first | apply Kd.V_alloc | apply Kd.V_drewN | apply Kd.V_drew)); exact HO158.out) hb); have n2_ := Aside0.mk (below_step (by repeat (first | (with_reducible first | exact HB.out | apply below_alloc | apply pw_below_drewN | apply below_drew1) | exact HB.out)) hb); clear HO_13; clear HO158; clear HB; have HO_13 := n0_; have HO158 := n1_; have HB := n2_; clear n0_ n1_ n2_; (try clear hb); (try clear hb2); (try clear hk); (try clear hi)))
               go_ret
               exact ⟨by first | rfl | (simp [errW_none, errW_some] <;> rfl) | (simp [*, errW_none, errW_some] <;> rfl), by repeat (first | (with_reducible first | exact HB.out | apply below_alloc | apply pw_below_drewN | apply below_drew1) | exact HB.out)⟩
           · rw [if_neg c32] at H
             have c32b0 : (t159 == 0) = false := beq_eq_false_iff_ne.mpr c32
             have c32b1 : (t159 != 0) = true := bne_iff_ne.mpr c32
             obtain rfl := Option.some.inj H
             obtain ⟨Ao45, co45, eo45⟩ := Kd.V_slice HO_13.out
             subst eo45
             go_wp2_with (first | ((with_reducible refine gate_callee (f := 22) rfl ?_); refine goesL_ (some 77) rfl rfl Tryd.func22 (by kernel_rfl) rfl #[.slice Ao45 t151.length co45, .slice A1 l1.length c1] rfl (by (try simp only [List.map_toArray, List.map_cons, List.map_nil]); first | done | rfl | (simp only [List.length_drop, List.length_take]; rfl)) ?_; (with_reducible refine (bag_Except.calls _ _ t151 _ _ l1 t156 t159 _ ?side1 ?side2 ?side3 ?side4 ?sideT A31.out).mono ?_); (case sideT => exact LaidT.below HT.out (by repeat (first | (with_reducible first | exact HB.out | apply below_alloc | apply pw_below_drewN | apply below_drew1) | exact HB.out))); (case side1 => repeat (first | exact (Kd.V_reads' HO_13.out).2.2 | (with_reducible refine Kd.C_alloc ?_ _) | (with_reducible refine Kd.C_drewN ?_ _) | (with_reducible refine Kd.C_drew ?_))); (case side2 => exact (Kd.V_reads' HO_13.out).2.1); (case side3 => repeat (first | exact (Kd.C_below HR1.out HB.out) | (with_reducible refine Kd.C_alloc ?_ _) | (with_reducible refine Kd.C_drewN ?_ _) | (with_reducible refine Kd.C_drew ?_))); (case side4 => exact HC1.out); rintro e w46 ⟨v157, rfl, ho0, hb⟩; refine ⟨_, rfl, ?_⟩; have n0_ := Aside0.mk (Kd.V_below (by (with_reducible repeat (first | apply Kd.V_alloc | apply Kd.V_drewN | apply Kd.V_drew)); exact HO_13.out) hb); have n1_ := Aside0.mk (Kd.V_lower (Kd.V_mono (ok' := fun k_ => True) ho0 (fun k_ hk_ => trivial)) (below_size (by repeat (first | (with_reducible first | exact HB.out | apply below_alloc | apply pw_below_drewN | apply below_drew1) | exact HB.out)))); have n2_ := Aside0.mk (below_step (by repeat (first | (with_reducible first | exact HB.out | apply below_alloc | apply pw_below_drewN | apply below_drew1) | exact HB.out)) hb); clear HO_13; clear HB; have HO_13 := n0_; have HO158 := n1_; have HB := n2_; clear n0_ n1_ n2_; (try clear hb); (try clear hb2); (try clear hk); (try clear hi); (try clear ho0)))
             go_ret
             exact ⟨by first | rfl | (simp [errW_none, errW_some] <;> rfl) | (simp [*, errW_none, errW_some] <;> rfl), by repeat (first | (with_reducible first | exact HB.out | apply below_alloc | apply pw_below_drewN | apply below_drew1) | exact HB.out)⟩
 · rw [if_neg c4] at H
   have c4b0 : (t136 == 0) = false := beq_eq_false_iff_ne.mpr c4
   have c4b1 : (t136 != 0) = true := bne_iff_ne.mpr c4
   replace H := Option.bind_eq_some_iff.mp H
   obtain ⟨t137, A470, H⟩ := H
   replace H : (some t137) = some r := H
   have A47 := Aside0.mk A470
   clear A470
   obtain rfl := Option.some.inj H
   go_enter Tryd.func9, Tryd.ntmps9
   go_wp2_with (first | ((with_reducible refine gate_callee (f := 21) rfl ?_); refine goesL_ (some 20) rfl rfl Tryd.func21 (by kernel_rfl) rfl #[.slice A0 l0.length c0, .slice A1 l1.length c1] rfl (by (try simp only [List.map_toArray, List.map_cons, List.map_nil]); first | done | rfl | (simp only [List.length_drop, List.length_take]; rfl)) ?_; (with_reducible refine (bag_Intersect.calls _ _ l0 _ _ l1 t133 t136 _ ?side1 ?side2 ?side3 ?side4 ?sideT A3.out).mono ?_); (case sideT => exact LaidT.below HT.out (by repeat (first | (with_reducible first | exact HB.out | apply below_alloc | apply pw_below_drewN | apply below_drew1) | exact HB.out))); (case side1 => repeat (first | exact HR0.out | (with_reducible refine Kd.C_alloc ?_ _) | (with_reducible refine Kd.C_drewN ?_ _) | (with_reducible refine Kd.C_drew ?_))); (case side2 => exact HC0.out); (case side3 => repeat (first | exact HR1.out | (with_reducible refine Kd.C_alloc ?_ _) | (with_reducible refine Kd.C_drewN ?_ _) | (with_reducible refine Kd.C_drew ?_))); (case side4 => exact HC1.out); rintro e w48 ⟨v134, rfl, ho0, hb⟩; refine ⟨_, rfl, ?_⟩; have n0_ := Aside0.mk (Kd.V_lower (Kd.V_mono (ok' := fun k_ => True) ho0 (fun k_ hk_ => trivial)) (below_size (by repeat (first | (with_reducible first | exact HB.out | apply below_alloc | apply pw_below_drewN | apply below_drew1) | exact HB.out)))); have n1_ := Aside0.mk (below_step (by repeat (first | (with_reducible first | exact HB.out | apply below_alloc | apply pw_below_drewN | apply below_drew1) | exact HB.out)) hb); clear HB; have HO135 := n0_; have HB := n1_; clear n0_ n1_; (try clear hb); (try clear hb2); (try clear hk); (try clear hi); (try clear ho0)) | ((with_reducible refine gate_callee (f := 11) rfl ?_); refine goesL_ (some 25) rfl rfl Tryd.func11 (by kernel_rfl) rfl #[] rfl (by (try simp only [List.map_toArray, List.map_cons, List.map_nil]); first | done | rfl | (simp only [List.length_drop, List.length_take]; rfl)) ?_; (with_reducible refine (jointerlaw06_awake.calls  t137 _ ?sideT A47.out).mono ?_); (case sideT => exact LaidT.below HT.out (by repeat (first | (with_reducible first | exact HB.out | apply below_alloc | apply pw_below_drewN | apply below_drew1) | exact HB.out))); rintro e w49 ⟨rfl, hb⟩; refine ⟨_, rfl, ?_⟩; have n0_ := Aside0.mk (Kd.V_below (by (with_reducible repeat (first | apply Kd.V_alloc | apply Kd.V_drewN | apply Kd.V_drew)); exact HO135.out) hb); have n1_ := Aside0.mk (below_step (by repeat (first | (with_reducible first | exact HB.out | apply below_alloc | apply pw_below_drewN | apply below_drew1) | exact HB.out)) hb); clear HO135; clear HB; have HO135 := n0_; have HB := n1_; clear n0_ n1_; (try clear hb); (try clear hb2); (try clear hk); (try clear hi)))
   go_ret
   exact ⟨by first | rfl | (simp [errW_none, errW_some] <;> rfl) | (simp [*, errW_none, errW_some] <;> rfl), by repeat (first | (with_reducible first | exact HB.out | apply below_alloc | apply pw_below_drewN | apply below_drew1) | exact HB.out)⟩
end
end Go.Proofs.YtecgkcgfeghhgaaDoor.PAll
set_option linter.unusedVariables false
namespace Go.Proofs.YtecgkcgfeghhgaaDoor.PAll
open Go.RowKit Go.Proofs.YtecgkcgfeghhgaaDoorW.PrintWords Go.Proofs.YtecgkcgfeghhgaaDoorW.PrintLast Go.Proofs.YtecgkcgfeghhgaaDoorW.PrintMore
theorem law_parts (a b : List (List V)) (ha : RowsOk a) (hb : RowsOk b) (hn : a.length + b.length + b.length ≤ 1099511627776) : ∃ k, jointerlaw06_BagParts.f k a b = some true := by
  have hab : RowsOk (a ++ b) := ha.app hb (by omega)
  have hba : RowsOk (b ++ a) := hb.app ha (by omega)
  have h : Ev (fun k => jointerlaw06_BagParts.f k a b) true := by
    unfold jointerlaw06_BagParts.f
    have e1 := inter_ok hab
    have e2 := inter_ok hba
    have e3 := except_ok hab
    have hc : validB (b ++ a) = validB (a ++ b) := validB_perm List.perm_append_comm
    rw [hc] at e2
    by_cases hv : validB (a ++ b) = true
    · rw [if_pos hv] at e1 e2 e3
      obtain ⟨met, hmet⟩ : ∃ x, x = (splitR (cnt (b.map nameOf)) a).1 := ⟨_, rfl⟩
      obtain ⟨left, hleft⟩ : ∃ x, x = (splitR (cnt (b.map nameOf)) a).2 := ⟨_, rfl⟩
      have hml : (met ++ left).Perm a := by rw [hmet, hleft]; exact split_perm a _
      have hpm : (splitR (cnt (a.map nameOf)) b).1.Perm met := by
        refine perm_of_occ_all (fun r => ?_)
        rw [hmet, met_occ, met_occ, Nat.min_comm]
      have hva : validB a = true := validB_sub hv (fun r hr => List.mem_append_left _ hr)
      have hmv : validB met = true := validB_sub hva (fun r hr => hml.mem_iff.1 (List.mem_append_left _ hr))
      have hlo : ∀ r ∈ left, ∀ n : Nat, occ left r = occ a r - occ b r := fun r _ _ => by rw [hleft]; exact left_occ a b r
      rw [← hmet] at e1
      rw [sortR_congr (ks := []) (validB_valid hmv) hpm.symm] at e2
      rw [← hleft] at e3
      have hmlen : (sortR [] met).length + (sortR [] left).length = a.length := by
        rw [(sortR_perm [] met).length_eq, (sortR_perm [] left).length_eq, ← List.length_append, hml.length_eq]
      have hmem : ∀ r ∈ sortR [] met ++ sortR [] left, r ∈ a := fun r hr => by
        rcases List.mem_append.1 hr with hr | hr
        · exact hml.mem_iff.1 (List.mem_append_left _ ((sortR_perm [] met).mem_iff.1 hr))
        · exact hml.mem_iff.1 (List.mem_append_right _ ((sortR_perm [] left).mem_iff.1 hr))
      have hS : RowsOk (sortR [] met) := ⟨fun r hr => ha.1 r (hmem r (List.mem_append_left _ hr)), by have := ha.2; omega⟩
      have hWp : (sortR [] met ++ sortR [] left).Perm a := ((sortR_perm [] met).append (sortR_perm [] left)).trans hml
      have hWo : RowsOk (sortR [] met ++ sortR [] left) := ha.perm hWp
      have e4 := union_ok hWo.v
      rw [if_pos (validB_sub hva hmem)] at e4
      have e5 := union_ok hab.v
      rw [if_pos hv] at e5
      have hsame : sameB (sortR [] (sortR [] met ++ sortR [] left)) a = true := (sameB_perm _ _).2 ((sortR_perm [] _).trans hWp)
      have e6 := same_ok (ha.perm ((sortR_perm [] (sortR [] met ++ sortR [] left)).trans hWp)) ha
      rw [hsame] at e6
      have hU : RowsOk (sortR [] (a ++ b)) := hab.perm (sortR_perm [] _)
      have hUb : RowsOk (sortR [] (a ++ b) ++ b) := hU.app hb (by rw [(sortR_perm [] (a ++ b)).length_eq, List.length_append]; omega)
      have e7 := except_ok hUb
      rw [if_pos (validB_sub hv (fun r hr => (List.mem_append.1 hr).elim (fun h => (sortR_perm [] (a ++ b)).mem_iff.1 h) (fun h => List.mem_append_right _ h)))] at e7
      have hR : (splitR (cnt (b.map nameOf)) (sortR [] (a ++ b))).2.Perm a := perm_of_occ_all (fun r => by
        rw [left_occ, occ_perm (sortR_perm [] (a ++ b)) r, occ_append]
        omega)
      have hRp := (sortR_perm [] (splitR (cnt (b.map nameOf)) (sortR [] (a ++ b))).2).trans hR
      have e8 := same_ok (ha.perm hRp) ha
      rw [(sameB_perm _ _).2 hRp] at e8
      refine Ev.congr (f := fun k => (jointerref06_SameLists.f k (sortR [] met) (sortR [] met)).bind fun t => jointerlaw06_BagParts.j0 k a b (sortR [] met) (sortR [] left) (!t)) (fun k => ?_) (Ev.bind (sameLists_refl _ hS.len.1 hS.len.2) ?_)
      · rw [e1, e2, e3]
        simp only [Option.bind_some, if_true]
      · refine Ev.step (f := fun k => jointerlaw06_BagParts.j1 k a b (sortR [] (a ++ b)) false) (fun k => ?_) (Ev.step (f := fun _ => some true) (fun k => ?_) (Ev.now _))
        · simp only [jointerlaw06_BagParts.j0]
          rw [if_neg (by simp), e4, e5]
          simp only [Option.bind_some, if_true]
          rw [e6]
          rfl
        · simp only [jointerlaw06_BagParts.j1]
          rw [if_neg (by simp), e7]
          simp only [Option.bind_some, if_true]
          rw [e8]
          rfl
    · rw [if_neg hv] at e1
      refine Ev.congr (f := fun _ => some true) (fun k => ?_) (Ev.now _)
      rw [e1]
      rfl
  exact h.rounds
end Go.Proofs.YtecgkcgfeghhgaaDoor.PAll
set_option linter.unusedVariables false
namespace Go.Proofs.YtecgkcgfeghhgaaDoor.bagParts
open Go.ChangeShapes Go.WideShapes Go.ChangeAt Go.RowKit Go.Proofs.YtecgkcgfeghhgaaDoor.PAll
open Go.Proofs.YtecgkcgfeghhgaaDoorW.PrintWords Go.Proofs.YtecgkcgfeghhgaaDoorW.PrintLast Go.Proofs.YtecgkcgfeghhgaaDoorW.PrintMore
theorem laidOut : laidOutB Tryd.prog = true := by kernel_rfl
theorem own : ownKnob Tryd.prog.godebug = none := by kernel_rfl
theorem gTab : Tryd.prog.globalNamed "internal/strconv.uint64pow10" = some 0 := by kernel_rfl
theorem gTabType : (Tryd.prog.globals[0]?).map (·.type) = some 151 := by kernel_rfl
theorem uTab : Tryd.prog.underlying 151 = some (.array 20 90) ∧ Tryd.prog.underlying 90 = some (.int .u64) ∧ Tryd.prog.cellsOf 90 = 1 := ⟨by kernel_rfl, by kernel_rfl, by kernel_rfl⟩
theorem cTab : Tryd.prog.cellsOf 151 = 20 := by kernel_rfl
theorem tabEq {H : Type} : Rows.laid_internal_strconv_uint64pow10 (H := H) = Lib.tabData .u64 Lib.pow10Tab := by
  simp [Rows.laid_internal_strconv_uint64pow10, Lib.tabData, Lib.pow10Tab, List.range_succ]
theorem table {W : World} (h : laidMetH Tryd.prog Rows.bagPartsUptoRow.laid W) : LaidT W := by
  have h : laidMet Tryd.prog Rows.bagPartsUptoRow.laid W := h
  obtain ⟨ps, ⟨_, _, _, _, _, _, _, _, _, _, ⟨_, _, _, _, _, _, _, _, _, _, ⟨g', t', cs, fuel, p, q, hg', ht', hvar, hd, _, _⟩, _⟩, _⟩, _⟩ := h
  obtain ⟨he, hi, hc⟩ := uTab
  obtain rfl := Option.some.inj (gTab.symm.trans hg')
  obtain rfl := Option.some.inj (gTabType.symm.trans ht')
  rw [tabEq] at hd
  unfold LaidT Lib.TabIs
  rw [hvar, ← Lib.cells_of_tab he hi hc cTab hd]
set_option maxRecDepth 100000 in
theorem contract (H : Type) (enc : TypeId × Value → H) (W : World) (base : Nat) (args : Array Value) (ds gs : List (DataW H)) (before : List MemPlace)
    (hval : ∀ (j : Nat) t v, Tryd.f9.params[j]? = some t → args[j]? = some v → Value.okWide Tryd.prog W .any base t v)
    (hW : DataW.Whole enc Tryd.prog Tryd.f9.params.toList Rows.bagPartsSpec.vars false W args.toList ds gs before) (hk : Rows.uptoSmall H (ds ++ gs) = true) (hL : laidMetH Tryd.prog Rows.bagPartsUptoRow.laid W) :
    Calls Tryd.prog 9 args W fun e W' => ∃ v, e = .returned v ∧ Rows.bagPartsSpec.post enc Tryd.prog Tryd.f9 false true false false W args v W' := by
  have hW' := hW
  obtain ⟨p, q, hA0, hV, rfl, hfz, hnd⟩ := hW
  have hA : DataW.TrodAll enc Tryd.prog W 0 (fun _ => true) true Tryd.f9.params.toList args.toList ds p := hA0
  rw [Tryd.params9] at hA hval
  obtain ⟨v0, vs0, d0, ds0, p0, q0, hargs, rfl, rfl, h0, r0⟩ := trodAll_cons hA
  obtain ⟨v1, vs1, d1, ds1, p1, q1, rfl, rfl, rfl, h1, r1⟩ := trodAll_cons r0
  obtain ⟨rfl, rfl, rfl⟩ := trodAll_nil r1
  obtain rfl : args = #[v0, v1] := by cases args; simp_all
  obtain ⟨rfl, rfl⟩ := trodVars_none hV
  have h0k := h0
  have h1k := h1
  obtain ⟨fuel0, hf0⟩ := h0
  obtain ⟨fuel1, hf1⟩ := h1
  obtain ⟨a0, len0, cap0, rfl⟩ := okWide_slice Tryd.underlying37 (hval 0 37 v0 (by simp) (by simp))
  obtain ⟨A0, cp0, l0, hcs0, hlc0, _, hC0, hv0, hb0⟩ := rows_of_trod hf0
  simp [Value.cells] at hcs0
  obtain ⟨rfl, rfl, rfl⟩ := hcs0
  dsimp only at hb0
  obtain ⟨a1, len1, cap1, rfl⟩ := okWide_slice Tryd.underlying37 (hval 1 37 v1 (by simp) (by simp))
  obtain ⟨A1, cp1, l1, hcs1, hlc1, _, hC1, hv1, hb1⟩ := rows_of_trod hf1
  simp [Value.cells] at hcs1
  obtain ⟨rfl, rfl, rfl⟩ := hcs1
  dsimp only at hb1
  clear hA0
  simp only [List.append_nil] at hW' hk
  have hb : Rows.uptoBulkAll [d0, d1] ≤ 1048576 := of_decide_eq_true hk
  simp only [Rows.uptoBulkAll] at hb
  have hlt : ∀ x ∈ p0 ++ (p1), x.block < W.heap.size := fun x hx => hW'.lt x hx
  obtain ⟨k, hlaw⟩ : ∃ k, jointerlaw06_BagParts.f k l0 l1 = some true := (law_parts l0 l1 (bulkL_rowsOk hv0 (by omega)) (bulkL_rowsOk hv1 (by omega)) (by have h0 := sum_len bulkR (fun r => by unfold bulkR; omega) l0; have h1 := sum_len bulkR (fun r => by unfold bulkR; omega) l1; unfold bulkL at hb0 hb1; omega))
  refine (jointerlaw06_BagParts.calls k a0 cap0 l0 a1 cap1 l1 true W hC0 hlc0 hC1 hlc1 (table hL) hlaw).mono fun e W' ⟨he, hg⟩ => ?_
  subst he
  exact ⟨_, rfl, ⟨[d0, d1], [], _, [], _, [], hW', trodAll_mk1 (shut_bool Tryd.underlying4 _), trodAll_cons_mk (Below.trod laidOut (by kernel_rfl) (of_decide_eq_true (by kernel_rfl)) h0k hg (fun x hx => hlt x (List.mem_append_left _ hx))) (trodAll_mk1 (Below.trod laidOut (by kernel_rfl) (of_decide_eq_true (by kernel_rfl)) h1k hg (fun x hx => hlt x (List.mem_append_right _ (hx))))), rfl, hg.frame _, fun h => by cases h⟩⟩
noncomputable def laidWorld (os : Os) : World :=
  let w := World.holding Tryd.prog os ⟨#[], #[], []⟩
  { w with heap := ((w.heap.modify 0 fun
      | .cells _ t frozen => .cells ((Lib.pow10Tab.map (Value.int .u64)).toArray) t frozen
      | o => o).modify 2 fun
      | .cells _ t frozen => .cells #[.int .u8 0, .int .u8 1, .int .u8 28, .int .u8 2, .int .u8 29, .int .u8 14, .int .u8 24, .int .u8 3, .int .u8 30, .int .u8 22, .int .u8 20, .int .u8 15, .int .u8 25, .int .u8 17, .int .u8 4, .int .u8 8, .int .u8 31, .int .u8 27, .int .u8 13, .int .u8 23, .int .u8 21, .int .u8 19, .int .u8 16, .int .u8 7, .int .u8 26, .int .u8 12, .int .u8 18, .int .u8 6, .int .u8 11, .int .u8 5, .int .u8 10, .int .u8 9] t frozen
      | o => o).modify 3 fun
      | .cells _ t frozen => .cells #[.int .u8 0, .int .u8 1, .int .u8 56, .int .u8 2, .int .u8 57, .int .u8 49, .int .u8 28, .int .u8 3, .int .u8 61, .int .u8 58, .int .u8 42, .int .u8 50, .int .u8 38, .int .u8 29, .int .u8 17, .int .u8 4, .int .u8 62, .int .u8 47, .int .u8 59, .int .u8 36, .int .u8 45, .int .u8 43, .int .u8 51, .int .u8 22, .int .u8 53, .int .u8 39, .int .u8 33, .int .u8 30, .int .u8 24, .int .u8 18, .int .u8 12, .int .u8 5, .int .u8 63, .int .u8 55, .int .u8 48, .int .u8 27, .int .u8 60, .int .u8 41, .int .u8 37, .int .u8 16, .int .u8 46, .int .u8 35, .int .u8 44, .int .u8 21, .int .u8 52, .int .u8 32, .int .u8 23, .int .u8 11, .int .u8 54, .int .u8 26, .int .u8 40, .int .u8 15, .int .u8 34, .int .u8 20, .int .u8 31, .int .u8 10, .int .u8 25, .int .u8 14, .int .u8 19, .int .u8 9, .int .u8 13, .int .u8 8, .int .u8 7, .int .u8 6] t frozen
      | o => o }
theorem laid_met (os : Os) : laidMet Tryd.prog Rows.bagPartsUptoRow.laid ((laidWorld os).forCall (fun _ _ => 0) ⟨#[], #[.slice none 0 0, .slice none 0 0], []⟩).memory :=
  laidMet_of_run' 8 (by kernel_rfl) (by kernel_rfl)
theorem reads (os : Os) {H : Type} (enc : TypeId × Value → H) : ∃ places, DataW.whole enc Tryd.prog ((laidWorld os).forCall (fun _ _ => 0) ⟨#[], #[.slice none 0 0, .slice none 0 0], []⟩).memory Tryd.f9.params.toList Rows.bagPartsSpec.vars false (#[.slice none 0 0, .slice none 0 0] : Array Value).toList 8 = some ([.nil, .nil], [], places) :=
  ⟨[], by kernel_rfl⟩
set_option maxRecDepth 100000 in
theorem liftedUpto (os : Os) (started : os.Started) (H : Type) (enc : TypeId × Value → H) (F : Stop.Interp) :
    ReturnsInHanded {} Tryd.checked os 9 .any ((Rows.OpenSpec.upto Rows.bagPartsSpec).preRow enc Tryd.prog Tryd.f9 Rows.bagPartsUptoRow.domain false Rows.bagPartsUptoRow.laid) (((Rows.OpenSpec.upto Rows.bagPartsSpec).at F).post enc Tryd.prog Tryd.f9 false true false false) := by
  obtain ⟨places, hx⟩ := reads os enc
  refine returnsInHanded_of_row (C := Tryd.checked) (s := Rows.OpenSpec.upto Rows.bagPartsSpec) own started (by kernel_rfl) Tryd.func9
    (witness_row_at (enc := enc) (C := Tryd.checked) false (laidWorld os) #[.slice none 0 0, .slice none 0 0] rfl (by kernel_rfl) (by kernel_rfl) (by kernel_rfl)
      (OpenSpec.preRow_of_cond 8 hx (by kernel_rfl) (fun k hk => by cases hk; kernel_rfl) (by kernel_rfl) (laid_met os))) ?_
  intro W base args ds gs before hval hW _ hcond _ hL _ _
  exact contract H enc W base args ds gs before hval hW (hcond _ rfl) hL
theorem saidUpto : Rows.BagPartsUptoSaid :=
  OpenClaim.holds_of_cond 9 Tryd.f9 rfl rfl rfl rfl rfl rfl rfl ⟨rfl, rfl, rfl, rfl, rfl⟩ rfl rfl rfl rfl rfl (by kernel_rfl) Tryd.func9 (by kernel_rfl)
    (of_decide_eq_true (by kernel_rfl)) (by unfold Func.isWrapper; first | (rw [if_pos (by decide +kernel)]; kernel_rfl) | (rw [if_neg (by decide +kernel)]; exact ⟨rfl, rfl⟩))
    (fun os started H enc _ F => by rw [OpenClaim.pre_eq_preRow]; exact liftedUpto os started H enc F)
theorem plain (f : FuncId) (fn : Func) (hf : Tryd.pinned.checked.prog.funcNamed "jointer/jointerlaw06.BagParts" = some f) (hfn : Tryd.pinned.checked.prog.funcs[f]? = some fn) :
    false = Tryd.pinned.checked.prog.looks [] ∧ ∀ (j : Nat) t, fn.params[j]? = some t → Tryd.pinned.checked.prog.wantsStandIn t = false := by
  obtain rfl : f = 9 := Option.some.inj ((show Tryd.prog.funcNamed "jointer/jointerlaw06.BagParts" = some 9 by kernel_rfl).symm.trans hf) |>.symm
  obtain rfl : fn = Tryd.f9 := (Option.some.inj (Tryd.func9.symm.trans hfn)).symm
  refine ⟨by kernel_rfl, fun j t ht => ?_⟩
  rw [Tryd.params9] at ht
  have hm := Array.mem_of_getElem? ht
  simp only [List.mem_toArray, List.mem_cons, List.not_mem_nil, or_false] at hm
  rcases hm with rfl | rfl
  · exact (show Tryd.prog.wantsStandIn 37 = false by kernel_rfl)
  · exact (show Tryd.prog.wantsStandIn 37 = false by kernel_rfl)
theorem card : Rows.BagPartsUptoCardSaid :=
  Claim7.holds_tied_plain_at .later [] _ _ _ _ saidUpto (fun _ h => by cases h) (by kernel_rfl) (fun _ h => by cases h) bagPartsUpto_row_tie rfl ⟨rfl, rfl⟩ (by kernel_rfl) rfl plain (by kernel_rfl)
end Go.Proofs.YtecgkcgfeghhgaaDoor.bagParts
