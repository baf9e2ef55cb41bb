/- What the last of these texts proves is told there. Joined by a program of this session out of its texts. -/
import Derived.Test.YtecgkcgfeghhgaaGreatDoorQValids2
import Derived.Shelf.Spec.BitsCarry
import Derived.Ground.Names7Prog
import Derived.BigRegion
import Derived.RegionTactic
import Derived.Deep.RegionHeld3
import Derived.Sort.Statements
import Derived.WalkSpells
import Derived.Shelf.SlSortCmp.NoneTotal
import Derived.Ground.SlsfProg
import Derived.Ground.NamesProg
import Derived.Shelf.Spec.SlicesGrow
import Derived.Ground.Names8Prog
import Derived.WalkMore
import Derived.OwnWalk
namespace Go.Proofs.YtecgkcgfeghhgaaGreatDoor.PAll
open Go.RowKit Go.Proofs.YtecgkcgfeghhgaaGreatDoorW.PrintWords Go.Proofs.YtecgkcgfeghhgaaGreatDoorW.PrintLast Go.Proofs.YtecgkcgfeghhgaaGreatDoorW.PrintMore
attribute [local go_sem] max2_int min2_int max_two min_two max_three min_three max_four min_four
set_option linter.unusedVariables false
set_option linter.unusedSimpArgs false
def bag_has.f (l0 : List (List (S36))) (a1 : Int) : Option (Bool) := if a1 ≥ 0 then (if a1 < 64 then (if (l0.length : Int) = 0 then (some true) else (if 0 < (l0.length : Int) then (some (decide (a1 < ((rd_L4 l0 0).length : Int)))) else (none))) else (some false)) else (some false)
set_option maxHeartbeats 8000000 in
set_option maxRecDepth 100000 in
theorem bag_has.calls (A0 : Option Addr) (c0 : Nat) (l0 : List (List (S36))) (a1 : Int) (r : Bool) (w : World) (hr0 : Kd.C (Kd.slice 36 k36) w A0 l0.length l0) (hc0 : l0.length ≤ c0) (h : bag_has.f l0 a1 = some r) :
    Calls Tryz.prog 62 #[.slice A0 l0.length c0, .int .i64 a1] w fun e w' => e = .returned (.bool r) ∧ Drawn0 w w' := by
  have HR0 := Aside0.mk hr0
  have HC0 := Aside0.mk hc0
  clear hr0 hc0
  have H : (if a1 ≥ 0 then (if a1 < 64 then (if (l0.length : Int) = 0 then (some true) else (if 0 < (l0.length : Int) then (some (decide (a1 < ((rd_L4 l0 0).length : Int)))) else (none))) else (some false)) else (some false)) = some r := h
  clear h
  by_cases c3 : a1 ≥ 0
  · rw [if_pos c3] at H
    have c3b0 : decide (0 ≤ a1) = true := decide_eq_true c3
    clear c3
    by_cases c4 : a1 < 64
    · rw [if_pos c4] at H
      have c4b0 : decide (a1 < 64) = true := decide_eq_true c4
      clear c4
      by_cases c5 : (l0.length : Int) = 0
      · rw [if_pos c5] at H
        have c5b0 : ((l0.length : Int) == 0) = true := beq_iff_eq.mpr c5
        have c5b1 : ((l0.length : Int) != 0) = false := bne_eq_false_iff_eq.mpr c5
        clear c5
        obtain rfl := Option.some.inj H
        go_enter Tryz.func62, Tryz.ntmps62
        go_wp2
        go_ret
        exact ⟨by first | rfl | (simp; done) | (simp [*]; done), by repeat (first | exact Drawn0.refl _ | apply Drawn0.step)⟩
      · rw [if_neg c5] at H
        have c5b0 : ((l0.length : Int) == 0) = false := beq_eq_false_iff_ne.mpr c5
        have c5b1 : ((l0.length : Int) != 0) = true := bne_iff_ne.mpr c5
        have c5b2 : ¬ (l0 = []) := fun h_ => c5 (by rw [h_]; rfl)
        by_cases c6 : 0 < (l0.length : Int)
        · rw [if_pos c6] at H
          have c6b0 : decide (0 < (l0.length : Int)) = true := decide_eq_true c6
          have c6b1 : decide (0 < l0.length) = true := decide_eq_true (by omega)
          clear c6
          obtain rfl := Option.some.inj H
          have p115 : 0 ≤ (0 : Int) := (by omega)
          have q115 : 0 < (l0.length : Int) := of_decide_eq_true (by first | (with_reducible assumption) | assumption)
          obtain ⟨ad115, A115_0, c115_0, e115, hx115_0, hl115_0, hi115_0⟩ := at_L4 HR0.out 0 p115 q115
          cases e115
          have qi115 : (0 < l0.length) = True := eq_true (by omega)
          (try rw [show ((0 : Int)).toNat = 0 from rfl] at hx115_0)
          (try rw [Addr.add_zero'] at hx115_0)
          have HR115_0 := Aside0.mk hi115_0
          have HC115_0 := Aside0.mk hl115_0
          clear hi115_0 hl115_0
          replace p115 := eq_true p115
          replace q115 := eq_true q115
          go_enter Tryz.func62, Tryz.ntmps62
          go_wp2
          go_ret
          exact ⟨by first | rfl | (simp; done) | (simp [*]; done), by repeat (first | exact Drawn0.refl _ | apply Drawn0.step)⟩
        · rw [if_neg c6] at H
          exact absurd H (by simp)
    · rw [if_neg c4] at H
      have c4b0 : decide (a1 < 64) = false := decide_eq_false c4
      clear c4
      obtain rfl := Option.some.inj H
      go_enter Tryz.func62, Tryz.ntmps62
      go_wp2
      go_ret
      exact ⟨by first | rfl | (simp; done) | (simp [*]; done), by repeat (first | exact Drawn0.refl _ | apply Drawn0.step)⟩
  · rw [if_neg c3] at H
    have c3b0 : decide (0 ≤ a1) = false := decide_eq_false c3
    clear c3
    obtain rfl := Option.some.inj H
    go_enter Tryz.func62, Tryz.ntmps62
    go_wp2
    go_ret
    exact ⟨by first | rfl | (simp; done) | (simp [*]; done), by repeat (first | exact Drawn0.refl _ | apply Drawn0.step)⟩
end Go.Proofs.YtecgkcgfeghhgaaGreatDoor.PAll
set_option linter.unusedVariables false
set_option linter.unusedSimpArgs false
namespace Go.Proofs.YtecgkcgfeghhgaaGreatDoor.PAll
open Go.RowKit Go.Proofs.YtecgkcgfeghhgaaGreatDoorW.PrintWords Go.Proofs.YtecgkcgfeghhgaaGreatDoorW.PrintLast Go.Proofs.YtecgkcgfeghhgaaGreatDoorW.PrintMore
abbrev KeyT := S64
abbrev kKey : Kd KeyT := k64
def hasB (l : List (List V)) (n : Int) : Bool := match l with
  | [] => decide (0 ≤ n ∧ n < 64)
  | r :: _ => decide (0 ≤ n ∧ n < 64 ∧ n < (r.length : Int))
theorem has_eq (l : List (List V)) (n : Int) : bag_has.f l n = some (hasB l n) := by
  unfold bag_has.f hasB
  cases l with
  | nil => by_cases h1 : 0 ≤ n <;> by_cases h2 : n < 64 <;> simp [h1, h2]
  | cons r rs =>
    have e : rd_L4 (r :: rs) 0 = r := rfl
    rw [e]
    by_cases h1 : 0 ≤ n <;> by_cases h2 : n < 64 <;> simp [h1, h2] <;> omega
def keysB (l : List (List V)) (ks : List KeyT) : Bool := ks.all fun k => hasB l k.f0
set_option maxHeartbeats 2000000 in
set_option maxRecDepth 100000 in
theorem fits1_calls (v0 : Int) (v1 : Bool) (b : Nat) (A1 : Option Addr) (c1 : Nat) (l0 : List (List V)) (w : World) (hcell : w.cell? ⟨b, 0, none⟩ = some (.slice A1 l0.length c1)) (hr : Kd.C kRow w A1 l0.length l0) (hc : l0.length ≤ c1) :
    Calls Tryz.prog 79 #[.agg #[.int .i64 v0, .bool v1], .pointer (some ⟨b, 0, none⟩)] w fun e w' => e = .returned (.bool (!hasB l0 v0)) ∧ Below w.heap.size w w' := by
  have HR := Aside0.mk hr
  have HC := Aside0.mk hc
  have hb := World.block_lt_of_cell? w _ hcell
  have B1 := Aside0.mk ((Below.refl w.heap.size w).alloc (Nat.le_refl _) (.cells #[.int .i64 v0, .bool v1] 64))
  clear hr hc
  go_enter Tryz.func79, Tryz.ntmps79
  go_wp2_with fail
  refine (bag_has.calls _ _ l0 v0 (hasB l0 v0) _ (Kd.C_below HR.out B1.out) HC.out (has_eq l0 v0)).mono ?_
  rintro e w1 ⟨rfl, hd⟩
  have HB1 := Aside0.mk (B1.out.trans (hd.below.mono B1.out.size))
  clear hd
  go_wp2
  go_ret
  exact ⟨rfl, HB1.out⟩
def badAt (l0 : List (List V)) : List KeyT → Int → Int
  | [], _ => -1
  | k :: ks, i => if hasB l0 k.f0 = true then badAt l0 ks (i + 1) else i
theorem badAt_iff (l0 : List (List V)) : ∀ (ks : List KeyT) (i : Int), 0 ≤ i → (decide (badAt l0 ks i ≥ 0) = !keysB l0 ks)
  | [], i, h => by simp [badAt, keysB]
  | k :: ks, i, h => by
    have ih := badAt_iff l0 ks (i + 1) (by omega)
    by_cases c : hasB l0 k.f0 = true
    · simp only [badAt, c, if_true]
      rw [ih]
      simp [keysB, c]
    · have e : badAt l0 (k :: ks) i = i := by simp only [badAt]; rw [if_neg c]
      rw [decide_eq_true (show badAt l0 (k :: ks) i ≥ 0 by rw [e]; exact h)]
      simp at c
      simp [keysB, c]
theorem rdK_at {xs : List KeyT} {i : Nat} (h : i < xs.length) : rd_T64 xs (i : Int) = xs[i] := by simp [rd_T64, List.getElem?_eq_getElem h]
set_option maxHeartbeats 4000000 in
set_option maxRecDepth 100000 in
theorem indexFunc_calls (A0 : Option Addr) (c0 : Nat) (ks : List KeyT) (b : Nat) (A1 : Option Addr) (c1 : Nat) (l0 : List (List V)) (w : World) (hk : Kd.C kKey w A0 ks.length ks) (hn : ks.length ≤ 1099511627776) (hcell : w.cell? ⟨b, 0, none⟩ = some (.slice A1 l0.length c1)) (hr : Kd.C kRow w A1 l0.length l0) (hc : l0.length ≤ c1) :
    Calls Tryz.prog 96 #[.slice A0 ks.length c0, .func (.func 79) #[] #[.pointer (some ⟨b, 0, none⟩)]] w fun e w' => e = .returned (.int .i64 (badAt l0 ks 0)) ∧ Below w.heap.size w w' := by
  have HK := Aside0.mk hk
  have HN := Aside0.mk hn
  have HCE := Aside0.mk hcell
  have HR := Aside0.mk hr
  have HC := Aside0.mk hc
  clear hk hn hcell hr hc
  go_enter Tryz.func96, Tryz.ntmps96
  go_wp2
  go_loopg [8] ks.length (fun kq v8 W => ∃ x : Nat, v8 = .int .i64 x ∧ Aside0 (x ≤ ks.length ∧ kq = ks.length - x) ∧ Aside0 (badAt l0 ks 0 = badAt l0 (ks.drop x) x) ∧ Aside0 (Below w.heap.size w W))
  case atStart => exact ⟨0, rfl, ⟨by omega⟩, ⟨rfl⟩, ⟨Below.refl _ _⟩⟩
  case round =>
    obtain ⟨x, rfl, HX, HI, HB⟩ := hrel
    obtain ⟨hx1, hkq⟩ := HX.out
    by_cases hlt : x < ks.length
    · have c1' : decide ((x : Int) < (ks.length : Int)) = true := decide_eq_true (by omega)
      have c2 : decide (0 ≤ (x : Int)) = true := decide_eq_true (by omega)
      obtain ⟨ad, e, hx_0, hx_1⟩ := at_T64 HK.out (x : Int) (by omega) (by omega)
      cases e
      replace hx_0 := (HB.out.cell (World.block_lt_of_cell? w _ hx_0)).trans hx_0
      replace hx_1 := (HB.out.cell (World.block_lt_of_cell? w _ hx_1)).trans hx_1
      rw [rdK_at hlt] at hx_0 hx_1
      rw [drop_cons ks x hlt] at HI
      obtain ⟨y, hy⟩ : ∃ y, y = ks[x] := ⟨_, rfl⟩
      rw [← hy] at hx_0 hx_1 HI
      have HWR : Aside0 (wrap64 ((x : Int) + 1) = (x : Int) + 1) := ⟨by have := HN.out; unfold wrap64; omega⟩
      have HCE1 := Aside0.mk ((HB.out.cell (World.block_lt_of_cell? w _ HCE.out)).trans HCE.out)
      have HLT := Aside0.mk hlt
      have HKQ := Aside0.mk hkq
      clear hy hkq
      simp only [Int.toNat_natCast] at hx_0 hx_1
      go_wp2_with fail
      refine (fits1_calls y.f0 y.f1 b A1 c1 l0 wr HCE1.out (Kd.C_below HR.out HB.out) HC.out).mono ?_
      rintro e w1 ⟨rfl, hb1⟩
      have HB1 := Aside0.mk (HB.out.trans (hb1.mono HB.out.size))
      clear hb1
      by_cases hh : hasB l0 y.f0 = true
      · have hb : (!hasB l0 y.f0) = false := by simp [hh]
        have HI2 : Aside0 (badAt l0 ks 0 = badAt l0 (ks.drop (x + 1)) ((x : Int) + 1)) := ⟨by rw [HI.out]; simp only [badAt]; rw [if_pos hh]⟩
        clear hh
        go_wp2
        have hlt := HLT.out
        have hk := HKQ.out
        cases gk with
        | zero => omega
        | succ k1 =>
          go_roundg k1
          case measure => omega
          case rel => exact ⟨x + 1, by rw [HWR.out]; rfl, ⟨by omega⟩, HI2, HB1⟩
      · have hb : (!hasB l0 y.f0) = true := by simpa using hh
        have HI2 : Aside0 (badAt l0 ks 0 = (x : Int)) := ⟨by rw [HI.out]; simp only [badAt]; rw [if_neg hh]⟩
        clear hh
        go_wp2
        go_ret
        refine ⟨?_, HB1.out⟩
        rw [HI2.out]
        rfl
    · have c1' : decide ((x : Int) < (ks.length : Int)) = false := decide_eq_false (by omega)
      go_wp2
      go_ret
      refine ⟨?_, HB.out⟩
      rw [HI.out, List.drop_eq_nil_of_le (by omega)]
      rfl
set_option maxHeartbeats 4000000 in
set_option maxRecDepth 100000 in
theorem containsFunc_calls (A0 : Option Addr) (c0 : Nat) (ks : List KeyT) (b : Nat) (A1 : Option Addr) (c1 : Nat) (l0 : List (List V)) (w : World) (hk : Kd.C kKey w A0 ks.length ks) (hn : ks.length ≤ 1099511627776) (hcell : w.cell? ⟨b, 0, none⟩ = some (.slice A1 l0.length c1)) (hr : Kd.C kRow w A1 l0.length l0) (hc : l0.length ≤ c1) :
    Calls Tryz.prog 78 #[.slice A0 ks.length c0, .func (.func 79) #[] #[.pointer (some ⟨b, 0, none⟩)]] w fun e w' => e = .returned (.bool (!keysB l0 ks)) ∧ Below w.heap.size w w' := by
  have H := Aside0.mk (indexFunc_calls A0 c0 ks b A1 c1 l0 w hk hn hcell hr hc)
  clear hk hn hcell hr hc
  obtain ⟨i, hi⟩ : ∃ i, i = badAt l0 ks 0 := ⟨_, rfl⟩
  have HI := Aside0.mk hi
  rw [← hi] at H
  clear hi
  go_enter Tryz.func78, Tryz.ntmps78
  go_wp2_with fail
  refine H.out.mono ?_
  rintro e w1 ⟨rfl, hb1⟩
  have HB1 := Aside0.mk hb1
  clear hb1
  go_wp2
  go_ret
  refine ⟨?_, HB1.out⟩
  have h := badAt_iff l0 ks 0 (by omega)
  rw [← HI.out] at h
  rw [← h]
  rfl
set_option maxHeartbeats 4000000 in
set_option maxRecDepth 100000 in
theorem fits_calls (A0 : Option Addr) (c0 : Nat) (l0 : List (List V)) (A1 : Option Addr) (c1 : Nat) (l1 : List KeyT) (w : World) (hr0 : Kd.C kRow w A0 l0.length l0) (hc0 : l0.length ≤ c0) (hr1 : Kd.C kKey w A1 l1.length l1) (hc1 : l1.length ≤ c1) (hv : RowsV l0) (hn : l1.length ≤ 1099511627776) :
    Calls Tryz.prog 47 #[.slice A0 l0.length c0, .slice A1 l1.length c1] w fun e w' => e = .returned (.bool (validB l0 && keysB l0 l1)) ∧ Below w.heap.size w w' := by
  obtain ⟨k, hk⟩ := (valid_ev l0 hv).rounds
  have HK := Aside0.mk hk
  have HR0 := Aside0.mk hr0
  have HC0 := Aside0.mk hc0
  have HR1 := Aside0.mk hr1
  have HN := Aside0.mk hn
  clear hk hr0 hc0 hr1 hc1 hv hn
  have B1 := Aside0.mk ((Below.refl w.heap.size w).alloc (Nat.le_refl _) (.cells #[.slice A0 l0.length c0] 22))
  have HCE : Aside0 ((w.alloc (.cells #[.slice A0 l0.length c0] 22)).cell? ⟨w.heap.size, 0, none⟩ = some (.slice A0 l0.length c0)) := ⟨(blk_cell (heap_alloc_new _ _) 0).trans rfl⟩
  go_enter Tryz.func47, Tryz.ntmps47
  go_wp2_with fail
  refine (bag_Valid.calls k _ _ l0 (validB l0) _ (Kd.C_below HR0.out B1.out) HC0.out HK.out).mono ?_
  rintro e w1 ⟨rfl, hb1⟩
  have HB1 := Aside0.mk (B1.out.trans (hb1.mono B1.out.size))
  have HCE1 := Aside0.mk ((hb1.cell (World.block_lt_of_cell? _ _ HCE.out)).trans HCE.out)
  clear hb1 HCE
  cases hv : validB l0 with
  | true =>
    have HV := Aside0.mk hv
    clear hv
    go_wp2_with fail
    refine (containsFunc_calls _ _ l1 w.heap.size _ _ l0 w1 (Kd.C_below HR1.out HB1.out) HN.out HCE1.out (Kd.C_below HR0.out HB1.out) HC0.out).mono ?_
    rintro e w2 ⟨rfl, hb2⟩
    have HB2 := Aside0.mk (HB1.out.trans (hb2.mono HB1.out.size))
    clear hb2
    cases hq : keysB l0 l1 with
    | true =>
      have HQ := Aside0.mk hq
      clear hq
      go_wp2
      go_ret
      refine ⟨?_, HB2.out⟩
      rw [HV.out, HQ.out]
      rfl
    | false =>
      have HQ := Aside0.mk hq
      clear hq
      go_wp2
      go_ret
      refine ⟨?_, HB2.out⟩
      rw [HV.out, HQ.out]
      rfl
  | false =>
    have HV := Aside0.mk hv
    clear hv
    go_wp2
    go_ret
    refine ⟨?_, HB1.out⟩
    rw [HV.out]
    rfl
end Go.Proofs.YtecgkcgfeghhgaaGreatDoor.PAll
set_option linter.unusedVariables false
set_option linter.unusedSimpArgs false
namespace Go.Proofs.YtecgkcgfeghhgaaGreatDoor.PAll
open Go.RowKit Go.Proofs.YtecgkcgfeghhgaaGreatDoorW.PrintWords Go.Proofs.YtecgkcgfeghhgaaGreatDoorW.PrintLast Go.Proofs.YtecgkcgfeghhgaaGreatDoorW.PrintMore
def Gr (w w' : World) : Prop := ∃ (q : Nat) (os : Array Obj), w' = Sort.grow (w.drewN q) os
theorem Gr.refl (w : World) : Gr w w := ⟨0, #[], by simp [Sort.grow, World.drewN]⟩
theorem Gr.trans {a b c : World} (h : Gr a b) (k : Gr b c) : Gr a c := by
  obtain ⟨q, os, rfl⟩ := h
  obtain ⟨p, os', rfl⟩ := k
  refine ⟨q + p, os ++ os', ?_⟩
  simp [Sort.grow, World.drewN, Nat.add_assoc, Array.append_assoc]
theorem Gr.alloc {a b : World} (h : Gr a b) (o : Obj) : Gr a (b.alloc o) := by
  obtain ⟨q, os, rfl⟩ := h
  refine ⟨q, os.push o, ?_⟩
  show ({ (Sort.grow (a.drewN q) os) with heap := (Sort.grow (a.drewN q) os).heap.push o } : World) = _
  simp [Sort.grow]
theorem Gr.drew {a b : World} (h : Gr a b) : Gr a b.drew := by
  obtain ⟨q, os, rfl⟩ := h
  exact ⟨q + 1, os, rfl⟩
theorem Gr.below {a b : World} (h : Gr a b) : Below a.heap.size a b := by
  obtain ⟨q, os, rfl⟩ := h
  exact below_grow a q os
def cmpI (a b : Int) : Int := if a < b then -1 else if b < a then 1 else 0
set_option maxHeartbeats 2000000 in
set_option maxRecDepth 100000 in
theorem cmpKind_calls (a b : Int) (w : World) :
    Calls Tryz.prog 103 #[.int .u8 a, .int .u8 b] w fun e w' => e = .returned (.int .i64 (cmpI a b)) ∧ Gr w w' := by
  have ha : (a != a) = false := by simp
  have hb : (b != b) = false := by simp
  by_cases h1 : a < b
  · have H : Aside0 (cmpI a b = -1) := ⟨by unfold cmpI; rw [if_pos h1]⟩
    go_enter Tryz.func103, Tryz.ntmps103
    go_wp2
    go_ret
    refine ⟨?_, Gr.refl _⟩
    rw [H.out]; rfl
  · by_cases h2 : b < a
    · have H : Aside0 (cmpI a b = 1) := ⟨by unfold cmpI; rw [if_neg h1, if_pos h2]⟩
      go_enter Tryz.func103, Tryz.ntmps103
      go_wp2
      go_ret
      refine ⟨?_, Gr.refl _⟩
      rw [H.out]; rfl
    · have H : Aside0 (cmpI a b = 0) := ⟨by unfold cmpI; rw [if_neg h1, if_neg h2]⟩
      go_enter Tryz.func103, Tryz.ntmps103
      go_wp2
      go_ret
      refine ⟨?_, Gr.refl _⟩
      rw [H.out]; rfl
set_option maxHeartbeats 2000000 in
set_option maxRecDepth 100000 in
theorem cmpInt_calls (a b : Int) (w : World) :
    Calls Tryz.prog 104 #[.int .i64 a, .int .i64 b] w fun e w' => e = .returned (.int .i64 (cmpI a b)) ∧ Gr w w' := by
  have ha : (a != a) = false := by simp
  have hb : (b != b) = false := by simp
  by_cases h1 : a < b
  · have H : Aside0 (cmpI a b = -1) := ⟨by unfold cmpI; rw [if_pos h1]⟩
    go_enter Tryz.func104, Tryz.ntmps104
    go_wp2
    go_ret
    refine ⟨?_, Gr.refl _⟩
    rw [H.out]; rfl
  · by_cases h2 : b < a
    · have H : Aside0 (cmpI a b = 1) := ⟨by unfold cmpI; rw [if_neg h1, if_pos h2]⟩
      go_enter Tryz.func104, Tryz.ntmps104
      go_wp2
      go_ret
      refine ⟨?_, Gr.refl _⟩
      rw [H.out]; rfl
    · have H : Aside0 (cmpI a b = 0) := ⟨by unfold cmpI; rw [if_neg h1, if_neg h2]⟩
      go_enter Tryz.func104, Tryz.ntmps104
      go_wp2
      go_ret
      refine ⟨?_, Gr.refl _⟩
      rw [H.out]; rfl
def compareV (a b : V) : Int :=
  if cmpI a.f0 b.f0 = 0 then (if a.f0 = 0 then 0 else if a.f0 = 2 then Lib.compareBytes a.f2.data.toList b.f2.data.toList else cmpI a.f1 b.f1) else cmpI a.f0 b.f0
def KindOk (v : V) : Prop := v.f0 = 0 ∨ v.f0 = 1 ∨ v.f0 = 2 ∨ v.f0 = 3
set_option maxHeartbeats 4000000 in
set_option maxRecDepth 100000 in
theorem compare_calls (a b : V) (ha : KindOk a) (w : World) :
    Calls Tryz.prog 91 #[.agg #[.int .u8 a.f0, .int .i64 a.f1, .string a.f2], .agg #[.int .u8 b.f0, .int .i64 b.f1, .string b.f2]] w fun e w' => e = .returned (.int .i64 (compareV a b)) ∧ Gr w w' := by
  have HA := Aside0.mk ha
  clear ha
  have B1 := Aside0.mk (((Gr.refl w).alloc (.cells #[.int .u8 a.f0, .int .i64 a.f1, .string a.f2] 36)).alloc (.cells #[.int .u8 b.f0, .int .i64 b.f1, .string b.f2] 36))
  have D1 : Aside0 (((w.alloc (.cells #[.int .u8 a.f0, .int .i64 a.f1, .string a.f2] 36)).alloc (.cells #[.int .u8 b.f0, .int .i64 b.f1, .string b.f2] 36)).heap[w.heap.size]? = some (.cells #[.int .u8 a.f0, .int .i64 a.f1, .string a.f2] 36 (0, 0))) := ⟨by
    rw [Below.heap_alloc _ _ _ (by simp)]; exact heap_alloc_new _ _⟩
  have D2 : Aside0 (((w.alloc (.cells #[.int .u8 a.f0, .int .i64 a.f1, .string a.f2] 36)).alloc (.cells #[.int .u8 b.f0, .int .i64 b.f1, .string b.f2] 36)).heap[w.heap.size + 1]? = some (.cells #[.int .u8 b.f0, .int .i64 b.f1, .string b.f2] 36 (0, 0))) := ⟨by
    have := heap_alloc_new (w.alloc (.cells #[.int .u8 a.f0, .int .i64 a.f1, .string a.f2] 36)) (.cells #[.int .u8 b.f0, .int .i64 b.f1, .string b.f2] 36)
    simpa using this⟩
  go_enter Tryz.func91, Tryz.ntmps91
  go_wp2_with fail
  refine (cmpKind_calls a.f0 b.f0 _).mono ?_
  rintro e w1 ⟨rfl, hb1⟩
  have HB1 := Aside0.mk (B1.out.trans hb1)
  have E1 := (hb1.below.block w.heap.size (by simp; omega)).trans D1.out
  have E2 := (hb1.below.block (w.heap.size + 1) (by simp)).trans D2.out
  have q0 : w1.cell? ⟨w.heap.size, 0, none⟩ = some (.int .u8 a.f0) := (blk_cell E1 0).trans rfl
  have q1 : w1.cell? ⟨w.heap.size, 1, none⟩ = some (.int .i64 a.f1) := (blk_cell E1 1).trans rfl
  have q2 : w1.cell? ⟨w.heap.size, 2, none⟩ = some (.string a.f2) := (blk_cell E1 2).trans rfl
  have p1 : w1.cell? ⟨w.heap.size + 1, 1, none⟩ = some (.int .i64 b.f1) := (blk_cell E2 1).trans rfl
  have p2 : w1.cell? ⟨w.heap.size + 1, 2, none⟩ = some (.string b.f2) := (blk_cell E2 2).trans rfl
  clear hb1 D1 D2 E1 E2
  obtain ⟨c, hc⟩ : ∃ c, c = cmpI a.f0 b.f0 := ⟨_, rfl⟩
  rw [← hc]
  by_cases hz : c = 0
  · have z1 : (c != 0) = false := by simp [hz]
    have HZ : Aside0 (cmpI a.f0 b.f0 = 0) := ⟨by rw [← hc, hz]⟩
    clear hz hc
    rcases HA.out with hk | hk | hk | hk
    · have k0 : (a.f0 == 0) = true := by simp [hk]
      have H : Aside0 (compareV a b = 0) := ⟨by unfold compareV; rw [if_pos HZ.out, if_pos hk]⟩
      clear hk
      go_wp2
      go_ret
      refine ⟨?_, HB1.out⟩
      rw [H.out]; rfl
    · have k0 : (a.f0 == 0) = false := by simp [hk]
      have k1 : (a.f0 == 1) = true := by simp [hk]
      have H : Aside0 (compareV a b = cmpI a.f1 b.f1) := ⟨by unfold compareV; rw [if_pos HZ.out, if_neg (by omega), if_neg (by omega)]⟩
      clear hk
      go_wp2_with fail
      refine (cmpInt_calls a.f1 b.f1 w1).mono ?_
      rintro e w2 ⟨rfl, hb2⟩
      have HB2 := Aside0.mk (HB1.out.trans hb2)
      clear hb2
      go_wp2
      go_ret
      refine ⟨?_, HB2.out⟩
      rw [H.out]; rfl
    · have k0 : (a.f0 == 0) = false := by simp [hk]
      have k1 : (a.f0 == 1) = false := by simp [hk]
      have k3 : (a.f0 == 3) = false := by simp [hk]
      have k2 : (a.f0 == 2) = true := by simp [hk]
      have H : Aside0 (compareV a b = Lib.compareBytes a.f2.data.toList b.f2.data.toList) := ⟨by unfold compareV; rw [if_pos HZ.out, if_neg (by omega), if_pos hk]⟩
      clear hk
      go_wp2_with fail
      refine (Tryz.strings_Compare a.f2 b.f2 w1).mono ?_
      rintro e w2 ⟨rfl, hb2⟩
      have HB2 := Aside0.mk (show Gr w w2 by rw [hb2]; exact HB1.out)
      clear hb2
      go_wp2
      go_ret
      refine ⟨?_, HB2.out⟩
      rw [H.out]; rfl
    · have k0 : (a.f0 == 0) = false := by simp [hk]
      have k1 : (a.f0 == 1) = false := by simp [hk]
      have k3 : (a.f0 == 3) = true := by simp [hk]
      have H : Aside0 (compareV a b = cmpI a.f1 b.f1) := ⟨by unfold compareV; rw [if_pos HZ.out, if_neg (by omega), if_neg (by omega)]⟩
      clear hk
      go_wp2_with fail
      refine (cmpInt_calls a.f1 b.f1 w1).mono ?_
      rintro e w2 ⟨rfl, hb2⟩
      have HB2 := Aside0.mk (HB1.out.trans hb2)
      clear hb2
      go_wp2
      go_ret
      refine ⟨?_, HB2.out⟩
      rw [H.out]; rfl
  · have z1 : (c != 0) = true := by simpa using hz
    have H : Aside0 (compareV a b = c) := ⟨by unfold compareV; rw [if_neg (by rw [← hc]; exact hz), hc]⟩
    clear hz hc
    go_wp2
    go_ret
    refine ⟨?_, HB1.out⟩
    rw [H.out]; rfl
def cmpRows : List V → List V → Int
  | [], [] => 0
  | [], _ :: _ => -1
  | _ :: _, [] => 1
  | a :: x, b :: y => if compareV a b = 0 then cmpRows x y else compareV a b
theorem cmpRows_nil (l : List V) : cmpRows [] l = if l.length = 0 then 0 else -1 := by
  cases l <;> simp [cmpRows]
set_option maxHeartbeats 4000000 in
set_option maxRecDepth 100000 in
theorem compareFunc_calls (A0 : Option Addr) (c0 : Nat) (l0 : List V) (A1 : Option Addr) (c1 : Nat) (l1 : List V) (w : World) (hr0 : Kd.C kV w A0 l0.length l0) (hr1 : Kd.C kV w A1 l1.length l1) (hk : ∀ v ∈ l0, KindOk v) (hn0 : l0.length ≤ 1099511627776) (hn1 : l1.length ≤ 1099511627776) :
    Calls Tryz.prog 99 #[.slice A0 l0.length c0, .slice A1 l1.length c1, .func (.func 91) #[] #[]] w fun e w' => e = .returned (.int .i64 (cmpRows l0 l1)) ∧ Gr w w' := by
  have HR0 := Aside0.mk hr0
  have HR1 := Aside0.mk hr1
  have HK := Aside0.mk hk
  have HN0 := Aside0.mk hn0
  have HN1 := Aside0.mk hn1
  clear hr0 hr1 hk hn0 hn1
  go_enter Tryz.func99, Tryz.ntmps99
  go_wp2
  go_loopg [13] l0.length (fun kq v13 W => ∃ x : Nat, v13 = .int .i64 x ∧ Aside0 (x ≤ l0.length ∧ x ≤ l1.length ∧ kq = l0.length - x) ∧ Aside0 (cmpRows l0 l1 = cmpRows (l0.drop x) (l1.drop x)) ∧ Aside0 (Gr w W))
  case atStart => exact ⟨0, rfl, ⟨by omega⟩, ⟨rfl⟩, ⟨Gr.refl _⟩⟩
  case round =>
    obtain ⟨x, rfl, HX, HI, HB⟩ := hrel
    obtain ⟨hx0, hx1, hkq⟩ := HX.out
    by_cases hlt : x < l0.length
    · have c1' : decide ((x : Int) < (l0.length : Int)) = true := decide_eq_true (by omega)
      have c2 : decide (0 ≤ (x : Int)) = true := decide_eq_true (by omega)
      obtain ⟨ad, e, hx_0, hx_1, hx_2⟩ := at_T36 HR0.out (x : Int) (by omega) (by omega)
      cases e
      replace hx_0 := (HB.out.below.cell (World.block_lt_of_cell? w _ hx_0)).trans hx_0
      replace hx_1 := (HB.out.below.cell (World.block_lt_of_cell? w _ hx_1)).trans hx_1
      replace hx_2 := (HB.out.below.cell (World.block_lt_of_cell? w _ hx_2)).trans hx_2
      rw [rdV_at hlt] at hx_0 hx_1 hx_2
      rw [drop_cons l0 x hlt] at HI
      have hkv := HK.out l0[x] (List.getElem_mem hlt)
      obtain ⟨y, hy⟩ : ∃ y, y = l0[x] := ⟨_, rfl⟩
      rw [← hy] at hx_0 hx_1 hx_2 HI hkv
      have HKV := Aside0.mk hkv
      have HWR : Aside0 (wrap64 ((x : Int) + 1) = (x : Int) + 1) := ⟨by have := HN0.out; unfold wrap64; omega⟩
      have HLT := Aside0.mk hlt
      have HKQ := Aside0.mk hkq
      clear hy hkq hkv
      simp only [Int.toNat_natCast] at hx_0 hx_1 hx_2
      by_cases hge : l1.length ≤ x
      · have c3 : decide ((x : Int) ≥ (l1.length : Int)) = true := decide_eq_true (by omega)
        have c4 : decide (l1.length ≤ x) = true := decide_eq_true hge
        have H : Aside0 (cmpRows l0 l1 = 1) := ⟨by rw [HI.out, List.drop_eq_nil_of_le hge]; rfl⟩
        have HG := Aside0.mk hge
        have B2 := Aside0.mk (HB.out.alloc (.cells #[.int .u8 y.f0, .int .i64 y.f1, .string y.f2] 36))
        clear hge
        go_wp2
        go_ret
        refine ⟨?_, B2.out⟩
        rw [H.out]; rfl
      · have c3 : decide ((x : Int) ≥ (l1.length : Int)) = false := decide_eq_false (by omega)
        have c4 : decide (l1.length ≤ x) = false := decide_eq_false hge
        have c5 : decide ((x : Int) < (l1.length : Int)) = true := decide_eq_true (by omega)
        have c6 : decide (x < l1.length) = true := decide_eq_true (by omega)
        have hlt1 : x < l1.length := by omega
        obtain ⟨ad1, e, hz_0, hz_1, hz_2⟩ := at_T36 HR1.out (x : Int) (by omega) (by omega)
        cases e
        replace hz_0 := (HB.out.below.cell (World.block_lt_of_cell? w _ hz_0)).trans hz_0
        replace hz_1 := (HB.out.below.cell (World.block_lt_of_cell? w _ hz_1)).trans hz_1
        replace hz_2 := (HB.out.below.cell (World.block_lt_of_cell? w _ hz_2)).trans hz_2
        rw [rdV_at hlt1] at hz_0 hz_1 hz_2
        rw [drop_cons l1 x hlt1] at HI
        obtain ⟨z, hz⟩ : ∃ z, z = l1[x] := ⟨_, rfl⟩
        rw [← hz] at hz_0 hz_1 hz_2 HI
        have HLT1 := Aside0.mk hlt1
        clear hz hge
        simp only [Int.toNat_natCast] at hz_0 hz_1 hz_2
        have s0 : ∀ o, (wr.alloc o).cell? (ad1.add (x * 3)) = some (.int .u8 z.f0) := fun o => (((Below.refl _ _).alloc (Nat.le_refl _) o).cell (World.block_lt_of_cell? wr _ hz_0)).trans hz_0
        have s1 : ∀ o, (wr.alloc o).cell? ⟨(ad1.add (x * 3)).block, (ad1.add (x * 3)).off + 1, none⟩ = some (.int .i64 z.f1) := fun o => (((Below.refl _ _).alloc (Nat.le_refl _) o).cell (World.block_lt_of_cell? wr _ hz_1)).trans hz_1
        have s2 : ∀ o, (wr.alloc o).cell? ⟨(ad1.add (x * 3)).block, (ad1.add (x * 3)).off + 2, none⟩ = some (.string z.f2) := fun o => (((Below.refl _ _).alloc (Nat.le_refl _) o).cell (World.block_lt_of_cell? wr _ hz_2)).trans hz_2
        have B2 := Aside0.mk ((HB.out.alloc (.cells #[.int .u8 y.f0, .int .i64 y.f1, .string y.f2] 36)).alloc (.cells #[.int .u8 z.f0, .int .i64 z.f1, .string z.f2] 36))
        go_wp2_with fail
        refine (compare_calls y z HKV.out _).mono ?_
        rintro e w1 ⟨rfl, hb1⟩
        have HB1 := Aside0.mk (B2.out.trans hb1)
        clear hb1 s0 s1 s2
        obtain ⟨c, hc⟩ : ∃ c, c = compareV y z := ⟨_, rfl⟩
        rw [← hc]
        by_cases h0 : c = 0
        · have z1 : (c != 0) = false := by simp [h0]
          have HI2 : Aside0 (cmpRows l0 l1 = cmpRows (l0.drop (x + 1)) (l1.drop (x + 1))) := ⟨by rw [HI.out]; simp only [cmpRows]; rw [if_pos (by rw [← hc, h0])]⟩
          clear h0 hc
          go_wp2
          have hlt := HLT.out
          have hlt1 := HLT1.out
          have hk := HKQ.out
          cases gk with
          | zero => omega
          | succ k1 =>
            go_roundg k1
            case measure => omega
            case rel => exact ⟨x + 1, by rw [HWR.out]; rfl, ⟨by omega⟩, HI2, HB1⟩
        · have z1 : (c != 0) = true := by simpa using h0
          have H : Aside0 (cmpRows l0 l1 = c) := ⟨by rw [HI.out]; simp only [cmpRows]; rw [if_neg (by rw [← hc]; exact h0), hc]⟩
          clear h0 hc
          go_wp2
          go_ret
          refine ⟨?_, HB1.out⟩
          rw [H.out]; rfl
    · have c1' : decide ((x : Int) < (l0.length : Int)) = false := decide_eq_false (by omega)
      have hxe : x = l0.length := by omega
      rw [List.drop_eq_nil_of_le (by omega), cmpRows_nil, List.length_drop, hxe] at HI
      by_cases hl : l0.length < l1.length
      · have c3 : decide (l0.length < l1.length) = true := decide_eq_true hl
        have H : Aside0 (cmpRows l0 l1 = -1) := ⟨by rw [HI.out, if_neg (by omega)]⟩
        clear hl hxe
        go_wp2
        go_ret
        refine ⟨?_, HB.out⟩
        rw [H.out]; rfl
      · have c3 : decide (l0.length < l1.length) = false := decide_eq_false hl
        have H : Aside0 (cmpRows l0 l1 = 0) := ⟨by rw [HI.out, if_pos (by omega)]⟩
        clear hl hxe
        go_wp2
        go_ret
        refine ⟨?_, HB.out⟩
        rw [H.out]; rfl
set_option maxHeartbeats 4000000 in
set_option maxRecDepth 100000 in
theorem compareRows_calls (A0 : Option Addr) (c0 : Nat) (l0 : List V) (A1 : Option Addr) (c1 : Nat) (l1 : List V) (w : World) (hr0 : Kd.C kV w A0 l0.length l0) (hr1 : Kd.C kV w A1 l1.length l1) (hk : ∀ v ∈ l0, KindOk v) (hn0 : l0.length ≤ 1099511627776) (hn1 : l1.length ≤ 1099511627776) :
    Calls Tryz.prog 83 #[.slice A0 l0.length c0, .slice A1 l1.length c1] w fun e w' => e = .returned (.int .i64 (cmpRows l0 l1)) ∧ Gr w w' := by
  have H := Aside0.mk (compareFunc_calls A0 c0 l0 A1 c1 l1 w hr0 hr1 hk hn0 hn1)
  clear hr0 hr1 hk hn0 hn1
  go_enter Tryz.func83, Tryz.ntmps83
  go_wp2_with fail
  refine H.out.mono ?_
  rintro e w1 ⟨rfl, hb1⟩
  have HB1 := Aside0.mk hb1
  clear hb1
  go_wp2
  go_ret
  exact ⟨rfl, HB1.out⟩
end Go.Proofs.YtecgkcgfeghhgaaGreatDoor.PAll
set_option linter.unusedVariables false
set_option linter.unusedSimpArgs false
namespace Go.Proofs.YtecgkcgfeghhgaaGreatDoor.PAll
open Go.RowKit Go.Proofs.YtecgkcgfeghhgaaGreatDoorW.PrintWords Go.Proofs.YtecgkcgfeghhgaaGreatDoorW.PrintLast Go.Proofs.YtecgkcgfeghhgaaGreatDoorW.PrintMore
open Go.Shelf Go.Lib
theorem add64 (x y c : Int) (hx : 0 ≤ x) (hy : 0 ≤ y) (hc : 0 ≤ c) (hc1 : c ≤ 1) (w : World) :
    (callFunc 160 #[.int .u64 x, .int .u64 y, .int .u64 c]).run Tryz.prog w = .ok (.value (.tuple #[.int .u64 ((x + y + c) % 18446744073709551616), .int .u64 ((x + y + c) / 18446744073709551616)])) w := by
  obtain ⟨a, rfl⟩ := Int.eq_ofNat_of_zero_le hx
  obtain ⟨b, rfl⟩ := Int.eq_ofNat_of_zero_le hy
  obtain ⟨d, rfl⟩ := Int.eq_ofNat_of_zero_le hc
  have h := Any7.bits_Add64 add64L a b d (by omega) w
  change (callFunc 160 _).run _ _ = _ at h
  simpa using h
theorem grownBy_set0 {w W : World} {b : Nat} (h : w.grownBy W (some b)) (j : Nat) (u : Value) : w.grownBy (W.setCell ⟨b, j, none⟩ u) (some b) :=
  ⟨h.os, h.tape, h.output, Nat.le_trans h.size (by simp [World.setCell]), fun k hk hne => (Below.heap_setCell W _ _ k (fun e => hne (by rw [e]))).trans (h.block k hk hne)⟩
theorem grownBy_set {w W : World} {b : Nat} (h : w.grownBy W (some b)) (j : Nat) (u : Value) : w.grownBy ((W.setCell ⟨b, j, none⟩ u).drew) (some b) :=
  ⟨h.os, h.tape, h.output, Nat.le_trans h.size (by simp [World.setCell, World.drew]), fun k hk hne => (Below.heap_setCell W _ _ k (fun e => hne (by rw [e]))).trans (h.block k hk hne)⟩
set_option maxHeartbeats 8000000 in
set_option maxRecDepth 100000 in
theorem total_take (b : Nat) (h l n : Int) (v : V) (w : World) (hb : w.heap[b]? = some (.cells #[.int .u64 h, .int .u64 l, .int .u64 n] 122 (0, 0))) (h0 : 0 ≤ h) (l0 : 0 ≤ l) (l1 : l < 18446744073709551616) :
    Calls Tryz.prog 158 #[.pointer (some ⟨b, 0, none⟩), .agg #[.int .u8 v.f0, .int .i64 v.f1, .string v.f2]] w fun e w' => e = .returned (.tuple #[]) ∧ w'.heap[b]? = some (.cells #[.int .u64 ((h + IntKind.u64.wrap (v.f1 / 9223372036854775808) + (l + IntKind.u64.wrap v.f1) / 18446744073709551616) % 18446744073709551616), .int .u64 ((l + IntKind.u64.wrap v.f1) % 18446744073709551616), .int .u64 (IntKind.u64.wrap (n + 1))] 122 (0, 0)) ∧ w.grownBy w' (some b) := by
  have hlt : b < w.heap.size := (Array.getElem?_eq_some_iff.1 hb).1
  have C0 : (w.alloc (.cells #[.int .u8 v.f0, .int .i64 v.f1, .string v.f2] 36)).heap[b]? = some (.cells #[.int .u64 h, .int .u64 l, .int .u64 n] 122 (0, 0)) := (Below.heap_alloc w _ b hlt).trans hb
  have hg : w.grownBy (w.alloc (.cells #[.int .u8 v.f0, .int .i64 v.f1, .string v.f2] 36)) (some b) := ⟨rfl, rfl, rfl, by simp, fun k hk _ => Below.heap_alloc w _ k hk⟩
  have V1 : (w.alloc (.cells #[.int .u8 v.f0, .int .i64 v.f1, .string v.f2] 36)).heap[w.heap.size]? = some (.cells #[.int .u8 v.f0, .int .i64 v.f1, .string v.f2] 36 (0, 0)) := heap_alloc_new _ _
  have hne : b ≠ w.heap.size := by omega
  have HG := Aside0.mk hg
  have HNE := Aside0.mk hne
  have HLT := Aside0.mk hlt
  have HL1 := Aside0.mk l1
  clear l1
  clear hg hne hb hlt
  obtain ⟨W, hW⟩ : ∃ W, W = w.alloc (.cells #[.int .u8 v.f0, .int .i64 v.f1, .string v.f2] 36) := ⟨_, rfl⟩
  obtain ⟨q, hq⟩ : ∃ q, q = w.heap.size := ⟨_, rfl⟩
  rw [← hW] at C0 V1 HG
  rw [← hq] at V1 HNE
  have HW := Aside0.mk hW
  have HQ := Aside0.mk hq
  clear hW hq
  have F0 : W.cell? ⟨b, 0, none⟩ = some (.int .u64 h) := (blk_cell C0 0).trans rfl
  have F1 : W.cell? ⟨b, 1, none⟩ = some (.int .u64 l) := (blk_cell C0 1).trans rfl
  have F2 : W.cell? ⟨b, 2, none⟩ = some (.int .u64 n) := (blk_cell C0 2).trans rfl
  have F3 : W.cell? ⟨q, 1, none⟩ = some (.int .i64 v.f1) := (blk_cell V1 1).trans rfl
  have F4 : ∀ j, W.frozen? ⟨b, j, none⟩ = false := fun j => by simp [World.frozen?, C0]
  have HC0 := Aside0.mk C0
  have HV1 := Aside0.mk V1
  have A1 : ∀ W, (callFunc 160 #[.int .u64 l, .int .u64 (IntKind.u64.wrap v.f1), .int .u64 0]).run Tryz.prog W = .ok (.value (.tuple #[.int .u64 ((l + IntKind.u64.wrap v.f1 + 0) % 18446744073709551616), .int .u64 ((l + IntKind.u64.wrap v.f1 + 0) / 18446744073709551616)])) W := fun W => add64 _ _ _ l0 (by simp [IntKind.wrap, IntKind.bits, IntKind.signed]; omega) (by omega) (by omega) W
  clear C0 V1
  go_enter Tryz.func158, Tryz.ntmps158
  go_wp2
  rw [← HW.out, ← HQ.out]
  go_region
  obtain ⟨lw, hlw⟩ : ∃ lw, lw = (l + IntKind.u64.wrap v.f1) % 18446744073709551616 := ⟨_, rfl⟩
  obtain ⟨cw, hcw⟩ : ∃ cw, cw = (l + IntKind.u64.wrap v.f1) / 18446744073709551616 := ⟨_, rfl⟩
  obtain ⟨W2, hW2⟩ : ∃ W2, W2 = (W.setCell ⟨b, 1, none⟩ (.int .u64 lw)).drew := ⟨_, rfl⟩
  have hsr : 0 ≤ IntKind.u64.wrap v.f1 ∧ IntKind.u64.wrap v.f1 < 18446744073709551616 := by simp [IntKind.wrap, IntKind.bits, IntKind.signed]; omega
  have hcw0 : 0 ≤ cw := by rw [hcw]; omega
  have hcw1 : cw ≤ 1 := by rw [hcw]; have := HL1.out; omega
  have C2 : W2.heap[b]? = some (.cells #[.int .u64 h, .int .u64 lw, .int .u64 n] 122 (0, 0)) := by rw [hW2]; exact (blk_set HC0.out 1 _).trans rfl
  have V2 : W2.heap[q]? = some (.cells #[.int .u8 v.f0, .int .i64 v.f1, .string v.f2] 36 (0, 0)) := by rw [hW2]; exact (Below.heap_setCell W _ _ q (Ne.symm HNE.out)).trans HV1.out
  have G2 : Aside0 (w.grownBy W2 (some b)) := ⟨by rw [hW2]; exact grownBy_set HG.out 1 _⟩
  rw [← hlw, ← hcw]
  rw [← hW2]
  have HLW := Aside0.mk hlw
  have HCW := Aside0.mk hcw
  clear hlw hcw hW2 F0 F1 F2 F3 F4 A1 hsr HW HQ HC0 HV1 HG
  have F0 : W2.cell? ⟨b, 0, none⟩ = some (.int .u64 h) := (blk_cell C2 0).trans rfl
  have F3 : W2.cell? ⟨q, 1, none⟩ = some (.int .i64 v.f1) := (blk_cell V2 1).trans rfl
  have F4 : ∀ j, W2.frozen? ⟨b, j, none⟩ = false := fun j => by simp [World.frozen?, C2]
  have A1 : ∀ W, (callFunc 160 #[.int .u64 h, .int .u64 (IntKind.u64.wrap (v.f1 / 9223372036854775808)), .int .u64 cw]).run Tryz.prog W = .ok (.value (.tuple #[.int .u64 ((h + IntKind.u64.wrap (v.f1 / 9223372036854775808) + cw) % 18446744073709551616), .int .u64 ((h + IntKind.u64.wrap (v.f1 / 9223372036854775808) + cw) / 18446744073709551616)])) W := fun W => add64 _ _ _ h0 (by simp [IntKind.wrap, IntKind.bits, IntKind.signed]; omega) hcw0 hcw1 W
  have HC2 := Aside0.mk C2
  clear C2 V2 hcw0 hcw1
  go_wp2
  go_region
  obtain ⟨hw', hhw⟩ : ∃ hw, hw = (h + IntKind.u64.wrap (v.f1 / 9223372036854775808) + cw) % 18446744073709551616 := ⟨_, rfl⟩
  obtain ⟨W3, hW3⟩ : ∃ W3, W3 = (W2.setCell ⟨b, 0, none⟩ (.int .u64 hw')).drew := ⟨_, rfl⟩
  have C3 : W3.heap[b]? = some (.cells #[.int .u64 hw', .int .u64 lw, .int .u64 n] 122 (0, 0)) := by rw [hW3]; exact (blk_set HC2.out 0 _).trans rfl
  have G3 : Aside0 (w.grownBy W3 (some b)) := ⟨by rw [hW3]; exact grownBy_set G2.out 0 _⟩
  rw [← hhw]
  rw [← hW3]
  have HHW := Aside0.mk hhw
  clear hhw hW3 F0 F3 F4 A1 HC2 G2
  have F2 : W3.cell? ⟨b, 2, none⟩ = some (.int .u64 n) := (blk_cell C3 2).trans rfl
  have F4 : ∀ j, W3.frozen? ⟨b, j, none⟩ = false := fun j => by simp [World.frozen?, C3]
  have HC3 := Aside0.mk C3
  clear C3
  go_wp2
  go_end0
  refine ⟨rfl, ?_, ?_⟩
  · rw [← HCW.out, ← HHW.out, ← HLW.out]
    exact (blk_set HC3.out 2 _).trans rfl
  · exact (grownBy_set0 G3.out 2 _)
end Go.Proofs.YtecgkcgfeghhgaaGreatDoor.PAll
namespace Go.Proofs.YtecgkcgfeghhgaaGreatDoor.PAll
open Go.RowKit Go.Proofs.YtecgkcgfeghhgaaGreatDoorW.PrintWords Go.Proofs.YtecgkcgfeghhgaaGreatDoorW.PrintLast Go.Proofs.YtecgkcgfeghhgaaGreatDoorW.PrintMore
attribute [local go_sem] max2_int min2_int max_two min_two max_three min_three max_four min_four
set_option linter.unusedVariables false
set_option linter.unusedSimpArgs false
def value_Int.f (a0 : Int) : Option (Int × Int × ByteArray) := some (1, a0, (⟨#[]⟩ : ByteArray))
set_option maxHeartbeats 8000000 in
set_option maxRecDepth 100000 in
theorem value_Int.calls (a0 : Int) (r1 : Int) (r2 : Int) (r3 : ByteArray) (w : World) (h : value_Int.f a0 = some (r1, r2, r3)) :
    Calls Tryz.prog 159 #[.int .i64 a0] w fun e w' => e = .returned (.agg #[.int .u8 r1, .int .i64 r2, .string r3]) ∧ Below w.heap.size w w' := by
  have hu36 := Tryz.underlying36
  have HB := Aside0.mk (Below.refl w.heap.size w)
  have H : (some (1, a0, (⟨#[]⟩ : ByteArray))) = some (r1, r2, r3) := h
  clear h
  simp only [Option.some.injEq, Prod.mk.injEq] at H
  obtain ⟨rfl, rfl, rfl⟩ := H
  go_enter Tryz.func159, Tryz.ntmps159
  go_wp2_with (first | ((with_reducible refine gate_dst (N := 2) rfl ?_); refine box_event ?hg (N := 2) ?hd (cs := #[.int .u8 0, .int .i64 0, .string (⟨#[]⟩ : ByteArray)]) (t := 36) ?hr ?_; (case hd => rfl); (case hg => rfl); (case hr => first | (go_simp; done) | (go_simp; rfl)); intro gb123 hg w2 hbox hb; have n0_ := Aside0.mk (below_step (by repeat (first | (with_reducible first | exact HB.out | apply below_alloc | apply pw_below_drewN | apply below_drew1) | exact HB.out)) hb); have n1_ := Aside0.mk (hbox); have n2_ := Aside0.mk ((by rw [hg]; exact (below_size (by repeat (first | (with_reducible first | exact HB.out | apply below_alloc | apply pw_below_drewN | apply below_drew1) | exact HB.out))) : w.heap.size ≤ gb123)); have n3_ := Aside0.mk ((by rw [hg]; exact (below_size (by repeat (first | (with_reducible first | exact HB.out | apply below_alloc | apply pw_below_drewN | apply below_drew1) | exact HB.out))) : w.heap.size ≤ gb123)); clear HB; have HB := n0_; have BK123 := n1_; have GW123 := n2_; have GE123 := n3_; clear n0_ n1_ n2_ n3_; clear hb hbox hg; have hcz3_0 : w2.cell? ⟨gb123, 0, none⟩ = some (.int .u8 0) := (blk_cell BK123.out 0).trans rfl; have hcz3_1 : w2.cell? ⟨gb123, 1, none⟩ = some (.int .i64 0) := (blk_cell BK123.out 1).trans rfl; have hcz3_2 : w2.cell? ⟨gb123, 2, none⟩ = some (.string (⟨#[]⟩ : ByteArray)) := (blk_cell BK123.out 2).trans rfl; have hfz3_0 := blk_frozen BK123.out 0; have hfz3_1 := blk_frozen BK123.out 1; have hfz3_2 := blk_frozen BK123.out 2))
  refine bodyPost_ret (results_cell_row rfl _ _ gb123 36 #[.int .u8 1, .int .i64 a0, .string (⟨#[]⟩ : ByteArray)] (0, 0) _ rfl (by (with_reducible repeat (first | refine blk_drewN ?_ _ | refine blk_drew ?_ | refine blk_alloc ?_ _)); refine blk_put (cs := #[.int .u8 1, .int .i64 a0, .string (⟨#[]⟩ : ByteArray)]) ?_ 2 _ rfl; (with_reducible repeat (first | refine blk_drewN ?_ _ | refine blk_drew ?_ | refine blk_alloc ?_ _)); refine blk_put (cs := #[.int .u8 1, .int .i64 0, .string (⟨#[]⟩ : ByteArray)]) ?_ 1 _ rfl; (with_reducible repeat (first | refine blk_drewN ?_ _ | refine blk_drew ?_ | refine blk_alloc ?_ _)); refine blk_put (cs := #[.int .u8 0, .int .i64 0, .string (⟨#[]⟩ : ByteArray)]) ?_ 0 _ rfl; (with_reducible repeat (first | refine blk_drewN ?_ _ | refine blk_drew ?_ | refine blk_alloc ?_ _)); exact BK123.out) Tryz.underlying36 rfl (by kernel_rfl)) rfl ?_
  exact ⟨by first | rfl | (simp [errW_none, errW_some] <;> rfl) | (simp [*, errW_none, errW_some] <;> rfl), by repeat (first | (with_reducible first | exact HB.out | apply below_alloc | apply pw_below_drewN | apply below_drew1 | refine below_set ?_ GE123.out) | exact HB.out)⟩
end Go.Proofs.YtecgkcgfeghhgaaGreatDoor.PAll
set_option linter.unusedVariables false
set_option linter.unusedSimpArgs false
namespace Go.Proofs.YtecgkcgfeghhgaaGreatDoor.PAll
open Go.RowKit Go.Proofs.YtecgkcgfeghhgaaGreatDoorW.PrintWords Go.Proofs.YtecgkcgfeghhgaaGreatDoorW.PrintLast Go.Proofs.YtecgkcgfeghhgaaGreatDoorW.PrintMore
theorem out_cells {W : World} {q : Nat} {t : TypeId} {a b c d : Value} (h : W.heap[q]? = some (.cells #[a, b, c, d] t (0, 0))) (x0 x1 x2 x3 : Value) : ((((W.setCell ⟨q, 0, none⟩ x0).setCell ⟨q, 1, none⟩ x1).setCell ⟨q, 2, none⟩ x2).setCell ⟨q, 3, none⟩ x3).heap[q]? = some (.cells #[x0, x1, x2, x3] t (0, 0)) :=
  blk_put (cs := #[x0, x1, x2, d]) (blk_put (cs := #[x0, x1, c, d]) (blk_put (cs := #[x0, b, c, d]) (blk_put (cs := #[a, b, c, d]) h 0 _ rfl) 1 _ rfl) 2 _ rfl) 3 _ rfl
theorem out_below {w W : World} {q : Nat} (h : Below w.heap.size w W) (hq : q = w.heap.size) (x0 x1 x2 x3 : Value) : Below w.heap.size w ((((W.setCell ⟨q, 0, none⟩ x0).setCell ⟨q, 1, none⟩ x1).setCell ⟨q, 2, none⟩ x2).setCell ⟨q, 3, none⟩ x3) :=
  (((h.setCell (Nat.le_of_eq hq.symm) _).setCell (Nat.le_of_eq hq.symm) _).setCell (Nat.le_of_eq hq.symm) _).setCell (Nat.le_of_eq hq.symm) _
def totalOut (h l n : Int) : Int × Int × ByteArray × Int :=
  if n = 0 then (0, 0, ⟨#[]⟩, 0) else if h = IntKind.u64.wrap (wrap64 l / 9223372036854775808) then (1, wrap64 l, ⟨#[]⟩, 0) else (0, 0, ⟨#[]⟩, 4)
set_option maxHeartbeats 8000000 in
set_option maxRecDepth 100000 in
theorem total_done (b : Nat) (h l n : Int) (w : World) (hb : w.heap[b]? = some (.cells #[.int .u64 h, .int .u64 l, .int .u64 n] 122 (0, 0))) (r1 r2 : Int) (r3 : ByteArray) (r4 : Int) (hr : totalOut h l n = (r1, r2, r3, r4)) :
    Calls Tryz.prog 157 #[.pointer (some ⟨b, 0, none⟩)] w fun e w' => e = .returned (.agg #[.int .u8 r1, .int .i64 r2, .string r3, .int .i64 r4]) ∧ Below w.heap.size w w' := by
  have hlt : b < w.heap.size := (Array.getElem?_eq_some_iff.1 hb).1
  have HLT := Aside0.mk hlt
  have HBK := Aside0.mk hb
  have HR := Aside0.mk hr
  clear hb hlt hr
  by_cases hn : n = 0
  · have hnb : (n == 0) = true := by simp [hn]
    have HRR : Aside0 (r1 = 0 ∧ r2 = 0 ∧ r3 = ⟨#[]⟩ ∧ r4 = 0) := ⟨by
      have h := HR.out
      unfold totalOut at h
      rw [if_pos hn] at h
      simp only [Prod.mk.injEq] at h
      exact ⟨h.1.symm, h.2.1.symm, h.2.2.1.symm, h.2.2.2.symm⟩⟩
    clear hn
    go_enter Tryz.func157, Tryz.ntmps157
    go_wp2_with (first | ((with_reducible refine gate_dst (N := 2) rfl ?_); refine box_event ?hg (N := 2) ?hd (cs := #[.int .u8 0, .int .i64 0, .string (⟨#[]⟩ : ByteArray), .int .i64 0]) (t := 38) ?hr ?_; (case hd => rfl); (case hg => rfl); (case hr => first | (go_simp; done) | (go_simp; rfl)); intro q hq W hN hb1; have C0 := (hb1.block b HLT.out).trans HBK.out; have HB1 := Aside0.mk hb1; have HQ := Aside0.mk hq; have HN0 := Aside0.mk hN; have F0 : W.cell? ⟨b, 0, none⟩ = some (.int .u64 h) := (blk_cell C0 0).trans rfl; have F1 : W.cell? ⟨b, 1, none⟩ = some (.int .u64 l) := (blk_cell C0 1).trans rfl; have F2 : W.cell? ⟨b, 2, none⟩ = some (.int .u64 n) := (blk_cell C0 2).trans rfl; have G0 : W.cell? ⟨q, 0, none⟩ = some (.int .u8 0) := (blk_cell hN 0).trans rfl; have G1 : W.cell? ⟨q, 1, none⟩ = some (.int .i64 0) := (blk_cell hN 1).trans rfl; have G2 : W.cell? ⟨q, 2, none⟩ = some (.string ⟨#[]⟩) := (blk_cell hN 2).trans rfl; have G3 : W.cell? ⟨q, 3, none⟩ = some (.int .i64 0) := (blk_cell hN 3).trans rfl; have F4 : ∀ j, W.frozen? ⟨q, j, none⟩ = false := (fun j => by simp [World.frozen?, hN]); clear hb1 hq hN C0))
    refine bodyPost_ret (results_cell_row rfl _ _ q 38 #[.int .u8 0, .int .i64 0, .string (⟨#[]⟩ : ByteArray), .int .i64 0] (0, 0) _ rfl (out_cells HN0.out _ _ _ _) Tryz.underlying38 rfl (by kernel_rfl)) rfl ?_
    refine ⟨?_, out_below HB1.out HQ.out _ _ _ _⟩
    obtain ⟨rfl, rfl, rfl, rfl⟩ := HRR.out
    rfl
  · have hnb : (n == 0) = false := by simp [hn]
    by_cases hc : h = IntKind.u64.wrap (wrap64 l / 9223372036854775808)
    · have hcb : (h != IntKind.u64.wrap (wrap64 l / 9223372036854775808)) = false := by simp [← hc]
      have HRR : Aside0 (r1 = 1 ∧ r2 = wrap64 l ∧ r3 = ⟨#[]⟩ ∧ r4 = 0) := ⟨by
        have h := HR.out
        unfold totalOut at h
        rw [if_neg hn, if_pos hc] at h
        simp only [Prod.mk.injEq] at h
        exact ⟨h.1.symm, h.2.1.symm, h.2.2.1.symm, h.2.2.2.symm⟩⟩
      clear hn hc
      go_enter Tryz.func157, Tryz.ntmps157
      go_wp2_with (first | ((with_reducible refine gate_dst (N := 2) rfl ?_); refine box_event ?hg (N := 2) ?hd (cs := #[.int .u8 0, .int .i64 0, .string (⟨#[]⟩ : ByteArray), .int .i64 0]) (t := 38) ?hr ?_; (case hd => rfl); (case hg => rfl); (case hr => first | (go_simp; done) | (go_simp; rfl)); intro q hq W hN hb1; have C0 := (hb1.block b HLT.out).trans HBK.out; have HB1 := Aside0.mk hb1; have HQ := Aside0.mk hq; have HN0 := Aside0.mk hN; have F0 : W.cell? ⟨b, 0, none⟩ = some (.int .u64 h) := (blk_cell C0 0).trans rfl; have F1 : W.cell? ⟨b, 1, none⟩ = some (.int .u64 l) := (blk_cell C0 1).trans rfl; have F2 : W.cell? ⟨b, 2, none⟩ = some (.int .u64 n) := (blk_cell C0 2).trans rfl; have G0 : W.cell? ⟨q, 0, none⟩ = some (.int .u8 0) := (blk_cell hN 0).trans rfl; have G1 : W.cell? ⟨q, 1, none⟩ = some (.int .i64 0) := (blk_cell hN 1).trans rfl; have G2 : W.cell? ⟨q, 2, none⟩ = some (.string ⟨#[]⟩) := (blk_cell hN 2).trans rfl; have G3 : W.cell? ⟨q, 3, none⟩ = some (.int .i64 0) := (blk_cell hN 3).trans rfl; have F4 : ∀ j, W.frozen? ⟨q, j, none⟩ = false := (fun j => by simp [World.frozen?, hN]); clear hb1 hq hN C0))
      go_region
      obtain ⟨W2, hW2⟩ : ∃ W2, W2 = W.drew := ⟨_, rfl⟩
      rw [← hW2]
      have HN2 : Aside0 (W2.heap[q]? = some (.cells #[.int .u8 0, .int .i64 0, .string ⟨#[]⟩, .int .i64 0] 38 (0, 0))) := ⟨by rw [hW2]; exact HN0.out⟩
      have HB2 : Aside0 (Below w.heap.size w W2) := ⟨by rw [hW2]; exact HB1.out.drew⟩
      have F1' : W2.cell? ⟨b, 1, none⟩ = some (.int .u64 l) := by rw [hW2]; exact F1
      clear hW2 F0 F1 F2 F4 G0 G1 G2 G3
      go_wp2_with fail
      refine (value_Int.calls (wrap64 l) 1 (wrap64 l) ⟨#[]⟩ W2 rfl).mono ?_
      rintro e W3 ⟨rfl, hb3⟩
      have hN3 := (hb3.block q (blk_lt HN2.out)).trans HN2.out
      have HN3 := Aside0.mk hN3
      have HB3 := Aside0.mk (HB2.out.trans (hb3.mono HB2.out.size))
      have G0 : W3.cell? ⟨q, 0, none⟩ = some (.int .u8 0) := (blk_cell hN3 0).trans rfl
      have G1 : W3.cell? ⟨q, 1, none⟩ = some (.int .i64 0) := (blk_cell hN3 1).trans rfl
      have G2 : W3.cell? ⟨q, 2, none⟩ = some (.string ⟨#[]⟩) := (blk_cell hN3 2).trans rfl
      have G3 : W3.cell? ⟨q, 3, none⟩ = some (.int .i64 0) := (blk_cell hN3 3).trans rfl
      have F4 : ∀ j, W3.frozen? ⟨q, j, none⟩ = false := (fun j => by simp [World.frozen?, hN3])
      clear hb3 hN3 F1'
      go_wp2
      refine bodyPost_ret (results_cell_row rfl _ _ q 38 #[.int .u8 1, .int .i64 (wrap64 l), .string (⟨#[]⟩ : ByteArray), .int .i64 0] (0, 0) _ rfl (out_cells HN3.out _ _ _ _) Tryz.underlying38 rfl (by kernel_rfl)) rfl ?_
      refine ⟨?_, out_below HB3.out HQ.out _ _ _ _⟩
      obtain ⟨rfl, rfl, rfl, rfl⟩ := HRR.out
      rfl
    · have hcb : (h != IntKind.u64.wrap (wrap64 l / 9223372036854775808)) = true := by simpa using hc
      have HRR : Aside0 (r1 = 0 ∧ r2 = 0 ∧ r3 = ⟨#[]⟩ ∧ r4 = 4) := ⟨by
        have h := HR.out
        unfold totalOut at h
        rw [if_neg hn, if_neg hc] at h
        simp only [Prod.mk.injEq] at h
        exact ⟨h.1.symm, h.2.1.symm, h.2.2.1.symm, h.2.2.2.symm⟩⟩
      clear hn hc
      go_enter Tryz.func157, Tryz.ntmps157
      go_wp2_with (first | ((with_reducible refine gate_dst (N := 2) rfl ?_); refine box_event ?hg (N := 2) ?hd (cs := #[.int .u8 0, .int .i64 0, .string (⟨#[]⟩ : ByteArray), .int .i64 0]) (t := 38) ?hr ?_; (case hd => rfl); (case hg => rfl); (case hr => first | (go_simp; done) | (go_simp; rfl)); intro q hq W hN hb1; have C0 := (hb1.block b HLT.out).trans HBK.out; have HB1 := Aside0.mk hb1; have HQ := Aside0.mk hq; have HN0 := Aside0.mk hN; have F0 : W.cell? ⟨b, 0, none⟩ = some (.int .u64 h) := (blk_cell C0 0).trans rfl; have F1 : W.cell? ⟨b, 1, none⟩ = some (.int .u64 l) := (blk_cell C0 1).trans rfl; have F2 : W.cell? ⟨b, 2, none⟩ = some (.int .u64 n) := (blk_cell C0 2).trans rfl; have G0 : W.cell? ⟨q, 0, none⟩ = some (.int .u8 0) := (blk_cell hN 0).trans rfl; have G1 : W.cell? ⟨q, 1, none⟩ = some (.int .i64 0) := (blk_cell hN 1).trans rfl; have G2 : W.cell? ⟨q, 2, none⟩ = some (.string ⟨#[]⟩) := (blk_cell hN 2).trans rfl; have G3 : W.cell? ⟨q, 3, none⟩ = some (.int .i64 0) := (blk_cell hN 3).trans rfl; have F4 : ∀ j, W.frozen? ⟨q, j, none⟩ = false := (fun j => by simp [World.frozen?, hN]); clear hb1 hq hN C0))
      go_region
      obtain ⟨W2, hW2⟩ : ∃ W2, W2 = W.drew := ⟨_, rfl⟩
      rw [← hW2]
      have hN2 : W2.heap[q]? = some (.cells #[.int .u8 0, .int .i64 0, .string ⟨#[]⟩, .int .i64 0] 38 (0, 0)) := by rw [hW2]; exact HN0.out
      have HN2 := Aside0.mk hN2
      have HB2 : Aside0 (Below w.heap.size w W2) := ⟨by rw [hW2]; exact HB1.out.drew⟩
      clear hW2 F0 F1 F2 F4 G0 G1 G2 G3
      have G0 : W2.cell? ⟨q, 0, none⟩ = some (.int .u8 0) := (blk_cell hN2 0).trans rfl
      have G1 : W2.cell? ⟨q, 1, none⟩ = some (.int .i64 0) := (blk_cell hN2 1).trans rfl
      have G2 : W2.cell? ⟨q, 2, none⟩ = some (.string ⟨#[]⟩) := (blk_cell hN2 2).trans rfl
      have G3 : W2.cell? ⟨q, 3, none⟩ = some (.int .i64 0) := (blk_cell hN2 3).trans rfl
      have F4 : ∀ j, W2.frozen? ⟨q, j, none⟩ = false := (fun j => by simp [World.frozen?, hN2])
      clear hN2
      go_wp2
      refine bodyPost_ret (results_cell_row rfl _ _ q 38 #[.int .u8 0, .int .i64 0, .string (⟨#[]⟩ : ByteArray), .int .i64 4] (0, 0) _ rfl (out_cells HN2.out _ _ _ _) Tryz.underlying38 rfl (by kernel_rfl)) rfl ?_
      refine ⟨?_, out_below HB2.out HQ.out _ _ _ _⟩
      obtain ⟨rfl, rfl, rfl, rfl⟩ := HRR.out
      rfl
end Go.Proofs.YtecgkcgfeghhgaaGreatDoor.PAll
set_option linter.unusedVariables false
set_option linter.unusedSimpArgs false
namespace Go.Proofs.YtecgkcgfeghhgaaGreatDoor.PAll
open Go.RowKit Go.Proofs.YtecgkcgfeghhgaaGreatDoorW.PrintWords Go.Proofs.YtecgkcgfeghhgaaGreatDoorW.PrintLast Go.Proofs.YtecgkcgfeghhgaaGreatDoorW.PrintMore
theorem below_grownBy {w W : World} {row : Option Nat} (h : Below w.heap.size w W) : w.grownBy W row := ⟨h.os, h.tape, h.output, h.size, fun k hk _ => h.block k hk⟩
set_option maxHeartbeats 8000000 in
set_option maxRecDepth 100000 in
theorem counter_take (b : Nat) (n : Int) (v : V) (w : World) (hb : w.heap[b]? = some (.cells #[.int .i64 n] 131 (0, 0))) :
    Calls Tryz.prog 168 #[.pointer (some ⟨b, 0, none⟩), .agg #[.int .u8 v.f0, .int .i64 v.f1, .string v.f2]] w fun e w' => e = .returned (.tuple #[]) ∧ w'.heap[b]? = some (.cells #[.int .i64 (wrap64 (n + 1))] 131 (0, 0)) ∧ w.grownBy w' (some b) := by
  have hlt : b < w.heap.size := (Array.getElem?_eq_some_iff.1 hb).1
  have HLT := Aside0.mk hlt
  have HBK := Aside0.mk hb
  clear hb hlt
  go_enter Tryz.func168, Tryz.ntmps168
  go_wp2_with (first | ((with_reducible refine gate_dst (N := 3) rfl ?_); refine box_event ?hg (N := 3) ?hd (cs := #[.int .u8 v.f0, .int .i64 v.f1, .string v.f2]) (t := 36) ?hr ?_; (case hd => rfl); (case hg => rfl); (case hr => first | (go_simp; done) | (go_simp; rfl)); intro q hq W hN hb1; have C0 := (hb1.block b HLT.out).trans HBK.out; have HB1 := Aside0.mk hb1; have HC0 := Aside0.mk C0; have F0 : W.cell? ⟨b, 0, none⟩ = some (.int .i64 n) := (blk_cell C0 0).trans rfl; have F4 : ∀ j, W.frozen? ⟨b, j, none⟩ = false := (fun j => by simp [World.frozen?, C0]); clear hb1 hq hN C0))
  go_end0
  exact ⟨rfl, (blk_set HC0.out 0 _).trans rfl, grownBy_set0 (below_grownBy HB1.out) 0 _⟩
set_option maxHeartbeats 8000000 in
set_option maxRecDepth 100000 in
theorem counter_done (b : Nat) (n : Int) (w : World) (hb : w.heap[b]? = some (.cells #[.int .i64 n] 131 (0, 0))) :
    Calls Tryz.prog 167 #[.pointer (some ⟨b, 0, none⟩)] w fun e w' => e = .returned (.agg #[.int .u8 1, .int .i64 n, .string ⟨#[]⟩, .int .i64 0]) ∧ Below w.heap.size w w' := by
  have hlt : b < w.heap.size := (Array.getElem?_eq_some_iff.1 hb).1
  have HLT := Aside0.mk hlt
  have HBK := Aside0.mk hb
  clear hb hlt
  go_enter Tryz.func167, Tryz.ntmps167
  go_wp2_with (first | ((with_reducible refine gate_dst (N := 2) rfl ?_); refine box_event ?hg (N := 2) ?hd (cs := #[.int .u8 0, .int .i64 0, .string (⟨#[]⟩ : ByteArray), .int .i64 0]) (t := 38) ?hr ?_; (case hd => rfl); (case hg => rfl); (case hr => first | (go_simp; done) | (go_simp; rfl)); intro q hq W hN hb1; have C0 := (hb1.block b HLT.out).trans HBK.out; have HB1 := Aside0.mk hb1; have HQ := Aside0.mk hq; have HN0 := Aside0.mk hN; have F0 : W.cell? ⟨b, 0, none⟩ = some (.int .i64 n) := (blk_cell C0 0).trans rfl; have G0 : W.cell? ⟨q, 0, none⟩ = some (.int .u8 0) := (blk_cell hN 0).trans rfl; have G1 : W.cell? ⟨q, 1, none⟩ = some (.int .i64 0) := (blk_cell hN 1).trans rfl; have G2 : W.cell? ⟨q, 2, none⟩ = some (.string ⟨#[]⟩) := (blk_cell hN 2).trans rfl; have G3 : W.cell? ⟨q, 3, none⟩ = some (.int .i64 0) := (blk_cell hN 3).trans rfl; have F4 : ∀ j, W.frozen? ⟨q, j, none⟩ = false := (fun j => by simp [World.frozen?, hN]); clear hb1 hq hN C0) | (go_at_call 159; refine (value_Int.calls n 1 n ⟨#[]⟩ _ rfl).mono ?_; rintro e W3 ⟨rfl, hb3⟩; have hN3 := (hb3.block q (blk_lt HN0.out)).trans HN0.out; have HN3 := Aside0.mk hN3; have HB3 := Aside0.mk (HB1.out.trans (hb3.mono HB1.out.size)); clear G0 G1 G2 G3 F4; have G0 : W3.cell? ⟨q, 0, none⟩ = some (.int .u8 0) := (blk_cell hN3 0).trans rfl; have G1 : W3.cell? ⟨q, 1, none⟩ = some (.int .i64 0) := (blk_cell hN3 1).trans rfl; have G2 : W3.cell? ⟨q, 2, none⟩ = some (.string ⟨#[]⟩) := (blk_cell hN3 2).trans rfl; have G3 : W3.cell? ⟨q, 3, none⟩ = some (.int .i64 0) := (blk_cell hN3 3).trans rfl; have F4 : ∀ j, W3.frozen? ⟨q, j, none⟩ = false := (fun j => by simp [World.frozen?, hN3]); clear hb3 hN3 F0))
  refine bodyPost_ret (results_cell_row rfl _ _ q 38 #[.int .u8 1, .int .i64 n, .string (⟨#[]⟩ : ByteArray), .int .i64 0] (0, 0) _ rfl (out_cells HN3.out _ _ _ _) Tryz.underlying38 rfl (by kernel_rfl)) rfl ?_
  exact ⟨rfl, out_below HB3.out HQ.out _ _ _ _⟩
end Go.Proofs.YtecgkcgfeghhgaaGreatDoor.PAll
set_option linter.unusedVariables false
set_option linter.unusedSimpArgs false
namespace Go.Proofs.YtecgkcgfeghhgaaGreatDoor.PAll
open Go.RowKit Go.Proofs.YtecgkcgfeghhgaaGreatDoorW.PrintWords Go.Proofs.YtecgkcgfeghhgaaGreatDoorW.PrintLast Go.Proofs.YtecgkcgfeghhgaaGreatDoorW.PrintMore
set_option maxHeartbeats 4000000 in
set_option maxRecDepth 100000 in
theorem gath_sum (w : World) : Calls Tryz.prog 57 #[.int .u8 2] w fun e w' => e = .returned (.iface 120 (.pointer (some ⟨w.heap.size, 0, none⟩))) ∧ w' = w.alloc (.cells #[.int .u64 0, .int .u64 0, .int .u64 0] 122) := by
  go_enter Tryz.func57, Tryz.ntmps57
  go_wp2
  go_ret
  exact ⟨rfl, rfl⟩
set_option maxHeartbeats 4000000 in
set_option maxRecDepth 100000 in
theorem gath_count (fn : Int) (h : fn = 0 ∨ fn = 1) (w : World) : Calls Tryz.prog 57 #[.int .u8 fn] w fun e w' => e = .returned (.iface 129 (.pointer (some ⟨w.heap.size, 0, none⟩))) ∧ w' = w.alloc (.cells #[.int .i64 0] 131) := by
  rcases h with rfl | rfl
  · go_enter Tryz.func57, Tryz.ntmps57
    go_wp2
    go_ret
    exact ⟨rfl, rfl⟩
  · go_enter Tryz.func57, Tryz.ntmps57
    go_wp2
    go_ret
    exact ⟨rfl, rfl⟩
end Go.Proofs.YtecgkcgfeghhgaaGreatDoor.PAll
namespace Go.Proofs.YtecgkcgfeghhgaaGreatDoor.PAll
open Go.RowKit Go.Proofs.YtecgkcgfeghhgaaGreatDoorW.PrintWords Go.Proofs.YtecgkcgfeghhgaaGreatDoorW.PrintLast Go.Proofs.YtecgkcgfeghhgaaGreatDoorW.PrintMore
attribute [local go_sem] max2_int min2_int max_two min_two max_three min_three max_four min_four
set_option linter.unusedVariables false
set_option linter.unusedSimpArgs false
mutual
def bag_allowed.j0 : Nat → Int → List (S36) → Bool → Option (Bool)
  | 0, _, _, _ => none
  | k + 1, x0, x2, x19 => if x19 = true then (some false) else (bag_allowed.l0 k x0 0 x2 (x2.length : Int) 0)
def bag_allowed.l0 : Nat → Int → Int → List (S36) → Int → Int → Option (Bool)
  | 0, _, _, _, _, _ => none
  | k + 1, x0, x7, x20, x21, x22 => if x22 < x21 then (if 0 ≤ x22 then (if x22 < (x20.length : Int) then ((value_Valid.f ((rd_T36 x20 x22).f0) ((rd_T36 x20 x22).f1) ((rd_T36 x20 x22).f2)).bind fun t114 => (if t114 = true then (if x7 = 0 then (bag_allowed.j2 k x0 x7 x20 x21 x22 false ((rd_T36 x20 x22).f0) ((rd_T36 x20 x22).f1) ((rd_T36 x20 x22).f2)) else (if ((rd_T36 x20 x22).f0) = 0 then (bag_allowed.j2 k x0 x7 x20 x21 x22 false ((rd_T36 x20 x22).f0) ((rd_T36 x20 x22).f1) ((rd_T36 x20 x22).f2)) else (bag_allowed.j2 k x0 x7 x20 x21 x22 (((rd_T36 x20 x22).f0) != x7) ((rd_T36 x20 x22).f0) ((rd_T36 x20 x22).f1) ((rd_T36 x20 x22).f2)))) else (bag_allowed.j2 k x0 x7 x20 x21 x22 true ((rd_T36 x20 x22).f0) ((rd_T36 x20 x22).f1) ((rd_T36 x20 x22).f2)))) else (none)) else (none)) else (if x7 = 0 then (some true) else (if x7 = 1 then (some true) else (if x0 = 2 then (some false) else (some (x0 != 5)))))
def bag_allowed.j2 : Nat → Int → Int → List (S36) → Int → Int → Bool → Int → Int → ByteArray → Option (Bool)
  | 0, _, _, _, _, _, _, _, _, _ => none
  | k + 1, x0, x7, x20, x21, x22, x43, x114000, x114001, x114002 => if x43 = true then (some false) else (if x114000 = 0 then (bag_allowed.l0 k x0 x7 x20 x21 (wrap64 (x22 + 1))) else (bag_allowed.l0 k x0 x114000 x20 x21 (wrap64 (x22 + 1))))
end
def bag_allowed.f (k : Nat) (a0 : Int) (a1 : Bool) (l2 : List (S36)) : Option (Bool) := if a0 > 5 then (bag_allowed.j0 k a0 l2 true) else (if a0 = 0 then (bag_allowed.j0 k a0 l2 a1) else (bag_allowed.j0 k a0 l2 false))
theorem bag_allowed.mono_l : ∀ k, (∀ y0 y1 y2, LeO (bag_allowed.j0 k y0 y1 y2) (bag_allowed.j0 (k + 1) y0 y1 y2)) ∧ (∀ y0 y1 y2 y3 y4, LeO (bag_allowed.l0 k y0 y1 y2 y3 y4) (bag_allowed.l0 (k + 1) y0 y1 y2 y3 y4)) ∧ (∀ y0 y1 y2 y3 y4 y5 y6 y7 y8, LeO (bag_allowed.j2 k y0 y1 y2 y3 y4 y5 y6 y7 y8) (bag_allowed.j2 (k + 1) y0 y1 y2 y3 y4 y5 y6 y7 y8))
  | 0 => ⟨fun _ _ _ r h => by simp [bag_allowed.j0] at h, fun _ _ _ _ _ r h => by simp [bag_allowed.l0] at h, fun _ _ _ _ _ _ _ _ _ r h => by simp [bag_allowed.j2] at h⟩
  | k + 1 => by
    obtain ⟨ih0, ih1, ih2⟩ := bag_allowed.mono_l k
    refine ⟨?_, ?_, ?_⟩
    · intro y0 y1 y2
      unfold bag_allowed.j0
      repeat' first
      | (with_reducible exact ih0 _ _ _)
      | (with_reducible exact ih1 _ _ _ _ _)
      | (with_reducible exact ih2 _ _ _ _ _ _ _ _ _)
      | (with_reducible exact LeO.refl _)
      | (with_reducible exact LeO.none _)
      | (with_reducible refine LeO.ite ?_ ?_)
      | (with_reducible refine LeO.bind ?_ (fun _ => ?_))
      | exact ih0 _ _ _
      | exact ih1 _ _ _ _ _
      | exact ih2 _ _ _ _ _ _ _ _ _
      | exact LeO.none _
      | refine LeO.ite ?_ ?_
      | refine LeO.bind ?_ (fun _ => ?_)
    · intro y0 y1 y2 y3 y4
      unfold bag_allowed.l0
      repeat' first
      | (with_reducible exact ih0 _ _ _)
      | (with_reducible exact ih1 _ _ _ _ _)
      | (with_reducible exact ih2 _ _ _ _ _ _ _ _ _)
      | (with_reducible exact LeO.refl _)
      | (with_reducible exact LeO.none _)
      | (with_reducible refine LeO.ite ?_ ?_)
      | (with_reducible refine LeO.bind ?_ (fun _ => ?_))
      | exact ih0 _ _ _
      | exact ih1 _ _ _ _ _
      | exact ih2 _ _ _ _ _ _ _ _ _
      | exact LeO.none _
      | refine LeO.ite ?_ ?_
      | refine LeO.bind ?_ (fun _ => ?_)
    · intro y0 y1 y2 y3 y4 y5 y6 y7 y8
      unfold bag_allowed.j2
      repeat' first
      | (with_reducible exact ih0 _ _ _)
      | (with_reducible exact ih1 _ _ _ _ _)
      | (with_reducible exact ih2 _ _ _ _ _ _ _ _ _)
      | (with_reducible exact LeO.refl _)
      | (with_reducible exact LeO.none _)
      | (with_reducible refine LeO.ite ?_ ?_)
      | (with_reducible refine LeO.bind ?_ (fun _ => ?_))
      | exact ih0 _ _ _
      | exact ih1 _ _ _ _ _
      | exact ih2 _ _ _ _ _ _ _ _ _
      | exact LeO.none _
      | refine LeO.ite ?_ ?_
      | refine LeO.bind ?_ (fun _ => ?_)
theorem bag_allowed.mono : ∀ a0 a1 a2 k, LeO (bag_allowed.f k a0 a1 a2) (bag_allowed.f (k + 1) a0 a1 a2) := by
  intro a0 a1 a2 k
  obtain ⟨ih0, ih1, ih2⟩ := bag_allowed.mono_l k
  unfold bag_allowed.f
  repeat' first
      | (with_reducible exact ih0 _ _ _)
      | (with_reducible exact ih1 _ _ _ _ _)
      | (with_reducible exact ih2 _ _ _ _ _ _ _ _ _)
      | (with_reducible exact LeO.refl _)
      | (with_reducible exact LeO.none _)
      | (with_reducible refine LeO.ite ?_ ?_)
      | (with_reducible refine LeO.bind ?_ (fun _ => ?_))
      | exact ih0 _ _ _
      | exact ih1 _ _ _ _ _
      | exact ih2 _ _ _ _ _ _ _ _ _
      | exact LeO.none _
      | refine LeO.ite ?_ ?_
      | refine LeO.bind ?_ (fun _ => ?_)
set_option maxHeartbeats 8000000 in
set_option maxRecDepth 100000 in
theorem bag_allowed.calls (k : Nat) (a0 : Int) (a1 : Bool) (A2 : Option Addr) (c2 : Nat) (l2 : List (S36)) (r : Bool) (w : World) (hr2 : Kd.C k36 w A2 l2.length l2) (hc2 : l2.length ≤ c2) (h : bag_allowed.f k a0 a1 l2 = some r) :
    Calls Tryz.prog 56 #[.int .u8 a0, .bool a1, .slice A2 l2.length c2] w fun e w' => e = .returned (.bool r) ∧ Below w.heap.size w w' := by
  have hu36 := Tryz.underlying36
  have HR2 := Aside0.mk hr2
  have HC2 := Aside0.mk hc2
  clear hr2 hc2
  have HB := Aside0.mk (Below.refl w.heap.size w)
  have H : (if a0 > 5 then (bag_allowed.j0 k a0 l2 true) else (if a0 = 0 then (bag_allowed.j0 k a0 l2 a1) else (bag_allowed.j0 k a0 l2 false))) = some r := h
  clear h
  have HC4 := Aside0.mk H
  clear H
  go_enter Tryz.func56, Tryz.ntmps56
  go_upto_region 1 with (fail)
  go_cut [19] (fun v19 wc => ∃ (kq : Nat) (x19_3 : Bool), v19 = .bool x19_3 ∧ Aside0 (bag_allowed.j0 kq a0 l2 x19_3 = some r) ∧ Aside0 (kq ≤ k) ∧ Aside0 (Below w.heap.size w wc))
  case first =>
    have H := HC4.out
    clear HC4
    by_cases c5 : a0 > 5
    · rw [if_pos c5] at H
      have c5b0 : decide (5 < a0) = true := decide_eq_true c5
      clear c5
      (first | rw [c5b0] | (simp only [i64_w, i32_w]; rw [c5b0]) | skip)
      have H' := Aside0.mk H
      clear H
      go_wp2
      go_meet
      case rel => exact ⟨_, (true), (by first | rfl | (simp; done) | (simp [*]; done)), H', ⟨by first | omega | exact Nat.le_refl _⟩, ⟨by repeat (first | (with_reducible first | exact HB.out | apply below_alloc | apply pw_below_drewN | apply below_drew1) | exact HB.out)⟩⟩
    · rw [if_neg c5] at H
      have c5b0 : decide (5 < a0) = false := decide_eq_false c5
      clear c5
      (first | rw [c5b0] | (simp only [i64_w, i32_w]; rw [c5b0]) | skip)
      by_cases c6 : a0 = 0
      · rw [if_pos c6] at H
        have c6b0 : (a0 == 0) = true := beq_iff_eq.mpr c6
        have c6b1 : (a0 != 0) = false := bne_eq_false_iff_eq.mpr c6
        clear c6
        have H' := Aside0.mk H
        clear H
        go_wp2
        go_meet
        case rel => exact ⟨_, (a1), (by first | rfl | (simp; done) | (simp [*]; done)), H', ⟨by first | omega | exact Nat.le_refl _⟩, ⟨by repeat (first | (with_reducible first | exact HB.out | apply below_alloc | apply pw_below_drewN | apply below_drew1) | exact HB.out)⟩⟩
      · rw [if_neg c6] at H
        have c6b0 : (a0 == 0) = false := beq_eq_false_iff_ne.mpr c6
        have c6b1 : (a0 != 0) = true := bne_iff_ne.mpr c6
        have H' := Aside0.mk H
        clear H
        go_wp2
        go_meet
        case rel => exact ⟨_, (false), (by first | rfl | (simp; done) | (simp [*]; done)), H', ⟨by first | omega | exact Nat.le_refl _⟩, ⟨by repeat (first | (with_reducible first | exact HB.out | apply below_alloc | apply pw_below_drewN | apply below_drew1) | exact HB.out)⟩⟩
  case rest =>
    clear HC4
    try clear c2
    try clear p2
    try clear c5
    try clear c5b0
    try clear c6
    try clear c6b0
    try clear c6b1
    obtain ⟨kq, x19_3, rfl, HA, HJ3, HB⟩ := hcut
    cases kq with
    | zero => exact absurd HA.out (by simp [bag_allowed.j0])
    | succ kj3 =>
      have H := HA.out
      clear HA
      simp only [bag_allowed.j0] at H
      by_cases c7 : x19_3 = true
      · subst c7
        have H1 : (some false) = some r := by rw [if_pos rfl] at H; exact H
        clear H
        have H := H1
        clear H1
        obtain rfl := Option.some.inj H
        go_wp2
        go_ret
        exact ⟨by first | rfl | (simp [errW_none, errW_some] <;> rfl) | (simp [*, errW_none, errW_some] <;> rfl), by repeat (first | (with_reducible first | exact HB.out | apply below_alloc | apply pw_below_drewN | apply below_drew1) | exact HB.out)⟩
      · replace c7 := Bool.eq_false_iff.mpr c7
        subst c7
        have H1 : (bag_allowed.l0 kj3 a0 0 l2 (l2.length : Int) 0) = some r := by rw [if_neg (show ¬ (false = true) by decide)] at H; exact H
        clear H
        have H := H1
        clear H1
        have H' := Aside0.mk H
        clear H
        go_wp2
        go_loopg [7, 22] kj3 (fun kq v7 v22 w' => ∃ (x7_2 : Int) (x22_2 : Int), v7 = .int .u8 x7_2 ∧ v22 = .int .i64 x22_2 ∧ Aside0 (bag_allowed.l0 kq a0 x7_2 l2 (l2.length : Int) x22_2 = some r) ∧ Aside0 (kq ≤ kj3) ∧ Aside0 (Below w.heap.size w w'))
        case atStart => exact ⟨(0), (0), (by first | rfl | (simp; done) | (simp [*]; done)), (by first | rfl | (simp; done) | (simp [*]; done)), H', ⟨Nat.le_refl _⟩, ⟨by repeat (first | (with_reducible first | exact HB.out | apply below_alloc | apply pw_below_drewN | apply below_drew1) | exact HB.out)⟩⟩
        case round =>
          clear H'
          try clear c2
          try clear p2
          try clear c5
          try clear c5b0
          try clear c6
          try clear c6b0
          try clear c6b1
          try clear c7
          try clear p2
          obtain ⟨x7_2, x22_2, rfl, rfl, HA, HK2, HB⟩ := hrel
          cases gk with
          | zero => exact absurd HA.out (by simp [bag_allowed.l0])
          | succ k2 =>
            have H := HA.out
            clear HA
            simp only [bag_allowed.l0] at H
            by_cases c8 : x22_2 < (l2.length : Int)
            · rw [if_pos c8] at H
              have c8b0 : decide (x22_2 < (l2.length : Int)) = true := decide_eq_true c8
              clear c8
              by_cases c9 : 0 ≤ x22_2
              · rw [if_pos c9] at H
                have c9b0 : decide (0 ≤ x22_2) = true := decide_eq_true c9
                clear c9
                by_cases c10 : x22_2 < (l2.length : Int)
                · rw [if_pos c10] at H
                  have c10b0 : decide (x22_2 < (l2.length : Int)) = true := decide_eq_true c10
                  clear c10
                  have HC11 := Aside0.mk H
                  clear H
                  have p112 : 0 ≤ (x22_2 : Int) := of_decide_eq_true (by first | (with_reducible assumption) | assumption)
                  have q112 : x22_2 < (l2.length : Int) := of_decide_eq_true (by first | (with_reducible assumption) | assumption)
                  obtain ⟨ad112, e112, hx112_0, hx112_1, hx112_2⟩ := at_T36 HR2.out x22_2 p112 q112
                  cases e112
                  replace hx112_0 := (HB.out.cell (World.block_lt_of_cell? w _ hx112_0)).trans hx112_0
                  replace hx112_1 := (HB.out.cell (World.block_lt_of_cell? w _ hx112_1)).trans hx112_1
                  replace hx112_2 := (HB.out.cell (World.block_lt_of_cell? w _ hx112_2)).trans hx112_2
                  replace p112 := eq_true p112
                  replace q112 := eq_true q112
                  go_upto_region 7 with (first | ((with_reducible refine gate_dst (N := 9) rfl ?_); refine box_event ?hg (N := 9) ?hd (cs := #[.int .u8 0, .int .i64 0, .string (⟨#[]⟩ : ByteArray)]) (t := 36) ?hr ?_; (case hd => rfl); (case hg => rfl); (case hr => first | (go_simp; done) | (go_simp; rfl)); intro gb113 hg w12 hbox hb; have n0_ := Aside0.mk (below_step (by repeat (first | (with_reducible first | exact HB.out | apply below_alloc | apply pw_below_drewN | apply below_drew1) | exact HB.out)) hb); have n1_ := Aside0.mk (hbox); have n2_ := Aside0.mk ((by rw [hg]; exact (below_size (by repeat (first | (with_reducible first | exact HB.out | apply below_alloc | apply pw_below_drewN | apply below_drew1) | exact HB.out))) : w.heap.size ≤ gb113)); have n3_ := Aside0.mk ((by rw [hg]; exact (below_size (by repeat (first | (with_reducible first | exact HB.out | apply below_alloc | apply pw_below_drewN | apply below_drew1) | exact HB.out))) : w.heap.size ≤ gb113)); clear HB; have HB := n0_; have BK113 := n1_; have GW113 := n2_; have GE113 := n3_; clear n0_ n1_ n2_ n3_; clear hb hbox hg; have hcz13_0 : w12.cell? ⟨gb113, 0, none⟩ = some (.int .u8 0) := (blk_cell BK113.out 0).trans rfl; have hcz13_1 : w12.cell? ⟨gb113, 1, none⟩ = some (.int .i64 0) := (blk_cell BK113.out 1).trans rfl; have hcz13_2 : w12.cell? ⟨gb113, 2, none⟩ = some (.string (⟨#[]⟩ : ByteArray)) := (blk_cell BK113.out 2).trans rfl; have hfz13_0 := blk_frozen BK113.out 0; have hfz13_1 := blk_frozen BK113.out 1; have hfz13_2 := blk_frozen BK113.out 2))
                  (try simp only [Act.put, List.setIfInBounds_toArray, List.set_cons_zero, List.set_cons_succ])
                  go_cut [43] (fun v43 wc => ∃ (kq : Nat) (x43_10 : Bool), v43 = .bool x43_10 ∧ Aside0 (bag_allowed.j2 kq a0 x7_2 l2 (l2.length : Int) x22_2 x43_10 ((rd_T36 l2 x22_2).f0) ((rd_T36 l2 x22_2).f1) ((rd_T36 l2 x22_2).f2) = some r) ∧ Aside0 (kq ≤ k2) ∧ Aside0 (wc.heap[gb113]? = some (.cells #[.int .u8 ((rd_T36 l2 x22_2).f0), .int .i64 ((rd_T36 l2 x22_2).f1), .string ((rd_T36 l2 x22_2).f2)] 36 (0, 0))) ∧ Aside0 (Below w.heap.size w wc))
                  case first =>
                    have H := HC11.out
                    clear HC11
                    replace H := Option.bind_eq_some_iff.mp H
                    obtain ⟨t114, A140, H⟩ := H
                    replace H : (if t114 = true then (if x7_2 = 0 then (bag_allowed.j2 k2 a0 x7_2 l2 (l2.length : Int) x22_2 false ((rd_T36 l2 x22_2).f0) ((rd_T36 l2 x22_2).f1) ((rd_T36 l2 x22_2).f2)) else (if ((rd_T36 l2 x22_2).f0) = 0 then (bag_allowed.j2 k2 a0 x7_2 l2 (l2.length : Int) x22_2 false ((rd_T36 l2 x22_2).f0) ((rd_T36 l2 x22_2).f1) ((rd_T36 l2 x22_2).f2)) else (bag_allowed.j2 k2 a0 x7_2 l2 (l2.length : Int) x22_2 (((rd_T36 l2 x22_2).f0) != x7_2) ((rd_T36 l2 x22_2).f0) ((rd_T36 l2 x22_2).f1) ((rd_T36 l2 x22_2).f2)))) else (bag_allowed.j2 k2 a0 x7_2 l2 (l2.length : Int) x22_2 true ((rd_T36 l2 x22_2).f0) ((rd_T36 l2 x22_2).f1) ((rd_T36 l2 x22_2).f2))) = some r := H
                    have A14 := Aside0.mk A140
                    clear A140
                    by_cases c15 : t114 = true
                    · subst c15
                      have H1 : (if x7_2 = 0 then (bag_allowed.j2 k2 a0 x7_2 l2 (l2.length : Int) x22_2 false ((rd_T36 l2 x22_2).f0) ((rd_T36 l2 x22_2).f1) ((rd_T36 l2 x22_2).f2)) else (if ((rd_T36 l2 x22_2).f0) = 0 then (bag_allowed.j2 k2 a0 x7_2 l2 (l2.length : Int) x22_2 false ((rd_T36 l2 x22_2).f0) ((rd_T36 l2 x22_2).f1) ((rd_T36 l2 x22_2).f2)) else (bag_allowed.j2 k2 a0 x7_2 l2 (l2.length : Int) x22_2 (((rd_T36 l2 x22_2).f0) != x7_2) ((rd_T36 l2 x22_2).f0) ((rd_T36 l2 x22_2).f1) ((rd_T36 l2 x22_2).f2)))) = some r := by rw [if_pos rfl] at H; exact H
                      clear H
                      have H := H1
                      clear H1
                      by_cases c16 : x7_2 = 0
                      · rw [if_pos c16] at H
                        have c16b0 : (x7_2 == 0) = true := beq_iff_eq.mpr c16
                        have c16b1 : (x7_2 != 0) = false := bne_eq_false_iff_eq.mpr c16
                        clear c16
                        (first | rw [c16b0] | (simp only [i64_w, i32_w]; rw [c16b0]) | skip)
                        have H' := Aside0.mk H
                        clear H
                        have hcz17_0 : w12.cell? ⟨gb113, 0, none⟩ = some (.int .u8 0) := (blk_cell BK113.out 0).trans rfl
                        have hcz17_1 : w12.cell? ⟨gb113, 1, none⟩ = some (.int .i64 0) := (blk_cell BK113.out 1).trans rfl
                        have hcz17_2 : w12.cell? ⟨gb113, 2, none⟩ = some (.string (⟨#[]⟩ : ByteArray)) := (blk_cell BK113.out 2).trans rfl
                        have hfz17_0 := blk_frozen BK113.out 0
                        have hfz17_1 := blk_frozen BK113.out 1
                        have hfz17_2 := blk_frozen BK113.out 2
                        go_wp2_with (first | ((with_reducible refine gate_callee (f := 42) rfl ?_); refine goesL_ (some 27) rfl rfl Tryz.func42 (by kernel_rfl) rfl #[.agg #[.int .u8 ((rd_T36 l2 x22_2).f0), .int .i64 ((rd_T36 l2 x22_2).f1), .string ((rd_T36 l2 x22_2).f2)]] rfl (by (try simp only [List.map_toArray, List.map_cons, List.map_nil]); first | done | rfl | (simp only [List.length_drop, List.length_take]; rfl)) ?_; (with_reducible refine (value_Valid.calls ((rd_T36 l2 x22_2).f0) ((rd_T36 l2 x22_2).f1) ((rd_T36 l2 x22_2).f2) true _ A14.out).mono ?_); rintro e w18 ⟨rfl, hb⟩; refine ⟨_, rfl, ?_⟩; have n0_ := Aside0.mk (blk_below (g := gb113) (o := .cells #[.int .u8 ((rd_T36 l2 x22_2).f0), .int .i64 ((rd_T36 l2 x22_2).f1), .string ((rd_T36 l2 x22_2).f2)] 36 (0, 0)) (by (with_reducible repeat (first | refine blk_drewN ?_ _ | refine blk_drew ?_ | refine blk_alloc ?_ _)); refine blk_put (cs := #[.int .u8 ((rd_T36 l2 x22_2).f0), .int .i64 ((rd_T36 l2 x22_2).f1), .string (⟨#[]⟩ : ByteArray)]) ?_ 2 _ rfl; (with_reducible repeat (first | refine blk_drewN ?_ _ | refine blk_drew ?_ | refine blk_alloc ?_ _)); refine blk_put (cs := #[.int .u8 ((rd_T36 l2 x22_2).f0), .int .i64 0, .string (⟨#[]⟩ : ByteArray)]) ?_ 1 _ rfl; (with_reducible repeat (first | refine blk_drewN ?_ _ | refine blk_drew ?_ | refine blk_alloc ?_ _)); refine blk_put (cs := #[.int .u8 0, .int .i64 0, .string (⟨#[]⟩ : ByteArray)]) ?_ 0 _ rfl; (with_reducible repeat (first | refine blk_drewN ?_ _ | refine blk_drew ?_ | refine blk_alloc ?_ _)); exact BK113.out) hb); have n1_ := Aside0.mk (below_step (by repeat (first | (with_reducible first | exact HB.out | apply below_alloc | apply pw_below_drewN | apply below_drew1 | refine below_set ?_ GE113.out) | exact HB.out)) hb); clear BK113; clear HB; have BK113 := n0_; have HB := n1_; clear n0_ n1_; (try clear hb); (try clear hb2); (try clear hk); (try clear hi)))
                        go_meet
                        case rel => exact ⟨_, (false), (by first | rfl | (simp; done) | (simp [*]; done)), H', ⟨by have := HJ3.out; have := HK2.out; first | omega | exact Nat.le_refl _⟩, ⟨by (with_reducible repeat (first | refine blk_drewN ?_ _ | refine blk_drew ?_ | refine blk_alloc ?_ _)); exact BK113.out⟩, ⟨by repeat (first | (with_reducible first | exact HB.out | apply below_alloc | apply pw_below_drewN | apply below_drew1 | refine below_set ?_ GE113.out) | exact HB.out)⟩⟩
                      · rw [if_neg c16] at H
                        have c16b0 : (x7_2 == 0) = false := beq_eq_false_iff_ne.mpr c16
                        have c16b1 : (x7_2 != 0) = true := bne_iff_ne.mpr c16
                        (first | rw [c16b0] | (simp only [i64_w, i32_w]; rw [c16b0]) | skip)
                        by_cases c19 : ((rd_T36 l2 x22_2).f0) = 0
                        · rw [if_pos c19] at H
                          have c19b0 : (((rd_T36 l2 x22_2).f0) == 0) = true := beq_iff_eq.mpr c19
                          have c19b1 : (((rd_T36 l2 x22_2).f0) != 0) = false := bne_eq_false_iff_eq.mpr c19
                          clear c19
                          have H' := Aside0.mk H
                          clear H
                          have hcz20_0 : w12.cell? ⟨gb113, 0, none⟩ = some (.int .u8 0) := (blk_cell BK113.out 0).trans rfl
                          have hcz20_1 : w12.cell? ⟨gb113, 1, none⟩ = some (.int .i64 0) := (blk_cell BK113.out 1).trans rfl
                          have hcz20_2 : w12.cell? ⟨gb113, 2, none⟩ = some (.string (⟨#[]⟩ : ByteArray)) := (blk_cell BK113.out 2).trans rfl
                          have hfz20_0 := blk_frozen BK113.out 0
                          have hfz20_1 := blk_frozen BK113.out 1
                          have hfz20_2 := blk_frozen BK113.out 2
                          go_wp2_with (first | ((with_reducible refine gate_callee (f := 42) rfl ?_); refine goesL_ (some 27) rfl rfl Tryz.func42 (by kernel_rfl) rfl #[.agg #[.int .u8 ((rd_T36 l2 x22_2).f0), .int .i64 ((rd_T36 l2 x22_2).f1), .string ((rd_T36 l2 x22_2).f2)]] rfl (by (try simp only [List.map_toArray, List.map_cons, List.map_nil]); first | done | rfl | (simp only [List.length_drop, List.length_take]; rfl)) ?_; (with_reducible refine (value_Valid.calls ((rd_T36 l2 x22_2).f0) ((rd_T36 l2 x22_2).f1) ((rd_T36 l2 x22_2).f2) true _ A14.out).mono ?_); rintro e w21 ⟨rfl, hb⟩; refine ⟨_, rfl, ?_⟩; have n0_ := Aside0.mk (blk_below (g := gb113) (o := .cells #[.int .u8 ((rd_T36 l2 x22_2).f0), .int .i64 ((rd_T36 l2 x22_2).f1), .string ((rd_T36 l2 x22_2).f2)] 36 (0, 0)) (by (with_reducible repeat (first | refine blk_drewN ?_ _ | refine blk_drew ?_ | refine blk_alloc ?_ _)); refine blk_put (cs := #[.int .u8 ((rd_T36 l2 x22_2).f0), .int .i64 ((rd_T36 l2 x22_2).f1), .string (⟨#[]⟩ : ByteArray)]) ?_ 2 _ rfl; (with_reducible repeat (first | refine blk_drewN ?_ _ | refine blk_drew ?_ | refine blk_alloc ?_ _)); refine blk_put (cs := #[.int .u8 ((rd_T36 l2 x22_2).f0), .int .i64 0, .string (⟨#[]⟩ : ByteArray)]) ?_ 1 _ rfl; (with_reducible repeat (first | refine blk_drewN ?_ _ | refine blk_drew ?_ | refine blk_alloc ?_ _)); refine blk_put (cs := #[.int .u8 0, .int .i64 0, .string (⟨#[]⟩ : ByteArray)]) ?_ 0 _ rfl; (with_reducible repeat (first | refine blk_drewN ?_ _ | refine blk_drew ?_ | refine blk_alloc ?_ _)); exact BK113.out) hb); have n1_ := Aside0.mk (below_step (by repeat (first | (with_reducible first | exact HB.out | apply below_alloc | apply pw_below_drewN | apply below_drew1 | refine below_set ?_ GE113.out) | exact HB.out)) hb); clear BK113; clear HB; have BK113 := n0_; have HB := n1_; clear n0_ n1_; (try clear hb); (try clear hb2); (try clear hk); (try clear hi); have hcz22_0 : w21.cell? ⟨gb113, 0, none⟩ = some (.int .u8 ((rd_T36 l2 x22_2).f0)) := (blk_cell BK113.out 0).trans rfl; have hcz22_1 : w21.cell? ⟨gb113, 1, none⟩ = some (.int .i64 ((rd_T36 l2 x22_2).f1)) := (blk_cell BK113.out 1).trans rfl; have hcz22_2 : w21.cell? ⟨gb113, 2, none⟩ = some (.string ((rd_T36 l2 x22_2).f2)) := (blk_cell BK113.out 2).trans rfl; have hfz22_0 := blk_frozen BK113.out 0; have hfz22_1 := blk_frozen BK113.out 1; have hfz22_2 := blk_frozen BK113.out 2))
                          go_meet
                          case rel => exact ⟨_, (false), (by first | rfl | (simp; done) | (simp [*]; done)), H', ⟨by have := HJ3.out; have := HK2.out; first | omega | exact Nat.le_refl _⟩, ⟨by (with_reducible repeat (first | refine blk_drewN ?_ _ | refine blk_drew ?_ | refine blk_alloc ?_ _)); exact BK113.out⟩, ⟨by repeat (first | (with_reducible first | exact HB.out | apply below_alloc | apply pw_below_drewN | apply below_drew1 | refine below_set ?_ GE113.out) | exact HB.out)⟩⟩
                        · rw [if_neg c19] at H
                          have c19b0 : (((rd_T36 l2 x22_2).f0) == 0) = false := beq_eq_false_iff_ne.mpr c19
                          have c19b1 : (((rd_T36 l2 x22_2).f0) != 0) = true := bne_iff_ne.mpr c19
                          have H' := Aside0.mk H
                          clear H
                          have hcz23_0 : w12.cell? ⟨gb113, 0, none⟩ = some (.int .u8 0) := (blk_cell BK113.out 0).trans rfl
                          have hcz23_1 : w12.cell? ⟨gb113, 1, none⟩ = some (.int .i64 0) := (blk_cell BK113.out 1).trans rfl
                          have hcz23_2 : w12.cell? ⟨gb113, 2, none⟩ = some (.string (⟨#[]⟩ : ByteArray)) := (blk_cell BK113.out 2).trans rfl
                          have hfz23_0 := blk_frozen BK113.out 0
                          have hfz23_1 := blk_frozen BK113.out 1
                          have hfz23_2 := blk_frozen BK113.out 2
                          go_wp2_with (first | ((with_reducible refine gate_callee (f := 42) rfl ?_); refine goesL_ (some 27) rfl rfl Tryz.func42 (by kernel_rfl) rfl #[.agg #[.int .u8 ((rd_T36 l2 x22_2).f0), .int .i64 ((rd_T36 l2 x22_2).f1), .string ((rd_T36 l2 x22_2).f2)]] rfl (by (try simp only [List.map_toArray, List.map_cons, List.map_nil]); first | done | rfl | (simp only [List.length_drop, List.length_take]; rfl)) ?_; (with_reducible refine (value_Valid.calls ((rd_T36 l2 x22_2).f0) ((rd_T36 l2 x22_2).f1) ((rd_T36 l2 x22_2).f2) true _ A14.out).mono ?_); rintro e w24 ⟨rfl, hb⟩; refine ⟨_, rfl, ?_⟩; have n0_ := Aside0.mk (blk_below (g := gb113) (o := .cells #[.int .u8 ((rd_T36 l2 x22_2).f0), .int .i64 ((rd_T36 l2 x22_2).f1), .string ((rd_T36 l2 x22_2).f2)] 36 (0, 0)) (by (with_reducible repeat (first | refine blk_drewN ?_ _ | refine blk_drew ?_ | refine blk_alloc ?_ _)); refine blk_put (cs := #[.int .u8 ((rd_T36 l2 x22_2).f0), .int .i64 ((rd_T36 l2 x22_2).f1), .string (⟨#[]⟩ : ByteArray)]) ?_ 2 _ rfl; (with_reducible repeat (first | refine blk_drewN ?_ _ | refine blk_drew ?_ | refine blk_alloc ?_ _)); refine blk_put (cs := #[.int .u8 ((rd_T36 l2 x22_2).f0), .int .i64 0, .string (⟨#[]⟩ : ByteArray)]) ?_ 1 _ rfl; (with_reducible repeat (first | refine blk_drewN ?_ _ | refine blk_drew ?_ | refine blk_alloc ?_ _)); refine blk_put (cs := #[.int .u8 0, .int .i64 0, .string (⟨#[]⟩ : ByteArray)]) ?_ 0 _ rfl; (with_reducible repeat (first | refine blk_drewN ?_ _ | refine blk_drew ?_ | refine blk_alloc ?_ _)); exact BK113.out) hb); have n1_ := Aside0.mk (below_step (by repeat (first | (with_reducible first | exact HB.out | apply below_alloc | apply pw_below_drewN | apply below_drew1 | refine below_set ?_ GE113.out) | exact HB.out)) hb); clear BK113; clear HB; have BK113 := n0_; have HB := n1_; clear n0_ n1_; (try clear hb); (try clear hb2); (try clear hk); (try clear hi); have hcz25_0 : w24.cell? ⟨gb113, 0, none⟩ = some (.int .u8 ((rd_T36 l2 x22_2).f0)) := (blk_cell BK113.out 0).trans rfl; have hcz25_1 : w24.cell? ⟨gb113, 1, none⟩ = some (.int .i64 ((rd_T36 l2 x22_2).f1)) := (blk_cell BK113.out 1).trans rfl; have hcz25_2 : w24.cell? ⟨gb113, 2, none⟩ = some (.string ((rd_T36 l2 x22_2).f2)) := (blk_cell BK113.out 2).trans rfl; have hfz25_0 := blk_frozen BK113.out 0; have hfz25_1 := blk_frozen BK113.out 1; have hfz25_2 := blk_frozen BK113.out 2))
                          go_meet
                          case rel => exact ⟨_, ((((rd_T36 l2 x22_2).f0) != x7_2)), (by first | rfl | (simp; done) | (simp [*]; done)), H', ⟨by have := HJ3.out; have := HK2.out; first | omega | exact Nat.le_refl _⟩, ⟨by (with_reducible repeat (first | refine blk_drewN ?_ _ | refine blk_drew ?_ | refine blk_alloc ?_ _)); exact BK113.out⟩, ⟨by repeat (first | (with_reducible first | exact HB.out | apply below_alloc | apply pw_below_drewN | apply below_drew1 | refine below_set ?_ GE113.out) | exact HB.out)⟩⟩
                    · replace c15 := Bool.eq_false_iff.mpr c15
                      subst c15
                      have H1 : (bag_allowed.j2 k2 a0 x7_2 l2 (l2.length : Int) x22_2 true ((rd_T36 l2 x22_2).f0) ((rd_T36 l2 x22_2).f1) ((rd_T36 l2 x22_2).f2)) = some r := by rw [if_neg (show ¬ (false = true) by decide)] at H; exact H
                      clear H
                      have H := H1
                      clear H1
                      have H' := Aside0.mk H
                      clear H
                      have hcz26_0 : w12.cell? ⟨gb113, 0, none⟩ = some (.int .u8 0) := (blk_cell BK113.out 0).trans rfl
                      have hcz26_1 : w12.cell? ⟨gb113, 1, none⟩ = some (.int .i64 0) := (blk_cell BK113.out 1).trans rfl
                      have hcz26_2 : w12.cell? ⟨gb113, 2, none⟩ = some (.string (⟨#[]⟩ : ByteArray)) := (blk_cell BK113.out 2).trans rfl
                      have hfz26_0 := blk_frozen BK113.out 0
                      have hfz26_1 := blk_frozen BK113.out 1
                      have hfz26_2 := blk_frozen BK113.out 2
                      go_wp2_with (first | ((with_reducible refine gate_callee (f := 42) rfl ?_); refine goesL_ (some 27) rfl rfl Tryz.func42 (by kernel_rfl) rfl #[.agg #[.int .u8 ((rd_T36 l2 x22_2).f0), .int .i64 ((rd_T36 l2 x22_2).f1), .string ((rd_T36 l2 x22_2).f2)]] rfl (by (try simp only [List.map_toArray, List.map_cons, List.map_nil]); first | done | rfl | (simp only [List.length_drop, List.length_take]; rfl)) ?_; (with_reducible refine (value_Valid.calls ((rd_T36 l2 x22_2).f0) ((rd_T36 l2 x22_2).f1) ((rd_T36 l2 x22_2).f2) false _ A14.out).mono ?_); rintro e w27 ⟨rfl, hb⟩; refine ⟨_, rfl, ?_⟩; have n0_ := Aside0.mk (blk_below (g := gb113) (o := .cells #[.int .u8 ((rd_T36 l2 x22_2).f0), .int .i64 ((rd_T36 l2 x22_2).f1), .string ((rd_T36 l2 x22_2).f2)] 36 (0, 0)) (by (with_reducible repeat (first | refine blk_drewN ?_ _ | refine blk_drew ?_ | refine blk_alloc ?_ _)); refine blk_put (cs := #[.int .u8 ((rd_T36 l2 x22_2).f0), .int .i64 ((rd_T36 l2 x22_2).f1), .string (⟨#[]⟩ : ByteArray)]) ?_ 2 _ rfl; (with_reducible repeat (first | refine blk_drewN ?_ _ | refine blk_drew ?_ | refine blk_alloc ?_ _)); refine blk_put (cs := #[.int .u8 ((rd_T36 l2 x22_2).f0), .int .i64 0, .string (⟨#[]⟩ : ByteArray)]) ?_ 1 _ rfl; (with_reducible repeat (first | refine blk_drewN ?_ _ | refine blk_drew ?_ | refine blk_alloc ?_ _)); refine blk_put (cs := #[.int .u8 0, .int .i64 0, .string (⟨#[]⟩ : ByteArray)]) ?_ 0 _ rfl; (with_reducible repeat (first | refine blk_drewN ?_ _ | refine blk_drew ?_ | refine blk_alloc ?_ _)); exact BK113.out) hb); have n1_ := Aside0.mk (below_step (by repeat (first | (with_reducible first | exact HB.out | apply below_alloc | apply pw_below_drewN | apply below_drew1 | refine below_set ?_ GE113.out) | exact HB.out)) hb); clear BK113; clear HB; have BK113 := n0_; have HB := n1_; clear n0_ n1_; (try clear hb); (try clear hb2); (try clear hk); (try clear hi)))
                      go_meet
                      case rel => exact ⟨_, (true), (by first | rfl | (simp; done) | (simp [*]; done)), H', ⟨by have := HJ3.out; have := HK2.out; first | omega | exact Nat.le_refl _⟩, ⟨by (with_reducible repeat (first | refine blk_drewN ?_ _ | refine blk_drew ?_ | refine blk_alloc ?_ _)); exact BK113.out⟩, ⟨by repeat (first | (with_reducible first | exact HB.out | apply below_alloc | apply pw_below_drewN | apply below_drew1 | refine below_set ?_ GE113.out) | exact HB.out)⟩⟩
                  case rest =>
                    clear HC11
                    try clear c1
                    try clear p1
                    try clear q1
                    try clear hx1
                    try clear c2
                    try clear p2
                    try clear c4
                    try clear c5
                    try clear c5b0
                    try clear c6
                    try clear c6b0
                    try clear c6b1
                    try clear c7
                    try clear c8
                    try clear c8b0
                    try clear c9
                    try clear c9b0
                    try clear c10
                    try clear c10b0
                    try clear p11
                    try clear q11
                    try clear hx11
                    try clear c15
                    try clear c16
                    try clear c16b0
                    try clear c16b1
                    try clear c19
                    try clear c19b0
                    try clear c19b1
                    try clear hcz13_0
                    try clear hcz13_1
                    try clear hcz13_2
                    try clear hcz17_0
                    try clear hcz17_1
                    try clear hcz17_2
                    try clear hcz20_0
                    try clear hcz20_1
                    try clear hcz20_2
                    try clear hcz22_0
                    try clear hcz22_1
                    try clear hcz22_2
                    try clear hcz23_0
                    try clear hcz23_1
                    try clear hcz23_2
                    try clear hcz25_0
                    try clear hcz25_1
                    try clear hcz25_2
                    try clear hcz26_0
                    try clear hcz26_1
                    try clear hcz26_2
                    try clear hfz13_0
                    try clear hfz13_1
                    try clear hfz13_2
                    try clear hfz17_0
                    try clear hfz17_1
                    try clear hfz17_2
                    try clear hfz20_0
                    try clear hfz20_1
                    try clear hfz20_2
                    try clear hfz22_0
                    try clear hfz22_1
                    try clear hfz22_2
                    try clear hfz23_0
                    try clear hfz23_1
                    try clear hfz23_2
                    try clear hfz25_0
                    try clear hfz25_1
                    try clear hfz25_2
                    try clear hfz26_0
                    try clear hfz26_1
                    try clear hfz26_2
                    try clear hx112_0
                    try clear hx112_1
                    try clear hx112_2
                    try clear p112
                    try clear p2
                    try clear q112
                    obtain ⟨kq, x43_10, rfl, HA, HJ10, BK113, HB⟩ := hcut
                    cases kq with
                    | zero => exact absurd HA.out (by simp [bag_allowed.j2])
                    | succ kj10 =>
                      have H := HA.out
                      clear HA
                      simp only [bag_allowed.j2] at H
                      by_cases c28 : x43_10 = true
                      · subst c28
                        have H1 : (some false) = some r := by rw [if_pos rfl] at H; exact H
                        clear H
                        have H := H1
                        clear H1
                        obtain rfl := Option.some.inj H
                        go_wp2
                        go_ret
                        exact ⟨by first | rfl | (simp [errW_none, errW_some] <;> rfl) | (simp [*, errW_none, errW_some] <;> rfl), by repeat (first | (with_reducible first | exact HB.out | apply below_alloc | apply pw_below_drewN | apply below_drew1 | refine below_set ?_ GE113.out) | exact HB.out)⟩
                      · replace c28 := Bool.eq_false_iff.mpr c28
                        subst c28
                        have H1 : (if ((rd_T36 l2 x22_2).f0) = 0 then (bag_allowed.l0 kj10 a0 x7_2 l2 (l2.length : Int) (wrap64 (x22_2 + 1))) else (bag_allowed.l0 kj10 a0 ((rd_T36 l2 x22_2).f0) l2 (l2.length : Int) (wrap64 (x22_2 + 1)))) = some r := by rw [if_neg (show ¬ (false = true) by decide)] at H; exact H
                        clear H
                        have H := H1
                        clear H1
                        by_cases c29 : ((rd_T36 l2 x22_2).f0) = 0
                        · rw [if_pos c29] at H
                          have c29b0 : (((rd_T36 l2 x22_2).f0) == 0) = true := beq_iff_eq.mpr c29
                          have c29b1 : (((rd_T36 l2 x22_2).f0) != 0) = false := bne_eq_false_iff_eq.mpr c29
                          clear c29
                          have H' := Aside0.mk H
                          clear H
                          have hcz30_0 : wc.cell? ⟨gb113, 0, none⟩ = some (.int .u8 ((rd_T36 l2 x22_2).f0)) := (blk_cell BK113.out 0).trans rfl
                          have hcz30_1 : wc.cell? ⟨gb113, 1, none⟩ = some (.int .i64 ((rd_T36 l2 x22_2).f1)) := (blk_cell BK113.out 1).trans rfl
                          have hcz30_2 : wc.cell? ⟨gb113, 2, none⟩ = some (.string ((rd_T36 l2 x22_2).f2)) := (blk_cell BK113.out 2).trans rfl
                          have hfz30_0 := blk_frozen BK113.out 0
                          have hfz30_1 := blk_frozen BK113.out 1
                          have hfz30_2 := blk_frozen BK113.out 2
                          go_wp2
                          go_roundg kj10
                          case measure => have := HJ3.out; have := HK2.out; have := HJ10.out; omega
                          case rel => exact ⟨(x7_2), (wrap64 (x22_2 + 1)), (by first | rfl | (simp; done) | (simp [*]; done)), (by first | rfl | (simp; done) | (simp [*]; done)), H', ⟨by have := HJ3.out; have := HK2.out; have := HJ10.out; omega⟩, ⟨by repeat (first | (with_reducible first | exact HB.out | apply below_alloc | apply pw_below_drewN | apply below_drew1 | refine below_set ?_ GE113.out) | exact HB.out)⟩⟩
                        · rw [if_neg c29] at H
                          have c29b0 : (((rd_T36 l2 x22_2).f0) == 0) = false := beq_eq_false_iff_ne.mpr c29
                          have c29b1 : (((rd_T36 l2 x22_2).f0) != 0) = true := bne_iff_ne.mpr c29
                          have H' := Aside0.mk H
                          clear H
                          have hcz31_0 : wc.cell? ⟨gb113, 0, none⟩ = some (.int .u8 ((rd_T36 l2 x22_2).f0)) := (blk_cell BK113.out 0).trans rfl
                          have hcz31_1 : wc.cell? ⟨gb113, 1, none⟩ = some (.int .i64 ((rd_T36 l2 x22_2).f1)) := (blk_cell BK113.out 1).trans rfl
                          have hcz31_2 : wc.cell? ⟨gb113, 2, none⟩ = some (.string ((rd_T36 l2 x22_2).f2)) := (blk_cell BK113.out 2).trans rfl
                          have hfz31_0 := blk_frozen BK113.out 0
                          have hfz31_1 := blk_frozen BK113.out 1
                          have hfz31_2 := blk_frozen BK113.out 2
                          go_wp2
                          go_roundg kj10
                          case measure => have := HJ3.out; have := HK2.out; have := HJ10.out; omega
                          case rel => exact ⟨(((rd_T36 l2 x22_2).f0)), (wrap64 (x22_2 + 1)), (by first | rfl | (simp; done) | (simp [*]; done)), (by first | rfl | (simp; done) | (simp [*]; done)), H', ⟨by have := HJ3.out; have := HK2.out; have := HJ10.out; omega⟩, ⟨by repeat (first | (with_reducible first | exact HB.out | apply below_alloc | apply pw_below_drewN | apply below_drew1 | refine below_set ?_ GE113.out) | exact HB.out)⟩⟩
                · rw [if_neg c10] at H
                  exact absurd H (by simp)
              · rw [if_neg c9] at H
                exact absurd H (by simp)
            · rw [if_neg c8] at H
              have c8b0 : decide (x22_2 < (l2.length : Int)) = false := decide_eq_false c8
              clear c8
              by_cases c32 : x7_2 = 0
              · rw [if_pos c32] at H
                have c32b0 : (x7_2 == 0) = true := beq_iff_eq.mpr c32
                have c32b1 : (x7_2 != 0) = false := bne_eq_false_iff_eq.mpr c32
                clear c32
                obtain rfl := Option.some.inj H
                go_wp2
                go_ret
                exact ⟨by first | rfl | (simp [errW_none, errW_some] <;> rfl) | (simp [*, errW_none, errW_some] <;> rfl), by repeat (first | (with_reducible first | exact HB.out | apply below_alloc | apply pw_below_drewN | apply below_drew1) | exact HB.out)⟩
              · rw [if_neg c32] at H
                have c32b0 : (x7_2 == 0) = false := beq_eq_false_iff_ne.mpr c32
                have c32b1 : (x7_2 != 0) = true := bne_iff_ne.mpr c32
                by_cases c33 : x7_2 = 1
                · rw [if_pos c33] at H
                  have c33b0 : (x7_2 == 1) = true := beq_iff_eq.mpr c33
                  have c33b1 : (x7_2 != 1) = false := bne_eq_false_iff_eq.mpr c33
                  clear c33
                  obtain rfl := Option.some.inj H
                  go_wp2
                  go_ret
                  exact ⟨by first | rfl | (simp [errW_none, errW_some] <;> rfl) | (simp [*, errW_none, errW_some] <;> rfl), by repeat (first | (with_reducible first | exact HB.out | apply below_alloc | apply pw_below_drewN | apply below_drew1) | exact HB.out)⟩
                · rw [if_neg c33] at H
                  have c33b0 : (x7_2 == 1) = false := beq_eq_false_iff_ne.mpr c33
                  have c33b1 : (x7_2 != 1) = true := bne_iff_ne.mpr c33
                  by_cases c34 : a0 = 2
                  · rw [if_pos c34] at H
                    have c34b0 : (a0 == 2) = true := beq_iff_eq.mpr c34
                    have c34b1 : (a0 != 2) = false := bne_eq_false_iff_eq.mpr c34
                    clear c34
                    obtain rfl := Option.some.inj H
                    go_wp2
                    go_ret
                    exact ⟨by first | rfl | (simp [errW_none, errW_some] <;> rfl) | (simp [*, errW_none, errW_some] <;> rfl), by repeat (first | (with_reducible first | exact HB.out | apply below_alloc | apply pw_below_drewN | apply below_drew1) | exact HB.out)⟩
                  · rw [if_neg c34] at H
                    have c34b0 : (a0 == 2) = false := beq_eq_false_iff_ne.mpr c34
                    have c34b1 : (a0 != 2) = true := bne_iff_ne.mpr c34
                    obtain rfl := Option.some.inj H
                    go_wp2
                    go_ret
                    exact ⟨by first | rfl | (simp [errW_none, errW_some] <;> rfl) | (simp [*, errW_none, errW_some] <;> rfl), by repeat (first | (with_reducible first | exact HB.out | apply below_alloc | apply pw_below_drewN | apply below_drew1) | exact HB.out)⟩
end Go.Proofs.YtecgkcgfeghhgaaGreatDoor.PAll
set_option linter.unusedVariables false
set_option linter.unusedSimpArgs false
namespace Go.Proofs.YtecgkcgfeghhgaaGreatDoor.PAll
open Go.RowKit Go.Proofs.YtecgkcgfeghhgaaGreatDoorW.PrintWords Go.Proofs.YtecgkcgfeghhgaaGreatDoorW.PrintLast Go.Proofs.YtecgkcgfeghhgaaGreatDoorW.PrintMore
def cmpBy : List KeyT → List V → List V → Int
  | [], _, _ => 0
  | k :: ks, a, b => if compareV (rd_T36 a k.f0) (rd_T36 b k.f0) = 0 then cmpBy ks a b else if k.f1 = true then -compareV (rd_T36 a k.f0) (rd_T36 b k.f0) else compareV (rd_T36 a k.f0) (rd_T36 b k.f0)
theorem cmpI_bd (a b : Int) : -1 ≤ cmpI a b ∧ cmpI a b ≤ 1 := by unfold cmpI; split <;> (try split) <;> omega
theorem compareBytes_bd : ∀ a b : List UInt8, -1 ≤ Lib.compareBytes a b ∧ Lib.compareBytes a b ≤ 1
  | [], [] => by simp [Lib.compareBytes]
  | [], _ :: _ => by simp [Lib.compareBytes]
  | _ :: _, [] => by simp [Lib.compareBytes]
  | a :: x, b :: y => by
    have := compareBytes_bd x y
    simp only [Lib.compareBytes]
    split
    · omega
    · split <;> omega
theorem compareV_bd (a b : V) : -1 ≤ compareV a b ∧ compareV a b ≤ 1 := by
  unfold compareV
  have h1 := cmpI_bd a.f0 b.f0
  have h2 := cmpI_bd a.f1 b.f1
  have h3 := compareBytes_bd a.f2.data.toList b.f2.data.toList
  split
  · split
    · omega
    · split <;> omega
  · omega
def KeysIn (ks : List KeyT) (n : Nat) : Prop := ∀ k ∈ ks, 0 ≤ k.f0 ∧ k.f0 < (n : Int)
set_option maxHeartbeats 8000000 in
set_option maxRecDepth 100000 in
theorem order1_calls (A0 : Option Addr) (c0 : Nat) (l0 : List V) (A1 : Option Addr) (c1 : Nat) (l1 : List V) (kb : Nat) (AK : Option Addr) (cK : Nat) (ks : List KeyT) (w : World) (hr0 : Kd.C kV w A0 l0.length l0) (hr1 : Kd.C kV w A1 l1.length l1) (hcell : w.cell? ⟨kb, 0, none⟩ = some (.slice AK ks.length cK)) (hks : Kd.C kKey w AK ks.length ks) (hin0 : KeysIn ks l0.length) (hin1 : KeysIn ks l1.length) (hk : ∀ v ∈ l0, KindOk v) (hn : ks.length ≤ 1099511627776) :
    Calls Tryz.prog 90 #[.slice A0 l0.length c0, .slice A1 l1.length c1, .pointer (some ⟨kb, 0, none⟩)] w fun e w' => e = .returned (.int .i64 (cmpBy ks l0 l1)) ∧ Gr w w' := by
  have HR0 := Aside0.mk hr0
  have HR1 := Aside0.mk hr1
  have HKS := Aside0.mk hks
  have HI0 := Aside0.mk hin0
  have HI1 := Aside0.mk hin1
  have HK := Aside0.mk hk
  have HN := Aside0.mk hn
  clear hr0 hr1 hks hin0 hin1 hk hn
  go_enter Tryz.func90, Tryz.ntmps90
  go_wp2
  clear hcell
  go_loopg [11] ks.length (fun kq v11 W => ∃ x : Int, v11 = .int .i64 x ∧ Aside0 (0 ≤ x ∧ x ≤ ks.length ∧ (kq : Int) = ks.length - x) ∧ Aside0 (cmpBy ks l0 l1 = cmpBy (ks.drop x.toNat) l0 l1) ∧ Aside0 (Gr w W))
  case atStart => exact ⟨0, rfl, ⟨by omega⟩, ⟨rfl⟩, ⟨Gr.refl _⟩⟩
  case round =>
    obtain ⟨x, rfl, HX, HI, HB⟩ := hrel
    obtain ⟨hx0, hx1, hkq⟩ := HX.out
    by_cases hlt : x < (ks.length : Int)
    · have c1' : decide (x < (ks.length : Int)) = true := decide_eq_true hlt
      have c2 : decide (0 ≤ x) = true := decide_eq_true hx0
      obtain ⟨ad, e, hx_0, hx_1⟩ := at_T64 HKS.out x hx0 hlt
      cases e
      replace hx_0 := (HB.out.below.cell (World.block_lt_of_cell? w _ hx_0)).trans hx_0
      replace hx_1 := (HB.out.below.cell (World.block_lt_of_cell? w _ hx_1)).trans hx_1
      have hi : x.toNat < ks.length := by omega
      have hrd : rd_T64 ks x = ks[x.toNat] := by simp [rd_T64, List.getElem?_eq_getElem hi]
      have hI0 := HI0.out (rd_T64 ks x) (by rw [hrd]; exact List.getElem_mem hi)
      have hI1 := HI1.out (rd_T64 ks x) (by rw [hrd]; exact List.getElem_mem hi)
      rw [drop_cons ks x.toNat hi, ← hrd] at HI
      obtain ⟨y, hy⟩ : ∃ y, y = rd_T64 ks x := ⟨_, rfl⟩
      rw [← hy] at hx_0 hx_1 HI hI0 hI1
      obtain ⟨n, hn⟩ : ∃ n, n = y.f0 := ⟨_, rfl⟩
      obtain ⟨d, hd⟩ : ∃ d, d = y.f1 := ⟨_, rfl⟩
      rw [← hn] at hx_0 hI0 hI1
      rw [← hd] at hx_1
      have HD := Aside0.mk hd
      clear hd
      obtain ⟨hn0, hn1⟩ := hI0
      obtain ⟨_, hn2⟩ := hI1
      have HWR : Aside0 (wrap64 (x + 1) = x + 1) := ⟨by have := HN.out; unfold wrap64; omega⟩
      have HLT := Aside0.mk hlt
      have HKQ := Aside0.mk hkq
      have HNE := Aside0.mk hn
      have HHI := Aside0.mk hi
      clear hy hkq hrd hn
      clear hi
      have n1 : decide (0 ≤ n) = true := decide_eq_true hn0
      have n2 : decide (n < (l0.length : Int)) = true := decide_eq_true hn1
      have n3 : decide (n < (l1.length : Int)) = true := decide_eq_true hn2
      obtain ⟨adA, e, ha_0, ha_1, ha_2⟩ := at_T36 HR0.out n hn0 hn1
      cases e
      obtain ⟨adB, e, hb_0, hb_1, hb_2⟩ := at_T36 HR1.out n hn0 hn2
      cases e
      have hkv : KindOk (rd_T36 l0 n) := HK.out _ (by
        have : n.toNat < l0.length := by omega
        simp [rd_T36, List.getElem?_eq_getElem this])
      obtain ⟨va, hva⟩ : ∃ v, v = rd_T36 l0 n := ⟨_, rfl⟩
      obtain ⟨vb, hvb⟩ : ∃ v, v = rd_T36 l1 n := ⟨_, rfl⟩
      rw [← hva] at ha_0 ha_1 ha_2 hkv
      rw [← hvb] at hb_0 hb_1 hb_2
      have HKV := Aside0.mk hkv
      have HVA := Aside0.mk hva
      have HVB := Aside0.mk hvb
      clear hva hvb hkv
      have B2 := Aside0.mk (HB.out.alloc (.cells #[.int .i64 n, .bool d] 64))
      obtain ⟨W2, hW2⟩ : ∃ W2, W2 = wr.alloc (.cells #[.int .i64 n, .bool d] 64) := ⟨_, rfl⟩
      have D0 : W2.cell? ⟨wr.heap.size, 0, none⟩ = some (.int .i64 n) := by rw [hW2]; exact (blk_cell (heap_alloc_new _ _) 0).trans rfl
      have D1 : W2.cell? ⟨wr.heap.size, 1, none⟩ = some (.bool d) := by rw [hW2]; exact (blk_cell (heap_alloc_new _ _) 1).trans rfl
      rw [← hW2] at B2
      replace ha_0 := (B2.out.below.cell (World.block_lt_of_cell? w _ ha_0)).trans ha_0
      replace ha_1 := (B2.out.below.cell (World.block_lt_of_cell? w _ ha_1)).trans ha_1
      replace ha_2 := (B2.out.below.cell (World.block_lt_of_cell? w _ ha_2)).trans ha_2
      replace hb_0 := (B2.out.below.cell (World.block_lt_of_cell? w _ hb_0)).trans hb_0
      replace hb_1 := (B2.out.below.cell (World.block_lt_of_cell? w _ hb_1)).trans hb_1
      replace hb_2 := (B2.out.below.cell (World.block_lt_of_cell? w _ hb_2)).trans hb_2
      go_wp2_with fail
      rw [← hW2]
      have HW2 := Aside0.mk hW2
      clear hW2
      go_region_held3 (fun W' => W'.cell? ⟨wr.heap.size, 0, none⟩ = some (.int .i64 n) ∧ W'.cell? (adA.add (n.toNat * 3)) = some (.int .u8 va.f0) ∧ W'.cell? ⟨(adA.add (n.toNat * 3)).block, (adA.add (n.toNat * 3)).off + 1, none⟩ = some (.int .i64 va.f1) ∧ W'.cell? ⟨(adA.add (n.toNat * 3)).block, (adA.add (n.toNat * 3)).off + 2, none⟩ = some (.string va.f2) ∧ W'.cell? (adB.add (n.toNat * 3)) = some (.int .u8 vb.f0) ∧ W'.cell? ⟨(adB.add (n.toNat * 3)).block, (adB.add (n.toNat * 3)).off + 1, none⟩ = some (.int .i64 vb.f1) ∧ W'.cell? ⟨(adB.add (n.toNat * 3)).block, (adB.add (n.toNat * 3)).off + 2, none⟩ = some (.string vb.f2)) (go_keep) (first | (go_at_call 91; refine (compare_calls va vb HKV.out _).mono ?_; rintro e w1 ⟨rfl, hb1⟩; have r0 := pw_cell_below (w := W2.drew) hb1.below D0; have r1 := pw_cell_below (w := W2.drew) hb1.below ha_0; have r2 := pw_cell_below (w := W2.drew) hb1.below ha_1; have r3 := pw_cell_below (w := W2.drew) hb1.below ha_2; have r4 := pw_cell_below (w := W2.drew) hb1.below hb_0; have r5 := pw_cell_below (w := W2.drew) hb1.below hb_1; have r6 := pw_cell_below (w := W2.drew) hb1.below hb_2; have r7 := pw_cell_below (w := W2.drew) hb1.below D1; have HB1 := Aside0.mk (B2.out.drew.trans hb1); clear hb1))
      obtain ⟨c, hc⟩ : ∃ c, c = compareV va vb := ⟨_, rfl⟩
      obtain ⟨hc1, hc2⟩ := compareV_bd va vb
      rw [← hc]
      rw [← hc] at hc1 hc2
      have HIc : Aside0 (cmpBy ks l0 l1 = if c = 0 then cmpBy (ks.drop (x.toNat + 1)) l0 l1 else if d = true then -c else c) := ⟨by rw [HI.out]; simp only [cmpBy]; rw [← HNE.out, ← HVA.out, ← HVB.out, ← hc, ← HD.out]⟩
      clear hc r0 r1 r2 r3 r4 r5 r6
      by_cases h0 : c = 0
      · have z1 : (c == 0) = true := by simp [h0]
        have HI2 : Aside0 (cmpBy ks l0 l1 = cmpBy (ks.drop (x + 1).toNat) l0 l1) := ⟨by rw [HIc.out, if_pos h0, show (x + 1).toNat = x.toNat + 1 by omega]⟩
        clear h0
        go_wp2
        have hlt := HLT.out
        have hk := HKQ.out
        cases gk with
        | zero => omega
        | succ k1 =>
          go_roundg k1
          case measure => omega
          case rel => exact ⟨x + 1, by rw [HWR.out], ⟨by omega⟩, HI2, HB1⟩
      · have z1 : (c == 0) = false := by simpa using h0
        cases d with
        | true =>
          have H : Aside0 (cmpBy ks l0 l1 = -c) := ⟨by rw [HIc.out, if_neg h0, if_pos rfl]⟩
          clear h0
          go_wp2
          go_ret
          refine ⟨?_, HB1.out⟩
          rw [H.out]; rfl
        | false =>
          have H : Aside0 (cmpBy ks l0 l1 = c) := ⟨by rw [HIc.out, if_neg h0, if_neg (by simp)]⟩
          clear h0
          go_wp2
          go_ret
          refine ⟨?_, HB1.out⟩
          rw [H.out]; rfl
    · have c1' : decide (x < (ks.length : Int)) = false := decide_eq_false hlt
      go_wp2
      go_ret
      refine ⟨?_, HB.out⟩
      rw [HI.out, List.drop_eq_nil_of_le (by omega)]
      rfl
def cmpFull (ks : List KeyT) (a b : List V) : Int := if cmpBy ks a b = 0 then cmpRows a b else cmpBy ks a b
set_option maxHeartbeats 4000000 in
set_option maxRecDepth 100000 in
theorem arranged1_calls (A0 : Option Addr) (c0 : Nat) (l0 : List V) (A1 : Option Addr) (c1 : Nat) (l1 : List V) (bb kb : Nat) (AK : Option Addr) (cK : Nat) (ks : List KeyT) (w : World) (hr0 : Kd.C kV w A0 l0.length l0) (hr1 : Kd.C kV w A1 l1.length l1) (hby : w.cell? ⟨bb, 0, none⟩ = some (.func (.func 90) #[] #[.pointer (some ⟨kb, 0, none⟩)])) (hcell : w.cell? ⟨kb, 0, none⟩ = some (.slice AK ks.length cK)) (hks : Kd.C kKey w AK ks.length ks) (hin0 : KeysIn ks l0.length) (hin1 : KeysIn ks l1.length) (hk : ∀ v ∈ l0, KindOk v) (hn : ks.length ≤ 1099511627776) (hn0 : l0.length ≤ 1099511627776) (hn1 : l1.length ≤ 1099511627776) :
    Calls Tryz.prog 82 #[.slice A0 l0.length c0, .slice A1 l1.length c1, .pointer (some ⟨bb, 0, none⟩)] w fun e w' => e = .returned (.int .i64 (cmpFull ks l0 l1)) ∧ Gr w w' := by
  have H1 := Aside0.mk (order1_calls A0 c0 l0 A1 c1 l1 kb AK cK ks w hr0 hr1 hcell hks hin0 hin1 hk hn)
  have H2 : Aside0 (∀ w1, Gr w w1 → Calls Tryz.prog 83 #[.slice A0 l0.length c0, .slice A1 l1.length c1] w1 fun e w' => e = .returned (.int .i64 (cmpRows l0 l1)) ∧ Gr w1 w') := ⟨fun w1 hb => compareRows_calls A0 c0 l0 A1 c1 l1 w1 (Kd.C_below hr0 hb.below) (Kd.C_below hr1 hb.below) hk hn0 hn1⟩
  clear hr0 hr1 hcell hks hin0 hin1 hk hn hn0 hn1
  obtain ⟨c, hc⟩ : ∃ c, c = cmpBy ks l0 l1 := ⟨_, rfl⟩
  rw [← hc] at H1
  go_enter Tryz.func82, Tryz.ntmps82
  have HC := Aside0.mk hc
  clear hc
  go_wp2_with fail
  refine H1.out.mono ?_
  rintro e w1 ⟨rfl, hb1⟩
  have HB1 := Aside0.mk hb1
  clear hb1
  by_cases h0 : c = 0
  · have z1 : (c != 0) = false := by simp [h0]
    have H : Aside0 (cmpFull ks l0 l1 = cmpRows l0 l1) := ⟨by unfold cmpFull; rw [if_pos (by rw [← HC.out, h0])]⟩
    clear h0
    go_wp2_with fail
    refine (H2.out w1 HB1.out).mono ?_
    rintro e w2 ⟨rfl, hb2⟩
    have HB2 := Aside0.mk (HB1.out.trans hb2)
    clear hb2
    go_wp2
    go_ret
    refine ⟨?_, HB2.out⟩
    rw [H.out]; rfl
  · have z1 : (c != 0) = true := by simpa using h0
    have H : Aside0 (cmpFull ks l0 l1 = c) := ⟨by unfold cmpFull; rw [if_neg (by rw [← HC.out]; exact h0), HC.out]⟩
    clear h0
    go_wp2
    go_ret
    refine ⟨?_, HB1.out⟩
    rw [H.out]; rfl
end Go.Proofs.YtecgkcgfeghhgaaGreatDoor.PAll
set_option linter.unusedVariables false
set_option linter.unusedSimpArgs false
namespace Go.Proofs.YtecgkcgfeghhgaaGreatDoor.PAll
open Go.RowKit Go.Proofs.YtecgkcgfeghhgaaGreatDoorW.PrintWords Go.Proofs.YtecgkcgfeghhgaaGreatDoorW.PrintLast Go.Proofs.YtecgkcgfeghhgaaGreatDoorW.PrintMore
structure Ord {α : Type} (c : α → α → Int) : Prop where
  flip : ∀ a b, c b a = -c a b
  trans : ∀ a b d, c a b ≤ 0 → c b d ≤ 0 → c a d ≤ 0
theorem Ord.zero {α : Type} : Ord (fun _ _ : α => (0 : Int)) := ⟨fun _ _ => rfl, fun _ _ _ _ _ => Int.le_refl _⟩
theorem Ord.pull {α β : Type} {c : α → α → Int} (h : Ord c) (f : β → α) : Ord (fun a b => c (f a) (f b)) := ⟨fun a b => h.flip _ _, fun a b d => h.trans _ _ _⟩
theorem Ord.neg {α : Type} {c : α → α → Int} (h : Ord c) : Ord (fun a b => -c a b) := ⟨fun a b => by have := h.flip a b; omega, fun a b d h1 h2 => by
  have e1 := h.flip a b
  have e2 := h.flip b d
  have e3 := h.flip a d
  have := h.trans d b a (by omega) (by omega)
  omega⟩
theorem Ord.lex {α κ : Type} {c1 : α → α → Int} {c2 : κ → α → α → Int} (h1 : Ord c1) (h2 : ∀ k, Ord (c2 k)) (f : α → κ) (hf : ∀ a b, c1 a b = 0 → f a = f b) : Ord (fun a b => if c1 a b = 0 then c2 (f a) a b else c1 a b) := by
  refine ⟨fun a b => ?_, fun a b d k1 k2 => ?_⟩
  · have e := h1.flip a b
    by_cases h : c1 a b = 0
    · rw [if_pos h, if_pos (by omega), ← hf a b h]
      exact (h2 _).flip a b
    · rw [if_neg h, if_neg (by omega)]
      exact e
  · have eab := h1.flip a b
    have ebd := h1.flip b d
    have ead := h1.flip a d
    have p1 : c1 a b ≤ 0 := by
      split at k1 <;> omega
    have p2 : c1 b d ≤ 0 := by
      split at k2 <;> omega
    have p3 := h1.trans a b d p1 p2
    show (if c1 a d = 0 then _ else _) ≤ 0
    by_cases h : c1 a d = 0
    · have q1 := h1.trans d a b (by omega) p1
      have q2 := h1.trans b d a p2 (by omega)
      have z1 : c1 a b = 0 := by omega
      have z2 : c1 b d = 0 := by omega
      rw [if_pos z1] at k1
      rw [if_pos z2, ← hf a b z1] at k2
      rw [if_pos h]
      exact (h2 _).trans a b d k1 k2
    · rw [if_neg h]
      exact p3
theorem cmpI_ord : Ord cmpI := ⟨fun a b => by unfold cmpI; repeat' split <;> omega, fun a b d => by unfold cmpI; repeat' split <;> omega⟩
theorem cmpI_zero {a b : Int} (h : cmpI a b = 0) : a = b := by unfold cmpI at h; split at h <;> (try split at h) <;> omega
theorem u8_tri (a b : UInt8) : a < b ∨ a = b ∨ b < a := by
  simp only [UInt8.lt_iff_toNat_lt, ← UInt8.toNat_inj]
  omega
theorem compareBytes_flip : ∀ a b : List UInt8, Lib.compareBytes b a = -Lib.compareBytes a b
  | [], [] => rfl
  | [], _ :: _ => rfl
  | _ :: _, [] => rfl
  | a :: x, b :: y => by
    have ih := compareBytes_flip x y
    simp only [Lib.compareBytes]
    rcases u8_tri a b with h | h | h
    · have h2 := UInt8.lt_asymm h
      simp [h, h2]
    · subst h
      simpa using ih
    · have h2 := UInt8.lt_asymm h
      simp [h, h2]
theorem compareBytes_trans : ∀ a b d : List UInt8, Lib.compareBytes a b ≤ 0 → Lib.compareBytes b d ≤ 0 → Lib.compareBytes a d ≤ 0
  | [], _, [] => fun _ _ => by simp [Lib.compareBytes]
  | [], _, _ :: _ => fun _ _ => by simp [Lib.compareBytes]
  | _ :: _, [], _ => fun h _ => by simp [Lib.compareBytes] at h
  | _ :: _, _ :: _, [] => fun _ h => by simp [Lib.compareBytes] at h
  | a :: x, b :: y, d :: z => fun h1 h2 => by
    have ih := compareBytes_trans x y z
    simp only [Lib.compareBytes] at h1 h2 ⊢
    simp only [UInt8.lt_iff_toNat_lt] at *
    repeat' split at h1
    all_goals repeat' split at h2
    all_goals repeat' split
    all_goals first | omega | (exact ih h1 h2)
theorem compareBytes_ord : Ord Lib.compareBytes := ⟨compareBytes_flip, compareBytes_trans⟩
theorem compareBytes_zero : ∀ {a b : List UInt8}, Lib.compareBytes a b = 0 → a = b
  | [], [], _ => rfl
  | [], _ :: _, h => by simp [Lib.compareBytes] at h
  | _ :: _, [], h => by simp [Lib.compareBytes] at h
  | a :: x, b :: y, h => by
    simp only [Lib.compareBytes] at h
    rcases u8_tri a b with h1 | h1 | h1
    · rw [if_pos h1] at h; omega
    · subst h1
      rw [if_neg (UInt8.lt_irrefl _), if_neg (UInt8.lt_irrefl _)] at h
      rw [compareBytes_zero h]
    · rw [if_neg (UInt8.lt_asymm h1), if_pos h1] at h; omega
theorem compareV_ord : Ord compareV := by
  have h := Ord.lex (c1 := fun a b : V => cmpI a.f0 b.f0) (c2 := fun (k : Int) (a b : V) => if k = 0 then 0 else if k = 2 then Lib.compareBytes a.f2.data.toList b.f2.data.toList else cmpI a.f1 b.f1) (cmpI_ord.pull _) (fun k => ?_) (fun a => a.f0) (fun a b h => cmpI_zero h)
  · exact h
  · by_cases h0 : k = 0
    · simp only [if_pos h0]; exact Ord.zero
    · by_cases h2 : k = 2
      · simp only [if_neg h0, if_pos h2]; exact compareBytes_ord.pull _
      · simp only [if_neg h0, if_neg h2]; exact cmpI_ord.pull _
theorem bytes_ext {a b : ByteArray} (h : a.data.toList = b.data.toList) : a = b := by
  cases a; cases b
  simpa using h
theorem noText_eq {s : ByteArray} (h : noText s = true) : s = ⟨#[]⟩ := by
  unfold noText at h
  rw [beq_iff_eq] at h
  have h2 : s.toList = s.data.toList := ByteArray.toList_eq s
  exact bytes_ext (by rw [← h2, h])
theorem valid_kind {v : V} (h : validV v = true) : KindOk v := by
  unfold validV at h
  unfold KindOk
  repeat' split at h
  all_goals first | omega | (simp at h)
theorem V_ext {a b : V} (h0 : a.f0 = b.f0) (h1 : a.f1 = b.f1) (h2 : a.f2 = b.f2) : a = b := by cases a; cases b; simp_all
theorem compareV_zero {a b : V} (ha : validV a = true) (hb : validV b = true) (h : compareV a b = 0) : a = b := by
  unfold compareV at h
  split at h
  · rename_i h0
    have h0 := cmpI_zero h0
    unfold validV at ha hb
    rw [← h0] at hb
    by_cases k0 : a.f0 = 0
    · rw [if_pos k0] at ha hb
      simp only [Bool.and_eq_true, beq_iff_eq] at ha hb
      exact V_ext h0 (by omega) (by rw [noText_eq ha.2, noText_eq hb.2])
    · rw [if_neg k0] at ha hb h
      by_cases k2 : a.f0 = 2
      · rw [if_neg (by omega), if_pos k2] at ha hb
        rw [if_pos k2] at h
        simp only [Bool.and_eq_true, beq_iff_eq] at ha hb
        exact V_ext h0 (by omega) (bytes_ext (compareBytes_zero h))
      · rw [if_neg k2] at h
        have h1 := cmpI_zero h
        refine V_ext h0 h1 ?_
        by_cases k1 : a.f0 = 1
        · rw [if_pos k1] at ha hb
          rw [noText_eq ha, noText_eq hb]
        · rw [if_neg k1, if_neg k2] at ha hb
          split at ha
          · rename_i k3
            rw [if_pos k3] at hb
            simp only [Bool.and_eq_true] at ha hb
            rw [noText_eq ha.1, noText_eq hb.1]
          · cases ha
  · omega
theorem cmpRows_flip : ∀ a b : List V, cmpRows b a = -cmpRows a b
  | [], [] => rfl
  | [], _ :: _ => rfl
  | _ :: _, [] => rfl
  | a :: x, b :: y => by
    have ih := cmpRows_flip x y
    have e := compareV_ord.flip a b
    simp only [cmpRows]
    by_cases h : compareV a b = 0
    · rw [if_pos h, if_pos (by omega)]; exact ih
    · rw [if_neg h, if_neg (by omega)]; exact e
theorem cmpRows_trans : ∀ a b d : List V, cmpRows a b ≤ 0 → cmpRows b d ≤ 0 → cmpRows a d ≤ 0
  | [], _, [] => fun _ _ => by simp [cmpRows]
  | [], _, _ :: _ => fun _ _ => by simp [cmpRows]
  | _ :: _, [], _ => fun h _ => by simp [cmpRows] at h
  | _ :: _, _ :: _, [] => fun _ h => by simp [cmpRows] at h
  | a :: x, b :: y, d :: z => fun k1 k2 => by
    have ih := cmpRows_trans x y z
    simp only [cmpRows] at k1 k2 ⊢
    have eab := compareV_ord.flip a b
    have ebd := compareV_ord.flip b d
    have ead := compareV_ord.flip a d
    have p1 : compareV a b ≤ 0 := by split at k1 <;> omega
    have p2 : compareV b d ≤ 0 := by split at k2 <;> omega
    have p3 := compareV_ord.trans a b d p1 p2
    by_cases h : compareV a d = 0
    · have q1 := compareV_ord.trans d a b (by omega) p1
      have q2 := compareV_ord.trans b d a p2 (by omega)
      rw [if_pos (by omega)] at k1 k2
      rw [if_pos h]
      exact ih k1 k2
    · rw [if_neg h]
      exact p3
theorem cmpRows_ord : Ord cmpRows := ⟨cmpRows_flip, cmpRows_trans⟩
theorem cmpRows_zero : ∀ {a b : List V}, (∀ v ∈ a, validV v = true) → (∀ v ∈ b, validV v = true) → cmpRows a b = 0 → a = b
  | [], [], _, _, _ => rfl
  | [], _ :: _, _, _, h => by simp [cmpRows] at h
  | _ :: _, [], _, _, h => by simp [cmpRows] at h
  | a :: x, b :: y, ha, hb, h => by
    simp only [cmpRows] at h
    split at h
    · rename_i h0
      rw [compareV_zero (ha a List.mem_cons_self) (hb b List.mem_cons_self) h0, cmpRows_zero (fun v hv => ha v (List.mem_cons_of_mem _ hv)) (fun v hv => hb v (List.mem_cons_of_mem _ hv)) h]
    · omega
theorem cmpBy_ord : ∀ ks : List KeyT, Ord (cmpBy ks)
  | [] => Ord.zero
  | k :: ks => by
    have ih := cmpBy_ord ks
    have h := Ord.lex (c1 := fun a b : List V => if k.f1 = true then -compareV (rd_T36 a k.f0) (rd_T36 b k.f0) else compareV (rd_T36 a k.f0) (rd_T36 b k.f0)) (c2 := fun (_ : Unit) => cmpBy ks) (by
      by_cases hk : k.f1 = true
      · simp only [if_pos hk]; exact (compareV_ord.pull (fun a => rd_T36 a k.f0)).neg
      · simp only [if_neg hk]; exact compareV_ord.pull (fun a => rd_T36 a k.f0)) (fun _ => ih) (fun _ => ()) (fun _ _ _ => rfl)
    have e : cmpBy (k :: ks) = fun a b => if (if k.f1 = true then -compareV (rd_T36 a k.f0) (rd_T36 b k.f0) else compareV (rd_T36 a k.f0) (rd_T36 b k.f0)) = 0 then cmpBy ks a b else (if k.f1 = true then -compareV (rd_T36 a k.f0) (rd_T36 b k.f0) else compareV (rd_T36 a k.f0) (rd_T36 b k.f0)) := by
      funext a b
      simp only [cmpBy]
      generalize compareV (rd_T36 a k.f0) (rd_T36 b k.f0) = c
      by_cases hk : k.f1 = true
      · simp only [if_pos hk]
        by_cases hc : c = 0
        · rw [if_pos hc, if_pos (by omega)]
        · rw [if_neg hc, if_neg (by omega)]
      · simp only [if_neg hk]
    rw [e]
    exact h
theorem cmpFull_ord (ks : List KeyT) : Ord (cmpFull ks) := Ord.lex (c2 := fun (_ : Unit) => cmpRows) (cmpBy_ord ks) (fun _ => cmpRows_ord) (fun _ => ()) (fun _ _ _ => rfl)
theorem cmpFull_zero {ks : List KeyT} {a b : List V} (ha : ∀ v ∈ a, validV v = true) (hb : ∀ v ∈ b, validV v = true) (h : cmpFull ks a b = 0) : a = b := by
  unfold cmpFull at h
  split at h
  · exact cmpRows_zero ha hb h
  · omega
def sortR (ks : List KeyT) (l : List (List V)) : List (List V) := l.mergeSort (fun a b => decide (cmpFull ks a b ≤ 0))
theorem sortR_perm (ks : List KeyT) (l : List (List V)) : (sortR ks l).Perm l := List.mergeSort_perm _ _
theorem sortR_pair (ks : List KeyT) (l : List (List V)) : (sortR ks l).Pairwise (fun a b => cmpFull ks a b ≤ 0) := by
  have h := List.pairwise_mergeSort (le := fun a b => decide (cmpFull ks a b ≤ 0)) (fun a b c h1 h2 => by
    simp only [decide_eq_true_eq] at h1 h2 ⊢
    exact (cmpFull_ord ks).trans a b c h1 h2) (fun a b => by
    have := (cmpFull_ord ks).flip a b
    simp only [Bool.or_eq_true, decide_eq_true_eq]
    omega) l
  exact h.imp (fun h => of_decide_eq_true h)
theorem sortR_unique {ks : List KeyT} {l r : List (List V)} (hv : ∀ row ∈ l, ∀ v ∈ row, validV v = true) (hp : r.Perm l) (hs : r.Pairwise (fun a b => cmpFull ks a b ≤ 0)) : r = sortR ks l := by
  refine List.Perm.eq_of_pairwise (le := fun a b => cmpFull ks a b ≤ 0) (fun a b ha hb h1 h2 => ?_) hs (sortR_pair ks l) (hp.trans (sortR_perm ks l).symm)
  have hfl := (cmpFull_ord ks).flip a b
  exact cmpFull_zero (ks := ks) (hv a (hp.mem_iff.1 ha)) (hv b ((sortR_perm ks l).mem_iff.1 hb)) (by omega)
end Go.Proofs.YtecgkcgfeghhgaaGreatDoor.PAll
set_option linter.unusedVariables false
set_option linter.unusedSimpArgs false
namespace Go.Proofs.YtecgkcgfeghhgaaGreatDoor.PAll
open Go.RowKit Go.Proofs.YtecgkcgfeghhgaaGreatDoorW.PrintWords Go.Proofs.YtecgkcgfeghhgaaGreatDoorW.PrintLast Go.Proofs.YtecgkcgfeghhgaaGreatDoorW.PrintMore
theorem infoV : (Tryz.prog.info? 36).map (fun i => (i.zero, i.size, i.bytes)) = some (some (.agg #[(.int .u8 0), (.int .i64 0), (.string ⟨#[]⟩)]), 3, 32) := by kernel_rfl
theorem infoRow : (Tryz.prog.info? 53).map (fun i => (i.zero, i.size, i.bytes)) = some (some (.slice none 0 0), 1, 24) := by kernel_rfl
theorem R_empty {α : Type} (d : Kd α) (e : Nat) (w : World) : Kd.R d e (w.alloc (.cells #[] e)) w.heap.size (fun _ => True) (.slice (some ⟨w.heap.size, 0, none⟩) 0 0) [] :=
  ⟨fun _ _ => trivial, [], ⟨by simp, .inr ⟨w.heap.size, 0, #[], rfl, Nat.le_refl _, heap_alloc_new _ _, Nat.le_refl _, by decide, by simp, by simp⟩⟩, Reps.none _ _⟩
set_option maxHeartbeats 4000000 in
set_option maxRecDepth 100000 in
theorem clone_calls (A0 : Option Addr) (c0 : Nat) (l0 : List V) (w : World) (hr0 : Kd.C kV w A0 l0.length l0) (hn : l0.length ≤ 1099511627776) :
    Calls Tryz.prog 80 #[.slice A0 l0.length c0] w fun e w' => ∃ v : Value, e = .returned v ∧ Kd.R kV 36 w' w.heap.size (fun _ => True) v l0 ∧ Below w.heap.size w w' := by
  have qT : ∀ (w : World) (a : Option Addr) (n c n' c' : Nat), (binOp .eql 53 (.slice a n c) (.slice none n' c')).run Tryz.prog w = .ok (.bool a.isNone) w := fun w a n c n' c' => Lib.run_eql_slice_nil w _ _ a n c n' c' Tryz.underlying53
  have HR0 := Aside0.mk hr0
  have HN := Aside0.mk hn
  clear hr0 hn
  cases A0 with
  | none =>
    have hl : l0 = [] := by
      rcases Nat.eq_zero_or_pos l0.length with h | h
      · exact List.eq_nil_of_length_eq_zero h
      · obtain ⟨ad, h2, _⟩ := HR0.out.2.2 h
        cases h2
    have HL := Aside0.mk hl
    clear hl
    go_enter Tryz.func80, Tryz.ntmps80
    go_wp2
    go_ret
    refine ⟨_, rfl, ?_, Below.refl _ _⟩
    rw [HL.out]
    exact Kd.R_nil _ _ _ _ _
  | some ad =>
    go_enter Tryz.func80, Tryz.ntmps80
    have HO : Aside0 (Kd.R kV 36 (w.alloc (.cells #[] 36)) w.heap.size (fun _ => True) (.slice (some ⟨w.heap.size, 0, none⟩) 0 0) []) := ⟨R_empty kV 36 w⟩
    have HB := Aside0.mk ((Below.refl w.heap.size w).alloc (Nat.le_refl _) (.cells #[] 36))
    have HR1 := Aside0.mk (Kd.C_below HR0.out HB.out)
    go_wp2_with (at_builtin; refine Kd.R_append_rows kV (w0 := w) w.heap.size rfl (.tmp 5) (.tmp 6) 53 36 (.agg #[(.int .u8 0), (.int .i64 0), (.string ⟨#[]⟩)]) 32 rfl Tryz.underlying53 infoV rfl (by decide) (by decide) _ [] l0 (some ad) l0.length c0 (fun _ => True) (fun _ => False) rfl rfl HO.out HR1.out (fun x cs h => by obtain rfl := k36_open h; exact k36_mkM _ _ _ x) (fun _ h => h.elim) (fun _ _ => trivial) HB.out HB.out.size (by have := HN.out; simp; omega) ?_; intro v1 w1 hR hb hg hat; have HO1 := Aside0.mk hR; have HB1 := Aside0.mk hb; clear hR hb hg hat)
    obtain ⟨Av, cv, ev⟩ := Kd.R_slice HO1.out
    cases ev
    go_wp2
    go_ret
    exact ⟨_, rfl, HO1.out, HB1.out⟩
end Go.Proofs.YtecgkcgfeghhgaaGreatDoor.PAll
set_option linter.unusedVariables false
set_option linter.unusedSimpArgs false
namespace Go.Proofs.YtecgkcgfeghhgaaGreatDoor.PAll
open Go.RowKit Go.Proofs.YtecgkcgfeghhgaaGreatDoorW.PrintWords Go.Proofs.YtecgkcgfeghhgaaGreatDoorW.PrintLast Go.Proofs.YtecgkcgfeghhgaaGreatDoorW.PrintMore
open Go.Shelf Go.Lib
structure RowGood (ks : List KeyT) (l : List V) : Prop where
  valid : ∀ v ∈ l, validV v = true
  keys : KeysIn ks l.length
  len : l.length ≤ 1099511627776
structure RowIn (W : World) (base g : Nat) (ks : List KeyT) where
  v : Value
  l : List V
  rep : Kd.R kV 36 W base (fun k => k ≠ g) v l
  good : RowGood ks l
theorem sortWorld_blk {α : Type} [Inhabited α] (enc : α → Value) (w : World) (blk off m : Nat) (dk : Array α) (os : Array Obj) (k : Nat) (h1 : k ≠ blk) (h2 : k < w.heap.size) : (sortWorld enc w blk off m dk os).heap[k]? = w.heap[k]? := by
  unfold sortWorld Sort.grow Sort.putRow Sort.mapBlock
  show ((Array.modify _ blk _) ++ os)[k]? = _
  rw [Array.getElem?_append_left (by simpa using h2), Array.getElem?_modify, if_neg (Ne.symm h1)]
  rfl
theorem sortWorld_below {α : Type} [Inhabited α] (enc : α → Value) (w : World) (base blk off m : Nat) (dk : Array α) (os : Array Obj) (hb : base ≤ blk) (hw : base ≤ w.heap.size) : Below base w (sortWorld enc w blk off m dk os) := by
  refine ⟨rfl, rfl, rfl, ?_, fun k hk => ?_⟩
  · unfold sortWorld
    rw [Sort.size_grow, Sort.size_putRow]
    exact Nat.le_add_right _ _
  · exact sortWorld_blk enc w blk off m dk os k (by omega) (by omega)
theorem R_rowsIn {ks : List KeyT} {W : World} {base g cap : Nat} {l : List (List V)} (hR : Kd.R kRow 53 W base (fun _ => True) (.slice (some ⟨g, 0, none⟩) l.length cap) l) (hG : ∀ row ∈ l, RowGood ks row) :
    ∃ d : List (RowIn W base g ks), d.map (·.l) = l ∧ W.ownsRow base 53 1 (.slice (some ⟨g, 0, none⟩) l.length cap) l.length (d.map (·.v)) := by
  obtain ⟨_, inner, ho, hr⟩ := hR
  have hil : inner.length = l.length := by have := hr.1; change inner.length = l.length * 1 at this; omega
  have key : ∀ (m : Nat), m ≤ l.length → ∃ d : List (RowIn W base g ks), d.map (·.l) = l.take m ∧ d.map (·.v) = inner.take m := by
    intro m
    induction m with
    | zero => exact fun _ => ⟨[], by simp, by simp⟩
    | succ m ih =>
      intro hm
      obtain ⟨d, h1, h2⟩ := ih (by omega)
      have hml : m < l.length := by omega
      have hp := hr.2 m l[m] (List.getElem?_eq_getElem hml)
      obtain ⟨v, hv, hR⟩ := hp
      have hv : inner[m]'(by omega) = v := by
        change (inner.drop (m * 1)).take 1 = [v] at hv
        rw [Nat.mul_one, List.drop_eq_getElem_cons (by omega), List.take_succ_cons, List.take_zero] at hv
        injection hv
      refine ⟨d ++ [⟨v, l[m], Kd.R_mono hR (fun k hk e => hk.2 (by rw [e]; rfl)), hG _ (List.getElem_mem hml)⟩], ?_, ?_⟩
      · rw [List.map_append, h1, take_snoc _ _ hml]; rfl
      · rw [List.map_append, h2, take_snoc _ _ (by omega), hv]; rfl
  obtain ⟨d, h1, h2⟩ := key l.length (Nat.le_refl _)
  rw [List.take_length] at h1
  rw [List.take_of_length_le (by omega)] at h2
  exact ⟨d, h1, by rw [h2]; exact ho⟩
theorem R_ofRowsIn {ks : List KeyT} {W w1 : World} {base g cap : Nat} {d : List (RowIn W base g ks)} (ho : w1.ownsRow base 53 1 (.slice (some ⟨g, 0, none⟩) d.length cap) d.length (d.map (·.v))) (hm : ∀ k, k ≠ g → k < W.heap.size → w1.heap[k]? = W.heap[k]?) :
    Kd.R kRow 53 w1 base (fun _ => True) (.slice (some ⟨g, 0, none⟩) (d.map (·.l)).length cap) (d.map (·.l)) := by
  refine ⟨fun _ _ => trivial, d.map (·.v), ?_, ?_, ?_⟩
  · rw [List.length_map]; exact ho
  · rw [List.length_map, List.length_map]; exact (Nat.mul_one _).symm
  · intro j p hj
    rw [List.getElem?_map] at hj
    obtain ⟨r, hr, rfl⟩ := Option.map_eq_some_iff.1 hj
    obtain ⟨hjl, hr⟩ := List.getElem?_eq_some_iff.1 hr
    refine ⟨r.v, ?_, ?_⟩
    · change ((d.map (·.v)).drop (j * 1)).take 1 = [r.v]
      rw [Nat.mul_one, List.drop_eq_getElem_cons (by simpa using hjl), List.take_succ_cons, List.take_zero]
      simp [hr]
    · exact Kd.R_mono (Kd.R_step r.rep hm) (fun k hk => ⟨trivial, fun e => hk (by injection e)⟩)
theorem take_putV {α : Type} [Inhabited α] (enc : α → Value) (cur : Array Value) (d : Array α) (h : d.size ≤ cur.size) : (Sort.putCells enc 0 d cur).toList.take d.size = d.toList.map enc := by
  apply List.ext_getElem?
  intro j
  by_cases hj : j < d.size
  · rw [List.getElem?_take_of_lt hj, Array.getElem?_toList]
    simp [Sort.putCells, hj, show j < cur.size by omega]
  · rw [List.getElem?_take_eq_none (by omega), List.getElem?_eq_none (by simp; omega)]
set_option maxHeartbeats 4000000 in
set_option maxRecDepth 100000 in
theorem sortFunc_calls (ks : List KeyT) (AK : Option Addr) (cK : Nat) (bb kb g cap : Nat) (l : List (List V)) (w W : World) (hR : Kd.R kRow 53 W w.heap.size (fun _ => True) (.slice (some ⟨g, 0, none⟩) l.length cap) l) (hB : Below w.heap.size w W)
    (hby : W.cell? ⟨bb, 0, none⟩ = some (.func (.func 90) #[] #[.pointer (some ⟨kb, 0, none⟩)])) (hcell : W.cell? ⟨kb, 0, none⟩ = some (.slice AK ks.length cK)) (hbb : bb ≠ g) (hkb : kb ≠ g) (hks : Kd.C kKey w AK ks.length ks) (hkn : ks.length ≤ 1099511627776)
    (hG : ∀ row ∈ l, RowGood ks row) (hn : l.length ≤ 1099511627776) (h0 : 0 < l.length) :
    Calls Tryz.prog 81 #[.slice (some ⟨g, 0, none⟩) l.length cap, .func (.func 82) #[] #[.pointer (some ⟨bb, 0, none⟩)]] W fun e w' => e = .returned (.tuple #[]) ∧ Kd.R kRow 53 w' w.heap.size (fun _ => True) (.slice (some ⟨g, 0, none⟩) l.length cap) (sortR ks l) ∧ Below w.heap.size w w' := by
  obtain ⟨dl, hd1, hd2⟩ := R_rowsIn (ks := ks) hR hG
  have hdl : dl.length = l.length := by rw [← hd1, List.length_map]
  haveI : Inhabited (RowIn W w.heap.size g ks) := ⟨dl[0]'(by omega)⟩
  have hg : w.heap.size ≤ g ∧ g < W.heap.size := hd2.lt g rfl
  have h1 : OneCell (fun r : RowIn W w.heap.size g ks => r.v) := fun r => by
    obtain ⟨A, c, e⟩ := Kd.R_slice r.rep
    show r.v.oneCell' = true
    rw [e]; rfl
  have hO : Sort.SWO (ltOf (fun x y : RowIn W w.heap.size g ks => cmpFull ks x.l y.l)) := by
    have H := cmpFull_ord ks
    refine ⟨fun x => ?_, fun x y z h1 h2 => ?_, fun x y z h1 h2 => ?_⟩
    · have := H.flip x.l x.l
      simp only [ltOf, decide_eq_false_iff_not]; omega
    · simp only [ltOf, decide_eq_true_eq] at h1 h2 ⊢
      have e1 := H.flip x.l y.l
      have e2 := H.flip y.l z.l
      have e3 := H.flip x.l z.l
      have t1 := H.trans x.l y.l z.l (by omega) (by omega)
      by_cases h : cmpFull ks x.l z.l = 0
      · have t2 := H.trans z.l x.l y.l (by omega) (by omega)
        omega
      · omega
    · simp only [ltOf, decide_eq_false_iff_not] at h1 h2 ⊢
      have e1 := H.flip x.l y.l
      have e2 := H.flip y.l z.l
      have e3 := H.flip x.l z.l
      have t1 := H.trans z.l y.l x.l (by omega) (by omega)
      omega
  have eg : ∀ args w, (callFunc 82 args).run Tryz.prog w = .ok (.enter 82 args) w := enters_of Tryz.func82 (by kernel_rfl) rfl
  have hH : Sort.Holds (fun r : RowIn W w.heap.size g ks => r.v) W g 0 dl.toArray := by
    intro j hj
    have hj : j < dl.length := by simpa using hj
    have h := own_at_of (enc := id) (d := (default : Value)) (xs := dl.map (·.v)) (by simpa [encs] using hd2) (j : Int) (by omega) (by omega)
    rw [Int.toNat_natCast] at h
    rw [Nat.zero_add]
    refine ⟨h.1.trans ?_, h.2⟩
    simp [rdOf, hj]
  have hcmp : CmpLays1 Tryz.prog 82 #[.pointer (some ⟨bb, 0, none⟩)] (fun r : RowIn W w.heap.size g ks => r.v) (fun x y => cmpFull ks x.l y.l) g 0 dl.toArray.size W := by
    intro m os dk hs x y
    have hbl := sortWorld_below (fun r : RowIn W w.heap.size g ks => r.v) W w.heap.size g 0 m dk os hg.1 hB.size
    have hbk := fun k h1 h2 => sortWorld_blk (fun r : RowIn W w.heap.size g ks => r.v) W g 0 m dk os k h1 h2
    obtain ⟨W3, hW3⟩ : ∃ W3, W3 = sortWorld (fun r : RowIn W w.heap.size g ks => r.v) W g 0 m dk os := ⟨_, rfl⟩
    rw [← hW3] at hbl hbk ⊢
    have hx := Kd.R_step (w1 := W3) x.rep hbk
    have hy := Kd.R_step (w1 := W3) y.rep hbk
    obtain ⟨Ax, cx, ex, _, hxc⟩ := Kd.R_reads hx
    obtain ⟨Ay, cy, ey, _, hyc⟩ := Kd.R_reads hy
    have hc1 : ∀ b, b ≠ g → ∀ u, W.cell? ⟨b, 0, none⟩ = some u → W3.cell? ⟨b, 0, none⟩ = some u := fun b hb u hu => by
      have hlt := World.block_lt_of_cell? W _ hu
      rw [← hu]
      simp only [World.cell?, hbk b hb hlt]
    have h := arranged1_calls Ax cx x.l Ay cy y.l bb kb AK cK ks W3 hxc hyc (hc1 bb hbb _ hby) (hc1 kb hkb _ hcell) (Kd.C_below hks (hB.trans hbl)) x.good.keys y.good.keys (fun v hv => valid_kind (x.good.valid v hv)) hkn x.good.len y.good.len
    show Calls _ _ #[x.v, y.v, .pointer (some ⟨bb, 0, none⟩)] _ _
    rw [ex, ey]
    refine h.mono ?_
    rintro e w' ⟨he, q, os', hw'⟩
    exact ⟨he, q, os', hw'⟩
  have hcon := Any.slices_SortFunc sortRows (fun r : RowIn W w.heap.size g ks => r.v) h1 (fun x y => cmpFull ks x.l y.l) hO 82 #[.pointer (some ⟨bb, 0, none⟩)] g 0 cap dl.toArray W eg hcmp hH hg.2 (by simp; omega)
  have hsz : dl.toArray.size = l.length := by simp [hdl]
  rw [hsz] at hcon
  change Calls Tryz.prog 81 _ _ _ at hcon
  refine hcon.mono ?_
  rintro e w' ⟨rfl, d', n, os, hp, hs, rfl⟩
  have hbl := sortWorld_below (fun r : RowIn W w.heap.size g ks => r.v) W w.heap.size g 0 n d' os hg.1 hB.size
  have hbk := fun k h1 h2 => sortWorld_blk (fun r : RowIn W w.heap.size g ks => r.v) W g 0 n d' os k h1 h2
  refine ⟨rfl, ?_, hB.trans hbl⟩
  obtain ⟨hp1, _, hp2⟩ := hp
  have hd's : d'.size = l.length := by rw [hp1, hsz]
  have hperm : d'.toList.Perm dl := by
    rw [show l.length = d'.size from hd's.symm] at hp2
    rw [show dl.toArray.extract 0 d'.size = dl.toArray by rw [hp1]; exact Array.extract_size, Array.extract_size] at hp2
    simpa using hp2
  have hpl : (d'.toList.map (·.l)).Perm l := by rw [← hd1]; exact hperm.map _
  have hres : d'.toList.map (·.l) = sortR ks l := by
    refine sortR_unique (fun row hrow => (hG row hrow).valid) hpl ?_
    rw [List.pairwise_map, List.pairwise_iff_getElem]
    intro i j hi hj hij
    have h := hs i j (Nat.zero_le _) hij (by rw [← hd's]; simpa using hj)
    simp only [ltOf, decide_eq_false_iff_not] at h
    have hi : i < d'.size := by simpa using hi
    have hj : j < d'.size := by simpa using hj
    rw [getElem!_pos d' i hi, getElem!_pos d' j hj] at h
    have e := (cmpFull_ord ks).flip d'[i].l d'[j].l
    simp only [Array.getElem_toList]
    omega
  rw [← hres]
  have hl2 : l.length = (d'.toList.map (·.l)).length := by simp [hd's]
  have ho : (sortWorld (fun r : RowIn W w.heap.size g ks => r.v) W g 0 n d' os).ownsRow w.heap.size 53 1 (.slice (some ⟨g, 0, none⟩) d'.toList.length cap) d'.toList.length (d'.toList.map (·.v)) := by
    rcases hd2.2 with ⟨h, _⟩ | ⟨g', cap', cur, he, hb1, hblk, hc1, hc2, hc3, hc4⟩
    · cases h
    · injection he with he1 he2 he3
      injection he1 with he1
      injection he1 with he1
      subst he1 he3
      refine ⟨by simp, .inr ⟨g, cap, Sort.putCells (fun r : RowIn W w.heap.size g ks => r.v) 0 d' cur, rfl, hb1, ?_, ?_, hc2, ?_, ?_⟩⟩
      · unfold sortWorld Sort.grow Sort.putRow Sort.mapBlock
        show ((Array.modify _ g _) ++ os)[g]? = _
        rw [Array.getElem?_append_left (by simpa using hg.2), Array.getElem?_modify, if_pos rfl]
        change Option.map _ (W.heap[g]?) = _
        rw [hblk]
        rfl
      · simp [hd's]; omega
      · simp [Sort.putCells, hc3]
      · rw [Nat.mul_one, Array.length_toList]
        exact take_putV _ cur d' (by omega)
  have hfin := R_ofRowsIn ho hbk
  rw [hl2]
  exact hfin
theorem sortFunc_all (ks : List KeyT) (AK : Option Addr) (cK : Nat) (bb kb g cap : Nat) (l : List (List V)) (w W : World) (hR : Kd.R kRow 53 W w.heap.size (fun _ => True) (.slice (some ⟨g, 0, none⟩) l.length cap) l) (hB : Below w.heap.size w W)
    (hby : W.cell? ⟨bb, 0, none⟩ = some (.func (.func 90) #[] #[.pointer (some ⟨kb, 0, none⟩)])) (hcell : W.cell? ⟨kb, 0, none⟩ = some (.slice AK ks.length cK)) (hbb : bb ≠ g) (hkb : kb ≠ g) (hks : Kd.C kKey w AK ks.length ks) (hkn : ks.length ≤ 1099511627776)
    (hG : ∀ row ∈ l, RowGood ks row) (hn : l.length ≤ 1099511627776) :
    Calls Tryz.prog 81 #[.slice (some ⟨g, 0, none⟩) l.length cap, .func (.func 82) #[] #[.pointer (some ⟨bb, 0, none⟩)]] W fun e w' => e = .returned (.tuple #[]) ∧ Kd.R kRow 53 w' w.heap.size (fun _ => True) (.slice (some ⟨g, 0, none⟩) l.length cap) (sortR ks l) ∧ Below w.heap.size w w' := by
  cases l with
  | cons r rs => exact sortFunc_calls ks AK cK bb kb g cap (r :: rs) w W hR hB hby hcell hbb hkb hks hkn hG hn (by simp)
  | nil =>
    haveI : Inhabited Value := ⟨.bool true⟩
    have h := AnyF.slices_SortFunc_none { sortRows with } (some ⟨g, 0, none⟩) cap (.func (.func 82) #[] #[.pointer (some ⟨bb, 0, none⟩)]) W
    change Calls Tryz.prog 81 _ _ _ at h
    refine h.mono ?_
    rintro e w' ⟨rfl, rfl⟩
    have e0 : sortR ks [] = [] := by simp [sortR]
    rw [e0]
    exact ⟨rfl, hR, hB⟩
end Go.Proofs.YtecgkcgfeghhgaaGreatDoor.PAll
set_option linter.unusedVariables false
set_option linter.unusedSimpArgs false
namespace Go.Proofs.YtecgkcgfeghhgaaGreatDoor.PAll
open Go.RowKit Go.Proofs.YtecgkcgfeghhgaaGreatDoorW.PrintWords Go.Proofs.YtecgkcgfeghhgaaGreatDoorW.PrintLast Go.Proofs.YtecgkcgfeghhgaaGreatDoorW.PrintMore
set_option maxHeartbeats 4000000 in
set_option maxRecDepth 100000 in
theorem order_calls (A1 : Option Addr) (n c1 : Nat) (w : World) :
    Calls Tryz.prog 69 #[.slice A1 n c1] w fun e w' => e = .returned (.func (.func 90) #[] #[.pointer (some ⟨w.heap.size, 0, none⟩)]) ∧ ∃ t, w' = w.alloc (.cells #[.slice A1 n c1] t) := by
  go_enter Tryz.func69, Tryz.ntmps69
  go_wp2
  go_ret
  exact ⟨rfl, _, rfl⟩
theorem rowStep_valid : ∀ (ks : List Int) (r : List V) (ks' : List Int), rowStep ks r = some ks' → ∀ v ∈ r, validV v = true
  | [], [], _, _ => by simp
  | [], _ :: _, _, h => by simp [rowStep] at h
  | _ :: _, [], _, h => by simp [rowStep] at h
  | k :: ks, v :: vs, ks', h => by
    simp only [rowStep] at h
    split at h
    · rename_i hv
      cases hr : rowStep ks vs with
      | none => simp [hr] at h
      | some t =>
        intro u hu
        rcases List.mem_cons.1 hu with rfl | hu
        · exact hv.1
        · exact rowStep_valid ks vs t hr u hu
    · cases h
theorem validFrom_valid : ∀ (l : List (List V)) (ks : List Int), validFrom ks l = true → ∀ r ∈ l, (∀ v ∈ r, validV v = true) ∧ r.length = ks.length
  | [], _, _ => by simp
  | r :: rs, ks, h => by
    simp only [validFrom] at h
    cases hr : rowStep ks r with
    | none => simp [hr] at h
    | some t =>
      rw [hr] at h
      intro u hu
      have hl := rowStep_len ks r t hr
      rcases List.mem_cons.1 hu with rfl | hu
      · exact ⟨rowStep_valid ks u t hr, hl.2⟩
      · have := validFrom_valid rs t h u hu
        exact ⟨this.1, this.2.trans hl.1⟩
theorem validB_valid {l : List (List V)} (h : validB l = true) : ∀ r ∈ l, ∀ v ∈ r, validV v = true := by
  cases l with
  | nil => simp
  | cons r rs => exact fun u hu => (validFrom_valid (r :: rs) _ h u hu).1
theorem validB_len {r : List V} {rs : List (List V)} (h : validB (r :: rs) = true) : ∀ u ∈ r :: rs, u.length = r.length := fun u hu => by
  have := (validFrom_valid (r :: rs) _ h u hu).2
  simpa using this
theorem made_form {α : Type} {d : Kd α} {e base N : Nat} {ok : Nat → Prop} {W : World} {v : Value} {xs : List α} (h : d.R e W base ok v xs) (hn : ∃ b, v.ownBlock = some b ∧ N ≤ b) : ∃ g cap, v = .slice (some ⟨g, 0, none⟩) xs.length cap ∧ N ≤ g ∧ g < W.heap.size := by
  obtain ⟨b, hb, hN⟩ := hn
  obtain ⟨_, inner, ho, _⟩ := h
  have hlt := own_lt ho b hb
  rcases ho.2 with ⟨rfl, _⟩ | ⟨g, cap, cur, rfl, hg, hh, r⟩
  · simp [Value.ownBlock] at hb
  · have : g = b := by simpa [Value.ownBlock] using hb
    subst this
    exact ⟨g, cap, rfl, hN, hlt⟩
set_option maxHeartbeats 8000000 in
set_option maxRecDepth 100000 in
theorem arranged_calls (A0 : Option Addr) (c0 : Nat) (l0 : List (List V)) (A1 : Option Addr) (c1 : Nat) (l1 : List KeyT) (w : World) (hr0 : Kd.C kRow w A0 l0.length l0) (hr1 : Kd.C kKey w A1 l1.length l1) (hG : ∀ row ∈ l0, RowGood l1 row) (hn0 : l0.length ≤ 1099511627776) (hn1 : l1.length ≤ 1099511627776) :
    Calls Tryz.prog 48 #[.slice A0 l0.length c0, .slice A1 l1.length c1] w fun e w' => ∃ v, e = .returned v ∧ Kd.R kRow 53 w' w.heap.size (fun _ => True) v (sortR l1 l0) ∧ Below w.heap.size w w' := by
  have HR0 := Aside0.mk hr0
  have HR1 := Aside0.mk hr1
  have HG := Aside0.mk hG
  have HN0 := Aside0.mk hn0
  have HN1 := Aside0.mk hn1
  clear hr0 hr1 hG hn0 hn1
  go_enter Tryz.func48, Tryz.ntmps48
  go_wp2_with (first | ((with_reducible refine gate_dst (N := 11) rfl ?_); refine Kd.R_make kRow (w0 := w) w.heap.size 53 rfl (N := 11) rfl _ _ _ rfl (l0.length : Int) rfl rfl (by kernel_rfl) (.slice none 0 0) 24 infoRow rfl (by decide) (by decide) [] (ok := fun _ => True) (okp := fun _ => True) ⟨_, rfl, Kd.R_nil _ _ _ _ _⟩ (fun _ hk => hk) trivial (by omega) (by have := HN0.out; omega) (Below.refl _ _) (Nat.le_refl _) ?_; intro v1 w1 hR hb hg hnew; obtain ⟨g, cap, e1, hg1, hg2⟩ := made_form hR hnew; subst e1; have HO := Aside0.mk hR; have HB := Aside0.mk hb; have HGE := Aside0.mk hg1; have HGL := Aside0.mk hg2; clear hR hb hg hnew hg1 hg2))
  rw [Int.toNat_natCast, List.length_replicate] at HO
  clear HGL
  go_loopg [14] l0.length (fun kq v14 W => ∃ x : Int, v14 = .int .i64 x ∧ Aside0 (0 ≤ x ∧ x ≤ l0.length ∧ (kq : Int) = l0.length - x) ∧ Aside0 (Kd.R kRow 53 W w.heap.size (fun _ => True) (.slice (some ⟨g, 0, none⟩) l0.length cap) (l0.take x.toNat ++ List.replicate (l0.length - x.toNat) [])) ∧ Aside0 (Below w.heap.size w W))
  case atStart => exact ⟨0, rfl, ⟨by omega⟩, ⟨by simpa using HO.out⟩, HB⟩
  case round =>
    clear HO HB
    obtain ⟨x, rfl, HX, HO, HB⟩ := hrel
    obtain ⟨hx0, hx1, hkq⟩ := HX.out
    by_cases hlt : x < (l0.length : Int)
    · have c1' : decide (x < (l0.length : Int)) = true := decide_eq_true hlt
      have c2 : decide (0 ≤ x) = true := decide_eq_true hx0
      obtain ⟨ad, Ar, cr, e, hx_0, hlc, hrow⟩ := at_L4 HR0.out x hx0 hlt
      cases e
      replace hx_0 := (HB.out.cell (World.block_lt_of_cell? w _ hx_0)).trans hx_0
      have hi : x.toNat < l0.length := by omega
      have hrd : rd_L4 l0 x = l0[x.toNat] := by simp [rd_L4, List.getElem?_eq_getElem hi]
      have HROW := Aside0.mk hrow
      have HLN := Aside0.mk (HG.out l0[x.toNat] (List.getElem_mem hi)).len
      rw [← hrd] at HLN
      obtain ⟨row, hrw⟩ : ∃ row, row = rd_L4 l0 x := ⟨_, rfl⟩
      have HRD : Aside0 (l0[x.toNat]? = some row) := ⟨by rw [hrw, hrd]; exact List.getElem?_eq_getElem hi⟩
      rw [← hrw] at hx_0 hlc HROW HLN
      have HLT := Aside0.mk hlt
      have HKQ := Aside0.mk hkq
      have HHI := Aside0.mk hi
      have HX0 := Aside0.mk hx0
      have HWR : Aside0 (wrap64 (x + 1) = x + 1) := ⟨by have := HN0.out; unfold wrap64; omega⟩
      clear hlc hrow hrd hrw hkq hi hx1
      go_wp2_with fail
      refine (clone_calls Ar cr row _ (Kd.C_below HROW.out HB.out) HLN.out).mono ?_
      rintro e w2 ⟨vv, rfl, hRv, hbv⟩
      obtain ⟨Av, cv, ev⟩ := Kd.R_slice hRv
      subst ev
      have hgw : g < wr.heap.size := Kd.R_lt HO.out g rfl
      have HB2 := Aside0.mk (below_step HB.out hbv)
      have HO2 := Aside0.mk (Kd.R_below HO.out hbv)
      have HRV := Aside0.mk (Kd.R_mono (Kd.R_lower (Kd.R_bound hRv) HB.out.size) (ok' := fun k => k ≠ g) (fun k hk e => by have := hk.2.1; omega))
      clear hRv hbv
      obtain ⟨cc, hcl, _, hcc, hfr⟩ := Kd.R_elem HO2.out ([] : List V) x HX0.out HLT.out
      obtain ⟨u0, rfl⟩ : ∃ u0, cc = [u0] := List.length_eq_one_iff.1 hcl
      have F0 : w2.cell? ⟨g, x.toNat, none⟩ = some u0 := by
        have h := hcc 0 u0 rfl
        change w2.cell? ⟨g, x.toNat * 1 + 0, none⟩ = some u0 at h
        rwa [Nat.mul_one, Nat.add_zero] at h
      have F1 : w2.frozen? ⟨g, x.toNat, none⟩ = false := by
        have h := hfr 0
        change w2.frozen? ⟨g, x.toNat * 1 + 0, none⟩ = false at h
        rwa [Nat.mul_one, Nat.add_zero] at h
      obtain ⟨hO3, hG3⟩ := Kd.R_seg (j := 0) (seg := [Value.slice Av row.length cv]) (x' := row) HO2.out x HX0.out HLT.out hcl hcc (Nat.le_refl 1) (okp := fun k => k ≠ g) ⟨_, rfl, HRV.out⟩ (fun k hk => ⟨trivial, hk⟩)
      have e3 : w2.setCells g (x.toNat * kRow.sz + 0) [Value.slice Av row.length cv] = w2.setCell ⟨g, x.toNat, none⟩ (Value.slice Av row.length cv) := by
        change w2.setCells g (x.toNat * 1 + 0) _ = _
        rw [Nat.mul_one, Nat.add_zero]
        rfl
      rw [e3] at hO3 hG3
      have HO3 := Aside0.mk hO3
      have HB3 : Aside0 (Below w.heap.size w (w2.setCell ⟨g, x.toNat, none⟩ (Value.slice Av row.length cv))) := ⟨HB2.out.setCell HGE.out _⟩
      clear hcl hcc hfr hO3 hG3 e3
      have HXX : Aside0 ((l0.take x.toNat ++ List.replicate (l0.length - x.toNat) []).set x.toNat row = l0.take (x + 1).toNat ++ List.replicate (l0.length - (x + 1).toNat) []) := ⟨by
        have hi := HHI.out
        have e1 : (x + 1).toNat = x.toNat + 1 := by have := HX0.out; omega
        have e2 : l0.length - x.toNat = (l0.length - (x.toNat + 1)) + 1 := by omega
        have e3 : l0[x.toNat] = row := by
          have := HRD.out
          rw [List.getElem?_eq_getElem hi] at this
          exact Option.some.inj this
        rw [e1, e2, List.replicate_succ, take_snoc _ _ hi, List.set_append_right _ _ (by rw [List.length_take]; omega), List.length_take, Nat.min_eq_left (by omega), Nat.sub_self, List.set_cons_zero, e3]
        simp⟩
      go_wp2
      have hlt := HLT.out
      have hk := HKQ.out
      cases gk with
      | zero => omega
      | succ k1 =>
        go_roundg k1
        case measure => omega
        case rel => exact ⟨x + 1, by rw [HWR.out], ⟨by omega⟩, ⟨by rw [← HXX.out]; exact HO3.out⟩, HB3⟩
    · have c1' : decide (x < (l0.length : Int)) = false := decide_eq_false hlt
      have hxn : x.toNat = l0.length := by omega
      have HO2 : Aside0 (Kd.R kRow 53 wr w.heap.size (fun _ => True) (.slice (some ⟨g, 0, none⟩) l0.length cap) l0) := ⟨by
        have h := HO.out
        rw [hxn, List.take_length, Nat.sub_self, List.replicate_zero, List.append_nil] at h
        exact h⟩
      clear hlt hxn hkq hx0 hx1
      go_wp2_with fail
      refine (order_calls A1 l1.length c1 wr).mono ?_
      rintro e w2 ⟨rfl, t2, hw2⟩
      have HW2 := Aside0.mk hw2
      clear hw2
      have hst : ∀ (a : Addr) (m : Mode) (W : World), Sem.run Tryz.prog (store a (.func (.func 90) #[] #[.pointer (some ⟨wr.heap.size, 0, none⟩)]) m) W = stored Tryz.prog W a (.func (.func 90) #[] #[.pointer (some ⟨wr.heap.size, 0, none⟩)]) m := fun a m W => run_store _ W a _ m rfl
      go_wp2_with fail
      have hB2 : Below w.heap.size w w2 := by rw [HW2.out]; exact HB.out.alloc HB.out.size _
      have hgw : g < wr.heap.size := Kd.R_lt HO2.out g rfl
      have hw2s : w2.heap.size = wr.heap.size + 1 := by rw [HW2.out]; simp
      have D0 : w2.cell? ⟨wr.heap.size, 0, none⟩ = some (.slice A1 l1.length c1) := by rw [HW2.out]; exact (blk_cell (heap_alloc_new _ _) 0).trans rfl
      refine (sortFunc_all l1 A1 c1 w2.heap.size wr.heap.size g cap l0 w _ (Kd.R_alloc (by rw [HW2.out]; exact Kd.R_alloc HO2.out _) _) (hB2.alloc hB2.size _) ((blk_cell (heap_alloc_new _ _) 0).trans rfl) ((Below.refl w2.heap.size w2).alloc (Nat.le_refl _) _ |>.cell (World.block_lt_of_cell? w2 _ D0) |>.trans D0) (by omega) (by omega) HR1.out HN1.out HG.out HN0.out).mono ?_
      rintro e w3 ⟨rfl, hR3, hB3⟩
      have HR3 := Aside0.mk hR3
      have HB3 := Aside0.mk hB3
      clear hR3 hB3 hB2 hgw hw2s D0
      go_wp2
      go_ret
      refine ⟨_, rfl, ?_, HB3.out⟩
      exact HR3.out
end Go.Proofs.YtecgkcgfeghhgaaGreatDoor.PAll
set_option linter.unusedVariables false
set_option linter.unusedSimpArgs false
namespace Go.Proofs.YtecgkcgfeghhgaaGreatDoor.PAll
open Go.RowKit Go.Proofs.YtecgkcgfeghhgaaGreatDoorW.PrintWords Go.Proofs.YtecgkcgfeghhgaaGreatDoorW.PrintLast Go.Proofs.YtecgkcgfeghhgaaGreatDoorW.PrintMore
open Go.Shelf Go.Lib
structure Rel1 where
  r : List V → List Value → Prop
  len : ∀ {x cs}, r x cs → cs.length = 1
  one : ∀ {x cs}, r x cs → ∀ u ∈ cs, u.oneCell' = true
def Rel1.kd (R : Rel1) : Kd (List V) where
  sz := 1
  E := []
  K := fun _ x cs => R.r x cs
  M := fun _ _ _ x cs => R.r x cs
  K_len := R.len
  K_one := R.one
  K_below := fun _ h => h
  K_of_M := fun h => h
  M_mono := fun _ h => h
  M_bound := fun h => h
  M_move := fun _ h => h
  M_lower := fun _ h => h
def relK (w : World) : Rel1 := ⟨fun x cs => kRow.K w x cs, fun h => kRow.K_len h, fun h => kRow.K_one h⟩
def relM (w : World) (base : Nat) : Rel1 := ⟨fun x cs => kRow.M w base (fun k => k < w.heap.size) x cs, fun h => kRow.K_len (kRow.K_of_M h), fun h => kRow.K_one (kRow.K_of_M h)⟩
theorem relK_C {w W : World} {A : Option Addr} {n : Nat} {xs : List (List V)} (h : (relK w).kd.C W A n xs) (hb : Below w.heap.size w W) : kRow.C W A n xs :=
  ReadsRow.imp_ h (Below.refl _ _) (fun _ _ hp => kRow.K_below hb hp)
theorem C_relK {w : World} {A : Option Addr} {n : Nat} {xs : List (List V)} (h : kRow.C w A n xs) : (relK w).kd.C w A n xs := h
theorem C_relM {w : World} {base : Nat} {e : Nat} {A : Option Addr} {n c : Nat} {xs : List (List V)} (h : kRow.R e w base (fun _ => True) (.slice A n c) xs) : (relM w base).kd.C w A n xs := by
  obtain ⟨A', c', he, hl, hr⟩ := OwnRow.reads h.2
  injection he with h1 h2 h3
  subst h1 h2 h3
  exact ReadsRow.imp_ hr (Below.refl _ _) (fun _ _ hp => kRow.M_mono (fun k hk => hk.2.2.1) (kRow.M_bound hp))
theorem R_relM {w W : World} {base b e : Nat} {v : Value} {xs : List (List V)} (h : (relM w base).kd.R e W b (fun _ => True) v xs) (hb : Below w.heap.size w W) (hbb : base ≤ b) (hwb : w.heap.size ≤ b) : kRow.R e W base (fun _ => True) v xs := by
  obtain ⟨h0, inner, ho, hr⟩ := h
  refine ⟨fun _ _ => trivial, inner, own_weaken ho hbb, ?_⟩
  exact hr.imp_ (fun _ _ hp => kRow.M_mono (fun k hk => ⟨trivial, fun e => by have := own_base ho k e.symm; omega⟩) (Kd.M_step hp (fun k hk _ => hb.block k hk)))
set_option maxHeartbeats 4000000 in
set_option maxRecDepth 100000 in
theorem cloneRows_calls (Rr : Rel1) (A0 : Option Addr) (n c0 : Nat) (l0 : List (List V)) (w : World) (hr0 : Rr.kd.C w A0 n l0) (hn : l0.length ≤ 2199023255552) :
    Calls Tryz.prog 49 #[.slice A0 n c0] w fun e w' => ∃ v : Value, e = .returned v ∧ Rr.kd.R 53 w' w.heap.size (fun _ => True) v l0 ∧ Below w.heap.size w w' := by
  have qT : ∀ (w : World) (a : Option Addr) (n c n' c' : Nat), (binOp .eql 22 (.slice a n c) (.slice none n' c')).run Tryz.prog w = .ok (.bool a.isNone) w := fun w a n c n' c' => Lib.run_eql_slice_nil w _ _ a n c n' c' Tryz.underlying22
  have hln : l0.length = n := hr0.1
  subst hln
  have HR0 := Aside0.mk hr0
  have HN := Aside0.mk hn
  clear hr0 hn
  cases A0 with
  | none =>
    have hl : l0 = [] := by
      rcases Nat.eq_zero_or_pos l0.length with h | h
      · exact List.eq_nil_of_length_eq_zero h
      · obtain ⟨ad, h2, _⟩ := HR0.out.2.2 h
        cases h2
    have HL := Aside0.mk hl
    clear hl
    go_enter Tryz.func49, Tryz.ntmps49
    go_wp2
    go_ret
    refine ⟨_, rfl, ?_, Below.refl _ _⟩
    rw [HL.out]
    exact Kd.R_nil _ _ _ _ _
  | some ad =>
    go_enter Tryz.func49, Tryz.ntmps49
    have HO : Aside0 (Kd.R Rr.kd 53 (w.alloc (.cells #[] 53)) w.heap.size (fun _ => True) (.slice (some ⟨w.heap.size, 0, none⟩) 0 0) []) := ⟨R_empty Rr.kd 53 w⟩
    have HB := Aside0.mk ((Below.refl w.heap.size w).alloc (Nat.le_refl _) (.cells #[] 53))
    have HR1 := Aside0.mk (Kd.C_below HR0.out HB.out)
    go_wp2_with (at_builtin; refine Kd.R_append_rows Rr.kd (w0 := w) w.heap.size rfl (.tmp 5) (.tmp 6) 22 53 (.slice none 0 0) 24 rfl Tryz.underlying22 infoRow rfl (Nat.le_refl 1) (by decide) _ [] l0 (some ad) l0.length c0 (fun _ => True) (fun _ => False) rfl rfl HO.out HR1.out (fun x cs h => h) (fun _ h => h.elim) (fun _ _ => trivial) HB.out HB.out.size (by have := HN.out; simp; omega) ?_; intro v1 w1 hR hb hg hat; have HO1 := Aside0.mk hR; have HB1 := Aside0.mk hb; clear hR hb hg hat)
    go_wp2
    go_ret
    exact ⟨_, rfl, HO1.out, HB1.out⟩
theorem growRows_calls (Rr : Rel1) (n : Nat) (w : World) (hn : n ≤ 2199023255552) :
    Calls Tryz.prog 107 #[.slice none 0 0, .int .i64 n] w fun e w' => ∃ v : Value, e = .returned v ∧ Rr.kd.R 53 w' w.heap.size (fun _ => True) v [] ∧ Below w.heap.size w w' := by
  rcases Nat.eq_zero_or_pos n with h | h
  · subst h
    have h := Any8.slices_Grow_room growRows none 0 0 0 w (Nat.le_refl _) (by omega) (by omega) (Nat.le_refl _)
    change Calls Tryz.prog 107 _ _ _ at h
    refine h.mono ?_
    rintro e w' ⟨rfl, rfl⟩
    exact ⟨_, rfl, Kd.R_nil _ _ _ _ _, Below.refl _ _⟩
  · obtain ⟨i0, hi, hzz⟩ := Option.map_eq_some_iff.1 infoRow
    simp only [Prod.mk.injEq] at hzz
    obtain ⟨hz0, hz1, hz2⟩ := hzz
    have h := Any8.slices_Grow_grow growRows i0 (.slice none 0 0) hi hz0 (by omega) none 0 0 n [] w (Nat.le_refl _) (by omega) (by rw [hz2]; omega) (by omega) (by simp) (fun _ => rfl) (fun a h => by cases h)
    change Calls Tryz.prog 107 _ _ _ at h
    refine h.mono ?_
    rintro e w' ⟨rfl, rfl⟩
    obtain ⟨G, hG⟩ : ∃ G, G = grownCap w (0 + n) 0 53 := ⟨_, rfl⟩
    have hGn : 0 + n ≤ G := by rw [hG]; exact grownCap_ge w _ _ _
    have hG63 : G ≤ maxLen := by
      rw [hG]
      exact grownCap_le_maxLen w (0 + n) 0 53 (by unfold maxLen; omega)
    refine ⟨_, rfl, ⟨fun _ _ => trivial, [], ?_, Reps.none _ _⟩, ((Below.refl w.heap.size w).drew).alloc (Nat.le_refl _) _⟩
    have h := World.ownsRow_made (base := w.heap.size) (e := 53) (size := 1) w.drew (([] : List Value).toArray ++ Builtin.zeroCells (Value.slice none 0 0).cells (0 + n - 0) ++ Builtin.zeroCells (Value.slice none 0 0).cells (G - (0 + n))) G (Nat.le_refl _) hG63 (by
      simp [Builtin.zeroCells, Value.cells]
      omega)
    rw [hG] at h
    exact h
end Go.Proofs.YtecgkcgfeghhgaaGreatDoor.PAll
set_option linter.unusedVariables false
set_option linter.unusedSimpArgs false
namespace Go.Proofs.YtecgkcgfeghhgaaGreatDoor.PAll
open Go.RowKit Go.Proofs.YtecgkcgfeghhgaaGreatDoorW.PrintWords Go.Proofs.YtecgkcgfeghhgaaGreatDoorW.PrintLast Go.Proofs.YtecgkcgfeghhgaaGreatDoorW.PrintMore
set_option maxHeartbeats 8000000 in
set_option maxRecDepth 100000 in
theorem concat_calls (Rr : Rel1) (b : Nat) (A0 : Option Addr) (c0 : Nat) (l0 : List (List V)) (A1 : Option Addr) (c1 : Nat) (l1 : List (List V)) (w : World) (hr0 : Rr.kd.C w A0 l0.length l0) (hr1 : Rr.kd.C w A1 l1.length l1) (h0 : w.cell? ⟨b, 0, none⟩ = some (.slice A0 l0.length c0)) (h1 : w.cell? ⟨b, 1, none⟩ = some (.slice A1 l1.length c1)) (hn0 : l0.length ≤ 1099511627776) (hn1 : l1.length ≤ 1099511627776) :
    Calls Tryz.prog 92 #[.slice (some ⟨b, 0, none⟩) 2 2] w fun e w' => ∃ v : Value, e = .returned v ∧ Rr.kd.R 53 w' w.heap.size (fun _ => True) v (l0 ++ l1) ∧ Below w.heap.size w w' := by
  have HR0 := Aside0.mk hr0
  have HR1 := Aside0.mk hr1
  have H0 := Aside0.mk h0
  have H1 := Aside0.mk h1
  have HN0 := Aside0.mk hn0
  have HN1 := Aside0.mk hn1
  clear hr0 hr1 h0 h1 hn0 hn1
  go_enter Tryz.func92, Tryz.ntmps92
  go_wp2
  go_loopg [11, 3] 2 (fun kq v11 v3 W => ∃ x s : Int, v11 = .int .i64 x ∧ v3 = .int .i64 s ∧ Aside0 ((kq : Int) = 2 - x ∧ (x = 0 ∧ s = 0 ∨ x = 1 ∧ s = l0.length ∨ x = 2 ∧ s = (l0.length + l1.length : Nat))) ∧ Aside0 (W = w))
  case atStart => exact ⟨0, 0, rfl, rfl, ⟨by omega⟩, ⟨rfl⟩⟩
  case round =>
    obtain ⟨x, s, rfl, rfl, HX, HW⟩ := hrel
    obtain ⟨hk, hx⟩ := HX.out
    have hn0 := HN0.out
    have hn1 := HN1.out
    by_cases hlt : x < 2
    · obtain ⟨A, n, c, hcell, hnx, hnn⟩ : ∃ A n c, wr.cell? ⟨b, x.toNat, none⟩ = some (.slice A n c) ∧ (x + 1 = 1 ∧ s + n = l0.length ∨ x + 1 = 2 ∧ s + n = (l0.length + l1.length : Nat)) ∧ 0 ≤ s ∧ s + n ≤ 4398046511104 := by
        rcases hx with ⟨rfl, rfl⟩ | ⟨rfl, rfl⟩ | ⟨rfl, rfl⟩
        · exact ⟨A0, l0.length, c0, by rw [HW.out]; exact H0.out, by omega, by omega⟩
        · exact ⟨A1, l1.length, c1, by rw [HW.out]; exact H1.out, by omega, by omega⟩
        · omega
      have HNX := Aside0.mk hnx
      have HNN := Aside0.mk hnn
      have HK := Aside0.mk hk
      have c1' : decide (x < 2) = true := decide_eq_true hlt
      have hx0 : 0 ≤ x := by omega
      have HWR : Aside0 (wrap64 (s + n) = s + n) := ⟨by unfold wrap64; omega⟩
      have c3 : decide (wrap64 (s + n) < 0) = false := decide_eq_false (by rw [HWR.out]; omega)
      have HWX : Aside0 (wrap64 (x + 1) = x + 1) := ⟨by unfold wrap64; omega⟩
      clear hnx hnn hk hx hn0 hn1
      go_wp2
      have hk := HK.out
      cases gk with
      | zero => omega
      | succ k1 =>
        go_roundg k1
        case measure => omega
        case rel => exact ⟨x + 1, s + n, by first | rfl | rw [HWX.out], by first | rfl | rw [HWR.out], ⟨by have := HNX.out; omega⟩, HW⟩
    · have hs : s = (l0.length + l1.length : Nat) := by omega
      subst hs
      have c1' : decide (x < 2) = false := decide_eq_false hlt
      have hW := HW.out.symm
      subst hW
      clear HW hx hk hlt hn0 hn1 HX
      go_wp2_with fail
      refine (growRows_calls Rr (l0.length + l1.length) w (by have := HN0.out; have := HN1.out; omega)).mono ?_
      rintro e w1 ⟨v1, rfl, hR1, hB1⟩
      have HR2 := Aside0.mk hR1
      have HB1 := Aside0.mk hB1
      clear hR1 hB1
      go_wp2
      go_loopg [27, 6] 2 (fun kq v27 v6 W => ∃ x : Int, v27 = .int .i64 x ∧ Aside0 ((kq : Int) = 2 - x ∧ 0 ≤ x) ∧ Aside0 (Rr.kd.R 53 W w.heap.size (fun _ => True) v6 (if x = 0 then [] else if x = 1 then l0 else l0 ++ l1)) ∧ Aside0 (Below w.heap.size w W))
      case atStart => exact ⟨0, rfl, ⟨by omega⟩, ⟨by rw [if_pos rfl]; exact HR2.out⟩, HB1⟩
      case round =>
        clear HR2 HB1
        obtain ⟨x, rfl, HX, HO, HB⟩ := hrel
        obtain ⟨hk, hx⟩ := HX.out
        have hn0 := HN0.out
        have hn1 := HN1.out
        by_cases hlt : x < 2
        · obtain ⟨A, n, c, ls, hcell, hC, hls, hnx⟩ : ∃ A n c ls, wr.cell? ⟨b, x.toNat, none⟩ = some (.slice A n c) ∧ Rr.kd.C wr A n ls ∧ (n ≤ 1099511627776 ∧ (if x = 0 then [] else if x = 1 then l0 else l0 ++ l1).length ≤ 1099511627776) ∧ (if x = 0 then [] else if x = 1 then l0 else l0 ++ l1) ++ ls = (if x + 1 = 0 then [] else if x + 1 = 1 then l0 else l0 ++ l1) := by
            by_cases h0 : x = 0
            · subst h0
              exact ⟨A0, l0.length, c0, l0, (HB.out.cell (World.block_lt_of_cell? w _ H0.out)).trans H0.out, Kd.C_below HR0.out HB.out, by simp; omega, by simp⟩
            · have h1 : x = 1 := by omega
              subst h1
              exact ⟨A1, l1.length, c1, l1, (HB.out.cell (World.block_lt_of_cell? w _ H1.out)).trans H1.out, Kd.C_below HR1.out HB.out, by simp; omega, by simp⟩
          obtain ⟨cur, hcur⟩ : ∃ cur, cur = (if x = 0 then [] else if x = 1 then l0 else l0 ++ l1) := ⟨_, rfl⟩
          rw [← hcur] at HO hls hnx
          have HLS := Aside0.mk hls
          have HNX := Aside0.mk hnx
          have HC := Aside0.mk hC
          have HK := Aside0.mk hk
          have c1' : decide (x < 2) = true := decide_eq_true hlt
          have HWX : Aside0 (wrap64 (x + 1) = x + 1) := ⟨by unfold wrap64; omega⟩
          clear hls hnx hk hn0 hn1 hC hcur
          go_wp2_with (at_builtin; refine Kd.R_append_rows Rr.kd (w0 := w) w.heap.size rfl (.tmp 31) (.tmp 32) 22 53 (.slice none 0 0) 24 rfl Tryz.underlying22 infoRow rfl (Nat.le_refl 1) (by decide) _ cur ls A n c (fun _ => True) (fun _ => False) rfl rfl HO.out HC.out (fun x cs h => h) (fun _ h => h.elim) (fun _ _ => trivial) HB.out HB.out.size (by have := HLS.out; omega) ?_; intro v1 w1 hR hb hg hat; have HO1 := Aside0.mk hR; have HB1 := Aside0.mk hb; clear hR hb hg hat)
          have hk := HK.out
          cases gk with
          | zero => omega
          | succ k1 =>
            go_roundg k1
            case measure => omega
            case rel => exact ⟨x + 1, by first | rfl | rw [HWX.out], ⟨by omega⟩, ⟨by rw [← HNX.out]; exact HO1.out⟩, HB1⟩
        · have c1' : decide (x < 2) = false := decide_eq_false hlt
          go_wp2
          go_ret
          refine ⟨_, rfl, ?_, HB.out⟩
          have h := HO.out
          rw [if_neg (by omega), if_neg (by omega)] at h
          exact h
set_option maxHeartbeats 4000000 in
set_option maxRecDepth 100000 in
theorem both_calls (A0 : Option Addr) (c0 : Nat) (l0 : List (List V)) (A1 : Option Addr) (c1 : Nat) (l1 : List (List V)) (l : List (List V)) (hl : l = l0 ++ l1) (w : World) (hr0 : Kd.C kRow w A0 l0.length l0) (hr1 : Kd.C kRow w A1 l1.length l1) (hv : RowsV l) :
    Calls Tryz.prog 71 #[.slice A0 l0.length c0, .slice A1 l1.length c1] w fun e w' => ∃ v : Value, e = .returned (.tuple #[v, .bool (validB l)]) ∧ (relK w).kd.R 53 w' w.heap.size (fun _ => True) v l ∧ Below w.heap.size w w' := by
  obtain ⟨k, hk⟩ := (valid_ev l hv).rounds
  have hlen := hv.2
  rw [hl, List.length_append] at hlen
  have HLL := Aside0.mk hl
  have HK := Aside0.mk hk
  have HL := Aside0.mk hlen
  have HR0 := Aside0.mk hr0
  have HR1 := Aside0.mk hr1
  clear hk hr0 hr1 hv hlen hl
  go_enter Tryz.func71, Tryz.ntmps71
  go_wp2_with fail
  have B1 : Below w.heap.size w (w.alloc (.cells #[.slice A0 l0.length c0, .slice A1 l1.length c1] 22)) := (Below.refl w.heap.size w).alloc (Nat.le_refl _) _
  refine (concat_calls (relK w) w.heap.size A0 c0 l0 A1 c1 l1 _ (Kd.C_below (C_relK HR0.out) B1) (Kd.C_below (C_relK HR1.out) B1) ((blk_cell (heap_alloc_new _ _) 0).trans rfl) ((blk_cell (heap_alloc_new _ _) 1).trans rfl) (by have := HL.out; omega) (by have := HL.out; omega)).mono ?_
  rintro e w1 ⟨v1, rfl, hR1, hb1⟩
  rw [← HLL.out] at hR1
  have HO := Aside0.mk (Kd.R_lower hR1 B1.size)
  have HB := Aside0.mk (B1.trans (hb1.mono B1.size))
  clear hR1 hb1 B1
  obtain ⟨Av, cv, ev, hlc, hC⟩ := Kd.R_reads HO.out
  subst ev
  have HC := Aside0.mk (relK_C hC HB.out)
  have HLC := Aside0.mk hlc
  clear hC hlc
  go_wp2_with fail
  refine (bag_Valid.calls k _ _ l (validB l) _ HC.out HLC.out HK.out).mono ?_
  rintro e w2 ⟨rfl, hb2⟩
  have HO2 := Aside0.mk (Kd.R_below HO.out hb2)
  have HB2 := Aside0.mk (HB.out.trans (hb2.mono HB.out.size))
  clear hb2
  go_wp2
  go_ret2
  exact ⟨_, rfl, HO2.out, HB2.out⟩
end Go.Proofs.YtecgkcgfeghhgaaGreatDoor.PAll
set_option linter.unusedVariables false
set_option linter.unusedSimpArgs false
namespace Go.Proofs.YtecgkcgfeghhgaaGreatDoor.PAll
open Go.RowKit Go.Proofs.YtecgkcgfeghhgaaGreatDoorW.PrintWords Go.Proofs.YtecgkcgfeghhgaaGreatDoorW.PrintLast Go.Proofs.YtecgkcgfeghhgaaGreatDoorW.PrintMore
open Classical in
noncomputable def distR : List ByteArray → List (List V) → List (List V)
  | _, [] => []
  | seen, r :: rs => if nameOf r ∈ seen then distR seen rs else r :: distR (nameOf r :: seen) rs
theorem distR_mem : ∀ (l : List (List V)) (seen : List ByteArray) (r : List V), r ∈ distR seen l → r ∈ l
  | [], _, _, h => by simp [distR] at h
  | a :: l, seen, r, h => by
    simp only [distR] at h
    split at h
    · exact List.mem_cons_of_mem _ (distR_mem l seen r h)
    · rcases List.mem_cons.1 h with rfl | h
      · exact List.mem_cons_self
      · exact List.mem_cons_of_mem _ (distR_mem l _ r h)
theorem distR_len : ∀ (l : List (List V)) (seen : List ByteArray), (distR seen l).length ≤ l.length
  | [], _ => by simp [distR]
  | a :: l, seen => by
    simp only [distR]
    split
    · have := distR_len l seen; simp; omega
    · have := distR_len l (nameOf a :: seen); simp; omega
theorem get_bool {kv : List (ByteArray × Bool)} {s : ByteArray} {c : Bool} (h : (KV.get kv s).getD false = c) : ((KV.get kv s).map Value.bool).getD (.bool false) = .bool c := by
  subst h
  cases KV.get kv s <;> rfl
theorem zeroBool (w : World) : (zeroValue 4).run Tryz.prog w = .ok (.bool false) w := by kernel_rfl
end Go.Proofs.YtecgkcgfeghhgaaGreatDoor.PAll
set_option linter.unusedVariables false
set_option linter.unusedSimpArgs false
namespace Go.Proofs.YtecgkcgfeghhgaaGreatDoor.PAll
open Go.RowKit Go.Proofs.YtecgkcgfeghhgaaGreatDoorW.PrintWords Go.Proofs.YtecgkcgfeghhgaaGreatDoorW.PrintLast Go.Proofs.YtecgkcgfeghhgaaGreatDoorW.PrintMore
structure Gath where
  σ : Type
  T : TypeId
  S : TypeId
  take : Nat
  done : Nat
  cells : σ → Array Value
  init : σ
  step : σ → V → σ
  out : σ → Int × Int × ByteArray × Int
  good : V → Prop
  inv : σ → Prop
  inv0 : inv init
  step_inv : ∀ s v, inv s → good v → inv (step s v)
  hmt : ∀ (a : Addr) (w : World), (method 297 T (.pointer (some a)) "jointer/bag.take").run Tryz.prog w = .ok (take, .pointer (some a)) w
  hmd : ∀ (a : Addr) (w : World), (method 297 T (.pointer (some a)) "jointer/bag.done").run Tryz.prog w = .ok (done, .pointer (some a)) w
  het : ∀ args w, (callFunc take args).run Tryz.prog w = .ok (.enter take args) w
  hed : ∀ args w, (callFunc done args).run Tryz.prog w = .ok (.enter done args) w
  htake : ∀ b s v w, inv s → good v → w.heap[b]? = some (.cells (cells s) S (0, 0)) → Calls Tryz.prog take #[.pointer (some ⟨b, 0, none⟩), .agg #[.int .u8 v.f0, .int .i64 v.f1, .string v.f2]] w fun e w' => e = .returned (.tuple #[]) ∧ w'.heap[b]? = some (.cells (cells (step s v)) S (0, 0)) ∧ w.grownBy w' (some b)
  hdone : ∀ b s w, inv s → w.heap[b]? = some (.cells (cells s) S (0, 0)) → Calls Tryz.prog done #[.pointer (some ⟨b, 0, none⟩)] w fun e w' => e = .returned (.agg #[.int .u8 (out s).1, .int .i64 (out s).2.1, .string (out s).2.2.1, .int .i64 (out s).2.2.2]) ∧ Below w.heap.size w w'
open Classical in
theorem seen_put {kv : List (ByteArray × Bool)} {seen : List ByteArray} (h : ∀ s, (KV.get kv s).getD false = decide (s ∈ seen)) (x : ByteArray) : ∀ t, (KV.get (KV.put kv x true) t).getD false = decide (t ∈ x :: seen) := fun t => by
  by_cases ht : t = x
  · subst ht; simp [KV.get_put_same]
  · rw [KV.get_put_other _ ht, h]; simp [ht]
theorem one_CV (W : World) (v : V) (t : TypeId) : Kd.C kV (W.alloc (.cells #[.int .u8 v.f0, .int .i64 v.f1, .string v.f2] t)) (some ⟨W.heap.size, 0, none⟩) [v].length [v] := by
  refine ⟨rfl, by simp, fun _ => ⟨⟨W.heap.size, 0, none⟩, rfl, fun j p hj => ?_⟩⟩
  cases j with
  | succ j => simp at hj
  | zero =>
    obtain rfl : v = p := by simpa using hj
    refine ⟨[.int .u8 v.f0, .int .i64 v.f1, .string v.f2], rfl, kV.K_of_M (base := 0) (ok := fun _ => True) (k36_mkM _ _ _ v), fun i u hi => ?_⟩
    have h := blk_cell (heap_alloc_new W (.cells #[.int .u8 v.f0, .int .i64 v.f1, .string v.f2] t)) i
    rw [add_plain, Nat.zero_mul, Nat.zero_add]
    refine h.trans ?_
    simpa using hi
open Classical in
noncomputable def pickV (fn : Int) (d : Bool) : List ByteArray → List V → List V
  | _, [] => []
  | seen, v :: vs => if fn ≠ 0 ∧ v.f0 = 0 then pickV fn d seen vs else if d = true then (if nameOf [v] ∈ seen then pickV fn d seen vs else v :: pickV fn d (nameOf [v] :: seen) vs) else v :: pickV fn d seen vs
open Classical in
set_option maxHeartbeats 2000000 in
set_option maxRecDepth 100000 in
theorem aggregate_walk (G : Gath) (k : Nat) (fn : Int) (d : Bool) (A2 : Option Addr) (c2 : Nat) (l : List V) (w : World) (hT : LaidT w) (hr : Kd.C kV w A2 l.length l) (hc : l.length ≤ c2) (hok : ∀ v ∈ l, RowOk [v]) (hn : l.length ≤ 1099511627776)
    (hall : bag_allowed.f k fn d l = some true) (hgood : ∀ v ∈ pickV fn d [] l, G.good v)
    (hgath : ∀ w, Calls Tryz.prog 57 #[.int .u8 fn] w fun e w' => e = .returned (.iface G.T (.pointer (some ⟨w.heap.size, 0, none⟩))) ∧ w' = w.alloc (.cells (G.cells G.init) G.S)) :
    Calls Tryz.prog 21 #[.int .u8 fn, .bool d, .slice A2 l.length c2] w fun e w' => e = .returned (.agg #[.int .u8 (G.out ((pickV fn d [] l).foldl G.step G.init)).1, .int .i64 (G.out ((pickV fn d [] l).foldl G.step G.init)).2.1, .string (G.out ((pickV fn d [] l).foldl G.step G.init)).2.2.1, .int .i64 (G.out ((pickV fn d [] l).foldl G.step G.init)).2.2.2]) ∧ Below w.heap.size w w' := by
  have HT := Aside0.mk hT
  have HR := Aside0.mk hr
  have HC := Aside0.mk hc
  have HOK := Aside0.mk hok
  have HN := Aside0.mk hn
  have HA := Aside0.mk hall
  have HG := Aside0.mk hgood
  have HGA := Aside0.mk hgath
  clear hT hr hc hok hn hall hgood hgath
  have hmm : ∀ (w : World), (Instr.makeMap 78 none).run Tryz.prog w = .ok (.map (some w.heap.size)) (w.alloc (.map #[] 0)) := fun _ => by kernel_rfl
  go_enter Tryz.func21, Tryz.ntmps21
  go_wp2_with (first | ((with_reducible refine gate_dst (N := 6) rfl ?_); refine box_event ?hg (N := 6) ?hd (cs := #[.int .u8 0, .int .i64 0, .string (⟨#[]⟩ : ByteArray), .int .i64 0]) (t := 38) ?hr ?_; (case hd => rfl); (case hg => rfl); (case hr => first | (go_simp; done) | (go_simp; rfl)); intro q hq W hN hb1; have HB1 := Aside0.mk hb1; have HQ := Aside0.mk hq; have HN0 := Aside0.mk hN; clear hb1 hq hN))
  refine (bag_allowed.calls k fn d A2 c2 l true W (Kd.C_below HR.out HB1.out) HC.out HA.out).mono ?_
  rintro e W1 ⟨rfl, hb2⟩
  have HN1 := Aside0.mk ((hb2.block q (blk_lt HN0.out)).trans HN0.out)
  have HB2 := Aside0.mk (HB1.out.trans (hb2.mono HB1.out.size))
  clear hb2 HN0 HB1
  go_wp2_with fail
  refine (HGA.out W1).mono ?_
  rintro e W2 ⟨rfl, hW2⟩
  have HG0 : Aside0 (W2.heap[W1.heap.size]? = some (.cells (G.cells G.init) G.S (0, 0))) := ⟨by rw [hW2]; exact heap_alloc_new _ _⟩
  have HN2 : Aside0 (W2.heap[q]? = some (.cells #[.int .u8 0, .int .i64 0, .string ⟨#[]⟩, .int .i64 0] 38 (0, 0))) := ⟨by rw [hW2]; exact (Below.heap_alloc W1 _ q (blk_lt HN1.out)).trans HN1.out⟩
  have HB3 : Aside0 (Below w.heap.size w W2) := ⟨by rw [hW2]; exact HB2.out.alloc HB2.out.size _⟩
  have HGE : Aside0 (w.heap.size ≤ W1.heap.size) := ⟨HB2.out.size⟩
  have HNE : Aside0 (q ≠ W1.heap.size) := ⟨fun e => by have := blk_lt HN1.out; omega⟩
  obtain ⟨g, hg⟩ : ∃ g, g = W1.heap.size := ⟨_, rfl⟩
  rw [← hg] at HG0 HGE HNE
  rw [← hg]
  clear hW2 HN1 HB2 hg
  go_wp2
  clear hmm
  have M0 : Aside0 (∃ kv : List (ByteArray × Bool), KV.Is (W2.alloc (.map #[] 0)) W2.heap.size Value.bool kv ∧ ∀ s, (KV.get kv s).getD false = decide (s ∈ ([] : List ByteArray))) := ⟨⟨[], KV.Is.made W2 _, fun s => by simp [KV.get]⟩⟩
  have HMG : Aside0 (W2.heap.size ≠ g ∧ q ≠ W2.heap.size ∧ w.heap.size ≤ W2.heap.size) := ⟨fun e => by have := blk_lt HG0.out; omega, fun e => by have := blk_lt HN2.out; omega, HB3.out.size⟩
  have HG1 : Aside0 ((W2.alloc (.map #[] 0)).heap[g]? = some (.cells (G.cells G.init) G.S (0, 0))) := ⟨(Below.heap_alloc W2 _ g (blk_lt HG0.out)).trans HG0.out⟩
  have HN3 : Aside0 ((W2.alloc (.map #[] 0)).heap[q]? = some (.cells #[.int .u8 0, .int .i64 0, .string ⟨#[]⟩, .int .i64 0] 38 (0, 0))) := ⟨(Below.heap_alloc W2 _ q (blk_lt HN2.out)).trans HN2.out⟩
  have HB4 : Aside0 (Below w.heap.size w (W2.alloc (.map #[] 0))) := ⟨HB3.out.alloc HB3.out.size _⟩
  obtain ⟨m, hm⟩ : ∃ m, m = W2.heap.size := ⟨_, rfl⟩
  rw [← hm] at M0 HMG
  simp only [← hm]
  clear hm HG0 HN2 HB3
  go_loopg [23] l.length (fun kq v23 W => ∃ (x : Int) (seen : List ByteArray) (s : G.σ), v23 = .int .i64 x ∧ Aside0 (0 ≤ x ∧ x ≤ l.length ∧ (kq : Int) = l.length - x) ∧ Aside0 (∃ kv : List (ByteArray × Bool), KV.Is W m Value.bool kv ∧ ∀ s, (KV.get kv s).getD false = decide (s ∈ seen)) ∧ Aside0 (W.heap[g]? = some (.cells (G.cells s) G.S (0, 0))) ∧ Aside0 (G.inv s) ∧ Aside0 (W.heap[q]? = some (.cells #[.int .u8 0, .int .i64 0, .string ⟨#[]⟩, .int .i64 0] 38 (0, 0))) ∧ Aside0 ((pickV fn d seen (l.drop x.toNat)).foldl G.step s = (pickV fn d [] l).foldl G.step G.init ∧ ∀ v ∈ pickV fn d seen (l.drop x.toNat), G.good v) ∧ Aside0 (Below w.heap.size w W))
  case atStart => exact ⟨0, [], G.init, rfl, ⟨by omega⟩, M0, HG1, ⟨G.inv0⟩, HN3, ⟨rfl, HG.out⟩, HB4⟩
  case round =>
    clear M0 HG1 HN3 HB4 HG
    obtain ⟨x, seen, s, rfl, HX, HM, HS, HI, HQN, HD, HB⟩ := hrel
    obtain ⟨hx0, hx1, hkq⟩ := HX.out
    by_cases hlt : x < (l.length : Int)
    · have c1 : decide (x < (l.length : Int)) = true := decide_eq_true hlt
      have c2 : decide (0 ≤ x) = true := decide_eq_true hx0
      obtain ⟨ad, e, hx_0, hx_1, hx_2⟩ := at_T36 HR.out x hx0 hlt
      cases e
      replace hx_0 := (HB.out.cell (World.block_lt_of_cell? w _ hx_0)).trans hx_0
      replace hx_1 := (HB.out.cell (World.block_lt_of_cell? w _ hx_1)).trans hx_1
      replace hx_2 := (HB.out.cell (World.block_lt_of_cell? w _ hx_2)).trans hx_2
      have hi : x.toNat < l.length := by omega
      have hrd : rd_T36 l x = l[x.toNat] := by simp [rd_T36, List.getElem?_eq_getElem hi]
      have hok := HOK.out (rd_T36 l x) (by rw [hrd]; exact List.getElem_mem hi)
      have hd := HD.out
      rw [drop_cons l x.toNat hi, ← hrd] at hd
      obtain ⟨v, hv⟩ : ∃ v, v = rd_T36 l x := ⟨_, rfl⟩
      rw [← hv] at hx_0 hx_1 hx_2 hok hd
      have HDV := Aside0.mk hd
      have HOKV := Aside0.mk hok
      have HLT := Aside0.mk hlt
      have HX0 := Aside0.mk hx0
      have HWR : Aside0 (wrap64 (x + 1) = x + 1) := ⟨by have := HN.out; unfold wrap64; omega⟩
      clear hd hok hrd hv hkq hi
      by_cases hsk : fn ≠ 0 ∧ v.f0 = 0
      · have z1 : (fn != 0) = true := by simpa using hsk.1
        have z2 : (v.f0 == 0) = true := by simpa using hsk.2
        have HSK := Aside0.mk hsk
        clear hsk
        go_wp2
        have hlt := HLT.out
        have hk := HX.out.2.2
        have hx0 := HX0.out
        cases gk with
        | zero => omega
        | succ k1 =>
          go_roundg k1
          case measure => omega
          case rel =>
            obtain ⟨kv, hkv1, hkv2⟩ := HM.out
            have hd := HDV.out
            rw [pickV, if_pos HSK.out] at hd
            rw [← show (x + 1).toNat = x.toNat + 1 by omega] at hd
            exact ⟨x + 1, seen, s, by rw [HWR.out], ⟨by omega⟩, ⟨kv, hkv1.below ((Below.refl _ wr).alloc (Nat.le_refl _) _), hkv2⟩, ⟨(Below.heap_alloc wr _ g (blk_lt HS.out)).trans HS.out⟩, HI, ⟨(Below.heap_alloc wr _ q (blk_lt HQN.out)).trans HQN.out⟩, ⟨hd⟩, ⟨HB.out.alloc HB.out.size _⟩⟩
      · by_cases hf : fn = 0
        · have z1 : (fn != 0) = false := by simp [hf]
          have HSK := Aside0.mk hsk
          clear hsk hf
          cases d with
          | false =>
            have hmt := G.hmt
            have het := G.het
            obtain ⟨kv, hkv1, hkv2⟩ := HM.out
            have HK1 := Aside0.mk hkv1
            have HK2 := Aside0.mk hkv2
            have HGD : Aside0 (G.good v) := ⟨by
              have hd := HDV.out.2
              rw [pickV, if_neg HSK.out, if_neg (by simp)] at hd
              exact hd v List.mem_cons_self⟩
            clear hkv1 hkv2
            go_wp2_with fail
            refine (G.htake g s v _ HI.out HGD.out ((Below.heap_alloc wr _ g (blk_lt HS.out)).trans HS.out)).mono ?_
            rintro e w5 ⟨rfl, hcell, hgr⟩
            have HS5 := Aside0.mk hcell
            have HQ5 := Aside0.mk ((hgr.block q (blk_lt ((Below.heap_alloc wr _ q (blk_lt HQN.out)).trans HQN.out)) (fun e => HNE.out (by injection e))).trans ((Below.heap_alloc wr _ q (blk_lt HQN.out)).trans HQN.out))
            have HM5 : Aside0 (KV.Is w5 m Value.bool kv) := ⟨KV.Is.grown (HK1.out.below ((Below.refl _ wr).alloc (Nat.le_refl _) _)) hgr (fun e => HMG.out.1 (by injection e))⟩
            have HB5 : Aside0 (Below w.heap.size w w5) := ⟨((HB.out.alloc HB.out.size (.cells #[.int .u8 v.f0, .int .i64 v.f1, .string v.f2] 36))).grown hgr ((HB.out.alloc HB.out.size (.cells #[.int .u8 v.f0, .int .i64 v.f1, .string v.f2] 36))).size (fun k hk => by cases hk; exact HGE.out)⟩
            have HI5 := Aside0.mk (G.step_inv s v HI.out HGD.out)
            clear hcell hgr hmt het
            go_wp2
            have hlt := HLT.out
            have hk := HX.out.2.2
            have hx0 := HX0.out
            cases gk with
            | zero => omega
            | succ k1 =>
              go_roundg k1
              case measure => omega
              case rel =>
                have hd := HDV.out
                rw [pickV, if_neg HSK.out, if_neg (by simp)] at hd
                rw [← show (x + 1).toNat = x.toNat + 1 by omega] at hd
                exact ⟨x + 1, seen, G.step s v, by rw [HWR.out], ⟨by omega⟩, ⟨kv, HM5.out, HK2.out⟩, HS5, HI5, HQ5, ⟨hd.1, fun u hu => hd.2 u (List.mem_cons_of_mem _ hu)⟩, HB5⟩
          | true =>
            obtain ⟨kv, hkv1, hkv2⟩ := HM.out
            have HK1 := Aside0.mk hkv1
            have HK2 := Aside0.mk hkv2
            have HWB : Aside0 (m < wr.heap.size) := ⟨hkv1.lt⟩
            have HB2 : Aside0 (Below w.heap.size w ((wr.alloc (.cells #[.int .u8 v.f0, .int .i64 v.f1, .string v.f2] 36)).alloc (.cells #[.int .u8 v.f0, .int .i64 v.f1, .string v.f2] 36))) := ⟨(HB.out.alloc HB.out.size _).alloc (Nat.le_trans HB.out.size (by simp)) _⟩
            have HBW : Aside0 (Below wr.heap.size wr ((wr.alloc (.cells #[.int .u8 v.f0, .int .i64 v.f1, .string v.f2] 36)).alloc (.cells #[.int .u8 v.f0, .int .i64 v.f1, .string v.f2] 36))) := ⟨((Below.refl _ wr).alloc (Nat.le_refl _) _).alloc (by simp) _⟩
            have HBX : Aside0 (((wr.alloc (.cells #[.int .u8 v.f0, .int .i64 v.f1, .string v.f2] 36)).alloc (.cells #[.int .u8 v.f0, .int .i64 v.f1, .string v.f2] 36)).heap[wr.heap.size]? = some (.cells #[.int .u8 v.f0, .int .i64 v.f1, .string v.f2] 36 (0, 0))) := ⟨(Below.heap_alloc (wr.alloc (.cells #[.int .u8 v.f0, .int .i64 v.f1, .string v.f2] 36)) _ _ (by simp)).trans (heap_alloc_new _ _)⟩
            clear hkv1 hkv2
            go_wp2_with fail
            have hCV := one_CV (wr.alloc (.cells #[.int .u8 v.f0, .int .i64 v.f1, .string v.f2] 36)) v 36
            rw [show (wr.alloc (.cells #[.int .u8 v.f0, .int .i64 v.f1, .string v.f2] 36)).heap.size = wr.heap.size + 1 by simp] at hCV
            have hcall := name_calls (some ⟨wr.heap.size + 1, 0, none⟩) 1 [v] _ (HT.out.below HB2.out) hCV (by simp) HOKV.out.1 HOKV.out.2.1 HOKV.out.2.2
            clear hCV
            refine hcall.mono ?_
            clear hcall
            rintro e w4 ⟨rfl, hb4⟩
            have HBW4 := Aside0.mk (HBW.out.trans (hb4.mono HBW.out.size))
            have HB4 := Aside0.mk (HB2.out.trans (hb4.mono HB2.out.size))
            have hX4 := (hb4.block _ (blk_lt HBX.out)).trans HBX.out
            have HX4 := Aside0.mk hX4
            have HK4 := Aside0.mk (HK1.out.below HBW4.out)
            have HS4 := Aside0.mk ((HBW4.out.block g (blk_lt HS.out)).trans HS.out)
            have HQ4 := Aside0.mk ((HBW4.out.block q (blk_lt HQN.out)).trans HQN.out)
            have hc : Aside0 ((KV.get kv (nameOf [v])).getD false = decide (nameOf [v] ∈ seen)) := ⟨HK2.out _⟩
            clear hb4 HBX HBW HB2
            by_cases hz : nameOf [v] ∈ seen
            · rw [decide_eq_true hz] at hc
              have HZ := Aside0.mk hz
              clear hz hX4
              go_wp2_with (at_lookup; refine KV.law_lookup _ rfl _ _ 78 rfl 9 4 Tryz.underlying9 Tryz.underlying78 (.bool false) (zeroBool _) m Value.bool kv rfl HK4.out (nameOf [v]) rfl (.bool true) (get_bool hc.out) ?_)
              have hlt := HLT.out
              have hk := HX.out.2.2
              have hx0 := HX0.out
              cases gk with
              | zero => omega
              | succ k1 =>
                go_roundg k1
                case measure => omega
                case rel =>
                  have hd := HDV.out
                  rw [pickV, if_neg HSK.out, if_pos rfl, if_pos HZ.out] at hd
                  rw [← show (x + 1).toNat = x.toNat + 1 by omega] at hd
                  exact ⟨x + 1, seen, s, by rw [HWR.out], ⟨by omega⟩, ⟨kv, HK4.out, HK2.out⟩, HS4, HI, HQ4, ⟨hd⟩, HB4⟩
            · rw [decide_eq_false hz] at hc
              have HZ := Aside0.mk hz
              have HGD : Aside0 (G.good v) := ⟨by
                have hd := HDV.out.2
                rw [pickV, if_neg HSK.out, if_pos rfl, if_neg hz] at hd
                exact hd v List.mem_cons_self⟩
              have hmt := G.hmt
              have het := G.het
              clear hz hX4
              go_wp2_with (first
                | (at_lookup; refine KV.law_lookup _ rfl _ _ 78 rfl 9 4 Tryz.underlying9 Tryz.underlying78 (.bool false) (zeroBool _) m Value.bool kv rfl HK4.out (nameOf [v]) rfl (.bool false) (get_bool hc.out) ?_)
                | (at_mapUpdate; refine KV.law_update _ rfl _ _ _ 78 rfl 9 4 Tryz.underlying9 Tryz.underlying78 m Value.bool kv rfl HK4.out (nameOf [v]) rfl true rfl ?_; intro w6 hM6 hg6; have hX6 := (hg6.block _ (blk_lt HX4.out) (fun e => by have := HWB.out; injection e; omega)).trans HX4.out; have HM6 := Aside0.mk hM6; have HB6 := Aside0.mk (HB4.out.grown hg6 HB4.out.size (fun k hk => by cases hk; exact HMG.out.2.2)); have HS6 := Aside0.mk ((hg6.block g (blk_lt HS4.out) (fun e => HMG.out.1 (by injection e with e; exact e.symm))).trans HS4.out); have HQ6 := Aside0.mk ((hg6.block q (blk_lt HQ4.out) (fun e => HMG.out.2.1 (by injection e))).trans HQ4.out); have X0 : w6.cell? ⟨wr.heap.size, 0, none⟩ = some (.int .u8 v.f0) := (blk_cell hX6 0).trans rfl; have X1 : w6.cell? ⟨wr.heap.size, 1, none⟩ = some (.int .i64 v.f1) := (blk_cell hX6 1).trans rfl; have X2 : w6.cell? ⟨wr.heap.size, 2, none⟩ = some (.string v.f2) := (blk_cell hX6 2).trans rfl; clear hM6 hg6 hX6))
              refine (G.htake g s v _ HI.out HGD.out HS6.out).mono ?_
              rintro e w5 ⟨rfl, hcell, hgr⟩
              have HS5 := Aside0.mk hcell
              have HQ5 := Aside0.mk ((hgr.block q (blk_lt HQ6.out) (fun e => HNE.out (by injection e))).trans HQ6.out)
              have HM5 : Aside0 (KV.Is w5 m Value.bool (KV.put kv (nameOf [v]) true)) := ⟨KV.Is.grown HM6.out hgr (fun e => HMG.out.1 (by injection e))⟩
              have HB5 : Aside0 (Below w.heap.size w w5) := ⟨(HB6.out).grown hgr (HB6.out).size (fun k hk => by cases hk; exact HGE.out)⟩
              have HI5 := Aside0.mk (G.step_inv s v HI.out HGD.out)
              clear hcell hgr hmt het
              go_wp2
              have hlt := HLT.out
              have hk := HX.out.2.2
              have hx0 := HX0.out
              cases gk with
              | zero => omega
              | succ k1 =>
                go_roundg k1
                case measure => omega
                case rel =>
                  have hd := HDV.out
                  rw [pickV, if_neg HSK.out, if_pos rfl, if_neg HZ.out] at hd
                  rw [← show (x + 1).toNat = x.toNat + 1 by omega] at hd
                  exact ⟨x + 1, nameOf [v] :: seen, G.step s v, by rw [HWR.out], ⟨by omega⟩, ⟨(KV.put kv (nameOf [v]) true), HM5.out, seen_put HK2.out _⟩, HS5, HI5, HQ5, ⟨hd.1, fun u hu => hd.2 u (List.mem_cons_of_mem _ hu)⟩, HB5⟩
        · have z1 : (fn != 0) = true := by simpa using hf
          have z2 : (v.f0 == 0) = false := by
            have : v.f0 ≠ 0 := fun e => hsk ⟨hf, e⟩
            simpa using this
          have HSK := Aside0.mk hsk
          clear hsk hf
          cases d with
          | false =>
            have hmt := G.hmt
            have het := G.het
            obtain ⟨kv, hkv1, hkv2⟩ := HM.out
            have HK1 := Aside0.mk hkv1
            have HK2 := Aside0.mk hkv2
            have HGD : Aside0 (G.good v) := ⟨by
              have hd := HDV.out.2
              rw [pickV, if_neg HSK.out, if_neg (by simp)] at hd
              exact hd v List.mem_cons_self⟩
            clear hkv1 hkv2
            go_wp2_with fail
            refine (G.htake g s v _ HI.out HGD.out ((Below.heap_alloc wr _ g (blk_lt HS.out)).trans HS.out)).mono ?_
            rintro e w5 ⟨rfl, hcell, hgr⟩
            have HS5 := Aside0.mk hcell
            have HQ5 := Aside0.mk ((hgr.block q (blk_lt ((Below.heap_alloc wr _ q (blk_lt HQN.out)).trans HQN.out)) (fun e => HNE.out (by injection e))).trans ((Below.heap_alloc wr _ q (blk_lt HQN.out)).trans HQN.out))
            have HM5 : Aside0 (KV.Is w5 m Value.bool kv) := ⟨KV.Is.grown (HK1.out.below ((Below.refl _ wr).alloc (Nat.le_refl _) _)) hgr (fun e => HMG.out.1 (by injection e))⟩
            have HB5 : Aside0 (Below w.heap.size w w5) := ⟨((HB.out.alloc HB.out.size (.cells #[.int .u8 v.f0, .int .i64 v.f1, .string v.f2] 36))).grown hgr ((HB.out.alloc HB.out.size (.cells #[.int .u8 v.f0, .int .i64 v.f1, .string v.f2] 36))).size (fun k hk => by cases hk; exact HGE.out)⟩
            have HI5 := Aside0.mk (G.step_inv s v HI.out HGD.out)
            clear hcell hgr hmt het
            go_wp2
            have hlt := HLT.out
            have hk := HX.out.2.2
            have hx0 := HX0.out
            cases gk with
            | zero => omega
            | succ k1 =>
              go_roundg k1
              case measure => omega
              case rel =>
                have hd := HDV.out
                rw [pickV, if_neg HSK.out, if_neg (by simp)] at hd
                rw [← show (x + 1).toNat = x.toNat + 1 by omega] at hd
                exact ⟨x + 1, seen, G.step s v, by rw [HWR.out], ⟨by omega⟩, ⟨kv, HM5.out, HK2.out⟩, HS5, HI5, HQ5, ⟨hd.1, fun u hu => hd.2 u (List.mem_cons_of_mem _ hu)⟩, HB5⟩
          | true =>
            obtain ⟨kv, hkv1, hkv2⟩ := HM.out
            have HK1 := Aside0.mk hkv1
            have HK2 := Aside0.mk hkv2
            have HWB : Aside0 (m < wr.heap.size) := ⟨hkv1.lt⟩
            have HB2 : Aside0 (Below w.heap.size w ((wr.alloc (.cells #[.int .u8 v.f0, .int .i64 v.f1, .string v.f2] 36)).alloc (.cells #[.int .u8 v.f0, .int .i64 v.f1, .string v.f2] 36))) := ⟨(HB.out.alloc HB.out.size _).alloc (Nat.le_trans HB.out.size (by simp)) _⟩
            have HBW : Aside0 (Below wr.heap.size wr ((wr.alloc (.cells #[.int .u8 v.f0, .int .i64 v.f1, .string v.f2] 36)).alloc (.cells #[.int .u8 v.f0, .int .i64 v.f1, .string v.f2] 36))) := ⟨((Below.refl _ wr).alloc (Nat.le_refl _) _).alloc (by simp) _⟩
            have HBX : Aside0 (((wr.alloc (.cells #[.int .u8 v.f0, .int .i64 v.f1, .string v.f2] 36)).alloc (.cells #[.int .u8 v.f0, .int .i64 v.f1, .string v.f2] 36)).heap[wr.heap.size]? = some (.cells #[.int .u8 v.f0, .int .i64 v.f1, .string v.f2] 36 (0, 0))) := ⟨(Below.heap_alloc (wr.alloc (.cells #[.int .u8 v.f0, .int .i64 v.f1, .string v.f2] 36)) _ _ (by simp)).trans (heap_alloc_new _ _)⟩
            clear hkv1 hkv2
            go_wp2_with fail
            have hCV := one_CV (wr.alloc (.cells #[.int .u8 v.f0, .int .i64 v.f1, .string v.f2] 36)) v 36
            rw [show (wr.alloc (.cells #[.int .u8 v.f0, .int .i64 v.f1, .string v.f2] 36)).heap.size = wr.heap.size + 1 by simp] at hCV
            have hcall := name_calls (some ⟨wr.heap.size + 1, 0, none⟩) 1 [v] _ (HT.out.below HB2.out) hCV (by simp) HOKV.out.1 HOKV.out.2.1 HOKV.out.2.2
            clear hCV
            refine hcall.mono ?_
            clear hcall
            rintro e w4 ⟨rfl, hb4⟩
            have HBW4 := Aside0.mk (HBW.out.trans (hb4.mono HBW.out.size))
            have HB4 := Aside0.mk (HB2.out.trans (hb4.mono HB2.out.size))
            have hX4 := (hb4.block _ (blk_lt HBX.out)).trans HBX.out
            have HX4 := Aside0.mk hX4
            have HK4 := Aside0.mk (HK1.out.below HBW4.out)
            have HS4 := Aside0.mk ((HBW4.out.block g (blk_lt HS.out)).trans HS.out)
            have HQ4 := Aside0.mk ((HBW4.out.block q (blk_lt HQN.out)).trans HQN.out)
            have hc : Aside0 ((KV.get kv (nameOf [v])).getD false = decide (nameOf [v] ∈ seen)) := ⟨HK2.out _⟩
            clear hb4 HBX HBW HB2
            by_cases hz : nameOf [v] ∈ seen
            · rw [decide_eq_true hz] at hc
              have HZ := Aside0.mk hz
              clear hz hX4
              go_wp2_with (at_lookup; refine KV.law_lookup _ rfl _ _ 78 rfl 9 4 Tryz.underlying9 Tryz.underlying78 (.bool false) (zeroBool _) m Value.bool kv rfl HK4.out (nameOf [v]) rfl (.bool true) (get_bool hc.out) ?_)
              have hlt := HLT.out
              have hk := HX.out.2.2
              have hx0 := HX0.out
              cases gk with
              | zero => omega
              | succ k1 =>
                go_roundg k1
                case measure => omega
                case rel =>
                  have hd := HDV.out
                  rw [pickV, if_neg HSK.out, if_pos rfl, if_pos HZ.out] at hd
                  rw [← show (x + 1).toNat = x.toNat + 1 by omega] at hd
                  exact ⟨x + 1, seen, s, by rw [HWR.out], ⟨by omega⟩, ⟨kv, HK4.out, HK2.out⟩, HS4, HI, HQ4, ⟨hd⟩, HB4⟩
            · rw [decide_eq_false hz] at hc
              have HZ := Aside0.mk hz
              have HGD : Aside0 (G.good v) := ⟨by
                have hd := HDV.out.2
                rw [pickV, if_neg HSK.out, if_pos rfl, if_neg hz] at hd
                exact hd v List.mem_cons_self⟩
              have hmt := G.hmt
              have het := G.het
              clear hz hX4
              go_wp2_with (first
                | (at_lookup; refine KV.law_lookup _ rfl _ _ 78 rfl 9 4 Tryz.underlying9 Tryz.underlying78 (.bool false) (zeroBool _) m Value.bool kv rfl HK4.out (nameOf [v]) rfl (.bool false) (get_bool hc.out) ?_)
                | (at_mapUpdate; refine KV.law_update _ rfl _ _ _ 78 rfl 9 4 Tryz.underlying9 Tryz.underlying78 m Value.bool kv rfl HK4.out (nameOf [v]) rfl true rfl ?_; intro w6 hM6 hg6; have hX6 := (hg6.block _ (blk_lt HX4.out) (fun e => by have := HWB.out; injection e; omega)).trans HX4.out; have HM6 := Aside0.mk hM6; have HB6 := Aside0.mk (HB4.out.grown hg6 HB4.out.size (fun k hk => by cases hk; exact HMG.out.2.2)); have HS6 := Aside0.mk ((hg6.block g (blk_lt HS4.out) (fun e => HMG.out.1 (by injection e with e; exact e.symm))).trans HS4.out); have HQ6 := Aside0.mk ((hg6.block q (blk_lt HQ4.out) (fun e => HMG.out.2.1 (by injection e))).trans HQ4.out); have X0 : w6.cell? ⟨wr.heap.size, 0, none⟩ = some (.int .u8 v.f0) := (blk_cell hX6 0).trans rfl; have X1 : w6.cell? ⟨wr.heap.size, 1, none⟩ = some (.int .i64 v.f1) := (blk_cell hX6 1).trans rfl; have X2 : w6.cell? ⟨wr.heap.size, 2, none⟩ = some (.string v.f2) := (blk_cell hX6 2).trans rfl; clear hM6 hg6 hX6))
              refine (G.htake g s v _ HI.out HGD.out HS6.out).mono ?_
              rintro e w5 ⟨rfl, hcell, hgr⟩
              have HS5 := Aside0.mk hcell
              have HQ5 := Aside0.mk ((hgr.block q (blk_lt HQ6.out) (fun e => HNE.out (by injection e))).trans HQ6.out)
              have HM5 : Aside0 (KV.Is w5 m Value.bool (KV.put kv (nameOf [v]) true)) := ⟨KV.Is.grown HM6.out hgr (fun e => HMG.out.1 (by injection e))⟩
              have HB5 : Aside0 (Below w.heap.size w w5) := ⟨(HB6.out).grown hgr (HB6.out).size (fun k hk => by cases hk; exact HGE.out)⟩
              have HI5 := Aside0.mk (G.step_inv s v HI.out HGD.out)
              clear hcell hgr hmt het
              go_wp2
              have hlt := HLT.out
              have hk := HX.out.2.2
              have hx0 := HX0.out
              cases gk with
              | zero => omega
              | succ k1 =>
                go_roundg k1
                case measure => omega
                case rel =>
                  have hd := HDV.out
                  rw [pickV, if_neg HSK.out, if_pos rfl, if_neg HZ.out] at hd
                  rw [← show (x + 1).toNat = x.toNat + 1 by omega] at hd
                  exact ⟨x + 1, nameOf [v] :: seen, G.step s v, by rw [HWR.out], ⟨by omega⟩, ⟨(KV.put kv (nameOf [v]) true), HM5.out, seen_put HK2.out _⟩, HS5, HI5, HQ5, ⟨hd.1, fun u hu => hd.2 u (List.mem_cons_of_mem _ hu)⟩, HB5⟩
    · have c1 : decide (x < (l.length : Int)) = false := decide_eq_false hlt
      have hd := HD.out.1
      rw [List.drop_eq_nil_of_le (by omega), pickV, List.foldl_nil] at hd
      subst hd
      have hmd := G.hmd
      have hed := G.hed
      clear hlt hx0 hx1 hkq
      go_wp2_with fail
      refine (G.hdone g _ wr HI.out HS.out).mono ?_
      rintro e w3 ⟨rfl, hb3⟩
      have hN3 := (hb3.block q (blk_lt HQN.out)).trans HQN.out
      have HN3 := Aside0.mk hN3
      have HB3 := Aside0.mk (HB.out.trans (hb3.mono HB.out.size))
      have G0 : w3.cell? ⟨q, 0, none⟩ = some (.int .u8 0) := (blk_cell hN3 0).trans rfl
      have G1 : w3.cell? ⟨q, 1, none⟩ = some (.int .i64 0) := (blk_cell hN3 1).trans rfl
      have G2 : w3.cell? ⟨q, 2, none⟩ = some (.string ⟨#[]⟩) := (blk_cell hN3 2).trans rfl
      have G3 : w3.cell? ⟨q, 3, none⟩ = some (.int .i64 0) := (blk_cell hN3 3).trans rfl
      have F4 : ∀ j, w3.frozen? ⟨q, j, none⟩ = false := fun j => by simp [World.frozen?, hN3]
      clear hb3 hN3 hmd hed
      go_wp2
      refine bodyPost_ret (results_cell_row rfl _ _ q 38 _ (0, 0) _ rfl (out_cells HN3.out _ _ _ _) Tryz.underlying38 rfl (by kernel_rfl)) rfl ?_
      exact ⟨rfl, out_below HB3.out HQ.out _ _ _ _⟩
end Go.Proofs.YtecgkcgfeghhgaaGreatDoor.PAll
namespace Go.Proofs.YtecgkcgfeghhgaaGreatDoor.PAll
open Go.RowKit Go.Proofs.YtecgkcgfeghhgaaGreatDoorW.PrintWords Go.Proofs.YtecgkcgfeghhgaaGreatDoorW.PrintLast Go.Proofs.YtecgkcgfeghhgaaGreatDoorW.PrintMore
attribute [local go_sem] max2_int min2_int max_two min_two max_three min_three max_four min_four
set_option linter.unusedVariables false
set_option linter.unusedSimpArgs false
def bag_columnOf.l0 : Nat → Int → List (S36) → List (List (S36)) → Int → Int → Option ((List (S36)))
  | 0, _, _, _, _, _ => none
  | k + 1, x1, x5, x11, x12, x13 => if x13 < x12 then (if 0 ≤ x13 then (if x13 < (x11.length : Int) then (if x1 < ((rd_L4 x11 x13).length : Int) then (if 0 ≤ x1 then (if x13 < (x5.length : Int) then (bag_columnOf.l0 k x1 (x5.set (x13 : Int).toNat (⟨(rd_T36 (rd_L4 x11 x13) x1).f0, (rd_T36 (rd_L4 x11 x13) x1).f1, (rd_T36 (rd_L4 x11 x13) x1).f2⟩ : S36)) x11 x12 (wrap64 (x13 + 1))) else (none)) else (none)) else (bag_columnOf.l0 k x1 x5 x11 x12 (wrap64 (x13 + 1)))) else (none)) else (none)) else (some x5)
def bag_columnOf.f (k : Nat) (l0 : List (List (S36))) (a1 : Int) : Option ((List (S36))) := if 0 ≤ (l0.length : Int) then (if ((l0.length : Int) : Int).toNat ≤ 8796093022208 then (bag_columnOf.l0 k a1 (List.replicate ((l0.length : Int) : Int).toNat z36) l0 (l0.length : Int) 0) else (none)) else (none)
theorem bag_columnOf.mono_l : ∀ k, (∀ y0 y1 y2 y3 y4, LeO (bag_columnOf.l0 k y0 y1 y2 y3 y4) (bag_columnOf.l0 (k + 1) y0 y1 y2 y3 y4))
  | 0 => fun _ _ _ _ _ r h => by simp [bag_columnOf.l0] at h
  | k + 1 => by
    have ih0 := bag_columnOf.mono_l k
    · intro y0 y1 y2 y3 y4
      unfold bag_columnOf.l0
      repeat' first
      | (with_reducible exact ih0 _ _ _ _ _)
      | (with_reducible exact LeO.refl _)
      | (with_reducible exact LeO.none _)
      | (with_reducible refine LeO.ite ?_ ?_)
      | (with_reducible refine LeO.bind ?_ (fun _ => ?_))
      | exact ih0 _ _ _ _ _
      | exact LeO.none _
      | refine LeO.ite ?_ ?_
      | refine LeO.bind ?_ (fun _ => ?_)
theorem bag_columnOf.mono : ∀ a0 a1 k, LeO (bag_columnOf.f k a0 a1) (bag_columnOf.f (k + 1) a0 a1) := by
  intro a0 a1 k
  have ih0 := bag_columnOf.mono_l k
  unfold bag_columnOf.f
  repeat' first
      | (with_reducible exact ih0 _ _ _ _ _)
      | (with_reducible exact LeO.refl _)
      | (with_reducible exact LeO.none _)
      | (with_reducible refine LeO.ite ?_ ?_)
      | (with_reducible refine LeO.bind ?_ (fun _ => ?_))
      | exact ih0 _ _ _ _ _
      | exact LeO.none _
      | refine LeO.ite ?_ ?_
      | refine LeO.bind ?_ (fun _ => ?_)
set_option maxHeartbeats 8000000 in
set_option maxRecDepth 100000 in
theorem bag_columnOf.calls (k : Nat) (A0 : Option Addr) (c0 : Nat) (l0 : List (List (S36))) (a1 : Int) (r : List (S36)) (w : World) (hr0 : Kd.C (Kd.slice 36 k36) w A0 l0.length l0) (hc0 : l0.length ≤ c0) (h : bag_columnOf.f k l0 a1 = some r) :
    Calls Tryz.prog 63 #[.slice A0 l0.length c0, .int .i64 a1] w fun e w' => ∃ v0_ : Value, e = .returned (v0_) ∧ Kd.R k36 36 w' w.heap.size (fun _ => True) v0_ r ∧ Below w.heap.size w w' := by
  have hu36 := Tryz.underlying36
  have HR0 := Aside0.mk hr0
  have HC0 := Aside0.mk hc0
  clear hr0 hc0
  have HB := Aside0.mk (Below.refl w.heap.size w)
  have H : (if 0 ≤ (l0.length : Int) then (if ((l0.length : Int) : Int).toNat ≤ 8796093022208 then (bag_columnOf.l0 k a1 (List.replicate ((l0.length : Int) : Int).toNat z36) l0 (l0.length : Int) 0) else (none)) else (none)) = some r := h
  clear h
  by_cases c3 : 0 ≤ (l0.length : Int)
  · rw [if_pos c3] at H
    have c3b0 := eq_true c3
    have c3b1 : decide (0 ≤ (l0.length : Int)) = true := decide_eq_true c3
    clear c3
    by_cases c4 : ((l0.length : Int) : Int).toNat ≤ 8796093022208
    · rw [if_pos c4] at H
      have c4b0 := eq_true c4
      have c4b1 : decide (((l0.length : Int) : Int).toNat ≤ 8796093022208) = true := decide_eq_true c4
      clear c4
      obtain ⟨y116, hy116⟩ : ∃ y_ : List (S36), y_ = (List.replicate ((l0.length : Int) : Int).toNat z36) := ⟨_, rfl⟩
      replace H : (bag_columnOf.l0 k a1 y116 l0 (l0.length : Int) 0) = some r := by first | (rw [hy116]; with_reducible exact H) | (have H2_ := (Option.bind_some _ _).symm.trans H; rw [hy116]; with_reducible exact H2_) | (have H2_ := (Option.bind_some _ _).symm.trans H; with_reducible exact H2_) | with_reducible exact H | (rw [hy116]; exact H) | exact H
      have Ny116 := Aside0.mk hy116
      clear hy116
      have H' := Aside0.mk H
      clear H
      go_enter Tryz.func63, Tryz.ntmps63
      go_wp2_with (first | ((with_reducible refine gate_dst (N := 10) rfl ?_); refine Kd.R_make k36 _ 36 rfl (N := 10) rfl 33 _ _ rfl (l0.length : Int) rfl rfl Tryz.underlying33 (.agg #[(.int .u8 0), (.int .i64 0), (.string ⟨#[]⟩)]) 32 info36 rfl (by decide) (by omega) z36 (ok := fun _ => True) (okp := fun _ => True) (k36_mkM _ _ _ z36 ) (fun _ hk => hk) trivial (of_decide_eq_true (by first | (with_reducible assumption) | assumption)) (Nat.le_trans (Nat.mul_le_mul_right _ (of_decide_eq_true (by first | (with_reducible assumption) | assumption) : (l0.length : Int).toNat ≤ 8796093022208)) (by omega)) (Below.refl _ _) (Nat.le_refl _) ?_; intro v117 w5 ho6 hb hg_ hnew_; clear hg_ hnew_; (first | rw [← Ny116.out] at ho6 | (simp only [Int.reduceToNat] at ho6; rw [← Ny116.out] at ho6)); have n0_ := Aside0.mk (Kd.R_lower ho6 (below_size (by repeat (first | (with_reducible first | exact HB.out | apply below_alloc | apply pw_below_drewN | apply below_drew1) | exact HB.out)))); have n1_ := Aside0.mk (below_step (by repeat (first | (with_reducible first | exact HB.out | apply below_alloc | apply pw_below_drewN | apply below_drew1) | exact HB.out)) hb); clear HB; have HO118 := n0_; have HB := n1_; clear n0_ n1_; clear hb ho6))
      go_loopg [13] k (fun kq v13 w' => ∃ (x5_1 : List (S36)) (x13_1 : Int), v13 = .int .i64 x13_1 ∧ Aside0 (bag_columnOf.l0 kq a1 x5_1 l0 (l0.length : Int) x13_1 = some r) ∧ Aside0 (kq ≤ k) ∧ Aside0 (Kd.R k36 36 w' w.heap.size (fun _ => True) v117 x5_1) ∧ Aside0 (Below w.heap.size w w'))
      case atStart => exact ⟨(y116), (0), (by first | rfl | (simp; done) | (simp [*]; done)), H', ⟨Nat.le_refl _⟩, ⟨by (with_reducible repeat (first | apply Kd.R_alloc | apply Kd.R_drewN | apply Kd.R_drew)); exact HO118.out⟩, ⟨by repeat (first | (with_reducible first | exact HB.out | apply below_alloc | apply pw_below_drewN | apply below_drew1) | exact HB.out)⟩⟩
      case round =>
        clear H'
        try clear p2
        try clear c3
        try clear c3b0
        try clear c3b1
        try clear c4
        try clear c4b0
        try clear c4b1
        try clear c6
        obtain ⟨x5_1, x13_1, rfl, HA, HK1, HO_5, HB⟩ := hrel
        cases gk with
        | zero => exact absurd HA.out (by simp [bag_columnOf.l0])
        | succ k1 =>
          have H := HA.out
          clear HA
          simp only [bag_columnOf.l0] at H
          by_cases c7 : x13_1 < (l0.length : Int)
          · rw [if_pos c7] at H
            have c7b0 : decide (x13_1 < (l0.length : Int)) = true := decide_eq_true c7
            clear c7
            by_cases c8 : 0 ≤ x13_1
            · rw [if_pos c8] at H
              have c8b0 : decide (0 ≤ x13_1) = true := decide_eq_true c8
              clear c8
              by_cases c9 : x13_1 < (l0.length : Int)
              · rw [if_pos c9] at H
                have c9b0 : decide (x13_1 < (l0.length : Int)) = true := decide_eq_true c9
                clear c9
                by_cases c10 : a1 < ((rd_L4 l0 x13_1).length : Int)
                · rw [if_pos c10] at H
                  have c10b0 : decide (a1 < ((rd_L4 l0 x13_1).length : Int)) = true := decide_eq_true c10
                  clear c10
                  by_cases c11 : 0 ≤ a1
                  · rw [if_pos c11] at H
                    have c11b0 : decide (0 ≤ a1) = true := decide_eq_true c11
                    clear c11
                    by_cases c12 : x13_1 < (x5_1.length : Int)
                    · rw [if_pos c12] at H
                      have c12b0 : decide (x13_1 < (x5_1.length : Int)) = true := decide_eq_true c12
                      clear c12
                      obtain ⟨y121, hy121⟩ : ∃ y_ : List (S36), y_ = (x5_1.set (x13_1 : Int).toNat (⟨(rd_T36 (rd_L4 l0 x13_1) a1).f0, (rd_T36 (rd_L4 l0 x13_1) a1).f1, (rd_T36 (rd_L4 l0 x13_1) a1).f2⟩ : S36)) := ⟨_, rfl⟩
                      replace H : (bag_columnOf.l0 k1 a1 y121 l0 (l0.length : Int) (wrap64 (x13_1 + 1))) = some r := by first | (rw [hy121]; with_reducible exact H) | (have H2_ := (Option.bind_some _ _).symm.trans H; rw [hy121]; with_reducible exact H2_) | (have H2_ := (Option.bind_some _ _).symm.trans H; with_reducible exact H2_) | with_reducible exact H | (rw [hy121]; exact H) | exact H
                      have Ny121 := Aside0.mk hy121
                      clear hy121
                      have H' := Aside0.mk H
                      clear H
                      have p119 : 0 ≤ (x13_1 : Int) := of_decide_eq_true (by first | (with_reducible assumption) | assumption)
                      have q119 : x13_1 < (l0.length : Int) := of_decide_eq_true (by first | (with_reducible assumption) | assumption)
                      obtain ⟨ad119, A119_0, c119_0, e119, hx119_0, hl119_0, hi119_0⟩ := at_L4 HR0.out x13_1 p119 q119
                      cases e119
                      replace hx119_0 := (HB.out.cell (World.block_lt_of_cell? w _ hx119_0)).trans hx119_0
                      have HR119_0 := Aside0.mk hi119_0
                      have HC119_0 := Aside0.mk hl119_0
                      clear hi119_0 hl119_0
                      replace p119 := eq_true p119
                      replace q119 := eq_true q119
                      have p120 : 0 ≤ (a1 : Int) := of_decide_eq_true (by first | (with_reducible assumption) | assumption)
                      have q120 : a1 < ((rd_L4 l0 x13_1).length : Int) := of_decide_eq_true (by first | (with_reducible assumption) | assumption)
                      obtain ⟨ad120, e120, hx120_0, hx120_1, hx120_2⟩ := at_T36 HR119_0.out a1 p120 q120
                      cases e120
                      replace hx120_0 := (HB.out.cell (World.block_lt_of_cell? w _ hx120_0)).trans hx120_0
                      replace hx120_1 := (HB.out.cell (World.block_lt_of_cell? w _ hx120_1)).trans hx120_1
                      replace hx120_2 := (HB.out.cell (World.block_lt_of_cell? w _ hx120_2)).trans hx120_2
                      replace p120 := eq_true p120
                      replace q120 := eq_true q120
                      have p13 : 0 ≤ (x13_1 : Int) := of_decide_eq_true (by first | (with_reducible assumption) | assumption)
                      have q13 : (x13_1 : Int) < ((x5_1.length : Int) : Int) := of_decide_eq_true (by first | (with_reducible assumption) | assumption)
                      obtain ⟨go13, co13, eo13, gb13, gl13, cl13, HG13⟩ := Kd.R_form HO_5.out (by omega)
                      (first | cases eo13 | (injection eo13 with ea_ en_ ec_; (first | subst ea_ | (injection ea_ with ea_; subst ea_)); subst ec_; clear en_))
                      have GB13 := Aside0.mk gb13
                      have GG13 := Aside0.mk HG13
                      clear gb13 gl13 HG13
                      obtain ⟨ce13, hcl13, hM13, hcc13, hfr13⟩ := Kd.R_elem HO_5.out z36 (x13_1 : Int) p13 q13
                      obtain rfl := k36_openM hM13
                      have hx13_0 : wr.cell? ⟨go13, (x13_1 : Int).toNat * 3, none⟩ = some (.int .u8 ((rd_T36 x5_1 x13_1).f0)) := hcc13 0 _ rfl
                      have hx13_1 : wr.cell? ⟨go13, (x13_1 : Int).toNat * 3 + 1, none⟩ = some (.int .i64 ((rd_T36 x5_1 x13_1).f1)) := hcc13 1 _ rfl
                      have hx13_2 : wr.cell? ⟨go13, (x13_1 : Int).toNat * 3 + 2, none⟩ = some (.string ((rd_T36 x5_1 x13_1).f2)) := hcc13 2 _ rfl
                      have hf13_0 : wr.frozen? ⟨go13, (x13_1 : Int).toNat * 3, none⟩ = false := hfr13 0
                      have hf13_1 : wr.frozen? ⟨go13, (x13_1 : Int).toNat * 3 + 1, none⟩ = false := hfr13 1
                      have hf13_2 : wr.frozen? ⟨go13, (x13_1 : Int).toNat * 3 + 2, none⟩ = false := hfr13 2
                      clear hcl13 hcc13 hfr13 hM13
                      replace p13 := eq_true p13
                      replace q13 := eq_true q13
                      have HX14 := Aside0.mk (show Kd.R k36 36 wr w.heap.size (fun _ => True) (.slice (some ⟨go13, 0, none⟩) x5_1.length co13) x5_1 from (by (with_reducible repeat (first | apply Kd.R_alloc | apply Kd.R_drewN | apply Kd.R_drew)); exact HO_5.out))
                      obtain ⟨ce14, hcl14, hM14, hcc14, hfr14⟩ := Kd.R_elem HX14.out z36 (x13_1 : Int) (of_decide_eq_true (by first | (with_reducible assumption) | assumption)) (by have h_ : (x13_1 : Int) < ((x5_1.length : Int) : Int) := of_decide_eq_true (by first | (with_reducible assumption) | assumption); first | exact h_ | (have e_ := (Kd.R_reads' HO_5.out).1; omega) | simpa using h_)
                      obtain rfl := k36_openM hM14
                      have HP14 := Kd.R_seg HX14.out (x13_1 : Int) (of_decide_eq_true (by first | (with_reducible assumption) | assumption)) (by have h_ : (x13_1 : Int) < ((x5_1.length : Int) : Int) := of_decide_eq_true (by first | (with_reducible assumption) | assumption); first | exact h_ | (have e_ := (Kd.R_reads' HO_5.out).1; omega) | simpa using h_) (seg := [.int .u8 ((rd_T36 (rd_L4 l0 x13_1) a1).f0), .int .i64 ((rd_T36 (rd_L4 l0 x13_1) a1).f1), .string ((rd_T36 (rd_L4 l0 x13_1) a1).f2)]) (j := 0) hcl14 hcc14 (show 3 ≤ 3 from by decide) (x' := (⟨(rd_T36 (rd_L4 l0 x13_1) a1).f0, (rd_T36 (rd_L4 l0 x13_1) a1).f1, (rd_T36 (rd_L4 l0 x13_1) a1).f2⟩ : S36)) (k36_mkM _ _ _ (⟨(rd_T36 (rd_L4 l0 x13_1) a1).f0, (rd_T36 (rd_L4 l0 x13_1) a1).f1, (rd_T36 (rd_L4 l0 x13_1) a1).f2⟩ : S36) ) (fun _ hk => hk)
                      have hx14_0 := hcc14 0 _ rfl
                      (try simp only [show (k36).sz = 3 from rfl, Nat.mul_one, Nat.add_zero] at hx14_0)
                      have hf14_0 := hfr14 0
                      (try simp only [show (k36).sz = 3 from rfl, Nat.mul_one, Nat.add_zero] at hf14_0)
                      have hx14_1 := hcc14 1 _ rfl
                      (try simp only [show (k36).sz = 3 from rfl, Nat.mul_one, Nat.add_zero] at hx14_1)
                      have hf14_1 := hfr14 1
                      (try simp only [show (k36).sz = 3 from rfl, Nat.mul_one, Nat.add_zero] at hf14_1)
                      have hx14_2 := hcc14 2 _ rfl
                      (try simp only [show (k36).sz = 3 from rfl, Nat.mul_one, Nat.add_zero] at hx14_2)
                      have hf14_2 := hfr14 2
                      (try simp only [show (k36).sz = 3 from rfl, Nat.mul_one, Nat.add_zero] at hf14_2)
                      clear hcl14 hcc14 hfr14 hM14
                      go_wp2_with (first | ((with_reducible refine gate_store (t := 36) (p := 28) rfl ?_); refine store_event (t := 36) (p := 28) (v := ?vo_w15) (w1 := (((wr.setCell ⟨go13, (x13_1 : Int).toNat * 3, none⟩ (.int .u8 ((rd_T36 (rd_L4 l0 x13_1) a1).f0))).setCell ⟨go13, (x13_1 : Int).toNat * 3 + 1, none⟩ (.int .i64 ((rd_T36 (rd_L4 l0 x13_1) a1).f1))).setCell ⟨go13, (x13_1 : Int).toNat * 3 + 2, none⟩ (.string ((rd_T36 (rd_L4 l0 x13_1) a1).f2)))) ?hg ?ho ?hn ?hr ?_; (case ho => rfl); (case hg => rfl); (case hn => rfl); (case hr => first | (go_simp; done) | (go_simp; rfl)); intro w15 hw; have hg : wr.grownBy w15 (some go13) := (by rw [hw]; exact HP14.2); have hp_ : Kd.R k36 36 w15 w.heap.size (fun _ => True) (.slice (some ⟨go13, 0, none⟩) x5_1.length co13) y121 := (by rw [hw, Ny121.out]; exact HP14.1); clear HP14; have n0_ := Aside0.mk (hp_); have n1_ := Aside0.mk ((by rw [hw]; exact below_set (below_set (below_set (HB.out) GB13.out) GB13.out) GB13.out : Below w.heap.size w w15)); clear HO_5; clear HB; have HO_5 := n0_; have HB := n1_; clear n0_ n1_; clear hg hw hp_))
                      go_roundg k1
                      case measure => have := HK1.out; omega
                      case rel => exact ⟨(y121), (wrap64 (x13_1 + 1)), (by first | rfl | (simp; done) | (simp [*]; done)), H', ⟨by have := HK1.out; omega⟩, ⟨by (with_reducible repeat (first | apply Kd.R_alloc | apply Kd.R_drewN | apply Kd.R_drew)); exact HO_5.out⟩, ⟨by repeat (first | (with_reducible first | exact HB.out | apply below_alloc | apply pw_below_drewN | apply below_drew1) | exact HB.out)⟩⟩
                    · rw [if_neg c12] at H
                      exact absurd H (by simp)
                  · rw [if_neg c11] at H
                    exact absurd H (by simp)
                · rw [if_neg c10] at H
                  have c10b0 : decide (a1 < ((rd_L4 l0 x13_1).length : Int)) = false := decide_eq_false c10
                  clear c10
                  have H' := Aside0.mk H
                  clear H
                  have p119 : 0 ≤ (x13_1 : Int) := of_decide_eq_true (by first | (with_reducible assumption) | assumption)
                  have q119 : x13_1 < (l0.length : Int) := of_decide_eq_true (by first | (with_reducible assumption) | assumption)
                  obtain ⟨ad119, A119_0, c119_0, e119, hx119_0, hl119_0, hi119_0⟩ := at_L4 HR0.out x13_1 p119 q119
                  cases e119
                  replace hx119_0 := (HB.out.cell (World.block_lt_of_cell? w _ hx119_0)).trans hx119_0
                  have HR119_0 := Aside0.mk hi119_0
                  have HC119_0 := Aside0.mk hl119_0
                  clear hi119_0 hl119_0
                  replace p119 := eq_true p119
                  replace q119 := eq_true q119
                  go_wp2
                  go_roundg k1
                  case measure => have := HK1.out; omega
                  case rel => exact ⟨(x5_1), (wrap64 (x13_1 + 1)), (by first | rfl | (simp; done) | (simp [*]; done)), H', ⟨by have := HK1.out; omega⟩, ⟨by (with_reducible repeat (first | apply Kd.R_alloc | apply Kd.R_drewN | apply Kd.R_drew)); exact HO_5.out⟩, ⟨by repeat (first | (with_reducible first | exact HB.out | apply below_alloc | apply pw_below_drewN | apply below_drew1) | exact HB.out)⟩⟩
              · rw [if_neg c9] at H
                exact absurd H (by simp)
            · rw [if_neg c8] at H
              exact absurd H (by simp)
          · rw [if_neg c7] at H
            have c7b0 : decide (x13_1 < (l0.length : Int)) = false := decide_eq_false c7
            clear c7
            obtain rfl := Option.some.inj H
            go_wp2
            go_ret
            exact ⟨_, by first | rfl | (simp [errW_none, errW_some] <;> rfl) | (simp [*, errW_none, errW_some] <;> rfl), by (with_reducible repeat (first | apply Kd.R_alloc | apply Kd.R_drewN | apply Kd.R_drew)); exact HO_5.out, by repeat (first | (with_reducible first | exact HB.out | apply below_alloc | apply pw_below_drewN | apply below_drew1) | exact HB.out)⟩
    · rw [if_neg c4] at H
      exact absurd H (by simp)
  · rw [if_neg c3] at H
    exact absurd H (by simp)
end Go.Proofs.YtecgkcgfeghhgaaGreatDoor.PAll
set_option linter.unusedVariables false
set_option linter.unusedSimpArgs false
namespace Go.Proofs.YtecgkcgfeghhgaaGreatDoor.PAll
open Go.RowKit Go.Proofs.YtecgkcgfeghhgaaGreatDoorW.PrintWords Go.Proofs.YtecgkcgfeghhgaaGreatDoorW.PrintLast Go.Proofs.YtecgkcgfeghhgaaGreatDoorW.PrintMore
def columnR (l : List (List V)) (n : Int) : List V := l.map (fun r => rd_T36 r n)
theorem columnOf_l0 (l : List (List V)) (n : Int) (h0 : 0 ≤ n) (hn : l.length ≤ 1099511627776) : ∀ (d i : Nat) (xs : List V), i + d = l.length → xs = (l.take i).map (fun r => rd_T36 r n) ++ List.replicate d z36 →
    Ev (fun k => bag_columnOf.l0 k n xs l (l.length : Int) (i : Int)) (columnR l n) := by
  intro d
  induction d with
  | zero =>
    intro i xs hi hx
    refine Ev.step (f := fun _ => some (columnR l n)) (fun k => ?_) (Ev.now _)
    simp only [bag_columnOf.l0]
    rw [if_neg (by omega), hx, List.take_of_length_le (by omega)]
    simp [columnR]
  | succ d ih =>
    intro i xs hi hx
    have hlt : i < l.length := by omega
    have hxl : xs.length = l.length := by rw [hx]; simp; omega
    have hset : xs.set i (rd_T36 l[i] n) = (l.take (i + 1)).map (fun r => rd_T36 r n) ++ List.replicate d z36 := by
      rw [hx, List.replicate_succ, take_snoc _ _ hlt, List.set_append_right _ _ (by simp; omega)]
      simp only [List.length_map, List.length_take, Nat.min_eq_left (Nat.le_of_lt hlt), Nat.sub_self, List.set_cons_zero, List.map_append]
      simp
    by_cases c : n < (l[i].length : Int)
    · refine Ev.step (f := fun k => bag_columnOf.l0 k n (xs.set i (rd_T36 l[i] n)) l (l.length : Int) ((i + 1 : Nat) : Int)) (fun k => ?_) (ih (i + 1) _ (by omega) hset)
      simp only [bag_columnOf.l0]
      rw [if_pos (by omega), if_pos (by omega), if_pos (by omega), rdL_at hlt, if_pos c, if_pos h0, if_pos (by omega), w64 _ (by omega) (by omega), Int.toNat_natCast]
      rfl
    · have hz : rd_T36 l[i] n = z36 := by
        unfold rd_T36
        rw [List.getD_eq_getElem?_getD, List.getElem?_eq_none (by omega)]
        rfl
      have hsame : xs.set i (rd_T36 l[i] n) = xs := by
        rw [hz, hx, List.replicate_succ, List.set_append_right _ _ (by simp; omega)]
        simp [Nat.min_eq_left (Nat.le_of_lt hlt)]
      refine Ev.step (f := fun k => bag_columnOf.l0 k n xs l (l.length : Int) ((i + 1 : Nat) : Int)) (fun k => ?_) (ih (i + 1) _ (by omega) (by rw [← hset, hsame]))
      simp only [bag_columnOf.l0]
      rw [if_pos (by omega), if_pos (by omega), if_pos (by omega), rdL_at hlt, if_neg c, w64 _ (by omega) (by omega)]
      rfl
theorem columnOf_ev (l : List (List V)) (n : Int) (h0 : 0 ≤ n) (hn : l.length ≤ 1099511627776) : Ev (fun k => bag_columnOf.f k l n) (columnR l n) := by
  refine Ev.congr (f := fun k => bag_columnOf.l0 k n (List.replicate l.length z36) l (l.length : Int) ((0 : Nat) : Int)) (fun k => ?_) (columnOf_l0 l n h0 hn l.length 0 _ (by omega) (by simp))
  unfold bag_columnOf.f
  rw [if_pos (by omega), Int.toNat_natCast, if_pos (by omega)]
  rfl
def kindFrom : Int → List V → Option Int
  | k, [] => some k
  | k, v :: vs => if validV v = true ∧ (k = 0 ∨ v.f0 = 0 ∨ v.f0 = k) then kindFrom (if v.f0 = 0 then k else v.f0) vs else none
def allowedB (fn : Int) (d : Bool) (vs : List V) : Bool :=
  if fn > 5 ∨ fn = 0 ∧ d = true then false else match kindFrom 0 vs with
    | none => false
    | some k => decide (k = 0 ∨ k = 1 ∨ fn ≠ 2 ∧ fn ≠ 5)
theorem allowed_l0 (fn : Int) (vs : List V) (hv : ∀ v ∈ vs, VOk v) (hn : vs.length ≤ 1099511627776) : ∀ (d i : Nat) (k0 : Int), i + d = vs.length →
    Ev (fun k => bag_allowed.l0 k fn k0 vs (vs.length : Int) (i : Int)) (match kindFrom k0 (vs.drop i) with
    | none => false
    | some k => decide (k = 0 ∨ k = 1 ∨ fn ≠ 2 ∧ fn ≠ 5)) := by
  intro d
  induction d with
  | zero =>
    intro i k0 hi
    rw [List.drop_eq_nil_of_le (by omega)]
    refine Ev.step (f := fun _ => some (decide (k0 = 0 ∨ k0 = 1 ∨ fn ≠ 2 ∧ fn ≠ 5))) (fun k => ?_) (Ev.now _)
    simp only [bag_allowed.l0]
    rw [if_neg (by omega)]
    by_cases c0 : k0 = 0
    · simp [c0]
    · by_cases c1 : k0 = 1
      · simp [c1]
      · by_cases c2 : fn = 2
        · simp [c0, c1, c2]
        · by_cases c3 : fn = 5 <;> simp [c0, c1, c2, c3]
  | succ d ih =>
    intro i k0 hi
    have hlt : i < vs.length := by omega
    rw [drop_cons vs i hlt]
    have hvv := valid_value vs[i] (hv _ (List.getElem_mem hlt))
    have one : ∀ k, bag_allowed.l0 (k + 1) fn k0 vs (vs.length : Int) (i : Int) = if validV vs[i] = true then (if k0 = 0 then bag_allowed.j2 k fn k0 vs (vs.length : Int) (i : Int) false vs[i].f0 vs[i].f1 vs[i].f2 else if vs[i].f0 = 0 then bag_allowed.j2 k fn k0 vs (vs.length : Int) (i : Int) false vs[i].f0 vs[i].f1 vs[i].f2 else bag_allowed.j2 k fn k0 vs (vs.length : Int) (i : Int) (vs[i].f0 != k0) vs[i].f0 vs[i].f1 vs[i].f2) else bag_allowed.j2 k fn k0 vs (vs.length : Int) (i : Int) true vs[i].f0 vs[i].f1 vs[i].f2 := fun k => by
      simp only [bag_allowed.l0]
      rw [if_pos (by omega), if_pos (by omega), if_pos (by omega), rdV_at hlt, hvv]
      simp only [Option.bind_some]
    have bad : Ev (fun k => bag_allowed.j2 k fn k0 vs (vs.length : Int) (i : Int) true vs[i].f0 vs[i].f1 vs[i].f2) false :=
      Ev.step (f := fun _ => some false) (fun k => by simp [bag_allowed.j2]) (Ev.now _)
    have good : ∀ b, Ev (fun k => bag_allowed.l0 k fn (if vs[i].f0 = 0 then k0 else vs[i].f0) vs (vs.length : Int) ((i + 1 : Nat) : Int)) b → Ev (fun k => bag_allowed.j2 k fn k0 vs (vs.length : Int) (i : Int) false vs[i].f0 vs[i].f1 vs[i].f2) b := fun b hb =>
      Ev.step (fun k => by
        simp only [bag_allowed.j2]
        rw [if_neg (by simp), w64 _ (by omega) (by omega)]
        by_cases c : vs[i].f0 = 0
        · rw [if_pos c, if_pos c]; rfl
        · rw [if_neg c, if_neg c]; rfl) hb
    simp only [kindFrom]
    by_cases c0 : validV vs[i] = true
    · by_cases c1 : k0 = 0 ∨ vs[i].f0 = 0 ∨ vs[i].f0 = k0
      · rw [if_pos ⟨c0, c1⟩]
        refine Ev.step (f := fun k => bag_allowed.j2 k fn k0 vs (vs.length : Int) (i : Int) false vs[i].f0 vs[i].f1 vs[i].f2) (fun k => ?_) (good _ (ih (i + 1) _ (by omega)))
        rw [one, if_pos c0]
        by_cases d1 : k0 = 0
        · rw [if_pos d1]
        · rw [if_neg d1]
          by_cases d2 : vs[i].f0 = 0
          · rw [if_pos d2]
          · rw [if_neg d2, show (vs[i].f0 != k0) = false by simp; omega]
      · rw [if_neg (fun h => c1 h.2)]
        refine Ev.step (f := fun k => bag_allowed.j2 k fn k0 vs (vs.length : Int) (i : Int) true vs[i].f0 vs[i].f1 vs[i].f2) (fun k => ?_) bad
        rw [one, if_pos c0, if_neg (by omega), if_neg (by omega), show (vs[i].f0 != k0) = true by simp; omega]
    · rw [if_neg (fun h => c0 h.1)]
      refine Ev.step (f := fun k => bag_allowed.j2 k fn k0 vs (vs.length : Int) (i : Int) true vs[i].f0 vs[i].f1 vs[i].f2) (fun k => ?_) bad
      rw [one, if_neg c0]
theorem allowed_ev (fn : Int) (d : Bool) (vs : List V) (hv : ∀ v ∈ vs, VOk v) (hn : vs.length ≤ 1099511627776) : Ev (fun k => bag_allowed.f k fn d vs) (allowedB fn d vs) := by
  have bad : Ev (fun k => bag_allowed.j0 k fn vs true) false := Ev.step (f := fun _ => some false) (fun k => by simp [bag_allowed.j0]) (Ev.now _)
  have good := allowed_l0 fn vs hv hn vs.length 0 0 (by omega)
  rw [List.drop_zero] at good
  have good2 : Ev (fun k => bag_allowed.j0 k fn vs false) (match kindFrom 0 vs with
    | none => false
    | some k => decide (k = 0 ∨ k = 1 ∨ fn ≠ 2 ∧ fn ≠ 5)) := Ev.step (fun k => by simp only [bag_allowed.j0]; rw [if_neg (by simp)]; rfl) good
  unfold allowedB
  by_cases c0 : fn > 5
  · rw [if_pos (.inl c0)]
    exact Ev.congr (fun k => by unfold bag_allowed.f; rw [if_pos c0]) bad
  · by_cases c1 : fn = 0
    · cases d with
      | true =>
        rw [if_pos (.inr ⟨c1, rfl⟩)]
        exact Ev.congr (fun k => by unfold bag_allowed.f; rw [if_neg c0, if_pos c1]) bad
      | false =>
        rw [if_neg (by simp; omega)]
        exact Ev.congr (fun k => by unfold bag_allowed.f; rw [if_neg c0, if_pos c1]) good2
    · rw [if_neg (by omega)]
      exact Ev.congr (fun k => by unfold bag_allowed.f; rw [if_neg c0, if_neg c1]) good2
theorem rowStep_kind : ∀ (ks : List Int) (r : List V) (ks' : List Int), rowStep ks r = some ks' → ks'.length = ks.length ∧ (∀ j : Nat, ks.getD j 0 ≠ 0 → ks'.getD j 0 = ks.getD j 0) ∧ ∀ (j : Nat) (h : j < r.length), r[j].f0 = 0 ∨ r[j].f0 = ks'.getD j 0
  | [], [], ks', h => by
    simp [rowStep] at h; subst h; simp
  | [], _ :: _, _, h => by simp [rowStep] at h
  | _ :: _, [], _, h => by simp [rowStep] at h
  | k :: ks, v :: vs, ks', h => by
    simp only [rowStep] at h
    split at h
    · rename_i hv
      cases hr : rowStep ks vs with
      | none => simp [hr] at h
      | some t =>
        simp [hr] at h
        subst h
        obtain ⟨i1, i2, i3⟩ := rowStep_kind ks vs t hr
        refine ⟨by simp [i1], fun j hj => ?_, fun j hj => ?_⟩
        · cases j with
          | zero =>
            simp only [List.getD_cons_zero] at hj ⊢
            rw [if_neg hj]
          | succ j =>
            simp only [List.getD_cons_succ] at hj ⊢
            exact i2 j hj
        · cases j with
          | zero =>
            simp only [List.getElem_cons_zero, List.getD_cons_zero]
            split
            · exact .inr rfl
            · omega
          | succ j =>
            simp only [List.getElem_cons_succ, List.getD_cons_succ]
            exact i3 j (by simpa using hj)
    · cases h
theorem validFrom_kind : ∀ (l : List (List V)) (ks : List Int), validFrom ks l = true → ∃ K : List Int, (∀ j : Nat, ks.getD j 0 ≠ 0 → K.getD j 0 = ks.getD j 0) ∧ ∀ r ∈ l, ∀ (j : Nat) (h : j < r.length), r[j].f0 = 0 ∨ r[j].f0 = K.getD j 0
  | [], ks, _ => ⟨ks, fun _ _ => rfl, by simp⟩
  | r :: rs, ks, h => by
    simp only [validFrom] at h
    cases hr : rowStep ks r with
    | none => simp [hr] at h
    | some t =>
      rw [hr] at h
      obtain ⟨i1, i2, i3⟩ := rowStep_kind ks r t hr
      obtain ⟨K, k1, k2⟩ := validFrom_kind rs t h
      refine ⟨K, fun j hj => ?_, fun u hu j hj => ?_⟩
      · rw [← i2 j hj]
        exact k1 j (by rw [i2 j hj]; exact hj)
      · rcases List.mem_cons.1 hu with rfl | hu
        · rcases i3 j hj with h0 | h0
          · exact .inl h0
          · by_cases hz : t.getD j 0 = 0
            · exact .inl (h0.trans hz)
            · exact .inr (by rw [k1 j hz]; exact h0)
        · exact k2 u hu j hj
theorem kindFrom_some (K : Int) : ∀ (vs : List V) (k : Int), (∀ v ∈ vs, validV v = true ∧ (v.f0 = 0 ∨ v.f0 = K)) → (k = 0 ∨ k = K) → ∃ r, kindFrom k vs = some r ∧ (r = 0 ∨ r = K)
  | [], k, _, hk => ⟨k, rfl, hk⟩
  | v :: vs, k, h, hk => by
    have hv := h v List.mem_cons_self
    simp only [kindFrom]
    rw [if_pos ⟨hv.1, by omega⟩]
    exact kindFrom_some K vs _ (fun u hu => h u (List.mem_cons_of_mem _ hu)) (by split <;> omega)
theorem col_kind {l : List (List V)} (hv : validB l = true) (n : Int) : ∃ K : Int, ∀ row ∈ l, validV (rd_T36 row n) = true ∧ ((rd_T36 row n).f0 = 0 ∨ (rd_T36 row n).f0 = K) := by
  have hz : validV z36 = true := by
    unfold validV noText z36
    simp [ByteArray.toList_eq]
  cases l with
  | nil => exact ⟨0, by simp⟩
  | cons r rs =>
    obtain ⟨K, _, hK⟩ := validFrom_kind (r :: rs) _ hv
    refine ⟨K.getD n.toNat 0, fun row hrow => ?_⟩
    by_cases h : n.toNat < row.length
    · have e : rd_T36 row n = row[n.toNat] := by simp [rd_T36, List.getElem?_eq_getElem h]
      rw [e]
      exact ⟨validB_valid hv row hrow _ (List.getElem_mem h), hK row hrow n.toNat h⟩
    · have e : rd_T36 row n = z36 := by
        unfold rd_T36
        rw [List.getD_eq_getElem?_getD, List.getElem?_eq_none (by omega)]
        rfl
      rw [e]
      exact ⟨hz, .inl rfl⟩
theorem col_allowed {l ls : List (List V)} (hv : validB l = true) (hs : ∀ row ∈ ls, row ∈ l) (n : Int) : allowedB 0 false (columnR ls n) = true := by
  obtain ⟨K, hK⟩ := col_kind hv n
  obtain ⟨r, hr, _⟩ := kindFrom_some K (columnR ls n) 0 (fun v hv => by
    obtain ⟨row, hrow, rfl⟩ := List.mem_map.1 hv
    exact hK row (hs row hrow)) (.inl rfl)
  unfold allowedB
  rw [if_neg (by simp), hr]
  simp
theorem pickV_all : ∀ (vs : List V) (seen : List ByteArray), pickV 0 false seen vs = vs
  | [], _ => rfl
  | v :: vs, seen => by
    rw [pickV, if_neg (by simp), if_neg (by simp), pickV_all vs seen]
end Go.Proofs.YtecgkcgfeghhgaaGreatDoor.PAll
set_option linter.unusedVariables false
set_option linter.unusedSimpArgs false
namespace Go.Proofs.YtecgkcgfeghhgaaGreatDoor.PAll
open Go.RowKit Go.Proofs.YtecgkcgfeghhgaaGreatDoorW.PrintWords Go.Proofs.YtecgkcgfeghhgaaGreatDoorW.PrintLast Go.Proofs.YtecgkcgfeghhgaaGreatDoorW.PrintMore
def okInt (v : V) : Prop := -9223372036854775808 ≤ v.f1 ∧ v.f1 ≤ 9223372036854775807
def cStep (n : Int) (_ : V) : Int := wrap64 (n + 1)
def tStep (s : Int × Int × Int) (v : V) : Int × Int × Int := ((s.1 + IntKind.u64.wrap (v.f1 / 9223372036854775808) + (s.2.1 + IntKind.u64.wrap v.f1) / 18446744073709551616) % 18446744073709551616, (s.2.1 + IntKind.u64.wrap v.f1) % 18446744073709551616, IntKind.u64.wrap (s.2.2 + 1))
def countG : Gath where
  σ := Int
  T := 129
  S := 131
  take := 168
  done := 167
  cells := fun n => #[.int .i64 n]
  init := 0
  step := cStep
  out := fun n => (1, n, ⟨#[]⟩, 0)
  good := fun _ => True
  inv := fun _ => True
  inv0 := trivial
  step_inv := fun _ _ _ _ => trivial
  hmt := fun a w => by kernel_rfl
  hmd := fun a w => by kernel_rfl
  het := enters_of Tryz.func168 (by kernel_rfl) rfl
  hed := enters_of Tryz.func167 (by kernel_rfl) rfl
  htake := fun b s v w _ _ hb => counter_take b s v w hb
  hdone := fun b s w _ hb => counter_done b s w hb
def totalG : Gath where
  σ := Int × Int × Int
  T := 120
  S := 122
  take := 158
  done := 157
  cells := fun s => #[.int .u64 s.1, .int .u64 s.2.1, .int .u64 s.2.2]
  init := (0, 0, 0)
  step := tStep
  out := fun s => totalOut s.1 s.2.1 s.2.2
  good := fun _ => True
  inv := fun s => 0 ≤ s.1 ∧ 0 ≤ s.2.1 ∧ s.2.1 < 18446744073709551616
  inv0 := by decide
  step_inv := fun s v _ _ => by
    simp only [tStep]
    omega
  hmt := fun a w => by kernel_rfl
  hmd := fun a w => by kernel_rfl
  het := enters_of Tryz.func158 (by kernel_rfl) rfl
  hed := enters_of Tryz.func157 (by kernel_rfl) rfl
  htake := fun b s v w hi _ hb => total_take b s.1 s.2.1 s.2.2 v w hb hi.1 hi.2.1 hi.2.2
  hdone := fun b s w _ hb => total_done b s.1 s.2.1 s.2.2 w hb _ _ _ _ rfl
theorem count_fold : ∀ (vs : List V) (n : Int), 0 ≤ n → n + vs.length ≤ 1099511627776 → vs.foldl cStep n = n + vs.length
  | [], n, _, _ => by simp
  | v :: vs, n, h0, h1 => by
    have hl : ((v :: vs).length : Int) = vs.length + 1 := by simp
    rw [hl] at h1 ⊢
    rw [List.foldl_cons]
    show vs.foldl cStep (wrap64 (n + 1)) = _
    rw [w64 n h0 (by omega), count_fold vs (n + 1) (by omega) (by omega)]
    omega
def sumV : List V → Int
  | [] => 0
  | v :: vs => v.f1 + sumV vs
theorem sumV_bd : ∀ vs : List V, (∀ v ∈ vs, okInt v) → -9223372036854775808 * (vs.length : Int) ≤ sumV vs ∧ sumV vs ≤ 9223372036854775807 * (vs.length : Int)
  | [], _ => by simp [sumV]
  | v :: vs, h => by
    have h1 := h v List.mem_cons_self
    have h2 := sumV_bd vs (fun u hu => h u (List.mem_cons_of_mem _ hu))
    have hl : ((v :: vs).length : Int) = vs.length + 1 := by simp
    unfold okInt at h1
    simp only [sumV, hl]
    omega
theorem u64w (x : Int) : IntKind.u64.wrap x = x % 18446744073709551616 := by
  simp [IntKind.wrap, IntKind.bits, IntKind.signed]
def stOf (S : Int) (n : Int) : Int × Int × Int := ((S / 18446744073709551616) % 18446744073709551616, S % 18446744073709551616, n)
theorem total_step (S n : Int) (v : V) (hv : okInt v) (h0 : 0 ≤ n) (h1 : n ≤ 1099511627776) : tStep (stOf S n) v = stOf (S + v.f1) (n + 1) := by
  unfold okInt at hv
  unfold stOf tStep
  simp only [u64w]
  refine Prod.ext ?_ (Prod.ext ?_ ?_)
  · show (S / 18446744073709551616 % 18446744073709551616 + v.f1 / 9223372036854775808 % 18446744073709551616 + (S % 18446744073709551616 + v.f1 % 18446744073709551616) / 18446744073709551616) % 18446744073709551616 = (S + v.f1) / 18446744073709551616 % 18446744073709551616
    rcases (by omega : v.f1 < 0 ∨ 0 ≤ v.f1) with h | h
    · have e1 : v.f1 / 9223372036854775808 = -1 := by omega
      rw [e1]
      omega
    · have e1 : v.f1 / 9223372036854775808 = 0 := by omega
      rw [e1]
      omega
  · show (S % 18446744073709551616 + v.f1 % 18446744073709551616) % 18446744073709551616 = (S + v.f1) % 18446744073709551616
    omega
  · show (n + 1) % 18446744073709551616 = n + 1
    omega
theorem total_fold : ∀ (vs : List V) (S n : Int), (∀ v ∈ vs, okInt v) → 0 ≤ n → n + vs.length ≤ 1099511627776 → vs.foldl tStep (stOf S n) = stOf (S + sumV vs) (n + vs.length)
  | [], S, n, _, _, _ => by simp [sumV]
  | v :: vs, S, n, h, h0, h1 => by
    have hl : ((v :: vs).length : Int) = vs.length + 1 := by simp
    rw [hl] at h1 ⊢
    rw [List.foldl_cons, total_step S n v (h v List.mem_cons_self) h0 (by omega), total_fold vs _ _ (fun u hu => h u (List.mem_cons_of_mem _ hu)) (by omega) (by omega)]
    simp only [sumV]
    congr 1 <;> omega
def sumR (vs : List V) : Int × Int × ByteArray × Int :=
  if vs = [] then (0, 0, ⟨#[]⟩, 0) else if -9223372036854775808 ≤ sumV vs ∧ sumV vs ≤ 9223372036854775807 then (1, sumV vs, ⟨#[]⟩, 0) else (0, 0, ⟨#[]⟩, 4)
theorem wrap64_eq (x : Int) (h0 : 0 ≤ x) (h1 : x < 18446744073709551616) : wrap64 x = if x < 9223372036854775808 then x else x - 18446744073709551616 := by
  unfold wrap64
  split <;> omega
theorem total_out (vs : List V) (h : ∀ v ∈ vs, okInt v) (hn : vs.length ≤ 1099511627776) : totalG.out (vs.foldl totalG.step totalG.init) = sumR vs := by
  have e := total_fold vs 0 0 h (by omega) (by omega)
  have e0 : stOf 0 0 = (0, 0, 0) := by decide
  rw [e0] at e
  change (fun s : Int × Int × Int => totalOut s.1 s.2.1 s.2.2) (vs.foldl tStep (0, 0, 0)) = _
  rw [e]
  have hb := sumV_bd vs h
  rw [Int.zero_add, Int.zero_add]
  unfold stOf totalOut sumR
  obtain ⟨S, hS⟩ : ∃ S, S = sumV vs := ⟨_, rfl⟩
  rw [← hS] at hb ⊢
  by_cases c0 : vs = []
  · subst c0
    simp
  · have hp : 0 < vs.length := List.length_pos_iff.2 c0
    rw [if_neg c0]
    dsimp only
    rw [if_neg (by omega)]
    rw [wrap64_eq _ (by omega) (by omega), u64w]
    by_cases c : -9223372036854775808 ≤ S ∧ S ≤ 9223372036854775807
    · rw [if_pos c]
      split
      · rw [if_pos (by omega)]
        congr 2
        omega
      · rw [if_pos (by omega)]
        congr 2
        omega
    · rw [if_neg c]
      split
      · rw [if_neg (by omega)]
      · rw [if_neg (by omega)]
end Go.Proofs.YtecgkcgfeghhgaaGreatDoor.PAll
set_option linter.unusedVariables false
set_option linter.unusedSimpArgs false
namespace Go.Proofs.YtecgkcgfeghhgaaGreatDoor.PAll
open Go.RowKit Go.Proofs.YtecgkcgfeghhgaaGreatDoorW.PrintWords Go.Proofs.YtecgkcgfeghhgaaGreatDoorW.PrintLast Go.Proofs.YtecgkcgfeghhgaaGreatDoorW.PrintMore
set_option maxHeartbeats 4000000 in
set_option maxRecDepth 100000 in
theorem aggregate_bad (k : Nat) (fn : Int) (d : Bool) (A2 : Option Addr) (c2 : Nat) (l : List V) (w : World) (hr : Kd.C kV w A2 l.length l) (hc : l.length ≤ c2) (hall : bag_allowed.f k fn d l = some false) :
    Calls Tryz.prog 21 #[.int .u8 fn, .bool d, .slice A2 l.length c2] w fun e w' => e = .returned (.agg #[.int .u8 0, .int .i64 0, .string ⟨#[]⟩, .int .i64 1]) ∧ Below w.heap.size w w' := by
  have HR := Aside0.mk hr
  have HC := Aside0.mk hc
  have HA := Aside0.mk hall
  clear hr hc hall
  go_enter Tryz.func21, Tryz.ntmps21
  go_wp2_with (first | ((with_reducible refine gate_dst (N := 6) rfl ?_); refine box_event ?hg (N := 6) ?hd (cs := #[.int .u8 0, .int .i64 0, .string (⟨#[]⟩ : ByteArray), .int .i64 0]) (t := 38) ?hr ?_; (case hd => rfl); (case hg => rfl); (case hr => first | (go_simp; done) | (go_simp; rfl)); intro q hq W hN hb1; have HB1 := Aside0.mk hb1; have HQ := Aside0.mk hq; have HN0 := Aside0.mk hN; clear hb1 hq hN))
  refine (bag_allowed.calls k fn d A2 c2 l false W (Kd.C_below HR.out HB1.out) HC.out HA.out).mono ?_
  rintro e w3 ⟨rfl, hb2⟩
  have hN3 := (hb2.block q (blk_lt HN0.out)).trans HN0.out
  have HN3 := Aside0.mk hN3
  have HB3 := Aside0.mk (HB1.out.trans (hb2.mono HB1.out.size))
  have G0 : w3.cell? ⟨q, 0, none⟩ = some (.int .u8 0) := (blk_cell hN3 0).trans rfl
  have G1 : w3.cell? ⟨q, 1, none⟩ = some (.int .i64 0) := (blk_cell hN3 1).trans rfl
  have G2 : w3.cell? ⟨q, 2, none⟩ = some (.string ⟨#[]⟩) := (blk_cell hN3 2).trans rfl
  have G3 : w3.cell? ⟨q, 3, none⟩ = some (.int .i64 0) := (blk_cell hN3 3).trans rfl
  have F4 : ∀ j, w3.frozen? ⟨q, j, none⟩ = false := fun j => by simp [World.frozen?, hN3]
  clear hb2 hN3
  go_wp2
  refine bodyPost_ret (results_cell_row rfl _ _ q 38 _ (0, 0) _ rfl (out_cells HN3.out _ _ _ _) Tryz.underlying38 rfl (by kernel_rfl)) rfl ?_
  exact ⟨rfl, out_below HB3.out HQ.out _ _ _ _⟩
noncomputable def aggR (fn : Int) (d : Bool) (vs : List V) : Int × Int × ByteArray × Int :=
  if allowedB fn d vs = true then (if fn = 2 then sumR (pickV fn d [] vs) else (1, ((pickV fn d [] vs).length : Int), ⟨#[]⟩, 0)) else (0, 0, ⟨#[]⟩, 1)
theorem pickV_sub (fn : Int) (d : Bool) : ∀ (vs : List V) (seen : List ByteArray), (∀ v ∈ pickV fn d seen vs, v ∈ vs) ∧ (pickV fn d seen vs).length ≤ vs.length
  | [], _ => by simp [pickV]
  | v :: vs, seen => by
    have h1 := pickV_sub fn d vs seen
    have h2 := pickV_sub fn d vs (nameOf [v] :: seen)
    have e1 : ∀ seen', (∀ u ∈ pickV fn d seen' vs, u ∈ vs) ∧ (pickV fn d seen' vs).length ≤ vs.length → (∀ u ∈ v :: pickV fn d seen' vs, u ∈ v :: vs) ∧ (v :: pickV fn d seen' vs).length ≤ (v :: vs).length := fun seen' h => ⟨fun u hu => by
      rcases List.mem_cons.1 hu with rfl | hu
      · exact List.mem_cons_self
      · exact List.mem_cons_of_mem _ (h.1 u hu), by simp; exact h.2⟩
    have e2 : (∀ u ∈ pickV fn d seen vs, u ∈ v :: vs) ∧ (pickV fn d seen vs).length ≤ (v :: vs).length := ⟨fun u hu => List.mem_cons_of_mem _ (h1.1 u hu), by simp; omega⟩
    simp only [pickV]
    split
    · exact e2
    · split
      · split
        · exact e2
        · exact e1 _ h2
      · exact e1 _ h1
def AggOk (fn : Int) (vs : List V) : Prop := 0 ≤ fn ∧ (fn ≤ 2 ∨ 5 < fn) ∧ (∀ v ∈ vs, RowOk [v]) ∧ vs.length ≤ 1099511627776
open Classical in
noncomputable def bag_Aggregate.f (fn : Int) (d : Bool) (vs : List V) : Option (Int × Int × ByteArray × Int) := if AggOk fn vs then some (aggR fn d vs) else none
theorem bag_Aggregate.calls (a0 : Int) (a1 : Bool) (A2 : Option Addr) (c2 : Nat) (l2 : List V) (r1 r2 : Int) (r3 : ByteArray) (r4 : Int) (w : World) (hr2 : Kd.C kV w A2 l2.length l2) (hc2 : l2.length ≤ c2) (hT : LaidT w) (h : bag_Aggregate.f a0 a1 l2 = some (r1, r2, r3, r4)) :
    Calls Tryz.prog 21 #[.int .u8 a0, .bool a1, .slice A2 l2.length c2] w fun e w' => e = .returned (.agg #[.int .u8 r1, .int .i64 r2, .string r3, .int .i64 r4]) ∧ Below w.heap.size w w' := by
  unfold bag_Aggregate.f at h
  split at h
  case isFalse => cases h
  rename_i hok
  obtain ⟨hf0, hf1, hok, hn⟩ := hok
  have h := Option.some.inj h
  have hv : ∀ v ∈ l2, VOk v := fun v hv => (hok v hv).1 v (by simp)
  obtain ⟨k, hk⟩ := (allowed_ev a0 a1 l2 hv hn).rounds
  unfold aggR at h
  cases hq : allowedB a0 a1 l2 with
  | false =>
    rw [hq] at hk h
    simp only [Bool.false_eq_true, if_false, Prod.mk.injEq] at h
    obtain ⟨rfl, rfl, rfl, rfl⟩ := h
    exact aggregate_bad k a0 a1 A2 c2 l2 w hr2 hc2 hk
  | true =>
    rw [hq] at hk h
    rw [if_pos rfl] at h
    have hle : a0 ≤ 2 := by
      rcases hf1 with h1 | h1
      · exact h1
      · unfold allowedB at hq
        rw [if_pos (.inl h1)] at hq
        cases hq
    obtain ⟨hsub, hlen⟩ := pickV_sub a0 a1 l2 []
    by_cases h2 : a0 = 2
    · subst h2
      rw [if_pos rfl] at h
      have hc := aggregate_walk totalG k 2 a1 A2 c2 l2 w hT hr2 hc2 hok hn hk (fun _ _ => trivial) (fun w => gath_sum w)
      have e := total_out (pickV 2 a1 [] l2) (fun v hm => by have := hv v (hsub v hm); exact ⟨this.2.2.1, this.2.2.2⟩) (Nat.le_trans hlen hn)
      rw [e, h] at hc
      exact hc
    · rw [if_neg h2] at h
      have hc := aggregate_walk countG k a0 a1 A2 c2 l2 w hT hr2 hc2 hok hn hk (fun _ _ => trivial) (fun w => gath_count a0 (by omega) w)
      have e := count_fold (pickV a0 a1 [] l2) 0 (Int.le_refl _) (by omega)
      change Calls _ _ _ _ fun e w' => e = .returned (.agg #[.int .u8 1, .int .i64 ((pickV a0 a1 [] l2).foldl cStep 0), .string ⟨#[]⟩, .int .i64 0]) ∧ _ at hc
      rw [e, Int.zero_add] at hc
      simp only [Prod.mk.injEq] at h
      obtain ⟨rfl, rfl, rfl, rfl⟩ := h
      exact hc
end Go.Proofs.YtecgkcgfeghhgaaGreatDoor.PAll
set_option linter.unusedVariables false
set_option linter.unusedSimpArgs false
namespace Go.Proofs.YtecgkcgfeghhgaaGreatDoor.PAll
open Go.RowKit Go.Proofs.YtecgkcgfeghhgaaGreatDoorW.PrintWords Go.Proofs.YtecgkcgfeghhgaaGreatDoorW.PrintLast Go.Proofs.YtecgkcgfeghhgaaGreatDoorW.PrintMore
open Classical in
noncomputable def decAt (c : ByteArray → Int) (s : ByteArray) : ByteArray → Int := fun t => if t = s then c s - 1 else c t
noncomputable def splitR : (ByteArray → Int) → List (List V) → List (List V) × List (List V)
  | _, [] => ([], [])
  | c, r :: rs => if 0 < c (nameOf r) then (r :: (splitR (decAt c (nameOf r)) rs).1, (splitR (decAt c (nameOf r)) rs).2) else ((splitR c rs).1, r :: (splitR c rs).2)
theorem splitR_mem : ∀ (l : List (List V)) (c : ByteArray → Int) (r : List V), r ∈ (splitR c l).1 ∨ r ∈ (splitR c l).2 → r ∈ l
  | [], _, _, h => by simp [splitR] at h
  | a :: l, c, r, h => by
    have i1 := splitR_mem l c r
    have i2 := splitR_mem l (decAt c (nameOf a)) r
    simp only [splitR] at h
    split at h
    · simp only [List.mem_cons] at h ⊢
      rcases h with (h | h) | h
      · exact .inl h
      · exact .inr (i2 (.inl h))
      · exact .inr (i2 (.inr h))
    · simp only [List.mem_cons] at h ⊢
      rcases h with h | h | h
      · exact .inr (i1 (.inl h))
      · exact .inl h
      · exact .inr (i1 (.inr h))
theorem splitR_len : ∀ (l : List (List V)) (c : ByteArray → Int), (splitR c l).1.length + (splitR c l).2.length = l.length
  | [], _ => by simp [splitR]
  | a :: l, c => by
    have i1 := splitR_len l c
    have i2 := splitR_len l (decAt c (nameOf a))
    simp only [splitR]
    split <;> simp <;> omega
open Classical in
noncomputable def bag_split.f (l0 l1 : List (List V)) : Option (List (List V) × List (List V) × Int) := if RowsOk (l0 ++ l1) then some (if validB (l0 ++ l1) = true then (sortR [] (splitR (cnt (l1.map nameOf)) l0).1, sortR [] (splitR (cnt (l1.map nameOf)) l0).2, 0) else ([], [], 1)) else none
open Classical in
set_option maxHeartbeats 8000000 in
set_option maxRecDepth 100000 in
theorem bag_split.calls (A0 : Option Addr) (c0 : Nat) (l0 : List (List V)) (A1 : Option Addr) (c1 : Nat) (l1 : List (List V)) (r1 r2 : List (List V)) (r3 : Int) (w : World) (hr0 : Kd.C kRow w A0 l0.length l0) (hc0 : l0.length ≤ c0) (hr1 : Kd.C kRow w A1 l1.length l1) (hc1 : l1.length ≤ c1) (hT : LaidT w) (h : bag_split.f l0 l1 = some (r1, r2, r3)) :
    Calls Tryz.prog 72 #[.slice A0 l0.length c0, .slice A1 l1.length c1] w fun e w' => ∃ v0_ v1_ : Value, e = .returned (.tuple #[v0_, v1_, .int .i64 r3]) ∧ Kd.V kRow 53 w' w.heap.size (fun k_ => (w.heap.size ≤ k_)) v0_ r1 ∧ Kd.V kRow 53 w' w.heap.size (fun k_ => (w.heap.size ≤ k_)) v1_ r2 ∧ Below w.heap.size w w' := by
  unfold bag_split.f at h
  split at h
  case isFalse => cases h
  rename_i hok
  have hok0 : RowsOk l0 := ⟨fun r hr => hok.1 r (List.mem_append_left _ hr), by have := hok.2; rw [List.length_append] at this; omega⟩
  have hok1 : RowsOk l1 := ⟨fun r hr => hok.1 r (List.mem_append_right _ hr), by have := hok.2; rw [List.length_append] at this; omega⟩
  have H := Aside0.mk (Option.some.inj h)
  have HBo := Aside0.mk (both_calls A0 c0 l0 A1 c1 l1 _ rfl w hr0 hr1 hok.v)
  have HOK := Aside0.mk hok0
  have HOK1 := Aside0.mk hok1
  have HT := Aside0.mk hT
  have HR0 := Aside0.mk hr0
  have HR1 := Aside0.mk hr1
  have HC1 := Aside0.mk hc1
  clear h hok hok0 hok1 hT hr0 hr1 hc0 hc1
  cases hq : validB (l0 ++ l1) with
  | false =>
    rw [hq, if_neg (by simp)] at H
    rw [hq] at HBo
    clear hq
    go_enter Tryz.func72, Tryz.ntmps72
    go_wp2_with fail
    refine HBo.out.mono ?_
    rintro e w1 ⟨v1, rfl, hR1, hb1⟩
    have HB := Aside0.mk hb1
    clear hb1 hR1
    go_wp2
    go_ret3
    obtain ⟨e1, e2⟩ := Prod.mk.inj H.out
    obtain ⟨e2, e3⟩ := Prod.mk.inj e2
    refine ⟨.slice none 0 0, .slice none 0 0, by rw [← e3]; rfl, ?_, ?_, HB.out⟩
    · rw [← e1]; exact Kd.V_nil _ _ _ _ _
    · rw [← e2]; exact Kd.V_nil _ _ _ _ _
  | true =>
    rw [hq, if_pos rfl] at H
    have HV : Aside0 (∀ row ∈ l0, ∀ v ∈ row, validV v = true) := ⟨fun row hrow => validB_valid hq row (List.mem_append_left _ hrow)⟩
    rw [hq] at HBo
    clear hq
    go_enter Tryz.func72, Tryz.ntmps72
    go_wp2_with fail
    refine HBo.out.mono ?_
    rintro e w1 ⟨v1, rfl, hR1, hb1⟩
    have B1 := Aside0.mk hb1
    clear hb1 hR1
    go_wp2_with fail
    refine (tally_calls A1 c1 l1 w1 (HT.out.below B1.out) (Kd.C_below HR1.out B1.out) HC1.out HOK1.out).mono ?_
    rintro e w2 ⟨m, rfl, hm, hM, hb2⟩
    have HMB : Aside0 (w.heap.size ≤ m) := ⟨Nat.le_trans B1.out.size hm⟩
    have M0 := Aside0.mk hM
    have B2 := Aside0.mk (B1.out.trans (hb2.mono B1.out.size))
    clear hm hM hb2
    go_wp2
    clear B1
    obtain ⟨c0f, hc0f⟩ : ∃ c0f, c0f = cnt (l1.map nameOf) := ⟨_, rfl⟩
    have HBD0 : Aside0 (∀ s, 0 ≤ c0f s ∧ c0f s ≤ 1099511627776) := ⟨fun s => by
      have h1 := cnt_nonneg (l1.map nameOf) s
      have h2 := cnt_le (l1.map nameOf) s
      have h3 := HOK1.out.2
      rw [List.length_map] at h2
      rw [hc0f]
      omega⟩
    rw [← hc0f] at M0 H
    clear hc0f
    go_loopg [25, 4, 5] l0.length (fun kq v25 v4 v5 W => ∃ (x : Int) (c : ByteArray → Int) (met left : List (List V)), v25 = .int .i64 x ∧ Aside0 (0 ≤ x ∧ x ≤ l0.length ∧ (kq : Int) = l0.length - x) ∧ Aside0 (CMap W m c) ∧ Aside0 (∀ s, 0 ≤ c s ∧ c s ≤ 1099511627776) ∧ Aside0 ((relK w).kd.R 53 W w.heap.size (fun k => k ≠ m) v4 met) ∧ Aside0 ((relK w).kd.R 53 W w.heap.size (fun k => k ≠ m) v5 left) ∧ Aside0 (∀ k, v4.ownBlock = some k → v5.ownBlock ≠ some k) ∧ Aside0 (met ++ (splitR c (l0.drop x.toNat)).1 = (splitR c0f l0).1 ∧ left ++ (splitR c (l0.drop x.toNat)).2 = (splitR c0f l0).2 ∧ met.length + left.length ≤ x) ∧ Aside0 (Below w.heap.size w W))
    case atStart => exact ⟨0, c0f, [], [], rfl, ⟨by omega⟩, M0, HBD0, ⟨Kd.R_nil _ _ _ _ _⟩, ⟨Kd.R_nil _ _ _ _ _⟩, ⟨fun k hk => by simp [Value.ownBlock] at hk⟩, ⟨by simp⟩, B2⟩
    case round =>
      clear M0 B2 HBD0
      obtain ⟨x, c, met, left, rfl, HX, HM, HBD, HO, HP, HNE, HD, HB⟩ := hrel
      obtain ⟨hx0, hx1, hkq⟩ := HX.out
      by_cases hlt : x < (l0.length : Int)
      · have c1 : decide (x < (l0.length : Int)) = true := decide_eq_true hlt
        have c2 : decide (0 ≤ x) = true := decide_eq_true hx0
        obtain ⟨ad, Ar, cr, e, hx_0, hl_0, hi_0⟩ := at_L4 HR0.out x hx0 hlt
        cases e
        replace hx_0 := (HB.out.cell (World.block_lt_of_cell? w _ hx_0)).trans hx_0
        have hi : x.toNat < l0.length := by omega
        have hrd : rd_L4 l0 x = l0[x.toNat] := by simp [rd_L4, List.getElem?_eq_getElem hi]
        have hok := HOK.out.1 (rd_L4 l0 x) (by rw [hrd]; exact List.getElem_mem hi)
        have hst := HD.out
        rw [drop_cons l0 x.toNat hi, ← hrd] at hst
        obtain ⟨r, hr⟩ : ∃ r, r = rd_L4 l0 x := ⟨_, rfl⟩
        rw [← hr] at hx_0 hl_0 hi_0 hok hst
        have HI0 := Aside0.mk hi_0
        have HL0 := Aside0.mk hl_0
        have HOK2 := Aside0.mk hok
        have HST := Aside0.mk hst
        have HLT := Aside0.mk hlt
        have HX0 := Aside0.mk hx0
        have HWR : Aside0 (wrap64 (x + 1) = x + 1) := ⟨by have := HOK.out.2; unfold wrap64; omega⟩
        clear hi_0 hl_0 hok hst hrd hr hkq hi
        go_wp2_with fail
        refine (name_calls _ _ r wr (HT.out.below HB.out) (Kd.C_below HI0.out HB.out) HL0.out HOK2.out.1 HOK2.out.2.1 HOK2.out.2.2).mono ?_
        rintro e w3 ⟨rfl, hb1⟩
        have HM1 := HM.out.below hb1
        obtain ⟨kv, hkv⟩ := HM1
        have HKV := Aside0.mk hkv
        obtain ⟨n, hn⟩ : ∃ n, n = c (nameOf r) := ⟨_, rfl⟩
        have hc : Aside0 ((KV.get kv (nameOf r)).getD 0 = n) := ⟨by rw [hn]; exact hkv.2 _⟩
        have hbd := HBD.out (nameOf r)
        rw [← hn] at hbd
        have HN := Aside0.mk hn
        have HB1 := Aside0.mk (HB.out.trans (hb1.mono HB.out.size))
        have HO1 := Aside0.mk (Kd.R_below HO.out hb1)
        have HP1 := Aside0.mk (Kd.R_below HP.out hb1)
        clear hb1 hkv hn HM
        have hcl : Aside0 ((met.length + 1) * 24 ≤ 140737488355328 ∧ (left.length + 1) * 24 ≤ 140737488355328) := ⟨by have := HD.out.2.2; have := HOK.out.2; omega⟩
        have hM : Aside0 (∀ W, (relK w).kd.M W w.heap.size (fun _ => False) r [.slice Ar r.length cr]) := ⟨fun W => ⟨Ar, cr, rfl, HL0.out, HI0.out⟩⟩
        have hml : Aside0 (m < w3.heap.size) := ⟨HKV.out.1.lt⟩
        by_cases hz : 0 < n
        · have hzb : decide (n > 0) = true := decide_eq_true hz
          have HZ := Aside0.mk hz
          have HW : Aside0 (wrap64 (n - 1) = n - 1) := ⟨by unfold wrap64; omega⟩
          have HBDN := Aside0.mk hbd
          clear hz hbd
          go_wp2_with (first
            | (at_lookup; refine KV.law_lookup _ rfl _ _ 66 rfl 9 3 Tryz.underlying9 Tryz.underlying66 (.int .i64 0) (zeroInt _) m (Value.int .i64) kv rfl HKV.out.1 (nameOf r) rfl (.int .i64 n) (get_int hc.out) ?_)
            | (at_mapUpdate; refine KV.law_update _ rfl _ _ _ 66 rfl 9 3 Tryz.underlying9 Tryz.underlying66 m (Value.int .i64) kv rfl HKV.out.1 (nameOf r) rfl (wrap64 (n - 1)) rfl ?_; intro w4 hM2 hg2; rw [HW.out] at hM2; have HM2 := Aside0.mk (CMap.put HKV.out.2 hM2); have HB3 := Aside0.mk (HB1.out.grown hg2 HB1.out.size (fun k hk => by cases hk; exact HMB.out)); have HO3 := Aside0.mk (Kd.R_grown HO1.out hg2 (fun k hk e => hk (by injection e))); have HP3 := Aside0.mk (Kd.R_grown HP1.out hg2 (fun k hk e => hk (by injection e))); have hml4 := Aside0.mk (Nat.lt_of_lt_of_le hml.out hg2.size); clear hM2 hg2)
            | (at_builtin; refine Kd.R_append (relK w).kd (w0 := w) w.heap.size rfl (.tmp 39) (.tmp 41) 22 53 (.slice none 0 0) 24 rfl Tryz.underlying22 infoRow rfl (Nat.le_refl 1) (by decide) _ met r [.slice Ar r.length cr] (fun k => k ≠ m ∧ u5.ownBlock ≠ some k) (fun _ => False) rfl rfl (hM.out _) (fun _ h => h.elim) (fun k hk => ⟨fun e => by have := hml4.out; omega, fun e => by have := Kd.R_lt HP3.out k e; omega⟩) (Kd.R_reok rfl HO3.out (fun k hk => ⟨HO3.out.1 k hk, HNE.out k hk⟩)) HB3.out HB3.out.size hcl.out.1 ?_; intro v6 w6 hR4 hb4 hg4 hat4; have HO4 := Aside0.mk hR4; have HB4 := Aside0.mk hb4; have HG4 := Aside0.mk hg4; clear hR4 hb4 hg4 hat4))
          have hlt := HLT.out
          have hk := HX.out.2.2
          have hx0 := HX0.out
          have hd := HD.out.2.2
          cases gk with
          | zero => omega
          | succ k1 =>
            go_roundg k1
            case measure => omega
            case rel =>
              have hp3 : ∀ k, u5.ownBlock = some k → k ≠ m ∧ v6.ownBlock ≠ some k := fun k hk => ⟨HP3.out.1 k hk, fun e => (HO4.out.1 k e).2 hk⟩
              have hp4 := Kd.R_grown (Kd.R_tight rfl HP3.out) HG4.out (fun k hk e => HNE.out k e.symm hk.symm)
              refine ⟨x + 1, decAt c (nameOf r), met ++ [r], left, by rw [HWR.out], ⟨by omega⟩, ⟨?_⟩, ⟨fun s => ?_⟩, ⟨Kd.R_reok rfl HO4.out (fun k hk => (HO4.out.1 k hk).1)⟩, ⟨Kd.R_mono hp4 (fun k hk => (hp3 k hk.symm).1)⟩, ⟨fun k hk => (HO4.out.1 k hk).2⟩, ⟨?_, ?_, by simp; omega⟩, HB4⟩
              · have h3 := CMap.grown HM2.out HG4.out (fun e => HO3.out.1 m e.symm rfl)
                have h4 : (fun t => if t = nameOf r then n - 1 else c t) = decAt c (nameOf r) := by
                  funext t
                  unfold decAt
                  rw [HN.out]
                rw [← h4]
                exact h3
              · unfold decAt
                have h1 := HBD.out s
                have h2 := HZ.out
                have h3 := HBDN.out
                have h4 := HN.out
                split <;> omega
              · have := HST.out.1
                rw [splitR, if_pos (by rw [← HN.out]; exact HZ.out)] at this
                rw [show (x + 1).toNat = x.toNat + 1 by omega]
                simpa using this
              · have := HST.out.2.1
                rw [splitR, if_pos (by rw [← HN.out]; exact HZ.out)] at this
                rw [show (x + 1).toNat = x.toNat + 1 by omega]
                simpa using this
        · have hzb : decide (n > 0) = false := decide_eq_false hz
          have HZ := Aside0.mk hz
          have hne5 : ∀ k, u5.ownBlock = some k → k ≠ m ∧ u4.ownBlock ≠ some k := fun k hk => ⟨HP1.out.1 k hk, fun e => HNE.out k e hk⟩
          have HNE5 := Aside0.mk hne5
          clear hz hbd hne5
          go_wp2_with (first
            | (at_lookup; refine KV.law_lookup _ rfl _ _ 66 rfl 9 3 Tryz.underlying9 Tryz.underlying66 (.int .i64 0) (zeroInt _) m (Value.int .i64) kv rfl HKV.out.1 (nameOf r) rfl (.int .i64 n) (get_int hc.out) ?_)
            | (at_builtin; refine Kd.R_append (relK w).kd (w0 := w) w.heap.size rfl (.tmp 43) (.tmp 45) 22 53 (.slice none 0 0) 24 rfl Tryz.underlying22 infoRow rfl (Nat.le_refl 1) (by decide) _ left r [.slice Ar r.length cr] (fun k => k ≠ m ∧ u4.ownBlock ≠ some k) (fun _ => False) rfl rfl (hM.out _) (fun _ h => h.elim) (fun k hk => ⟨fun e => by have := hml.out; omega, fun e => by have := Kd.R_lt HO1.out k e; omega⟩) (Kd.R_reok rfl HP1.out HNE5.out) HB1.out HB1.out.size hcl.out.2 ?_; intro v6 w6 hR4 hb4 hg4 hat4; have HO4 := Aside0.mk hR4; have HB4 := Aside0.mk hb4; have HG4 := Aside0.mk hg4; clear hR4 hb4 hg4 hat4))
          have hlt := HLT.out
          have hk := HX.out.2.2
          have hx0 := HX0.out
          have hd := HD.out.2.2
          cases gk with
          | zero => omega
          | succ k1 =>
            go_roundg k1
            case measure => omega
            case rel =>
              have hp4 := Kd.R_grown (Kd.R_tight rfl HO1.out) HG4.out (fun k hk e => HNE.out k hk.symm e.symm)
              refine ⟨x + 1, c, met, left ++ [r], by rw [HWR.out], ⟨by omega⟩, ⟨CMap.grown ⟨kv, HKV.out⟩ HG4.out (fun e => HP1.out.1 m e.symm rfl)⟩, HBD, ⟨Kd.R_mono hp4 (fun k hk => HO1.out.1 k hk.symm)⟩, ⟨Kd.R_reok rfl HO4.out (fun k hk => (HO4.out.1 k hk).1)⟩, ⟨fun k hk e => (HO4.out.1 k e).2 hk⟩, ⟨?_, ?_, by simp; omega⟩, HB4⟩
              · have := HST.out.1
                rw [splitR, if_neg (by rw [← HN.out]; have := HZ.out; omega)] at this
                rw [show (x + 1).toNat = x.toNat + 1 by omega]
                simpa using this
              · have := HST.out.2.1
                rw [splitR, if_neg (by rw [← HN.out]; have := HZ.out; omega)] at this
                rw [show (x + 1).toNat = x.toNat + 1 by omega]
                simpa using this
      · have c1 : decide (x < (l0.length : Int)) = false := decide_eq_false hlt
        have hms : met = (splitR c0f l0).1 ∧ left = (splitR c0f l0).2 := by
          have := HD.out
          rw [List.drop_eq_nil_of_le (by omega)] at this
          have h1 := this.1
          have h2 := this.2.1
          simp only [splitR, List.append_nil] at h1 h2
          exact ⟨h1, h2⟩
        obtain ⟨hms, hls⟩ := hms
        have hmem := splitR_mem l0 c0f
        have hlen := splitR_len l0 c0f
        rw [← hms, ← hls] at H hmem hlen
        have good : ∀ row, row ∈ met ∨ row ∈ left → RowGood [] row := fun row hrow => ⟨HV.out row (hmem row hrow), (by intro k hk; cases hk), (HOK.out.1 row (hmem row hrow)).2.2⟩
        have HG4 : Aside0 (∀ row ∈ met, RowGood [] row) := ⟨fun row h => good row (.inl h)⟩
        have HG5 : Aside0 (∀ row ∈ left, RowGood [] row) := ⟨fun row h => good row (.inr h)⟩
        have HL4 : Aside0 (met.length ≤ 1099511627776 ∧ left.length ≤ 1099511627776) := ⟨by have := HOK.out.2; omega⟩
        clear HX HD hx0 hx1 hlt hkq hms hls hmem hlen good HM HBD
        obtain ⟨Av, cv, ev, hlc, hC⟩ := Kd.R_reads HO.out
        subst ev
        obtain ⟨Aw, cw, ew, hlc2, hC2⟩ := Kd.R_reads HP.out
        subst ew
        have HC := Aside0.mk (relK_C hC HB.out)
        have HC2 := Aside0.mk (relK_C hC2 HB.out)
        clear hC hlc hC2 hlc2
        go_wp2_with fail
        refine (arranged_calls Av cv met none 0 [] wr HC.out (Kd.C_nil _ _) HG4.out HL4.out.1 (by simp)).mono ?_
        rintro e w3 ⟨v2, rfl, hR2, hb2⟩
        have HV2 := Aside0.mk (Kd.R_V (base' := w.heap.size) (Kd.R_mono (Kd.R_bound hR2) (fun k hk => Nat.le_trans HB.out.size hk.2.1)))
        have HB2 := Aside0.mk (HB.out.trans (hb2.mono HB.out.size))
        have HC3 := Aside0.mk (Kd.C_below HC2.out hb2)
        have HS := Aside0.mk HB2.out.size
        clear hR2 hb2
        go_wp2_with fail
        refine (arranged_calls Aw cw left none 0 [] w3 HC3.out (Kd.C_nil _ _) HG5.out HL4.out.2 (by simp)).mono ?_
        rintro e w4 ⟨v3, rfl, hR3, hb3⟩
        have HV3 := Aside0.mk (Kd.R_V (base' := w.heap.size) (Kd.R_mono (Kd.R_bound hR3) (fun k hk => Nat.le_trans HS.out hk.2.1)))
        have HV4 := Aside0.mk (Kd.V_below HV2.out hb3)
        have HB3 := Aside0.mk (HB2.out.trans (hb3.mono HB2.out.size))
        clear hR3 hb3
        go_wp2
        go_ret3
        obtain ⟨e1, e2⟩ := Prod.mk.inj H.out
        obtain ⟨e2, e3⟩ := Prod.mk.inj e2
        refine ⟨v2, v3, by rw [← e3]; rfl, ?_, ?_, HB3.out⟩
        · rw [← e1]; exact HV4.out
        · rw [← e2]; exact HV3.out
set_option maxHeartbeats 4000000 in
set_option maxRecDepth 100000 in
theorem bag_Except.calls (A0 : Option Addr) (c0 : Nat) (l0 : List (List V)) (A1 : Option Addr) (c1 : Nat) (l1 : List (List V)) (r1 r2 : List (List V)) (r3 : Int) (w : World) (hr0 : Kd.C kRow w A0 l0.length l0) (hc0 : l0.length ≤ c0) (hr1 : Kd.C kRow w A1 l1.length l1) (hc1 : l1.length ≤ c1) (hT : LaidT w) (h : bag_split.f l0 l1 = some (r1, r2, r3)) :
    Calls Tryz.prog 37 #[.slice A0 l0.length c0, .slice A1 l1.length c1] w fun e w' => ∃ v0_ : Value, e = .returned (.tuple #[v0_, .int .i64 r3]) ∧ Kd.V kRow 53 w' w.heap.size (fun k_ => (w.heap.size ≤ k_)) v0_ r2 ∧ Below w.heap.size w w' := by
  have HS := Aside0.mk (bag_split.calls A0 c0 l0 A1 c1 l1 r1 r2 r3 w hr0 hc0 hr1 hc1 hT h)
  clear hr0 hc0 hr1 hc1 hT h
  go_enter Tryz.func37, Tryz.ntmps37
  go_wp2_with fail
  refine HS.out.mono ?_
  rintro e w1 ⟨v0, v1, rfl, hv0, hv1, hb⟩
  have HV := Aside0.mk hv1
  have HB := Aside0.mk hb
  clear hv0 hv1 hb
  go_wp2
  go_ret2
  exact ⟨v1, rfl, HV.out, HB.out⟩
end Go.Proofs.YtecgkcgfeghhgaaGreatDoor.PAll
set_option linter.unusedVariables false
set_option linter.unusedSimpArgs false
namespace Go.Proofs.YtecgkcgfeghhgaaGreatDoor.PAll
open Go.RowKit Go.Proofs.YtecgkcgfeghhgaaGreatDoorW.PrintWords Go.Proofs.YtecgkcgfeghhgaaGreatDoorW.PrintLast Go.Proofs.YtecgkcgfeghhgaaGreatDoorW.PrintMore
def keyOf (cols : List Int) (row : List V) : List V := cols.map (fun n => rd_T36 row n)
open Classical in
noncomputable def keysR (cols : List Int) (l : List (List V)) : List (List V) := if cols = [] then [[]] else sortR [] (distR [] (l.map (keyOf cols)))
open Classical in
noncomputable def listR (cols : List Int) (l : List (List V)) (s : ByteArray) : List (List V) := l.filter (fun r => decide (nameOf (keyOf cols r) = s))
abbrev LV := Value × List (List V)
structure LM (w W : World) (m : Nat) (kv : List (ByteArray × LV)) : Prop where
  is : KV.Is W m (fun p : LV => p.1) kv
  own : ∀ s p, KV.get kv s = some p → (relK w).kd.R 53 W w.heap.size (fun k => k ≠ m) p.1 p.2
  apart : ∀ s t p q, KV.get kv s = some p → KV.get kv t = some q → s ≠ t → ∀ k, p.1.ownBlock = some k → q.1.ownBlock ≠ some k
theorem LM.below {w W W1 : World} {m : Nat} {kv : List (ByteArray × LV)} (h : LM w W m kv) (hb : Below W.heap.size W W1) : LM w W1 m kv :=
  ⟨h.is.below hb, fun s p hp => Kd.R_below (h.own s p hp) hb, h.apart⟩
theorem LM.grown {w W W1 : World} {m : Nat} {kv : List (ByteArray × LV)} (h : LM w W m kv) {row : Option Nat} (hg : W.grownBy W1 row) (hm : some m ≠ row) (hr : ∀ s p, KV.get kv s = some p → ∀ k, p.1.ownBlock = some k → some k ≠ row) : LM w W1 m kv :=
  ⟨h.is.grown hg hm, fun s p hp => Kd.R_mono (Kd.R_grown (Kd.R_tight rfl (h.own s p hp)) hg (fun k hk => hr s p hp k hk.symm)) (fun k hk => (h.own s p hp).1 k hk.symm), h.apart⟩
theorem LM.put {w W W1 W2 : World} {m : Nat} {kv : List (ByteArray × LV)} (h : LM w W m kv) {s : ByteArray} {v0 v1 : Value} {r0 r1 : List (List V)} (h0 : KV.get kv s = some (v0, r0) ∨ KV.get kv s = none ∧ v0.ownBlock = none)
    (hR : (relK w).kd.R 53 W1 w.heap.size (fun k => k ≠ m) v1 r1) (hg : W.grownBy W1 v0.ownBlock) (hat : v1.ownBlock = v0.ownBlock ∨ ∃ b, v1.ownBlock = some b ∧ W.heap.size ≤ b)
    (hi : KV.Is W2 m (fun p : LV => p.1) (KV.put kv s (v1, r1))) (hg2 : W1.grownBy W2 (some m)) : LM w W2 m (KV.put kv s (v1, r1)) := by
  have old : ∀ t p, t ≠ s → KV.get kv t = some p → ∀ k, p.1.ownBlock = some k → v0.ownBlock ≠ some k ∧ v1.ownBlock ≠ some k := fun t p ht hp k hk => by
    have hlt := Kd.R_lt (h.own t p hp) k hk
    have e0 : v0.ownBlock ≠ some k := by
      rcases h0 with h0 | ⟨_, h0⟩
      · exact h.apart t s p (v0, r0) hp h0 ht k hk
      · rw [h0]; exact fun e => by cases e
    refine ⟨e0, ?_⟩
    rcases hat with hat | ⟨b, hb, hb2⟩
    · rw [hat]; exact e0
    · rw [hb]; intro e; injection e; omega
  refine ⟨hi, fun t p hp => ?_, fun t u p q hp hq htu k hk => ?_⟩
  · by_cases ht : t = s
    · subst ht
      rw [KV.get_put_same] at hp
      obtain rfl := Option.some.inj hp
      exact Kd.R_grown hR hg2 (fun k hk e => hk (by injection e))
    · rw [KV.get_put_other _ ht] at hp
      have h1 := Kd.R_mono (Kd.R_grown (Kd.R_tight rfl (h.own t p hp)) hg (fun k hk e => (old t p ht hp k hk.symm).1 e.symm)) (fun k hk => (h.own t p hp).1 k hk.symm)
      exact Kd.R_grown h1 hg2 (fun k hk e => hk (by injection e))
  · by_cases ht : t = s
    · subst ht
      rw [KV.get_put_same] at hp
      obtain rfl := Option.some.inj hp
      rw [KV.get_put_other _ (fun e => htu e.symm)] at hq
      intro e
      exact (old u q (fun e => htu e.symm) hq k e).2 hk
    · rw [KV.get_put_other _ ht] at hp
      by_cases hu : u = s
      · subst hu
        rw [KV.get_put_same] at hq
        obtain rfl := Option.some.inj hq
        exact (old t p ht hp k hk).2
      · rw [KV.get_put_other _ hu] at hq
        exact h.apart t u p q hp hq htu k hk
abbrev KOk (w : World) (kv : List (ByteArray × LV)) : Nat → Prop := fun k => k ≠ w.heap.size ∧ ∀ s p, KV.get kv s = some p → p.1.ownBlock ≠ some k
theorem KR_put {w W W1 W2 : World} {kv : List (ByteArray × LV)} {v : Value} {keys : List (List V)} (h : kRow.R 53 W w.heap.size (KOk w kv) v keys) {s : ByteArray} {v0 v1 : Value} {r0 r1 : List (List V)} (h0 : KV.get kv s = some (v0, r0) ∨ KV.get kv s = none ∧ v0.ownBlock = none)
    (hg : W.grownBy W1 v0.ownBlock) (hat : v1.ownBlock = v0.ownBlock ∨ ∃ b, v1.ownBlock = some b ∧ W.heap.size ≤ b) (hg2 : W1.grownBy W2 (some w.heap.size)) : kRow.R 53 W2 w.heap.size (KOk w (KV.put kv s (v1, r1))) v keys := by
  have e0 : ∀ k, KOk w kv k → some k ≠ v0.ownBlock := fun k hk => by
    rcases h0 with h0 | ⟨_, h0⟩
    · exact fun e => hk.2 s _ h0 e.symm
    · rw [h0]; exact fun e => by cases e
  have h1 := Kd.R_grown (Kd.R_bound h) hg (fun k hk => e0 k hk.1)
  have h2 := Kd.R_grown h1 hg2 (fun k hk e => hk.1.1 (by injection e))
  refine Kd.R_mono h2 (fun k hk => ⟨hk.1.1, fun t p hp => ?_⟩)
  by_cases ht : t = s
  · subst ht
    rw [KV.get_put_same] at hp
    obtain rfl := Option.some.inj hp
    rcases hat with hat | ⟨b, hb, hb2⟩
    · show v1.ownBlock ≠ some k
      rw [hat]; exact fun e => e0 k hk.1 e.symm
    · show v1.ownBlock ≠ some k
      rw [hb]; intro e; injection e; have := hk.2.2.1; omega
  · rw [KV.get_put_other _ ht] at hp
    exact hk.1.2 t p hp
open Classical in
theorem list_put {cols : List Int} {t : List (List V)} {kv : List (ByteArray × LV)} {row : List V} {v1 : Value} {r0 : List (List V)} (h : ∀ s, ((KV.get kv s).map (·.2)).getD [] = listR cols t s) (h0 : ((KV.get kv (nameOf (keyOf cols row))).map (·.2)).getD [] = r0) :
    ∀ s, ((KV.get (KV.put kv (nameOf (keyOf cols row)) (v1, r0 ++ [row])) s).map (·.2)).getD [] = listR cols (t ++ [row]) s := fun s => by
  unfold listR at h ⊢
  rw [List.filter_append]
  by_cases hs : s = nameOf (keyOf cols row)
  · subst hs
    rw [KV.get_put_same, ← h, h0]
    simp
  · rw [KV.get_put_other _ hs, h]
    have : ¬ nameOf (keyOf cols row) = s := fun e => hs e.symm
    simp [this]
theorem len_put {kv : List (ByteArray × LV)} {x : Int} (h : ∀ s p, KV.get kv s = some p → (p.2.length : Int) ≤ x) (s : ByteArray) (y : LV) (hy : (y.2.length : Int) ≤ x + 1) : ∀ t p, KV.get (KV.put kv s y) t = some p → (p.2.length : Int) ≤ x + 1 := fun t p hp => by
  by_cases ht : t = s
  · subst ht
    rw [KV.get_put_same] at hp
    obtain rfl := Option.some.inj hp
    exact hy
  · rw [KV.get_put_other _ ht] at hp
    have := h t p hp
    omega
theorem zeroRows (w : World) : (zeroValue 22).run Tryz.prog w = .ok (.slice none 0 0) w := by kernel_rfl
end Go.Proofs.YtecgkcgfeghhgaaGreatDoor.PAll
