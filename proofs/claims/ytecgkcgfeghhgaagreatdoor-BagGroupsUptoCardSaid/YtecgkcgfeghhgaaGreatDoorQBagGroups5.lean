/- What the last of these texts proves is told there. Joined by a program of this session out of its texts. -/
import Derived.Test.YtecgkcgfeghhgaaGreatDoorQBagGroups4
set_option maxHeartbeats 8000000
set_option maxRecDepth 100000
set_option linter.unusedVariables false
set_option linter.unusedSimpArgs false
namespace Go.Proofs.YtecgkcgfeghhgaaGreatDoor.PAll
open Go.RowKit Go.Proofs.YtecgkcgfeghhgaaGreatDoorW.PrintWords Go.Proofs.YtecgkcgfeghhgaaGreatDoorW.PrintLast Go.Proofs.YtecgkcgfeghhgaaGreatDoorW.PrintMore
theorem ints_eq (a b : Int) : r1_ints.f a b = some (cmpI a b) := by
 unfold r1_ints.f cmpI
 split
 · rfl
 split <;> rfl
theorem bt_get (s : ByteArray) (i : Nat) (h : i < s.data.toList.length) : bt s (i : Int) = ((s.data.toList[i]).toNat : Int) := by
 have h2 : i < s.size := by rw [Array.length_toList] at h; exact h
 unfold bt
 rw [dif_pos (show ((i : Nat) : Int).toNat < s.size by rw [Int.toNat_natCast]; exact h2)]
 simp only [Int.toNat_natCast]
 rw [Array.getElem_toList]
 rfl
theorem texts_l0 (a b : ByteArray) (ha : a.size ≤ 1099511627776) : ∀ (d i : Nat), i + d = a.size → i ≤ b.size → Ev (fun k => r1_texts.l0 k a b (i : Int)) (Lib.compareBytes (a.data.toList.drop i) (b.data.toList.drop i)) := by
 have ea : a.data.toList.length = a.size := Array.length_toList
 have eb : b.data.toList.length = b.size := Array.length_toList
 intro d
 induction d with
 | zero =>
  intro i hi hb
  rw [List.drop_eq_nil_of_le (show a.data.toList.length ≤ i by omega)]
  refine Ev.step (f := fun k => r1_texts.j1 k a b (i : Int) false) (fun k => by simp only [r1_texts.l0]; rw [if_neg (by omega)]) ?_
  refine Ev.step (f := fun _ => if (a.size : Int) < (b.size : Int) then (some (-1)) else (if (a.size : Int) > (b.size : Int) then (some 1) else (some 0))) (fun k => by simp only [r1_texts.j1]; rw [if_neg (by simp)]) ?_
  by_cases c : i = b.size
  rotate_left
  · rw [drop_cons b.data.toList i (by omega)]
    exact Ev.congr (f := fun _ => some (-1)) (fun k => by rw [if_pos (by omega)]) (Ev.now _)
  rw [List.drop_eq_nil_of_le (show b.data.toList.length ≤ i by omega)]
  exact Ev.congr (f := fun _ => some 0) (fun k => by rw [if_neg (by omega), if_neg (by omega)]) (Ev.now _)
 | succ d ih =>
  intro i hi hb
  have hia : i < a.data.toList.length := by omega
  rw [drop_cons a.data.toList i hia]
  by_cases c : i = b.size
  · rw [List.drop_eq_nil_of_le (show b.data.toList.length ≤ i by omega)]
    refine Ev.step (f := fun k => r1_texts.j1 k a b (i : Int) false) (fun k => by simp only [r1_texts.l0]; rw [if_pos (by omega), decide_eq_false (by omega)]) ?_
    refine Ev.step (f := fun _ => if (a.size : Int) < (b.size : Int) then (some (-1)) else (if (a.size : Int) > (b.size : Int) then (some 1) else (some 0))) (fun k => by simp only [r1_texts.j1]; rw [if_neg (by simp)]) ?_
    exact Ev.congr (f := fun _ => some 1) (fun k => by rw [if_neg (by omega), if_pos (by omega)]) (Ev.now _)
  have hib : i < b.data.toList.length := by omega
  rw [drop_cons b.data.toList i hib]
  refine Ev.step (f := fun k => r1_texts.j1 k a b (i : Int) true) (fun k => by simp only [r1_texts.l0]; rw [if_pos (by omega), decide_eq_true (by omega)]) ?_
  refine Ev.step (f := fun k => if ((a.data.toList[i]).toNat : Int) < ((b.data.toList[i]).toNat : Int) then some (-1) else if ((a.data.toList[i]).toNat : Int) > ((b.data.toList[i]).toNat : Int) then some 1 else r1_texts.l0 k a b ((i + 1 : Nat) : Int)) (fun k => ?_) ?_
  · simp only [r1_texts.j1]
    rw [if_pos trivial, if_pos (by omega), if_pos (by omega), if_pos (by omega), bt_get a i hia, bt_get b i hib, w64 _ (by omega) (by omega)]
    rfl
  simp only [Lib.compareBytes, UInt8.lt_iff_toNat_lt]
  by_cases c1 : (a.data.toList[i]).toNat < (b.data.toList[i]).toNat
  · rw [if_pos c1]
    exact Ev.congr (f := fun _ => some (-1)) (fun k => by rw [if_pos (by omega)]) (Ev.now _)
  rw [if_neg c1]
  by_cases c2 : (b.data.toList[i]).toNat < (a.data.toList[i]).toNat
  · rw [if_pos c2]
    exact Ev.congr (f := fun _ => some 1) (fun k => by rw [if_neg (by omega), if_pos (by omega)]) (Ev.now _)
  rw [if_neg c2]
  exact Ev.congr (f := fun k => r1_texts.l0 k a b ((i + 1 : Nat) : Int)) (fun k => by rw [if_neg (by omega), if_neg (by omega)]) (ih (i + 1) (by omega) (by omega))
theorem texts_ev (a b : ByteArray) (ha : a.size ≤ 1099511627776) : Ev (fun k => r1_texts.f k a b) (Lib.compareBytes a.data.toList b.data.toList) := by
 have h := texts_l0 a b ha a.size 0 (by omega) (by omega)
 rw [List.drop_zero, List.drop_zero] at h
 exact h
theorem valid_text {v : V} (h : validV v = true) : v.f2.size ≤ 1099511627776 := by
 rcases valid_kind h with h0 | h0 | h0 | h0
 all_goals
  unfold validV at h
  simp [h0] at h
 · rw [noText_eq h.2]; decide
 · rw [noText_eq h]; decide
 · have := h.2; omega
 rw [noText_eq h.1]; decide
theorem compare_ev (a b : V) (ha : validV a = true) (h0 : 0 ≤ a.f0 ∧ a.f0 ≤ 255) (h1 : 0 ≤ b.f0 ∧ b.f0 ≤ 255) : Ev (fun k => r1_Compare.f k a.f0 a.f1 a.f2 b.f0 b.f1 b.f2) (compareV a b) := by
 have hk : a.f0 = 0 ∨ a.f0 = 1 ∨ a.f0 = 2 ∨ a.f0 = 3 := valid_kind ha
 unfold compareV
 by_cases c : a.f0 = b.f0
 rotate_left
 · have e : ¬ cmpI a.f0 b.f0 = 0 := fun h => c (cmpI_zero h)
   rw [if_neg e]
   have w : ∀ x : Int, 0 ≤ x ∧ x ≤ 255 → wrap64 x = x := fun x hx => by unfold wrap64; omega
   exact Ev.congr (f := fun _ => some (cmpI a.f0 b.f0)) (fun k => by unfold r1_Compare.f; rw [if_neg c, ints_eq, w _ h0, w _ h1]; rfl) (Ev.now _)
 have e : cmpI a.f0 b.f0 = 0 := by unfold cmpI; rw [if_neg (by omega), if_neg (by omega)]
 rw [if_pos e]
 by_cases c0 : a.f0 = 0
 · rw [if_pos c0]
   exact Ev.congr (f := fun _ => some 0) (fun k => by unfold r1_Compare.f; rw [if_pos c, if_pos c0]) (Ev.now _)
 rw [if_neg c0]
 by_cases c2 : a.f0 = 2
 · rw [if_pos c2]
   refine Ev.congr (f := fun k => r1_Compare.j0 k a.f0 false a.f0 a.f1 a.f2 b.f0 b.f1 b.f2) (fun k => by unfold r1_Compare.f; rw [if_pos c, if_neg c0, if_neg (by omega), show (a.f0 == 3) = false by simp [c2]]) ?_
   refine Ev.step (f := fun k => (r1_texts.f k a.f2 b.f2).bind fun t => some t) (fun k => by simp only [r1_Compare.j0]; rw [if_neg (by simp), if_pos c2]) ?_
   exact Ev.bind (texts_ev _ _ (valid_text ha)) (Ev.now _)
 rw [if_neg c2]
 refine Ev.congr (f := fun k => r1_Compare.j0 k a.f0 true a.f0 a.f1 a.f2 b.f0 b.f1 b.f2) (fun k => ?_) ?_
 rotate_left
 · refine Ev.step (f := fun _ => some (cmpI a.f1 b.f1)) (fun k => by simp only [r1_Compare.j0]; rw [if_pos trivial, ints_eq]; rfl) (Ev.now _)
 unfold r1_Compare.f
 rw [if_pos c, if_neg c0]
 by_cases c1 : a.f0 = 1
 · rw [if_pos c1, show (a.f0 == 1) = true by simp [c1]]
 rw [if_neg c1, show (a.f0 == 3) = true by simp; omega]
theorem valid_f0 {v : V} (h : validV v = true) : 0 ≤ v.f0 ∧ v.f0 ≤ 255 := by
 rcases valid_kind h with h0 | h0 | h0 | h0 <;> omega
theorem rdV_mem {xs : List V} {n : Int} (h0 : 0 ≤ n) (h1 : n < (xs.length : Int)) : rd_T36 xs n ∈ xs := by
 have : n.toNat < xs.length := by omega
 have e : rd_T36 xs n = xs[n.toNat] := by simp [rd_T36, List.getElem?_eq_getElem this]
 rw [e]
 exact List.getElem_mem this
theorem compareBy_l0 (a b : List V) (ks : List KeyT) (ha : ∀ v ∈ a, validV v = true) (hb : ∀ v ∈ b, validV v = true) (hka : KeysIn ks a.length) (hkb : KeysIn ks b.length) (hn : ks.length ≤ 1099511627776) : ∀ (d i : Nat), i + d = ks.length →
 Ev (fun k => r6_CompareBy.l0 k a b ks (i : Int)) (cmpBy (ks.drop i) a b) := by
 intro d
 induction d with
 | zero =>
  intro i hi
  rw [List.drop_eq_nil_of_le (by omega)]
  refine Ev.step (f := fun _ => some 0) (fun k => ?_) (Ev.now _)
  simp only [r6_CompareBy.l0]
  rw [if_neg (by omega)]
 | succ d ih =>
  intro i hi
  have hlt : i < ks.length := by omega
  rw [drop_cons ks i hlt]
  obtain ⟨key, hkey⟩ : ∃ key, key = ks[i] := ⟨_, rfl⟩
  have h1 := hka _ (List.getElem_mem hlt)
  have h2 := hkb _ (List.getElem_mem hlt)
  rw [← hkey] at h1 h2 ⊢
  have va := ha _ (rdV_mem h1.1 h1.2)
  have vb := hb _ (rdV_mem h2.1 h2.2)
  have hc := compare_ev _ _ va (valid_f0 va) (valid_f0 vb)
  have hbd := compareV_bd (rd_T36 a key.f0) (rd_T36 b key.f0)
  refine Ev.step (f := fun k => r6_CompareBy.j1 k a b ks (i : Int) key.f0 false) (fun k => ?_) ?_
  · simp only [r6_CompareBy.l0]
    rw [if_pos (by omega), if_pos (by omega), rdK_at hlt, ← hkey, if_neg (by omega), if_neg (by omega), decide_eq_false (by omega)]
  refine Ev.step (f := fun k => (r1_Compare.f k (rd_T36 a key.f0).f0 (rd_T36 a key.f0).f1 (rd_T36 a key.f0).f2 (rd_T36 b key.f0).f0 (rd_T36 b key.f0).f1 (rd_T36 b key.f0).f2).bind fun t => if t = 0 then r6_CompareBy.j2 k a b ks (i : Int) t false else r6_CompareBy.j2 k a b ks (i : Int) t key.f1) (fun k => ?_) (Ev.bind hc ?_)
  · simp only [r6_CompareBy.j1]
    rw [if_neg (by simp), if_pos h1.1, if_pos h1.2, if_pos h2.2]
    congr 1
    funext t
    split
    · rfl
    rw [if_pos (by omega), if_pos (by omega), rdK_at hlt, ← hkey]
  simp only [cmpBy]
  by_cases c : compareV (rd_T36 a key.f0) (rd_T36 b key.f0) = 0
  · rw [if_pos c]
    refine Ev.congr (f := fun k => r6_CompareBy.j2 k a b ks (i : Int) 0 false) (fun k => by rw [c, if_pos rfl]) ?_
    refine Ev.step (fun k => ?_) (ih (i + 1) (by omega))
    simp only [r6_CompareBy.j2]
    rw [if_neg (by simp), if_pos trivial, w64 _ (by omega) (by omega)]
    rfl
  rw [if_neg c]
  obtain ⟨x, hx⟩ : ∃ x, x = compareV (rd_T36 a key.f0) (rd_T36 b key.f0) := ⟨_, rfl⟩
  rw [← hx] at c hbd ⊢
  refine Ev.congr (f := fun k => r6_CompareBy.j2 k a b ks (i : Int) x key.f1) (fun k => by rw [if_neg c]) ?_
  by_cases c1 : key.f1 = true
  · rw [if_pos c1]
    refine Ev.step (f := fun _ => some (-x)) (fun k => ?_) (Ev.now _)
    simp only [r6_CompareBy.j2]
    rw [if_pos c1]
    congr 1
    unfold wrap64
    omega
  rw [if_neg c1]
  refine Ev.step (f := fun _ => some x) (fun k => ?_) (Ev.now _)
  simp only [r6_CompareBy.j2]
  rw [if_neg c1, if_neg c]
theorem compareBy_ev (a b : List V) (ks : List KeyT) (ha : RowGood ks a) (hb : RowGood ks b) (hn : ks.length ≤ 1099511627776) : Ev (fun k => r6_CompareBy.f k a b ks) (cmpBy ks a b) :=
 compareBy_l0 a b ks ha.valid hb.valid ha.keys hb.keys hn ks.length 0 (by omega)
theorem compareRows_l0 (a b : List V) (ha : ∀ v ∈ a, validV v = true) (hb : ∀ v ∈ b, validV v = true) (hn : a.length ≤ 1099511627776) : ∀ (d i : Nat), i + d = a.length → i ≤ b.length →
 Ev (fun k => r1_CompareRows.l0 k a b (i : Int)) (cmpRows (a.drop i) (b.drop i)) := by
 intro d
 induction d with
 | zero =>
  intro i hi hb'
  rw [List.drop_eq_nil_of_le (show a.length ≤ i by omega)]
  refine Ev.step (f := fun k => r1_CompareRows.j1 k a b (i : Int) false) (fun k => by simp only [r1_CompareRows.l0]; rw [if_neg (by omega)]) ?_
  refine Ev.step (f := fun _ => some (cmpI (a.length : Int) (b.length : Int))) (fun k => by simp only [r1_CompareRows.j1]; rw [if_neg (by simp), ints_eq]; rfl) ?_
  have e : cmpI (a.length : Int) (b.length : Int) = cmpRows [] (b.drop i) := by
   rw [cmpRows_nil, List.length_drop]
   unfold cmpI
   by_cases c : i = b.length
   · rw [if_neg (by omega), if_neg (by omega), if_pos (by omega)]
   rw [if_pos (by omega), if_neg (by omega)]
  rw [e]
  exact Ev.now _
 | succ d ih =>
  intro i hi hb'
  have hia : i < a.length := by omega
  rw [drop_cons a i hia]
  by_cases c : i = b.length
  · rw [List.drop_eq_nil_of_le (show b.length ≤ i by omega)]
    refine Ev.step (f := fun k => r1_CompareRows.j1 k a b (i : Int) false) (fun k => by simp only [r1_CompareRows.l0]; rw [if_pos (by omega), decide_eq_false (by omega)]) ?_
    refine Ev.step (f := fun _ => some (cmpI (a.length : Int) (b.length : Int))) (fun k => by simp only [r1_CompareRows.j1]; rw [if_neg (by simp), ints_eq]; rfl) ?_
    have e : cmpI (a.length : Int) (b.length : Int) = cmpRows (a[i] :: a.drop (i + 1)) [] := by
     simp only [cmpRows]
     unfold cmpI
     rw [if_neg (by omega), if_pos (by omega)]
    rw [e]
    exact Ev.now _
  have hib : i < b.length := by omega
  rw [drop_cons b i hib]
  have va := ha _ (List.getElem_mem hia)
  have vb := hb _ (List.getElem_mem hib)
  have hc := compare_ev _ _ va (valid_f0 va) (valid_f0 vb)
  refine Ev.step (f := fun k => r1_CompareRows.j1 k a b (i : Int) true) (fun k => by simp only [r1_CompareRows.l0]; rw [if_pos (by omega), decide_eq_true (by omega)]) ?_
  refine Ev.step (f := fun k => (r1_Compare.f k (a[i]).f0 (a[i]).f1 (a[i]).f2 (b[i]).f0 (b[i]).f1 (b[i]).f2).bind fun t => if t = 0 then r1_CompareRows.l0 k a b ((i + 1 : Nat) : Int) else some t) (fun k => ?_) (Ev.bind hc ?_)
  · simp only [r1_CompareRows.j1]
    rw [if_pos trivial, if_pos (by omega), if_pos (by omega), if_pos (by omega), rdV_at hia, rdV_at hib, w64 _ (by omega) (by omega)]
    rfl
  simp only [cmpRows]
  by_cases c0 : compareV a[i] b[i] = 0
  · rw [if_pos c0]
    exact Ev.congr (fun k => by rw [if_pos c0]) (ih (i + 1) (by omega) (by omega))
  rw [if_neg c0]
  exact Ev.congr (f := fun _ => some (compareV a[i] b[i])) (fun k => by rw [if_neg c0]) (Ev.now _)
theorem compareRows_ev (a b : List V) (ha : ∀ v ∈ a, validV v = true) (hb : ∀ v ∈ b, validV v = true) (hn : a.length ≤ 1099511627776) : Ev (fun k => r1_CompareRows.f k a b) (cmpRows a b) :=
 compareRows_l0 a b ha hb hn a.length 0 (by omega) (by omega)
theorem before_ev (a b : List V) (ks : List KeyT) (ha : RowGood ks a) (hb : RowGood ks b) (hn : ks.length ≤ 1099511627776) : Ev (fun k => r6_before.f k a b ks) (decide (cmpFull ks a b < 0)) := by
 unfold r6_before.f cmpFull
 refine Ev.bind (compareBy_ev a b ks ha hb hn) ?_
 by_cases c : cmpBy ks a b = 0
 · rw [if_pos c]
   exact Ev.congr (fun k => by rw [if_pos c]) (Ev.bind (compareRows_ev a b ha.valid hb.valid ha.len) (Ev.now _))
 rw [if_neg c]
 exact Ev.congr (f := fun _ => some (decide (cmpBy ks a b < 0))) (fun k => by rw [if_neg c]) (Ev.now _)
def leF (ks : List KeyT) (a b : List V) : Bool := decide (cmpFull ks a b ≤ 0)
theorem leF_trans (ks : List KeyT) (a b c : List V) (h1 : leF ks a b = true) (h2 : leF ks b c = true) : leF ks a c = true :=
 decide_eq_true ((cmpFull_ord ks).trans a b c (of_decide_eq_true h1) (of_decide_eq_true h2))
theorem leF_total (ks : List KeyT) (a b : List V) : (leF ks a b || leF ks b a) = true := by
 have := (cmpFull_ord ks).flip a b
 unfold leF
 simp only [Bool.or_eq_true, decide_eq_true_eq]
 omega
theorem merge_l0 (a b : List (List V)) (ks : List KeyT) (ha : ∀ r ∈ a, RowGood ks r) (hb : ∀ r ∈ b, RowGood ks r) (hk : ks.length ≤ 1099511627776) (hn : a.length + b.length ≤ 1099511627776) : ∀ (d i j : Nat) (xs : List (List V)), i + j + d = a.length + b.length → i ≤ a.length → j ≤ b.length → xs.length = i + j →
 Ev (fun k => r6_merge.l0 k a b ks xs (i : Int) (j : Int)) (xs ++ List.merge (a.drop i) (b.drop j) (leF ks)) := by
 intro d
 induction d with
 | zero =>
  intro i j xs hd hi hj hx
  rw [List.drop_eq_nil_of_le (by omega), List.drop_eq_nil_of_le (by omega), List.nil_merge, List.append_nil]
  refine Ev.step (f := fun k => r6_merge.j1 k a b ks xs (i : Int) (j : Int) false) (fun k => by simp only [r6_merge.l0]; rw [if_neg (by omega), decide_eq_false (by omega)]) ?_
  exact Ev.step (f := fun _ => some xs) (fun k => by simp only [r6_merge.j1]; rw [if_neg (by simp)]) (Ev.now _)
 | succ d ih =>
  intro i j xs hd hi hj hx
  have takeA : ∀ (hia : i < a.length), Ev (fun k => r6_merge.l0 k a b ks (xs ++ [a[i]]) ((i + 1 : Nat) : Int) (j : Int)) ((xs ++ [a[i]]) ++ List.merge (a.drop (i + 1)) (b.drop j) (leF ks)) := fun hia => ih (i + 1) j _ (by omega) (by omega) hj a82_
  have takeB : ∀ (hjb : j < b.length), Ev (fun k => r6_merge.l0 k a b ks (xs ++ [b[j]]) (i : Int) ((j + 1 : Nat) : Int)) ((xs ++ [b[j]]) ++ List.merge (a.drop i) (b.drop (j + 1)) (leF ks)) := fun hjb => ih i (j + 1) _ (by omega) hi (by omega) a82_
  have enter : ∀ r, Ev (fun k => r6_merge.j1 k a b ks xs (i : Int) (j : Int) true) r → Ev (fun k => r6_merge.l0 k a b ks xs (i : Int) (j : Int)) r := fun r h => by
   refine Ev.step (fun k => ?_) h
   simp only [r6_merge.l0]
   by_cases c : i < a.length
   · rw [if_pos (by omega)]
   rw [if_neg (by omega), decide_eq_true (by omega)]
  refine enter _ ?_
  by_cases cj : j < b.length
  rotate_left
  · have ci : i < a.length := by omega
    refine Ev.step (f := fun k => r6_merge.l0 k a b ks (xs ++ [a[i]]) ((i + 1 : Nat) : Int) (j : Int)) (fun k => ?_) ?_
    · simp only [r6_merge.j1]
      rw [if_pos trivial, if_pos (by omega), if_pos (by omega), if_pos (by omega), if_pos (by omega), rdL_at ci, w64 _ (by omega) (by omega)]
      rfl
    have h := takeA ci
    rw [List.drop_eq_nil_of_le (show b.length ≤ j by omega), List.merge_right] at h ⊢
    rw [drop_cons a i ci]
    simpa using h
  by_cases ci : i < a.length
  rotate_left
  · refine Ev.step (f := fun k => r6_merge.l0 k a b ks (xs ++ [b[j]]) (i : Int) ((j + 1 : Nat) : Int)) (fun k => ?_) ?_
    rotate_left
    · have h := takeB cj
      rw [List.drop_eq_nil_of_le (show a.length ≤ i by omega), List.nil_merge] at h ⊢
      rw [drop_cons b j cj]
      simpa using h
    simp only [r6_merge.j1]
    rw [if_pos trivial, if_neg (by omega), if_neg (by omega), if_pos (by omega), if_pos (by omega), if_pos (by omega), rdL_at cj, w64 _ (by omega) (by omega)]
    rfl
  have hc := before_ev b[j] a[i] ks (hb _ (List.getElem_mem cj)) (ha _ (List.getElem_mem ci)) hk
  refine Ev.step (f := fun k => (r6_before.f k b[j] a[i] ks).bind fun t => if t = true then r6_merge.l0 k a b ks (xs ++ [b[j]]) (i : Int) ((j + 1 : Nat) : Int) else r6_merge.l0 k a b ks (xs ++ [a[i]]) ((i + 1 : Nat) : Int) (j : Int)) (fun k => ?_) (Ev.bind hc ?_)
  · simp only [r6_merge.j1]
    rw [if_pos trivial, if_neg (by omega), if_pos (by omega), if_pos (by omega), if_pos (by omega), if_pos (by omega), rdL_at ci, rdL_at cj, w64 _ (by omega) (by omega), w64 _ (by omega) (by omega)]
    congr 1
    funext t
    by_cases ht : t = true
    · rw [if_pos ht, if_pos ht, if_pos (by omega)]; rfl
    rw [if_neg ht, if_neg ht, if_pos (by omega)]; rfl
  have hfl := (cmpFull_ord ks).flip b[j] a[i]
  rw [drop_cons a i ci, drop_cons b j cj, List.cons_merge_cons]
  by_cases c : cmpFull ks b[j] a[i] < 0
  · rw [if_neg (by unfold leF; simp; omega)]
    refine Ev.congr (fun k => if_pos (decide_eq_true c)) ?_
    have h := takeB cj
    rw [drop_cons a i ci] at h
    simpa using h
  rw [if_pos (by unfold leF; simp; omega)]
  refine Ev.congr (fun k => if_neg (by simpa using c)) ?_
  have h := takeA ci
  rw [drop_cons b j cj] at h
  simpa using h
theorem merge_ev (a b : List (List V)) (ks : List KeyT) (ha : ∀ r ∈ a, RowGood ks r) (hb : ∀ r ∈ b, RowGood ks r) (hk : ks.length ≤ 1099511627776) (hn : a.length + b.length ≤ 1099511627776) : Ev (fun k => r6_merge.f k a b ks) (List.merge a b (leF ks)) :=
 merge_l0 a b ks ha hb hk hn (a.length + b.length) 0 0 [] (by omega) (by omega) (by omega) rfl
theorem copyOf_l0 (l : List V) (hn : l.length ≤ 1099511627776) : ∀ (d i : Nat), i + d = l.length → Ev (fun k => r6_copyOf.l0 k l (l.take i) (i : Int)) l := by
 intro d
 induction d with
 | zero =>
  intro i hi
  rw [List.take_of_length_le (by omega)]
  refine Ev.step (f := fun _ => some l) (fun k => ?_) (Ev.now _)
  simp only [r6_copyOf.l0]
  rw [if_neg (by omega)]
 | succ d ih =>
  intro i hi
  have hlt : i < l.length := by omega
  refine Ev.step (fun k => ?_) (ih (i + 1) (by omega))
  simp only [r6_copyOf.l0]
  rw [if_pos (by omega), if_pos (by omega), if_pos (by rw [List.length_take]; omega), rdV_at hlt, w64 _ (by omega) (by omega), take_snoc l i hlt]
  rfl
theorem copyOf_ev (l : List V) (hn : l.length ≤ 1099511627776) : Ev (fun k => r6_copyOf.f k l) l := by
 have h := copyOf_l0 l hn l.length 0 (by omega)
 rw [List.take_zero] at h
 exact h
def pairR (ks : List KeyT) : List (List (List V)) → List (List (List V))
 | [] => []
 | [x] => [x]
 | x :: y :: r => List.merge x y (leF ks) :: pairR ks r
theorem pairR_perm (ks : List KeyT) : ∀ ls : List (List (List V)), (pairR ks ls).flatten.Perm ls.flatten
 | [] => List.Perm.refl _
 | [x] => List.Perm.refl _
 | x :: y :: r => by
  simp only [pairR, List.flatten_cons]
  rw [← List.append_assoc]
  exact (List.merge_perm_append (leF ks)).append (pairR_perm ks r)
theorem pairR_len (ks : List KeyT) : ∀ ls : List (List (List V)), (pairR ks ls).length = (ls.length + 1) / 2
 | [] => by simp [pairR]
 | [x] => by simp [pairR]
 | x :: y :: r => by
  simp only [pairR, List.length_cons, pairR_len ks r]
  omega
theorem pairR_sorted (ks : List KeyT) : ∀ ls : List (List (List V)), (∀ x ∈ ls, x.Pairwise (fun a b => leF ks a b = true)) → ∀ x ∈ pairR ks ls, x.Pairwise (fun a b => leF ks a b = true)
 | [], _ => by simp [pairR]
 | [x], h => h
 | x :: y :: r, h => by
  intro z hz
  simp only [pairR] at hz
  rcases List.mem_cons.1 hz with rfl | hz
  · exact List.pairwise_merge (leF_trans ks) (leF_total ks) x y (h x (by simp)) (h y (by simp))
  exact pairR_sorted ks r (fun u hu => h u (by simp [hu])) z hz
theorem w64_2 (x : Int) (h0 : 0 ≤ x) (h1 : x ≤ 1099511627776) : wrap64 (x + 2) = x + 2 := by unfold wrap64; omega
theorem rdL7_at {xs : List (List (List V))} {i : Nat} (h : i < xs.length) : rd_L7 xs (i : Int) = xs[i] := by simp [rd_L7, List.getElem?_eq_getElem h]
theorem len_flat {ls : List (List (List V))} {i : Nat} (h : i < ls.length) : (ls.drop i).flatten.length = (ls[i]).length + (ls.drop (i + 1)).flatten.length := by
 rw [drop_cons ls i h, List.flatten_cons, List.length_append]
theorem full_l2 (ks : List KeyT) (ls : List (List (List V))) (hG : ∀ x ∈ ls, ∀ r ∈ x, RowGood ks r) (hk : ks.length ≤ 1099511627776) (hn : ls.length ≤ 1099511627776) (out : List (List V)) :
 ∀ (n i : Nat) (xs : List (List (List V))), ls.length - i ≤ n → xs.length ≤ i → i ≤ ls.length + 1 → (ls.drop i).flatten.length ≤ 1099511627776 → Ev (fun k => r6_full.l1 k ks (xs ++ pairR ks (ls.drop i))) out → Ev (fun k => r6_full.l2 k ks ls xs (i : Int)) out := by
 have fin : ∀ (i : Nat) (xs : List (List (List V))), ls.length ≤ i → Ev (fun k => r6_full.l1 k ks (xs ++ pairR ks (ls.drop i))) out → Ev (fun k => r6_full.l2 k ks ls xs (i : Int)) out := fun i xs hi h => by
  rw [List.drop_eq_nil_of_le hi, pairR, List.append_nil] at h
  refine Ev.step (fun k => ?_) h
  simp only [r6_full.l2]
  rw [if_neg (by omega)]
 intro n
 induction n with
 | zero => exact fun i xs hi _ _ _ h => fin i xs (by omega) h
 | succ n ih =>
  intro i xs hi hx hil hf h
  by_cases c : ls.length ≤ i
  · exact fin i xs c h
  have hlt : i < ls.length := by omega
  have hf1 := len_flat hlt
  by_cases c1 : i + 1 < ls.length
  rotate_left
  · have h2 : ls.drop (i + 1) = [] := List.drop_eq_nil_of_le (by omega)
    rw [drop_cons ls i hlt, h2, pairR] at h
    have e : (((i : Nat) : Int) + 2) = ((i + 2 : Nat) : Int) := by omega
    refine Ev.step (f := fun k => r6_full.l2 k ks ls (xs ++ [ls[i]]) ((i + 2 : Nat) : Int)) (fun k => ?_) (ih (i + 2) (xs ++ [ls[i]]) (by omega) a82_ (by omega) (by rw [List.drop_eq_nil_of_le (show ls.length ≤ i + 2 by omega)]; exact Nat.zero_le _) ?_)
    rotate_left
    · rw [List.drop_eq_nil_of_le (show ls.length ≤ i + 2 by omega), pairR, List.append_nil]
      exact h
    simp only [r6_full.l2]
    rw [w64 _ (by omega) (by omega), w64_2 _ (by omega) (by omega), if_pos (by omega), if_neg (by omega), if_pos (by omega), if_pos (by omega), e, rdL7_at hlt]
  have hf2 := len_flat c1
  rw [drop_cons ls i hlt, drop_cons ls (i + 1) c1, pairR] at h
  have e : (((i : Nat) : Int) + 2) = ((i + 2 : Nat) : Int) := by omega
  have e1 : (((i : Nat) : Int) + 1) = ((i + 1 : Nat) : Int) := by omega
  refine Ev.step (f := fun k => (r6_merge.f k ls[i] ls[i + 1] ks).bind fun t => r6_full.l2 k ks ls (xs ++ [t]) ((i + 2 : Nat) : Int)) (fun k => ?_) (Ev.bind (merge_ev ls[i] ls[i + 1] ks (hG _ (List.getElem_mem hlt)) (hG _ (List.getElem_mem c1)) hk (by omega)) ?_)
  rotate_left
  · refine ih (i + 2) _ (by omega) a82_ (by omega) (by show (ls.drop (i + 1 + 1)).flatten.length ≤ _; omega) ?_
    simpa using h
  simp only [r6_full.l2]
  rw [w64 _ (by omega) (by omega), w64_2 _ (by omega) (by omega), if_pos (by omega), if_pos (by omega), if_pos (by omega), if_pos (by omega), e, e1, rdL7_at hlt, rdL7_at c1]
  congr 1
  funext t
  rw [if_pos (by omega)]
theorem full_l1 (ks : List KeyT) (hk : ks.length ≤ 1099511627776) : ∀ (n : Nat) (ls : List (List (List V))), ls.length ≤ n → (∀ x ∈ ls, ∀ r ∈ x, RowGood ks r) → (∀ x ∈ ls, x.Pairwise (fun a b => leF ks a b = true)) → ls.length ≤ 1099511627776 → ls.flatten.length ≤ 1099511627776 →
 Ev (fun k => r6_full.l1 k ks ls) (sortR ks ls.flatten) := by
 intro n
 induction n with
 | zero =>
  intro ls hl hG hS hn hf
  obtain rfl : ls = [] := List.eq_nil_of_length_eq_zero (by omega)
  refine Ev.step (f := fun _ => some ([] : List (List V))) (fun k => ?_) ?_
  · simp only [r6_full.l1]
    rw [if_neg (by simp), if_pos (by simp)]
  have e : sortR ks ([] : List (List (List V))).flatten = [] := by simp [sortR]
  rw [e]
  exact Ev.now _
 | succ n ih =>
  intro ls hl hG hS hn hf
  by_cases c : 1 < ls.length
  · have hp := pairR_perm ks ls
    have hlen := pairR_len ks ls
    have hGp : ∀ x ∈ pairR ks ls, ∀ r ∈ x, RowGood ks r := fun x hx r hr => by
     have : r ∈ ls.flatten := hp.mem_iff.1 (List.mem_flatten.2 ⟨x, hx, hr⟩)
     obtain ⟨y, hy, hry⟩ := List.mem_flatten.1 this
     exact hG y hy r hry
    have h := ih (pairR ks ls) (by omega) hGp (pairR_sorted ks ls hS) (by omega) (by rw [hp.length_eq]; exact hf)
    have hv : ∀ row ∈ ls.flatten, ∀ v ∈ row, validV v = true := fun row hrow => by
     obtain ⟨y, hy, hry⟩ := List.mem_flatten.1 hrow
     exact (hG y hy row hry).valid
    rw [sortR_congr hv hp.symm] at h
    refine Ev.step (f := fun k => r6_full.l2 k ks ls ([] : List (List (List V))) ((0 : Nat) : Int)) (fun k => ?_) (full_l2 ks ls hG hk hn _ ls.length 0 [] (by omega) (by simp) (by omega) (by rw [List.drop_zero]; exact hf) (by rw [List.drop_zero, List.nil_append]; exact h))
    simp only [r6_full.l1]
    rw [if_pos (by omega)]
    rfl
  by_cases c0 : ls.length = 0
  · obtain rfl : ls = [] := List.eq_nil_of_length_eq_zero c0
    refine Ev.step (f := fun _ => some ([] : List (List V))) (fun k => ?_) ?_
    · simp only [r6_full.l1]
      rw [if_neg (by simp), if_pos (by simp)]
    have e : sortR ks ([] : List (List (List V))).flatten = [] := by simp [sortR]
    rw [e]
    exact Ev.now _
  obtain ⟨x, rfl⟩ := List.length_eq_one_iff.1 (show ls.length = 1 by omega)
  refine Ev.step (f := fun _ => some x) (fun k => ?_) ?_
  · simp only [r6_full.l1]
    rw [if_neg (by simp), if_neg (by simp), if_pos (by simp)]
    rfl
  have e : sortR ks [x].flatten = x := by
   have : [x].flatten = x := by simp
   rw [this]
   exact (sortR_unique (fun row hrow => (hG x (by simp) row hrow).valid) (List.Perm.refl _) ((hS x (by simp)).imp (fun h => of_decide_eq_true h))).symm
  rw [e]
  exact Ev.now _
theorem full_l0 (l : List (List V)) (ks : List KeyT) (hr : ∀ r ∈ l, r.length ≤ 1099511627776) (hn : l.length ≤ 1099511627776) (out : List (List V)) (h : Ev (fun k => r6_full.l1 k ks (l.map (fun r => [r]))) out) : ∀ (d i : Nat), i + d = l.length →
 Ev (fun k => r6_full.l0 k l ks ((l.take i).map (fun r => [r])) (i : Int)) out := by
 intro d
 induction d with
 | zero =>
  intro i hi
  rw [List.take_of_length_le (by omega)]
  refine Ev.step (fun k => ?_) h
  simp only [r6_full.l0]
  rw [if_neg (by omega)]
 | succ d ih =>
  intro i hi
  have hlt : i < l.length := by omega
  refine Ev.step (f := fun k => (r6_copyOf.f k l[i]).bind fun t => r6_full.l0 k l ks ((l.take i).map (fun r => [r]) ++ [[t]]) ((i + 1 : Nat) : Int)) (fun k => ?_) (Ev.bind (copyOf_ev l[i] (hr _ (List.getElem_mem hlt))) ?_)
  · simp only [r6_full.l0]
    rw [if_pos (by omega), if_pos (by omega), rdL_at hlt, w64 _ (by omega) (by omega)]
    congr 1
    funext t
    rw [if_pos (by rw [List.length_map, List.length_take]; omega)]
    rfl
  have e : (l.take i).map (fun r => [r]) ++ [[l[i]]] = (l.take (i + 1)).map (fun r => [r]) := by rw [take_snoc l i hlt, List.map_append]; rfl
  simp only [e]
  exact ih (i + 1) (by omega)
theorem flat_single (l : List (List V)) : (l.map (fun r => [r])).flatten = l := by
 induction l with
 | nil => rfl
 | cons r l ih => simp [ih]
theorem full_ev (l : List (List V)) (ks : List KeyT) (hG : ∀ row ∈ l, RowGood ks row) (hn : l.length ≤ 1099511627776) (hk : ks.length ≤ 1099511627776) : Ev (fun k => r6_full.f k l ks) (sortR ks l) := by
 have h := full_l1 ks hk l.length (l.map (fun r => [r])) (by simp) (fun x hx r hr => by
  obtain ⟨y, hy, rfl⟩ := List.mem_map.1 hx
  obtain rfl : r = y := by simpa using hr
  exact hG r hy) (fun x hx => by
  obtain ⟨y, hy, rfl⟩ := List.mem_map.1 hx
  simp) (by simpa using hn) (by rw [flat_single]; exact hn)
 rw [flat_single] at h
 exact full_l0 l ks (fun r hr => (hG r hr).len) hn _ h l.length 0 (by omega)
theorem column_eq (l : List (List V)) (n : Int) : r6_Column.f l n = some (hasB l n) := by
 unfold r6_Column.f hasB
 by_cases c0 : n < 0
 · rw [if_pos c0]
   cases l <;> simp <;> omega
 rw [if_neg c0]
 by_cases c1 : n ≥ 64
 · rw [if_pos c1]
   cases l <;> simp <;> omega
 rw [if_neg c1]
 cases l with
 | nil => simp; omega
 | cons r rs =>
  rw [if_neg (by simp only [List.length_cons]; omega), if_pos (by simp only [List.length_cons]; omega)]
  have e : rd_L4 (r :: rs) 0 = r := rfl
  rw [e]
  congr 1
  rw [decide_eq_decide]
  omega
theorem rowGood_nil {row : List V} (hv : ∀ v ∈ row, validV v = true) (hl : row.length ≤ 1099511627776) : RowGood [] row := ⟨hv, fun k hk => by simp at hk, hl⟩
section
attribute [local go_sem] max2_int min2_int max_two min_two max_three min_three max_four min_four
def r1_Int.f (a0 : Int) : Option (Int × Int × ByteArray) := some (1, a0, (⟨#[]⟩ : ByteArray))
theorem r1_Int.calls (a0 : Int) (r1 : Int) (r2 : Int) (r3 : ByteArray) (w : World) (h : r1_Int.f a0 = some (r1, r2, r3)) :
 Calls Tryz.prog 43 #[.int .i64 a0] w fun e w' => e = .returned (.agg #[.int .u8 r1, .int .i64 r2, .string r3]) ∧ Below w.heap.size w w' := by
 have hu36 := Tryz.underlying36
 have HB := kA_ (Below.refl w.heap.size w)
 have H : (some (1, a0, (⟨#[]⟩ : ByteArray))) = some (r1, r2, r3) := h
 clear h
 simp only [Option.some.injEq, Prod.mk.injEq] at H
 obtain ⟨rfl, rfl, rfl⟩ := H
 go_enter Tryz.func43, Tryz.ntmps43
 go_wp2_with (first | ((with_reducible refine gate_dst (N := 2) rfl ?_); refine box_event ?hg (N := 2) ?hd (cs := #[.int .u8 0, .int .i64 0, .string (⟨#[]⟩ : ByteArray)]) (t := 36) ?hr ?_; (case hd => rfl); (case hg => rfl); (case hr => first | (go_simp; done) | (go_simp; rfl)); intro gb124 hg w2 hbox hb; have n0_ := kA_ (below_step a0_ hb); have n1_ := kA_ (hbox); have n2_ := kA_ ((a7_ : w.heap.size ≤ gb124)); have n3_ := kA_ ((a7_ : w.heap.size ≤ gb124)); clear HB; have HB := n0_; have BK124 := n1_; have GW124 := n2_; have GE124 := n3_; clear n0_ n1_ n2_ n3_; clear hb hbox hg; have hcz3_0 : w2.cell? ⟨gb124, 0, none⟩ = some (.int .u8 0) := (blk_cell BK124.out 0).trans rfl; have hcz3_1 : w2.cell? ⟨gb124, 1, none⟩ = some (.int .i64 0) := (blk_cell BK124.out 1).trans rfl; have hcz3_2 : w2.cell? ⟨gb124, 2, none⟩ = some (.string (⟨#[]⟩ : ByteArray)) := (blk_cell BK124.out 2).trans rfl; have hfz3_0 := blk_frozen BK124.out 0; have hfz3_1 := blk_frozen BK124.out 1; have hfz3_2 := blk_frozen BK124.out 2))
 refine bodyPost_ret (results_cell_row rfl _ _ gb124 36 #[.int .u8 1, .int .i64 a0, .string (⟨#[]⟩ : ByteArray)] (0, 0) _ rfl (by (with_reducible repeat (first | refine blk_drewN ?_ _ | refine blk_drew ?_ | refine blk_alloc ?_ _)); refine blk_put (cs := #[.int .u8 1, .int .i64 a0, .string (⟨#[]⟩ : ByteArray)]) ?_ 2 _ rfl; (with_reducible repeat (first | refine blk_drewN ?_ _ | refine blk_drew ?_ | refine blk_alloc ?_ _)); refine blk_put (cs := #[.int .u8 1, .int .i64 0, .string (⟨#[]⟩ : ByteArray)]) ?_ 1 _ rfl; (with_reducible repeat (first | refine blk_drewN ?_ _ | refine blk_drew ?_ | refine blk_alloc ?_ _)); refine blk_put (cs := #[.int .u8 0, .int .i64 0, .string (⟨#[]⟩ : ByteArray)]) ?_ 0 _ rfl; (with_reducible repeat (first | refine blk_drewN ?_ _ | refine blk_drew ?_ | refine blk_alloc ?_ _)); exact BK124.out) Tryz.underlying36 rfl a3_) rfl ?_
 exact ⟨a5_, by repeat (first | (with_reducible first | exact HB.out | apply bA_ | apply bN_ | apply b1_ | refine below_set ?_ GE124.out) | exact HB.out)⟩
mutual
def r6_aggregable.j0 : Nat → Int → List (S36) → Bool → Option (Bool)
 | 0, _, _, _ => none
 | k + 1, x0, x2, x17 => if x17 = true then (some false) else (r6_aggregable.l0 k x0 x2 0 0)
def r6_aggregable.l0 : Nat → Int → List (S36) → Int → Int → Option (Bool)
 | 0, _, _, _, _ => none
 | k + 1, x0, x2, x7, x8 => if x8 < (x2.length : Int) then (if 0 ≤ x8 then ((r1_Valid.f ((rd_T36 x2 x8).f0) ((rd_T36 x2 x8).f1) ((rd_T36 x2 x8).f2)).bind fun t264 => (if t264 = true then ((r6_fits.f ((rd_T36 x2 x8).f0) ((rd_T36 x2 x8).f1) ((rd_T36 x2 x8).f2) x7).bind fun t266 => (r6_aggregable.j2 k x0 x2 x7 x8 (!t266))) else (r6_aggregable.j2 k x0 x2 x7 x8 true))) else (none)) else (if x7 = 0 then (some true) else (if x7 = 1 then (some true) else (if x0 = 2 then (some false) else (some (x0 != 5)))))
def r6_aggregable.j2 : Nat → Int → List (S36) → Int → Int → Bool → Option (Bool)
 | 0, _, _, _, _, _ => none
 | k + 1, x0, x2, x7, x8, x38 => if x38 = true then (some false) else (if 0 ≤ x8 then (if x8 < (x2.length : Int) then (if ((rd_T36 x2 x8).f0) = 0 then (r6_aggregable.l0 k x0 x2 x7 (wrap64 (x8 + 1))) else (r6_aggregable.l0 k x0 x2 ((rd_T36 x2 x8).f0) (wrap64 (x8 + 1)))) else (none)) else (none))
end
def r6_aggregable.f (k : Nat) (a0 : Int) (a1 : Bool) (l2 : List (S36)) : Option (Bool) := if a0 > 5 then (r6_aggregable.j0 k a0 l2 true) else (if a0 = 0 then (r6_aggregable.j0 k a0 l2 a1) else (r6_aggregable.j0 k a0 l2 false))
theorem r6_aggregable.calls (k : Nat) (a0 : Int) (a1 : Bool) (A2 : Option Addr) (c2 : Nat) (l2 : List (S36)) (r : Bool) (w : World) (hr2 : Kd.C k36 w A2 l2.length l2) (hc2 : l2.length ≤ c2) (h : r6_aggregable.f k a0 a1 l2 = some r) :
 Calls Tryz.prog 51 #[.int .u8 a0, .bool a1, .slice A2 l2.length c2] w fun e w' => e = .returned (.bool r) ∧ Below w.heap.size w w' := by
 have hu36 := Tryz.underlying36
 have HR2 := kA_ hr2
 have HC2 := kA_ hc2
 clear hr2 hc2
 have HB := kA_ (Below.refl w.heap.size w)
 have H : (if a0 > 5 then (r6_aggregable.j0 k a0 l2 true) else (if a0 = 0 then (r6_aggregable.j0 k a0 l2 a1) else (r6_aggregable.j0 k a0 l2 false))) = some r := h
 clear h
 have HC4 := kA_ H
 clear H
 go_enter Tryz.func51, Tryz.ntmps51
 go_upto_region 1 with (fail)
 go_cut [17] (fun v17 wc => ∃ (kq : Nat) (x17_3 : Bool), v17 = .bool x17_3 ∧ Aside0 (r6_aggregable.j0 kq a0 l2 x17_3 = some r) ∧ Aside0 (kq ≤ k) ∧ Aside0 (Below w.heap.size w wc))
 case first =>
  have H := HC4.out
  clear HC4
  by_cases c5 : a0 > 5
  · rw [if_pos c5] at H
    have c5b0 : decide (5 < a0) = true := dT_ c5
    clear c5
    (first | rw [c5b0] | (simp only [iL, iW]; rw [c5b0]) | skip)
    have H' := kA_ H
    clear H
    go_wp2
    go_meet
    case rel => exact ⟨_, (true), a4_, H', ⟨by first | omega | exact Nat.le_refl _⟩, ⟨a2_⟩⟩
  rw [if_neg c5] at H
  have c5b0 : decide (5 < a0) = false := dF_ c5
  clear c5
  (first | rw [c5b0] | (simp only [iL, iW]; rw [c5b0]) | skip)
  by_cases c6 : a0 = 0
  · rw [if_pos c6] at H
    have c6b0 : (a0 == 0) = true := beq_iff_eq.mpr c6
    have c6b1 : (a0 != 0) = false := bne_eq_false_iff_eq.mpr c6
    clear c6
    have H' := kA_ H
    clear H
    go_wp2
    go_meet
    case rel => exact ⟨_, (a1), a4_, H', ⟨by first | omega | exact Nat.le_refl _⟩, ⟨a2_⟩⟩
  rw [if_neg c6] at H
  have c6b0 : (a0 == 0) = false := beq_eq_false_iff_ne.mpr c6
  have c6b1 : (a0 != 0) = true := bne_iff_ne.mpr c6
  have H' := kA_ H
  clear H
  go_wp2
  go_meet
  case rel => exact ⟨_, (false), a4_, H', ⟨by first | omega | exact Nat.le_refl _⟩, ⟨a2_⟩⟩
 case rest =>
  clear HC4
  try clear c2
  try clear p2
  try clear c5
  try clear c5b0
  try clear c6
  try clear c6b0
  try clear c6b1
  obtain ⟨kq, x17_3, rfl, HA, HJ3, HB⟩ := hcut
  cases kq with
  | zero => exact absurd HA.out (by simp [r6_aggregable.j0])
  | succ kj3 =>
   have H := HA.out
   clear HA
   simp only [r6_aggregable.j0] at H
   by_cases c7 : x17_3 = true
   · subst c7
     have H1 : (some false) = some r := by rw [if_pos rfl] at H; exact H
     clear H
     have H := H1
     clear H1
     obtain rfl := Option.some.inj H
     go_wp2
     go_ret
     exact ⟨a5_, a2_⟩
   replace c7 := Bool.eq_false_iff.mpr c7
   subst c7
   have H1 : (r6_aggregable.l0 kj3 a0 l2 0 0) = some r := by rw [if_neg (show ¬ (false = true) by decide)] at H; exact H
   clear H
   have H := H1
   clear H1
   have H' := kA_ H
   clear H
   go_wp2
   go_loopg [7, 8] kj3 (fun kq v7 v8 w' => ∃ (x7_2 : Int) (x8_2 : Int), v7 = .int .u8 x7_2 ∧ v8 = .int .i64 x8_2 ∧ Aside0 (r6_aggregable.l0 kq a0 l2 x7_2 x8_2 = some r) ∧ Aside0 (kq ≤ kj3) ∧ Aside0 (Below w.heap.size w w'))
   case atStart => exact ⟨(0), (0), a4_, a4_, H', ⟨Nat.le_refl _⟩, ⟨a2_⟩⟩
   case round =>
    clear H'
    try clear c2
    try clear p2
    try clear c5
    try clear c5b0
    try clear c6
    try clear c6b0
    try clear c6b1
    try clear c7
    try clear p2
    obtain ⟨x7_2, x8_2, rfl, rfl, HA, HK2, HB⟩ := hrel
    cases gk with
    | zero => exact absurd HA.out (by simp [r6_aggregable.l0])
    | succ k2 =>
     have H := HA.out
     clear HA
     simp only [r6_aggregable.l0] at H
     by_cases c8 : x8_2 < (l2.length : Int)
     rotate_left
     · rw [if_neg c8] at H
       have c8b0 : decide (x8_2 < (l2.length : Int)) = false := dF_ c8
       clear c8
       by_cases c21 : x7_2 = 0
       · rw [if_pos c21] at H
         have c21b0 : (x7_2 == 0) = true := beq_iff_eq.mpr c21
         have c21b1 : (x7_2 != 0) = false := bne_eq_false_iff_eq.mpr c21
         clear c21
         obtain rfl := Option.some.inj H
         go_wp2
         go_ret
         exact ⟨a5_, a2_⟩
       rw [if_neg c21] at H
       have c21b0 : (x7_2 == 0) = false := beq_eq_false_iff_ne.mpr c21
       have c21b1 : (x7_2 != 0) = true := bne_iff_ne.mpr c21
       by_cases c22 : x7_2 = 1
       · rw [if_pos c22] at H
         have c22b0 : (x7_2 == 1) = true := beq_iff_eq.mpr c22
         have c22b1 : (x7_2 != 1) = false := bne_eq_false_iff_eq.mpr c22
         clear c22
         obtain rfl := Option.some.inj H
         go_wp2
         go_ret
         exact ⟨a5_, a2_⟩
       rw [if_neg c22] at H
       have c22b0 : (x7_2 == 1) = false := beq_eq_false_iff_ne.mpr c22
       have c22b1 : (x7_2 != 1) = true := bne_iff_ne.mpr c22
       by_cases c23 : a0 = 2
       · rw [if_pos c23] at H
         have c23b0 : (a0 == 2) = true := beq_iff_eq.mpr c23
         have c23b1 : (a0 != 2) = false := bne_eq_false_iff_eq.mpr c23
         clear c23
         obtain rfl := Option.some.inj H
         go_wp2
         go_ret
         exact ⟨a5_, a2_⟩
       rw [if_neg c23] at H
       have c23b0 : (a0 == 2) = false := beq_eq_false_iff_ne.mpr c23
       have c23b1 : (a0 != 2) = true := bne_iff_ne.mpr c23
       obtain rfl := Option.some.inj H
       go_wp2
       go_ret
       exact ⟨a5_, a2_⟩
     rw [if_pos c8] at H
     have c8b0 : decide (x8_2 < (l2.length : Int)) = true := dT_ c8
     clear c8
     have HC9 := kA_ H
     clear H
     go_upto_region 7 with (fail)
     go_cut [38] (fun v38 wc => ∃ (kq : Nat) (x38_8 : Bool), v38 = .bool x38_8 ∧ Aside0 (r6_aggregable.j2 kq a0 l2 x7_2 x8_2 x38_8 = some r) ∧ Aside0 (kq ≤ k2) ∧ Aside0 (Below w.heap.size w wc))
     case first =>
      have H := HC9.out
      clear HC9
      by_cases c10 : 0 ≤ x8_2
      rotate_left
      · rw [if_neg c10] at H
        exact absurd H (by simp)
      rw [if_pos c10] at H
      have c10b0 : decide (0 ≤ x8_2) = true := dT_ c10
      clear c10
      (first | rw [c10b0] | (simp only [iL, iW]; rw [c10b0]) | skip)
      replace H := Option.bind_eq_some_iff.mp H
      obtain ⟨t264, A110, H⟩ := H
      replace H : (if t264 = true then ((r6_fits.f ((rd_T36 l2 x8_2).f0) ((rd_T36 l2 x8_2).f1) ((rd_T36 l2 x8_2).f2) x7_2).bind fun t266 => (r6_aggregable.j2 k2 a0 l2 x7_2 x8_2 (!t266))) else (r6_aggregable.j2 k2 a0 l2 x7_2 x8_2 true)) = some r := H
      have A11 := kA_ A110
      clear A110
      by_cases c12 : t264 = true
      rotate_left
      · replace c12 := Bool.eq_false_iff.mpr c12
        subst c12
        have H1 : (r6_aggregable.j2 k2 a0 l2 x7_2 x8_2 true) = some r := by rw [if_neg (show ¬ (false = true) by decide)] at H; exact H
        clear H
        have H := H1
        clear H1
        have H' := kA_ H
        clear H
        have p263 : 0 ≤ (x8_2 : Int) := oT_ (by assumption)
        have q263 : x8_2 < (l2.length : Int) := oT_ (by assumption)
        obtain ⟨ad263, e263, hx263_0, hx263_1, hx263_2⟩ := at_T36 HR2.out x8_2 p263 q263
        cases e263
        replace hx263_0 := cB_ HB.out hx263_0
        replace hx263_1 := cB_ HB.out hx263_1
        replace hx263_2 := cB_ HB.out hx263_2
        replace p263 := eq_true p263
        replace q263 := eq_true q263
        go_wp2_with (first | ((with_reducible refine gate_callee (f := 40) rfl ?_); refine goesL_ (some 28) rfl rfl Tryz.func40 a3_ rfl #[.agg #[.int .u8 ((rd_T36 l2 x8_2).f0), .int .i64 ((rd_T36 l2 x8_2).f1), .string ((rd_T36 l2 x8_2).f2)]] rfl a1_ ?_; (with_reducible refine (r1_Valid.calls ((rd_T36 l2 x8_2).f0) ((rd_T36 l2 x8_2).f1) ((rd_T36 l2 x8_2).f2) false _ A11.out).mono ?_); rintro e w16 ⟨rfl, hb⟩; refine ⟨_, rfl, ?_⟩; have n0_ := kA_ (below_step a0_ hb); clear HB; have HB := n0_; clear n0_; (try clear hb); (try clear hb2); (try clear hk); (try clear hi)))
        go_meet
        case rel => exact ⟨_, (true), a4_, H', ⟨a58_⟩, ⟨a2_⟩⟩
      subst c12
      have H1 : ((r6_fits.f ((rd_T36 l2 x8_2).f0) ((rd_T36 l2 x8_2).f1) ((rd_T36 l2 x8_2).f2) x7_2).bind fun t266 => (r6_aggregable.j2 k2 a0 l2 x7_2 x8_2 (!t266))) = some r := by rw [if_pos rfl] at H; exact H
      clear H
      have H := H1
      clear H1
      replace H := Option.bind_eq_some_iff.mp H
      obtain ⟨t266, A130, H⟩ := H
      replace H : (r6_aggregable.j2 k2 a0 l2 x7_2 x8_2 (!t266)) = some r := H
      have A13 := kA_ A130
      clear A130
      have H' := kA_ H
      clear H
      have p263 : 0 ≤ (x8_2 : Int) := oT_ (by assumption)
      have q263 : x8_2 < (l2.length : Int) := oT_ (by assumption)
      obtain ⟨ad263, e263, hx263_0, hx263_1, hx263_2⟩ := at_T36 HR2.out x8_2 p263 q263
      cases e263
      replace hx263_0 := cB_ HB.out hx263_0
      replace hx263_1 := cB_ HB.out hx263_1
      replace hx263_2 := cB_ HB.out hx263_2
      replace p263 := eq_true p263
      replace q263 := eq_true q263
      go_wp2_with (first | ((with_reducible refine gate_callee (f := 40) rfl ?_); refine goesL_ (some 28) rfl rfl Tryz.func40 a3_ rfl #[.agg #[.int .u8 ((rd_T36 l2 x8_2).f0), .int .i64 ((rd_T36 l2 x8_2).f1), .string ((rd_T36 l2 x8_2).f2)]] rfl a1_ ?_; (with_reducible refine (r1_Valid.calls ((rd_T36 l2 x8_2).f0) ((rd_T36 l2 x8_2).f1) ((rd_T36 l2 x8_2).f2) true _ A11.out).mono ?_); rintro e w14 ⟨rfl, hb⟩; refine ⟨_, rfl, ?_⟩; have n0_ := kA_ (below_step a0_ hb); clear HB; have HB := n0_; clear n0_; (try clear hb); (try clear hb2); (try clear hk); (try clear hi); have p265 : 0 ≤ (x8_2 : Int) := oT_ (by assumption); have q265 : x8_2 < (l2.length : Int) := oT_ (by assumption); obtain ⟨ad265, e265, hx265_0, hx265_1, hx265_2⟩ := at_T36 HR2.out x8_2 p265 q265; obtain rfl : ad263 = ad265 := (by injection e265); replace hx265_0 := cB_ HB.out hx265_0; replace hx265_1 := cB_ HB.out hx265_1; replace hx265_2 := cB_ HB.out hx265_2; replace p265 := eq_true p265; replace q265 := eq_true q265) | (go_at_call 41; (with_reducible refine (r6_fits.calls ((rd_T36 l2 x8_2).f0) ((rd_T36 l2 x8_2).f1) ((rd_T36 l2 x8_2).f2) x7_2 t266 _ A13.out).mono ?_); rintro e w15 ⟨rfl, hb⟩; have n0_ := kA_ (below_step a0_ hb); clear HB; have HB := n0_; clear n0_; (try clear hb); (try clear hb2); (try clear hk); (try clear hi)))
      go_meet
      case rel => exact ⟨_, (!t266), a4_, H', ⟨a58_⟩, ⟨a2_⟩⟩
     case rest =>
      clear HC9
      try clear c1
      try clear c2
      try clear p2
      try clear q2
      try clear hx2
      try clear c4
      try clear c5
      try clear c5b0
      try clear c6
      try clear c6b0
      try clear c6b1
      try clear c7
      try clear c8
      try clear c8b0
      try clear c10
      try clear c10b0
      try clear c12
      try clear hx263_0
      try clear hx263_1
      try clear hx263_2
      try clear hx265_0
      try clear hx265_1
      try clear hx265_2
      try clear p2
      try clear p263
      try clear p265
      try clear q263
      try clear q265
      obtain ⟨kq, x38_8, rfl, HA, HJ8, HB⟩ := hcut
      cases kq with
      | zero => exact absurd HA.out (by simp [r6_aggregable.j2])
      | succ kj8 =>
       have H := HA.out
       clear HA
       simp only [r6_aggregable.j2] at H
       by_cases c17 : x38_8 = true
       · subst c17
         have H1 : (some false) = some r := by rw [if_pos rfl] at H; exact H
         clear H
         have H := H1
         clear H1
         obtain rfl := Option.some.inj H
         go_wp2
         go_ret
         exact ⟨a5_, a2_⟩
       replace c17 := Bool.eq_false_iff.mpr c17
       subst c17
       have H1 : (if 0 ≤ x8_2 then (if x8_2 < (l2.length : Int) then (if ((rd_T36 l2 x8_2).f0) = 0 then (r6_aggregable.l0 kj8 a0 l2 x7_2 (wrap64 (x8_2 + 1))) else (r6_aggregable.l0 kj8 a0 l2 ((rd_T36 l2 x8_2).f0) (wrap64 (x8_2 + 1)))) else (none)) else (none)) = some r := by rw [if_neg (show ¬ (false = true) by decide)] at H; exact H
       clear H
       have H := H1
       clear H1
       by_cases c18 : 0 ≤ x8_2
       rotate_left
       · rw [if_neg c18] at H
         exact absurd H (by simp)
       rw [if_pos c18] at H
       have c18b0 : decide (0 ≤ x8_2) = true := dT_ c18
       clear c18
       by_cases c19 : x8_2 < (l2.length : Int)
       rotate_left
       · rw [if_neg c19] at H
         exact absurd H (by simp)
       rw [if_pos c19] at H
       have c19b0 : decide (x8_2 < (l2.length : Int)) = true := dT_ c19
       clear c19
       by_cases c20 : ((rd_T36 l2 x8_2).f0) = 0
       · rw [if_pos c20] at H
         have c20b0 : (((rd_T36 l2 x8_2).f0) == 0) = true := beq_iff_eq.mpr c20
         have c20b1 : (((rd_T36 l2 x8_2).f0) != 0) = false := bne_eq_false_iff_eq.mpr c20
         clear c20
         have H' := kA_ H
         clear H
         have p267 : 0 ≤ (x8_2 : Int) := oT_ (by assumption)
         have q267 : x8_2 < (l2.length : Int) := oT_ (by assumption)
         obtain ⟨ad267, e267, hx267_0, hx267_1, hx267_2⟩ := at_T36 HR2.out x8_2 p267 q267
         cases e267
         replace hx267_0 := cB_ HB.out hx267_0
         replace hx267_1 := cB_ HB.out hx267_1
         replace hx267_2 := cB_ HB.out hx267_2
         replace p267 := eq_true p267
         replace q267 := eq_true q267
         go_wp2
         go_roundg kj8
         case measure => have := HJ3.out; have := HK2.out; have := HJ8.out; omega
         case rel => exact ⟨(x7_2), (wrap64 (x8_2 + 1)), a4_, a4_, H', ⟨by have := HJ3.out; have := HK2.out; have := HJ8.out; omega⟩, ⟨a2_⟩⟩
       rw [if_neg c20] at H
       have c20b0 : (((rd_T36 l2 x8_2).f0) == 0) = false := beq_eq_false_iff_ne.mpr c20
       have c20b1 : (((rd_T36 l2 x8_2).f0) != 0) = true := bne_iff_ne.mpr c20
       have H' := kA_ H
       clear H
       have p267 : 0 ≤ (x8_2 : Int) := oT_ (by assumption)
       have q267 : x8_2 < (l2.length : Int) := oT_ (by assumption)
       obtain ⟨ad267, e267, hx267_0, hx267_1, hx267_2⟩ := at_T36 HR2.out x8_2 p267 q267
       cases e267
       replace hx267_0 := cB_ HB.out hx267_0
       replace hx267_1 := cB_ HB.out hx267_1
       replace hx267_2 := cB_ HB.out hx267_2
       replace p267 := eq_true p267
       replace q267 := eq_true q267
       have p268 : 0 ≤ (x8_2 : Int) := oT_ (by assumption)
       have q268 : x8_2 < (l2.length : Int) := oT_ (by assumption)
       obtain ⟨ad268, e268, hx268_0, hx268_1, hx268_2⟩ := at_T36 HR2.out x8_2 p268 q268
       obtain rfl : ad267 = ad268 := (by injection e268)
       replace hx268_0 := cB_ HB.out hx268_0
       replace hx268_1 := cB_ HB.out hx268_1
       replace hx268_2 := cB_ HB.out hx268_2
       replace p268 := eq_true p268
       replace q268 := eq_true q268
       go_wp2
       go_roundg kj8
       case measure => have := HJ3.out; have := HK2.out; have := HJ8.out; omega
       case rel => exact ⟨((rd_T36 l2 x8_2).f0), (wrap64 (x8_2 + 1)), a4_, a4_, H', ⟨by have := HJ3.out; have := HK2.out; have := HJ8.out; omega⟩, ⟨a2_⟩⟩
mutual
def r6_counted.l0 : Nat → List (S36) → Bool → List (S36) → Int → Option ((List (S36)))
 | 0, _, _, _, _ => none
 | k + 1, x0, x1, x5, x6 => if x6 < (x0.length : Int) then (if 0 ≤ x6 then (r6_counted.l1 k x0 x1 x5 x6 (((rd_T36 x0 x6).f0) != 0) 0) else (none)) else (some x5)
def r6_counted.l1 : Nat → List (S36) → Bool → List (S36) → Int → Bool → Int → Option ((List (S36)))
 | 0, _, _, _, _, _, _ => none
 | k + 1, x0, x1, x5, x6, x7, x8 => if x8 < (x5.length : Int) then (if x7 = true then (r6_counted.j2 k x0 x1 x5 x6 x7 x8 x1) else (r6_counted.j2 k x0 x1 x5 x6 x7 x8 false)) else (r6_counted.j2 k x0 x1 x5 x6 x7 x8 false)
def r6_counted.j2 : Nat → List (S36) → Bool → List (S36) → Int → Bool → Int → Bool → Option ((List (S36)))
 | 0, _, _, _, _, _, _, _ => none
 | k + 1, x0, x1, x5, x6, x7, x8, x30 => if x30 = true then (if 0 ≤ x8 then (if x8 < (x5.length : Int) then (if 0 ≤ x6 then (if x6 < (x0.length : Int) then ((r1_Same.f ((rd_T36 x5 x8).f0) ((rd_T36 x5 x8).f1) ((rd_T36 x5 x8).f2) ((rd_T36 x0 x6).f0) ((rd_T36 x0 x6).f1) ((rd_T36 x0 x6).f2)).bind fun t272 => (if t272 = true then (r6_counted.l1 k x0 x1 x5 x6 false (wrap64 (x8 + 1))) else (r6_counted.l1 k x0 x1 x5 x6 x7 (wrap64 (x8 + 1))))) else (none)) else (none)) else (none)) else (none)) else (if x7 = true then (if 0 ≤ x6 then (if x6 < (x0.length : Int) then (if x5.length < 4398046511104 then (r6_counted.l0 k x0 x1 (x5 ++ [(⟨(rd_T36 x0 x6).f0, (rd_T36 x0 x6).f1, (rd_T36 x0 x6).f2⟩ : S36)]) (wrap64 (x6 + 1))) else (none)) else (none)) else (none)) else (r6_counted.l0 k x0 x1 x5 (wrap64 (x6 + 1))))
end
def r6_counted.f (k : Nat) (l0 : List (S36)) (a1 : Bool) : Option ((List (S36))) := r6_counted.l0 k l0 a1 ([] : List (S36)) 0
def r6_counted.T9 : Bool × List (List Nat × List Nat) := (true, [([], []), ([], []), ([0, 1], [0, 1]), ([2], [2]), ([], []), ([], []), ([4, 5], [4, 5]), ([6], [6]), ([3, 7], [3, 7])])
def r6_counted.B9 : List Nat := [0, 0, 3, 7, 0, 0, 48, 112, 255]
theorem r6_counted.tab9 : rtab .any (opsOf Tryz.f52 9) = r6_counted.T9 := by kernel_rfl
theorem r6_counted.bits9 : waitsOk r6_counted.T9.2 r6_counted.B9 = true := by kernel_rfl
theorem r6_counted.calls (k : Nat) (A0 : Option Addr) (c0 : Nat) (l0 : List (S36)) (a1 : Bool) (r : List (S36)) (w : World) (hr0 : Kd.C k36 w A0 l0.length l0) (hc0 : l0.length ≤ c0) (h : r6_counted.f k l0 a1 = some r) :
 Calls Tryz.prog 52 #[.slice A0 l0.length c0, .bool a1] w fun e w' => ∃ v0_ : Value, e = .returned (v0_) ∧ Kd.R k36 36 w' w.heap.size (fun _ => True) v0_ r ∧ Below w.heap.size w w' := by
 have hu36 := Tryz.underlying36
 have HR0 := kA_ hr0
 have HC0 := kA_ hc0
 clear hr0 hc0
 have HB := kA_ (Below.refl w.heap.size w)
 have H : (r6_counted.l0 k l0 a1 ([] : List (S36)) 0) = some r := h
 clear h
 have H' := kA_ H
 clear H
 go_enter Tryz.func52, Tryz.ntmps52
 go_wp2
 go_loopg [5, 6] k (fun kq v5 v6 w' => ∃ (x5_1 : List (S36)) (x6_1 : Int), v6 = .int .i64 x6_1 ∧ Aside0 (r6_counted.l0 kq l0 a1 x5_1 x6_1 = some r) ∧ Aside0 (kq ≤ k) ∧ Aside0 (Kd.R k36 36 w' w.heap.size (fun _ => True) v5 x5_1) ∧ Aside0 (Below w.heap.size w w'))
 case atStart => exact ⟨(([] : List (S36))), (0), a4_, H', ⟨Nat.le_refl _⟩, ⟨a32_⟩, ⟨a2_⟩⟩
 case round =>
  clear H'
  try clear p2
  obtain ⟨x5_1, x6_1, rfl, HA, HK1, HO_5, HB⟩ := hrel
  cases gk with
  | zero => exact absurd HA.out (by simp [r6_counted.l0])
  | succ k1 =>
   have H := HA.out
   clear HA
   simp only [r6_counted.l0] at H
   by_cases c3 : x6_1 < (l0.length : Int)
   rotate_left
   · rw [if_neg c3] at H
     have c3b0 : decide (x6_1 < (l0.length : Int)) = false := dF_ c3
     clear c3
     obtain rfl := Option.some.inj H
     go_wp2
     go_ret
     exact ⟨_, a5_, a16_, a2_⟩
   rw [if_pos c3] at H
   have c3b0 : decide (x6_1 < (l0.length : Int)) = true := dT_ c3
   clear c3
   by_cases c4 : 0 ≤ x6_1
   rotate_left
   · rw [if_neg c4] at H
     exact absurd H (by simp)
   rw [if_pos c4] at H
   have c4b0 : decide (0 ≤ x6_1) = true := dT_ c4
   clear c4
   have H' := kA_ H
   clear H
   have p269 : 0 ≤ (x6_1 : Int) := oT_ (by assumption)
   have q269 : x6_1 < (l0.length : Int) := oT_ (by assumption)
   obtain ⟨ad269, e269, hx269_0, hx269_1, hx269_2⟩ := at_T36 HR0.out x6_1 p269 q269
   cases e269
   replace hx269_0 := cB_ HB.out hx269_0
   replace hx269_1 := cB_ HB.out hx269_1
   replace hx269_2 := cB_ HB.out hx269_2
   replace p269 := eq_true p269
   replace q269 := eq_true q269
   go_wp2
   go_loopg [7, 8] k1 (fun kq v7 v8 w' => ∃ (x7_2 : Bool) (x8_2 : Int), v7 = .bool x7_2 ∧ v8 = .int .i64 x8_2 ∧ Aside0 (r6_counted.l1 kq l0 a1 x5_1 x6_1 x7_2 x8_2 = some r) ∧ Aside0 (kq ≤ k1) ∧ Aside0 (Kd.R k36 36 w' w.heap.size (fun _ => True) u5 x5_1) ∧ Aside0 (Below w.heap.size w w'))
   case atStart => exact ⟨((((rd_T36 l0 x6_1).f0) != 0)), (0), a4_, a4_, H', ⟨Nat.le_refl _⟩, ⟨a16_⟩, ⟨a2_⟩⟩
   case round =>
    clear H'
    try clear p2
    try clear q2
    try clear hx2
    try clear c3
    try clear c3b0
    try clear c4
    try clear c4b0
    try clear hx269_0
    try clear hx269_1
    try clear hx269_2
    try clear p2
    try clear p269
    try clear q269
    obtain ⟨x7_2, x8_2, rfl, rfl, HA, HK2, HO_5, HB⟩ := hrel
    cases gk with
    | zero => exact absurd HA.out (by simp [r6_counted.l1])
    | succ k2 =>
     have H := HA.out
     clear HA
     simp only [r6_counted.l1] at H
     have HC5 := kA_ H
     clear H
     go_upto_region 7 with (fail)
     go_cut [30] (fun v30 wc => ∃ (kq : Nat) (x30_4 : Bool), v30 = .bool x30_4 ∧ Aside0 (r6_counted.j2 kq l0 a1 x5_1 x6_1 x7_2 x8_2 x30_4 = some r) ∧ Aside0 (kq ≤ k2) ∧ Aside0 (Kd.R k36 36 wc w.heap.size (fun _ => True) u5 x5_1) ∧ Aside0 (Below w.heap.size w wc))
     case first =>
      have H := HC5.out
      clear HC5
      by_cases c6 : x8_2 < (x5_1.length : Int)
      rotate_left
      · rw [if_neg c6] at H
        have c6b0 : decide (x8_2 < (x5_1.length : Int)) = false := dF_ c6
        clear c6
        (first | rw [c6b0] | (simp only [iL, iW]; rw [c6b0]) | skip)
        have H' := kA_ H
        clear H
        obtain ⟨Ao10, co10, eo10⟩ := Kd.R_slice HO_5.out
        subst eo10
        go_wp2
        go_meet
        case rel => exact ⟨_, (false), a4_, H', ⟨a66_⟩, ⟨a16_⟩, ⟨a2_⟩⟩
      rw [if_pos c6] at H
      have c6b0 : decide (x8_2 < (x5_1.length : Int)) = true := dT_ c6
      clear c6
      (first | rw [c6b0] | (simp only [iL, iW]; rw [c6b0]) | skip)
      by_cases c7 : x7_2 = true
      · subst c7
        have H1 : (r6_counted.j2 k2 l0 a1 x5_1 x6_1 true x8_2 a1) = some r := by rw [if_pos rfl] at H; exact H
        clear H
        have H := H1
        clear H1
        have H' := kA_ H
        clear H
        obtain ⟨Ao8, co8, eo8⟩ := Kd.R_slice HO_5.out
        subst eo8
        go_wp2
        go_meet
        case rel => exact ⟨_, (a1), a4_, H', ⟨a66_⟩, ⟨a16_⟩, ⟨a2_⟩⟩
      replace c7 := Bool.eq_false_iff.mpr c7
      subst c7
      have H1 : (r6_counted.j2 k2 l0 a1 x5_1 x6_1 false x8_2 false) = some r := by rw [if_neg (show ¬ (false = true) by decide)] at H; exact H
      clear H
      have H := H1
      clear H1
      have H' := kA_ H
      clear H
      obtain ⟨Ao9, co9, eo9⟩ := Kd.R_slice HO_5.out
      subst eo9
      go_wp2
      go_meet
      case rel => exact ⟨_, (false), a4_, H', ⟨a66_⟩, ⟨a16_⟩, ⟨a2_⟩⟩
     case rest =>
      clear HC5
      try clear p2
      try clear q2
      try clear hx2
      try clear c3
      try clear c3b0
      try clear c4
      try clear c4b0
      try clear c5
      try clear c6
      try clear c6b0
      try clear c7
      try clear hx269_0
      try clear hx269_1
      try clear hx269_2
      try clear p2
      try clear p269
      try clear q2
      try clear q269
      obtain ⟨kq, x30_4, rfl, HA, HJ4, HO_5, HB⟩ := hcut
      cases kq with
      | zero => exact absurd HA.out (by simp [r6_counted.j2])
      | succ kj4 =>
       have H := HA.out
       clear HA
       simp only [r6_counted.j2] at H
       by_cases c11 : x30_4 = true
       rotate_left
       · replace c11 := Bool.eq_false_iff.mpr c11
         subst c11
         have H1 : (if x7_2 = true then (if 0 ≤ x6_1 then (if x6_1 < (l0.length : Int) then (if x5_1.length < 4398046511104 then (r6_counted.l0 kj4 l0 a1 (x5_1 ++ [(⟨(rd_T36 l0 x6_1).f0, (rd_T36 l0 x6_1).f1, (rd_T36 l0 x6_1).f2⟩ : S36)]) (wrap64 (x6_1 + 1))) else (none)) else (none)) else (none)) else (r6_counted.l0 kj4 l0 a1 x5_1 (wrap64 (x6_1 + 1)))) = some r := by rw [if_neg (show ¬ (false = true) by decide)] at H; exact H
         clear H
         have H := H1
         clear H1
         by_cases c24 : x7_2 = true
         rotate_left
         · replace c24 := Bool.eq_false_iff.mpr c24
           subst c24
           have H1 : (r6_counted.l0 kj4 l0 a1 x5_1 (wrap64 (x6_1 + 1))) = some r := by rw [if_neg (show ¬ (false = true) by decide)] at H; exact H
           clear H
           have H := H1
           clear H1
           have H' := kA_ H
           clear H
           go_wp2
           go_roundg kj4
           case measure => have := HK1.out; have := HK2.out; have := HJ4.out; omega
           case rel => exact ⟨(x5_1), (wrap64 (x6_1 + 1)), a4_, H', ⟨a81_⟩, ⟨a16_⟩, ⟨a2_⟩⟩
         subst c24
         have H1 : (if 0 ≤ x6_1 then (if x6_1 < (l0.length : Int) then (if x5_1.length < 4398046511104 then (r6_counted.l0 kj4 l0 a1 (x5_1 ++ [(⟨(rd_T36 l0 x6_1).f0, (rd_T36 l0 x6_1).f1, (rd_T36 l0 x6_1).f2⟩ : S36)]) (wrap64 (x6_1 + 1))) else (none)) else (none)) else (none)) = some r := by rw [if_pos rfl] at H; exact H
         clear H
         have H := H1
         clear H1
         by_cases c25 : 0 ≤ x6_1
         rotate_left
         · rw [if_neg c25] at H
           exact absurd H (by simp)
         rw [if_pos c25] at H
         have c25b0 : decide (0 ≤ x6_1) = true := dT_ c25
         clear c25
         by_cases c26 : x6_1 < (l0.length : Int)
         rotate_left
         · rw [if_neg c26] at H
           exact absurd H (by simp)
         rw [if_pos c26] at H
         have c26b0 : decide (x6_1 < (l0.length : Int)) = true := dT_ c26
         clear c26
         by_cases c27 : x5_1.length < 4398046511104
         rotate_left
         · rw [if_neg c27] at H
           exact absurd H (by simp)
         rw [if_pos c27] at H
         have LMc27 := kA_ c27
         clear c27
         obtain ⟨y274, hy274⟩ : ∃ y_ : List (S36), y_ = (x5_1 ++ [(⟨(rd_T36 l0 x6_1).f0, (rd_T36 l0 x6_1).f1, (rd_T36 l0 x6_1).f2⟩ : S36)]) := ⟨_, rfl⟩
         replace H : (r6_counted.l0 kj4 l0 a1 y274 (wrap64 (x6_1 + 1))) = some r := by first | (rw [hy274]; with_reducible exact H) | (have H2_ := (Option.bind_some _ _).symm.trans H; rw [hy274]; with_reducible exact H2_) | (have H2_ := (Option.bind_some _ _).symm.trans H; with_reducible exact H2_) | with_reducible exact H | (rw [hy274]; exact H) | exact H
         have Ny274 := kA_ hy274
         clear hy274
         have H' := kA_ H
         clear H
         have p273 : 0 ≤ (x6_1 : Int) := oT_ (by assumption)
         have q273 : x6_1 < (l0.length : Int) := oT_ (by assumption)
         obtain ⟨ad273, e273, hx273_0, hx273_1, hx273_2⟩ := at_T36 HR0.out x6_1 p273 q273
         obtain rfl : ad269 = ad273 := (by injection e273)
         replace hx273_0 := cB_ HB.out hx273_0
         replace hx273_1 := cB_ HB.out hx273_1
         replace hx273_2 := cB_ HB.out hx273_2
         replace p273 := eq_true p273
         replace q273 := eq_true q273
         go_wp2_with (first | ((with_reducible refine gate_builtin (b := .append) (xs := #[.tmp 43, .tmp 48]) rfl ?_); at_builtin; refine Kd.R_append k36 (w0 := w) w.heap.size rfl (.tmp 43) (.tmp 48) 33 36 (.agg #[(.int .u8 0), (.int .i64 0), (.string ⟨#[]⟩)]) 32 rfl Tryz.underlying33 info36 rfl (by decide) (by omega) u5 x5_1 (⟨(rd_T36 l0 x6_1).f0, (rd_T36 l0 x6_1).f1, (rd_T36 l0 x6_1).f2⟩ : S36) [.int .u8 ((rd_T36 l0 x6_1).f0), .int .i64 ((rd_T36 l0 x6_1).f1), .string ((rd_T36 l0 x6_1).f2)] (fun _ => True) (fun _ => False) rfl rfl ?aP (fun _ hk => hk.elim) ?aF ?aO ?aB ?aS ?aL ?_; (case aP => exact k36_mkM _ _ _ (⟨(rd_T36 l0 x6_1).f0, (rd_T36 l0 x6_1).f1, (rd_T36 l0 x6_1).f2⟩ : S36)); (case aB => exact a0_); (case aF => exact (fun _ _ => trivial)); (case aO => exact a31_); (case aS => exact (below_size a0_)); (case aL => have := LMc27.out; omega); intro v275 w28 ho hb hg hat; rw [← Ny274.out] at ho; have n0_ := kA_ (hb); have n1_ := kA_ (ho); clear HB; clear HO_5; have HB := n0_; have HO276 := n1_; clear n0_ n1_; clear ho hb hg hat))
         go_roundg kj4
         case measure => have := HK1.out; have := HK2.out; have := HJ4.out; omega
         case rel => exact ⟨(y274), (wrap64 (x6_1 + 1)), a4_, H', ⟨a81_⟩, ⟨by (with_reducible repeat (first | apply Kd.R_alloc | apply Kd.R_drewN | apply Kd.R_drew)); exact HO276.out⟩, ⟨a2_⟩⟩
       subst c11
       have H1 : (if 0 ≤ x8_2 then (if x8_2 < (x5_1.length : Int) then (if 0 ≤ x6_1 then (if x6_1 < (l0.length : Int) then ((r1_Same.f ((rd_T36 x5_1 x8_2).f0) ((rd_T36 x5_1 x8_2).f1) ((rd_T36 x5_1 x8_2).f2) ((rd_T36 l0 x6_1).f0) ((rd_T36 l0 x6_1).f1) ((rd_T36 l0 x6_1).f2)).bind fun t272 => (if t272 = true then (r6_counted.l1 kj4 l0 a1 x5_1 x6_1 false (wrap64 (x8_2 + 1))) else (r6_counted.l1 kj4 l0 a1 x5_1 x6_1 x7_2 (wrap64 (x8_2 + 1))))) else (none)) else (none)) else (none)) else (none)) = some r := by rw [if_pos rfl] at H; exact H
       clear H
       have H := H1
       clear H1
       by_cases c12 : 0 ≤ x8_2
       rotate_left
       · rw [if_neg c12] at H
         exact absurd H (by simp)
       rw [if_pos c12] at H
       have c12b0 : decide (0 ≤ x8_2) = true := dT_ c12
       clear c12
       by_cases c13 : x8_2 < (x5_1.length : Int)
       rotate_left
       · rw [if_neg c13] at H
         exact absurd H (by simp)
       rw [if_pos c13] at H
       have c13b0 : decide (x8_2 < (x5_1.length : Int)) = true := dT_ c13
       clear c13
       by_cases c14 : 0 ≤ x6_1
       rotate_left
       · rw [if_neg c14] at H
         exact absurd H (by simp)
       rw [if_pos c14] at H
       have c14b0 : decide (0 ≤ x6_1) = true := dT_ c14
       clear c14
       by_cases c15 : x6_1 < (l0.length : Int)
       rotate_left
       · rw [if_neg c15] at H
         exact absurd H (by simp)
       rw [if_pos c15] at H
       have c15b0 : decide (x6_1 < (l0.length : Int)) = true := dT_ c15
       clear c15
       replace H := Option.bind_eq_some_iff.mp H
       obtain ⟨t272, A160, H⟩ := H
       replace H : (if t272 = true then (r6_counted.l1 kj4 l0 a1 x5_1 x6_1 false (wrap64 (x8_2 + 1))) else (r6_counted.l1 kj4 l0 a1 x5_1 x6_1 x7_2 (wrap64 (x8_2 + 1)))) = some r := H
       have A16 := kA_ A160
       clear A160
       by_cases c17 : t272 = true
       · subst c17
         have H1 : (r6_counted.l1 kj4 l0 a1 x5_1 x6_1 false (wrap64 (x8_2 + 1))) = some r := by rw [if_pos rfl] at H; exact H
         clear H
         have H := H1
         clear H1
         have H' := kA_ H
         clear H
         try go_wp2
         have n0_ := kA_ (Kd.R_drew HO_5.out)
         have n1_ := kA_ (b1_ HB.out)
         clear HO_5
         clear HB
         have HO_5 := n0_
         have HB := n1_
         clear n0_ n1_
         obtain ⟨Ao19, co19, eo19⟩ := Kd.R_slice HO_5.out
         (first | subst eo19 | (injection eo19 with f1_ f2_ f3_; have f4_ := f1_.symm; have f5_ := f3_.symm; clear f1_ f2_ f3_; subst f4_; subst f5_))
         have p270 : 0 ≤ (x8_2 : Int) := oT_ (by assumption)
         have q270 : x8_2 < (x5_1.length : Int) := oT_ (by assumption)
         obtain ⟨ad270, e270, hx270_0, hx270_1, hx270_2⟩ := at_T36 (Kd.R_reads' HO_5.out).2.2 x8_2 p270 q270
         cases e270
         replace p270 := eq_true p270
         replace q270 := eq_true q270
         have p271 : 0 ≤ (x6_1 : Int) := oT_ (by assumption)
         have q271 : x6_1 < (l0.length : Int) := oT_ (by assumption)
         obtain ⟨ad271, e271, hx271_0, hx271_1, hx271_2⟩ := at_T36 HR0.out x6_1 p271 q271
         have hw271_2 := hx271_2
         have hw271_1 := hx271_1
         have hw271_0 := hx271_0
         obtain rfl : ad269 = ad271 := (by injection e271)
         replace hx271_0 := cB_ HB.out hx271_0
         replace hx271_1 := cB_ HB.out hx271_1
         replace hx271_2 := cB_ HB.out hx271_2
         replace p271 := eq_true p271
         replace q271 := eq_true q271
         refine start_ (n := 9) (S := fun w' => w'.cell? (ad270.add ((x8_2).toNat * 3)) = some (.int .u8 ((rd_T36 x5_1 x8_2).f0)) ∧ w'.cell? ⟨(ad270.add ((x8_2).toNat * 3)).block, (ad270.add ((x8_2).toNat * 3)).off + 1, none⟩ = some (.int .i64 ((rd_T36 x5_1 x8_2).f1)) ∧ w'.cell? ⟨(ad270.add ((x8_2).toNat * 3)).block, (ad270.add ((x8_2).toNat * 3)).off + 2, none⟩ = some (.string ((rd_T36 x5_1 x8_2).f2)) ∧ w'.cell? (ad269.add ((x6_1).toNat * 3)) = some (.int .u8 ((rd_T36 l0 x6_1).f0)) ∧ w'.cell? ⟨(ad269.add ((x6_1).toNat * 3)).block, (ad269.add ((x6_1).toNat * 3)).off + 1, none⟩ = some (.int .i64 ((rd_T36 l0 x6_1).f1)) ∧ w'.cell? ⟨(ad269.add ((x6_1).toNat * 3)).block, (ad269.add ((x6_1).toNat * 3)).off + 2, none⟩ = some (.string ((rd_T36 l0 x6_1).f2))) (ds := []) #[X,X,X,X,X,X,X,X,X] a3_ rfl rfl ⟨hx270_0, hx270_1, hx270_2, (cB_ HB.out hw271_0), (cB_ HB.out hw271_1), (cB_ HB.out hw271_2)⟩ (fun hHeld => ?_); refine with_tabW r6_counted.tab9 r6_counted.bits9 (fun HT_ HW_ => ?_)
         generalize wc.drew = w18 at HO_5 HB hx270_0 hx270_1 hx270_2 hx271_0 hx271_1 hx271_2 hHeld ⊢
         refine pure_ (i := 0) (N := some 33) (v := ?_) (a' := ?_) #[Y,X,X,X,X,X,X,X,X] rfl rfl (any_of HT_.out a3_) (fun _ _ _ h => h) (Or.inl ⟨by rfl, ?_⟩) ?_ ?_
         rotate_left
         · intro w'
           go_simp
           with_reducible rfl
         rotate_left
         · simp only [Act.put, tA, tZ, tS, iL, iW]
           rfl
         refine pure_ (i := 1) (N := some 34) (v := ?_) (a' := ?_) #[Y,Y,X,X,X,X,X,X,X] rfl rfl (any_of HT_.out a3_) (fun _ _ _ h => h) (Or.inl ⟨by rfl, ?_⟩) ?_ ?_
         rotate_left
         · intro w'
           go_simp
           with_reducible rfl
         rotate_left
         · simp only [Act.put, tA, tZ, tS, iL, iW]
           rfl
         refine pure_ (i := 2) (N := some 35) (v := ?_) (a' := ?_) #[Y,Y,Y,X,X,X,X,X,X] rfl rfl (any_of HT_.out a3_) (fun _ _ _ h => h) (Or.inl ⟨by rfl, ?_⟩) ?_ ?_
         rotate_left
         · intro w'
           go_simp
           with_reducible rfl
         rotate_left
         · simp only [Act.put, tA, tZ, tS, iL, iW]
           rfl
         refine pure_ (i := 4) (N := some 37) (v := ?_) (a' := ?_) #[Y,Y,Y,X,Y,X,X,X,X] rfl rfl (any_of HT_.out a3_) (fun _ _ _ h => h) (Or.inl ⟨by rfl, ?_⟩) ?_ ?_
         rotate_left
         · intro w'
           go_simp
           with_reducible rfl
         rotate_left
         · simp only [Act.put, tA, tZ, tS, iL, iW]
           rfl
         refine pure_ (i := 5) (N := some 38) (v := ?_) (a' := ?_) #[Y,Y,Y,X,Y,Y,X,X,X] rfl rfl (any_of HT_.out a3_) (fun _ _ _ h => h) (Or.inl ⟨by rfl, ?_⟩) ?_ ?_
         rotate_left
         · intro w'
           go_simp
           with_reducible rfl
         rotate_left
         · simp only [Act.put, tA, tZ, tS, iL, iW]
           rfl
         refine pure_ (i := 6) (N := some 39) (v := ?_) (a' := ?_) #[Y,Y,Y,X,Y,Y,Y,X,X] rfl rfl (any_of HT_.out a3_) (fun _ _ _ h => h) (Or.inl ⟨by rfl, ?_⟩) ?_ ?_
         rotate_left
         · intro w'
           go_simp
           with_reducible rfl
         rotate_left
         · simp only [Act.put, tA, tZ, tS, iL, iW]
           rfl
         refine take_ (i := 3) (N := some 36) (v := ?_) (a' := ?_) #[Y,Y,Y,Y,Y,Y,Y,X,X] rfl rfl (take_ofW HT_.out HW_.out a3_) (fun _ _ _ h => h) (Or.inl ⟨by rfl, ?_⟩) hHeld ?_ ?_
         rotate_left
         · rintro w' ⟨s0, s1, s2, s3, s4, s5⟩
           go_simp
           with_reducible rfl
         rotate_left
         · simp only [Act.put, tA, tZ, tS, iL, iW]
           rfl
         refine take_ (i := 7) (N := some 40) (v := ?_) (a' := ?_) #[Y,Y,Y,Y,Y,Y,Y,Y,X] rfl rfl (take_ofW HT_.out HW_.out a3_) (fun _ _ _ h => h) (Or.inl ⟨by rfl, ?_⟩) hHeld ?_ ?_
         rotate_left
         · rintro w' ⟨s0, s1, s2, s3, s4, s5⟩
           go_simp
           with_reducible rfl
         rotate_left
         · simp only [Act.put, tA, tZ, tS, iL, iW]
           rfl
         refine one_ (i := 8) (N := some 41) #[Y,Y,Y,Y,Y,Y,Y,Y,Y] rfl rfl (one_of HT_.out a3_) (by decide) (fun K hK => ?_)
         refine goes_ Tryz.func22 a3_ rfl #[.agg #[.int .u8 ((rd_T36 x5_1 x8_2).f0), .int .i64 ((rd_T36 x5_1 x8_2).f1), .string ((rd_T36 x5_1 x8_2).f2)], .agg #[.int .u8 ((rd_T36 l0 x6_1).f0), .int .i64 ((rd_T36 l0 x6_1).f1), .string ((rd_T36 l0 x6_1).f2)]] (by rfl) rfl rfl a1_ ?_
         with_reducible refine (r1_Same.calls ((rd_T36 x5_1 x8_2).f0) ((rd_T36 x5_1 x8_2).f1) ((rd_T36 x5_1 x8_2).f2) ((rd_T36 l0 x6_1).f0) ((rd_T36 l0 x6_1).f1) ((rd_T36 l0 x6_1).f2) true _ A16.out).mono ?_
         rintro e w20 ⟨rfl, hb⟩
         have HS0_ := (hb.cell (bLC_ _ _ (hHeld.1))).trans (hHeld.1)
         have HS1_ := (hb.cell (bLC_ _ _ (hHeld.2.1))).trans (hHeld.2.1)
         have HS2_ := (hb.cell (bLC_ _ _ (hHeld.2.2.1))).trans (hHeld.2.2.1)
         refine ⟨_, rfl, ?_⟩
         have n0_ := kA_ (Kd.R_below a31_ hb)
         have n1_ := kA_ (below_step a0_ hb)
         clear HO_5
         clear HB
         have HO_5 := n0_
         have HB := n1_
         clear n0_ n1_
         (try clear hb)
         (try clear hb2)
         (try clear hk)
         (try clear hi)
         refine hK.out _ _ ⟨HS0_, HS1_, HS2_, (cB_ HB.out hw271_0), (cB_ HB.out hw271_1), (cB_ HB.out hw271_2)⟩ (fun hHeld => ?_)
         clear hK K
         refine norm_ (a' := ?_) ?_ ?_
         rotate_left
         · show Act.put _ (some 41) _ = _
           simp only [Act.put, tA, tZ, tS, iL, iW]
           rfl
         refine done_ (done_of HT_.out a3_) ?_
         try go_wp2
         go_roundg kj4
         case measure => have := HK1.out; have := HK2.out; have := HJ4.out; omega
         case rel => exact ⟨(false), (wrap64 (x8_2 + 1)), a4_, a4_, H', ⟨a81_⟩, ⟨a16_⟩, ⟨a2_⟩⟩
       replace c17 := Bool.eq_false_iff.mpr c17
       subst c17
       have H1 : (r6_counted.l1 kj4 l0 a1 x5_1 x6_1 x7_2 (wrap64 (x8_2 + 1))) = some r := by rw [if_neg (show ¬ (false = true) by decide)] at H; exact H
       clear H
       have H := H1
       clear H1
       have H' := kA_ H
       clear H
       try go_wp2
       have n0_ := kA_ (Kd.R_drew HO_5.out)
       have n1_ := kA_ (b1_ HB.out)
       clear HO_5
       clear HB
       have HO_5 := n0_
       have HB := n1_
       clear n0_ n1_
       obtain ⟨Ao22, co22, eo22⟩ := Kd.R_slice HO_5.out
       (first | subst eo22 | (injection eo22 with f1_ f2_ f3_; have f4_ := f1_.symm; have f5_ := f3_.symm; clear f1_ f2_ f3_; subst f4_; subst f5_))
       have p270 : 0 ≤ (x8_2 : Int) := oT_ (by assumption)
       have q270 : x8_2 < (x5_1.length : Int) := oT_ (by assumption)
       obtain ⟨ad270, e270, hx270_0, hx270_1, hx270_2⟩ := at_T36 (Kd.R_reads' HO_5.out).2.2 x8_2 p270 q270
       cases e270
       replace p270 := eq_true p270
       replace q270 := eq_true q270
       have p271 : 0 ≤ (x6_1 : Int) := oT_ (by assumption)
       have q271 : x6_1 < (l0.length : Int) := oT_ (by assumption)
       obtain ⟨ad271, e271, hx271_0, hx271_1, hx271_2⟩ := at_T36 HR0.out x6_1 p271 q271
       have hw271_2 := hx271_2
       have hw271_1 := hx271_1
       have hw271_0 := hx271_0
       obtain rfl : ad269 = ad271 := (by injection e271)
       replace hx271_0 := cB_ HB.out hx271_0
       replace hx271_1 := cB_ HB.out hx271_1
       replace hx271_2 := cB_ HB.out hx271_2
       replace p271 := eq_true p271
       replace q271 := eq_true q271
       refine start_ (n := 9) (S := fun w' => w'.cell? (ad270.add ((x8_2).toNat * 3)) = some (.int .u8 ((rd_T36 x5_1 x8_2).f0)) ∧ w'.cell? ⟨(ad270.add ((x8_2).toNat * 3)).block, (ad270.add ((x8_2).toNat * 3)).off + 1, none⟩ = some (.int .i64 ((rd_T36 x5_1 x8_2).f1)) ∧ w'.cell? ⟨(ad270.add ((x8_2).toNat * 3)).block, (ad270.add ((x8_2).toNat * 3)).off + 2, none⟩ = some (.string ((rd_T36 x5_1 x8_2).f2)) ∧ w'.cell? (ad269.add ((x6_1).toNat * 3)) = some (.int .u8 ((rd_T36 l0 x6_1).f0)) ∧ w'.cell? ⟨(ad269.add ((x6_1).toNat * 3)).block, (ad269.add ((x6_1).toNat * 3)).off + 1, none⟩ = some (.int .i64 ((rd_T36 l0 x6_1).f1)) ∧ w'.cell? ⟨(ad269.add ((x6_1).toNat * 3)).block, (ad269.add ((x6_1).toNat * 3)).off + 2, none⟩ = some (.string ((rd_T36 l0 x6_1).f2))) (ds := []) #[X,X,X,X,X,X,X,X,X] a3_ rfl rfl ⟨hx270_0, hx270_1, hx270_2, (cB_ HB.out hw271_0), (cB_ HB.out hw271_1), (cB_ HB.out hw271_2)⟩ (fun hHeld => ?_); refine with_tabW r6_counted.tab9 r6_counted.bits9 (fun HT_ HW_ => ?_)
       generalize wc.drew = w21 at HO_5 HB hx270_0 hx270_1 hx270_2 hx271_0 hx271_1 hx271_2 hHeld ⊢
       refine pure_ (i := 0) (N := some 33) (v := ?_) (a' := ?_) #[Y,X,X,X,X,X,X,X,X] rfl rfl (any_of HT_.out a3_) (fun _ _ _ h => h) (Or.inl ⟨by rfl, ?_⟩) ?_ ?_
       rotate_left
       · intro w'
         go_simp
         with_reducible rfl
       rotate_left
       · simp only [Act.put, tA, tZ, tS, iL, iW]
         rfl
       refine pure_ (i := 1) (N := some 34) (v := ?_) (a' := ?_) #[Y,Y,X,X,X,X,X,X,X] rfl rfl (any_of HT_.out a3_) (fun _ _ _ h => h) (Or.inl ⟨by rfl, ?_⟩) ?_ ?_
       rotate_left
       · intro w'
         go_simp
         with_reducible rfl
       rotate_left
       · simp only [Act.put, tA, tZ, tS, iL, iW]
         rfl
       refine pure_ (i := 2) (N := some 35) (v := ?_) (a' := ?_) #[Y,Y,Y,X,X,X,X,X,X] rfl rfl (any_of HT_.out a3_) (fun _ _ _ h => h) (Or.inl ⟨by rfl, ?_⟩) ?_ ?_
       rotate_left
       · intro w'
         go_simp
         with_reducible rfl
       rotate_left
       · simp only [Act.put, tA, tZ, tS, iL, iW]
         rfl
       refine pure_ (i := 4) (N := some 37) (v := ?_) (a' := ?_) #[Y,Y,Y,X,Y,X,X,X,X] rfl rfl (any_of HT_.out a3_) (fun _ _ _ h => h) (Or.inl ⟨by rfl, ?_⟩) ?_ ?_
       rotate_left
       · intro w'
         go_simp
         with_reducible rfl
       rotate_left
       · simp only [Act.put, tA, tZ, tS, iL, iW]
         rfl
       refine pure_ (i := 5) (N := some 38) (v := ?_) (a' := ?_) #[Y,Y,Y,X,Y,Y,X,X,X] rfl rfl (any_of HT_.out a3_) (fun _ _ _ h => h) (Or.inl ⟨by rfl, ?_⟩) ?_ ?_
       rotate_left
       · intro w'
         go_simp
         with_reducible rfl
       rotate_left
       · simp only [Act.put, tA, tZ, tS, iL, iW]
         rfl
       refine pure_ (i := 6) (N := some 39) (v := ?_) (a' := ?_) #[Y,Y,Y,X,Y,Y,Y,X,X] rfl rfl (any_of HT_.out a3_) (fun _ _ _ h => h) (Or.inl ⟨by rfl, ?_⟩) ?_ ?_
       rotate_left
       · intro w'
         go_simp
         with_reducible rfl
       rotate_left
       · simp only [Act.put, tA, tZ, tS, iL, iW]
         rfl
       refine take_ (i := 3) (N := some 36) (v := ?_) (a' := ?_) #[Y,Y,Y,Y,Y,Y,Y,X,X] rfl rfl (take_ofW HT_.out HW_.out a3_) (fun _ _ _ h => h) (Or.inl ⟨by rfl, ?_⟩) hHeld ?_ ?_
       rotate_left
       · rintro w' ⟨s0, s1, s2, s3, s4, s5⟩
         go_simp
         with_reducible rfl
       rotate_left
       · simp only [Act.put, tA, tZ, tS, iL, iW]
         rfl
       refine take_ (i := 7) (N := some 40) (v := ?_) (a' := ?_) #[Y,Y,Y,Y,Y,Y,Y,Y,X] rfl rfl (take_ofW HT_.out HW_.out a3_) (fun _ _ _ h => h) (Or.inl ⟨by rfl, ?_⟩) hHeld ?_ ?_
       rotate_left
       · rintro w' ⟨s0, s1, s2, s3, s4, s5⟩
         go_simp
         with_reducible rfl
       rotate_left
       · simp only [Act.put, tA, tZ, tS, iL, iW]
         rfl
       refine one_ (i := 8) (N := some 41) #[Y,Y,Y,Y,Y,Y,Y,Y,Y] rfl rfl (one_of HT_.out a3_) (by decide) (fun K hK => ?_)
       refine goes_ Tryz.func22 a3_ rfl #[.agg #[.int .u8 ((rd_T36 x5_1 x8_2).f0), .int .i64 ((rd_T36 x5_1 x8_2).f1), .string ((rd_T36 x5_1 x8_2).f2)], .agg #[.int .u8 ((rd_T36 l0 x6_1).f0), .int .i64 ((rd_T36 l0 x6_1).f1), .string ((rd_T36 l0 x6_1).f2)]] (by rfl) rfl rfl a1_ ?_
       with_reducible refine (r1_Same.calls ((rd_T36 x5_1 x8_2).f0) ((rd_T36 x5_1 x8_2).f1) ((rd_T36 x5_1 x8_2).f2) ((rd_T36 l0 x6_1).f0) ((rd_T36 l0 x6_1).f1) ((rd_T36 l0 x6_1).f2) false _ A16.out).mono ?_
       rintro e w23 ⟨rfl, hb⟩
       have HS0_ := (hb.cell (bLC_ _ _ (hHeld.1))).trans (hHeld.1)
       have HS1_ := (hb.cell (bLC_ _ _ (hHeld.2.1))).trans (hHeld.2.1)
       have HS2_ := (hb.cell (bLC_ _ _ (hHeld.2.2.1))).trans (hHeld.2.2.1)
       refine ⟨_, rfl, ?_⟩
       have n0_ := kA_ (Kd.R_below a31_ hb)
       have n1_ := kA_ (below_step a0_ hb)
       clear HO_5
       clear HB
       have HO_5 := n0_
       have HB := n1_
       clear n0_ n1_
       (try clear hb)
       (try clear hb2)
       (try clear hk)
       (try clear hi)
       refine hK.out _ _ ⟨HS0_, HS1_, HS2_, (cB_ HB.out hw271_0), (cB_ HB.out hw271_1), (cB_ HB.out hw271_2)⟩ (fun hHeld => ?_)
       clear hK K
       refine norm_ (a' := ?_) ?_ ?_
       rotate_left
       · show Act.put _ (some 41) _ = _
         simp only [Act.put, tA, tZ, tS, iL, iW]
         rfl
       refine done_ (done_of HT_.out a3_) ?_
       try go_wp2
       go_roundg kj4
       case measure => have := HK1.out; have := HK2.out; have := HJ4.out; omega
       case rel => exact ⟨(x7_2), (wrap64 (x8_2 + 1)), a4_, a4_, H', ⟨a81_⟩, ⟨a16_⟩, ⟨a2_⟩⟩
def r6_total.l0 : Nat → List (S36) → Int → Int → Int → Option (Int × Int)
 | 0, _, _, _, _ => none
 | k + 1, x0, x4, x5, x6 => if x6 < (x0.length : Int) then (if 0 ≤ x6 then (r6_total.l0 k x0 (wrap64 ((wrap64 (x4 + (((rd_T36 x0 x6).f1) / 4294967296))) + ((wrap64 (x5 + (Go.bits .and .i64 ((rd_T36 x0 x6).f1) 4294967295))) / 4294967296))) (Go.bits .and .i64 (wrap64 (x5 + (Go.bits .and .i64 ((rd_T36 x0 x6).f1) 4294967295))) 4294967295) (wrap64 (x6 + 1))) else (none)) else (some (x4, x5))
def r6_total.f (k : Nat) (l0 : List (S36)) : Option (Int × Int) := r6_total.l0 k l0 0 0 0
theorem r6_total.calls (k : Nat) (A0 : Option Addr) (c0 : Nat) (l0 : List (S36)) (r1 : Int) (r2 : Int) (w : World) (hr0 : Kd.C k36 w A0 l0.length l0) (hc0 : l0.length ≤ c0) (h : r6_total.f k l0 = some (r1, r2)) :
 Calls Tryz.prog 84 #[.slice A0 l0.length c0] w fun e w' => e = .returned (.tuple #[.int .i64 r1, .int .i64 r2]) ∧ Drawn0 w w' := by
 have HR0 := kA_ hr0
 have HC0 := kA_ hc0
 clear hr0 hc0
 have H : (r6_total.l0 k l0 0 0 0) = some (r1, r2) := h
 clear h
 have H' := kA_ H
 clear H
 go_enter Tryz.func84, Tryz.ntmps84
 go_wp2
 go_loopg [4, 5, 6] k (fun kq v4 v5 v6 w' => ∃ (x4_1 : Int) (x5_1 : Int) (x6_1 : Int), v4 = .int .i64 x4_1 ∧ v5 = .int .i64 x5_1 ∧ v6 = .int .i64 x6_1 ∧ Aside0 (r6_total.l0 kq l0 x4_1 x5_1 x6_1 = some (r1, r2)) ∧ Aside0 (kq ≤ k) ∧ Drawn0 w w')
 case atStart => exact ⟨(0), (0), (0), a4_, a4_, a4_, H', ⟨Nat.le_refl _⟩, a12_⟩
 case round =>
  clear H'
  obtain ⟨x4_1, x5_1, x6_1, rfl, rfl, rfl, HA, HK1, ⟨m1, rfl⟩⟩ := hrel
  cases gk with
  | zero => exact absurd HA.out (by simp [r6_total.l0])
  | succ k1 =>
   have H := HA.out
   clear HA
   simp only [r6_total.l0] at H
   by_cases c2 : x6_1 < (l0.length : Int)
   rotate_left
   · rw [if_neg c2] at H
     have c2b0 : decide (x6_1 < (l0.length : Int)) = false := dF_ c2
     clear c2
     simp only [Option.some.injEq, Prod.mk.injEq] at H
     obtain ⟨rfl, rfl⟩ := H
     go_wp2
     go_ret2
     exact ⟨a29_, a12_⟩
   rw [if_pos c2] at H
   have c2b0 : decide (x6_1 < (l0.length : Int)) = true := dT_ c2
   clear c2
   by_cases c3 : 0 ≤ x6_1
   rotate_left
   · rw [if_neg c3] at H
     exact absurd H (by simp)
   rw [if_pos c3] at H
   have c3b0 : decide (0 ≤ x6_1) = true := dT_ c3
   clear c3
   have H' := kA_ H
   clear H
   have p277 : 0 ≤ (x6_1 : Int) := oT_ (by assumption)
   have q277 : x6_1 < (l0.length : Int) := oT_ (by assumption)
   obtain ⟨ad277, e277, hx277_0, hx277_1, hx277_2⟩ := at_T36 HR0.out x6_1 p277 q277
   cases e277
   replace p277 := eq_true p277
   replace q277 := eq_true q277
   go_wp2
   go_roundg k1
   case measure => have := HK1.out; omega
   case rel => exact ⟨(wrap64 ((wrap64 (x4_1 + (((rd_T36 l0 x6_1).f1) / 4294967296))) + ((wrap64 (x5_1 + (Go.bits .and .i64 ((rd_T36 l0 x6_1).f1) 4294967295))) / 4294967296))), (Go.bits .and .i64 (wrap64 (x5_1 + (Go.bits .and .i64 ((rd_T36 l0 x6_1).f1) 4294967295))) 4294967295), (wrap64 (x6_1 + 1)), a4_, a4_, a4_, H', ⟨by have := HK1.out; omega⟩, a12_⟩
def r6_sum.f (k : Nat) (l0 : List (S36)) : Option (Int × Int × ByteArray × Int) := (r6_total.f k l0).bind fun bt279 => (if bt279.1 < (-2147483648) then (some (0, 0, (⟨#[]⟩ : ByteArray), 4)) else (if bt279.1 ≥ 2147483648 then (some (0, 0, (⟨#[]⟩ : ByteArray), 4)) else ((r1_Int.f (wrap64 ((wrap64 (bt279.1 * 4294967296)) + bt279.2))).bind fun bt281 => (some (bt281.1, bt281.2.1, bt281.2.2, 0)))))
theorem r6_sum.calls (k : Nat) (A0 : Option Addr) (c0 : Nat) (l0 : List (S36)) (r1 : Int) (r2 : Int) (r3 : ByteArray) (r4 : Int) (w : World) (hr0 : Kd.C k36 w A0 l0.length l0) (hc0 : l0.length ≤ c0) (h : r6_sum.f k l0 = some (r1, r2, r3, r4)) :
 Calls Tryz.prog 53 #[.slice A0 l0.length c0] w fun e w' => e = .returned (.agg #[.int .u8 r1, .int .i64 r2, .string r3, .int .i64 r4]) ∧ Below w.heap.size w w' := by
 have hu38 := Tryz.underlying38
 have HR0 := kA_ hr0
 have HC0 := kA_ hc0
 clear hr0 hc0
 have HB := kA_ (Below.refl w.heap.size w)
 have H : ((r6_total.f k l0).bind fun bt279 => (if bt279.1 < (-2147483648) then (some (0, 0, (⟨#[]⟩ : ByteArray), 4)) else (if bt279.1 ≥ 2147483648 then (some (0, 0, (⟨#[]⟩ : ByteArray), 4)) else ((r1_Int.f (wrap64 ((wrap64 (bt279.1 * 4294967296)) + bt279.2))).bind fun bt281 => (some (bt281.1, bt281.2.1, bt281.2.2, 0)))))) = some (r1, r2, r3, r4) := h
 clear h
 replace H := Option.bind_eq_some_iff.mp H
 obtain ⟨⟨t279, t280⟩, A20, H⟩ := H
 replace H : (if t279 < (-2147483648) then (some (0, 0, (⟨#[]⟩ : ByteArray), 4)) else (if t279 ≥ 2147483648 then (some (0, 0, (⟨#[]⟩ : ByteArray), 4)) else ((r1_Int.f (wrap64 ((wrap64 (t279 * 4294967296)) + t280))).bind fun bt281 => (some (bt281.1, bt281.2.1, bt281.2.2, 0))))) = some (r1, r2, r3, r4) := H
 have A2 := kA_ A20
 clear A20
 by_cases c3 : t279 < (-2147483648)
 · rw [if_pos c3] at H
   have c3b0 : decide (t279 < (-2147483648)) = true := dT_ c3
   clear c3
   simp only [Option.some.injEq, Prod.mk.injEq] at H
   obtain ⟨rfl, rfl, rfl, rfl⟩ := H
   go_enter Tryz.func53, Tryz.ntmps53
   go_wp2_with (first | ((with_reducible refine gate_dst (N := 2) rfl ?_); refine box_event ?hg (N := 2) ?hd (cs := #[.int .u8 0, .int .i64 0, .string (⟨#[]⟩ : ByteArray), .int .i64 0]) (t := 38) ?hr ?_; (case hd => rfl); (case hg => rfl); (case hr => first | (go_simp; done) | (go_simp; rfl)); intro gb278 hg w4 hbox hb; have n0_ := kA_ (below_step a0_ hb); have n1_ := kA_ (hbox); have n2_ := kA_ ((a7_ : w.heap.size ≤ gb278)); have n3_ := kA_ ((a7_ : w.heap.size ≤ gb278)); clear HB; have HB := n0_; have BK278 := n1_; have GW278 := n2_; have GE278 := n3_; clear n0_ n1_ n2_ n3_; clear hb hbox hg) | ((with_reducible refine gate_callee (f := 84) rfl ?_); refine goesL_ (some 7) rfl rfl Tryz.func84 a3_ rfl #[.slice A0 l0.length c0] rfl a1_ ?_; (with_reducible refine (r6_total.calls k _ _ l0 t279 t280 _ ?side1 ?side2 A2.out).mono ?_); (case side1 => repeat (first | exact (Kd.C_below HR0.out HB.out) | (with_reducible refine Kd.cA_ ?_ _) | (with_reducible refine Kd.cN_ ?_ _) | (with_reducible refine Kd.cD_ ?_))); (case side2 => exact HC0.out); rintro e w' ⟨rfl, ⟨nd, rfl⟩⟩; refine ⟨_, rfl, ?_⟩; (try (rw [drewN_self w4]; generalize hq_ : World.drewN w4 _ = w4; have n0_ : Aside0 (w4.heap[gb278]? = some (.cells #[.int .u8 0, .int .i64 0, .string (⟨#[]⟩ : ByteArray), .int .i64 0] 38 (0, 0))) := ⟨by rw [← hq_]; exact a61_⟩; have n1_ : Aside0 (Below w.heap.size w w4) := ⟨by rw [← hq_]; exact a57_⟩; clear BK278 HB hq_; have BK278 := n0_; have HB := n1_; clear n0_ n1_)); have hcz5_0 : w4.cell? ⟨gb278, 0, none⟩ = some (.int .u8 0) := (blk_cell BK278.out 0).trans rfl; have hcz5_1 : w4.cell? ⟨gb278, 1, none⟩ = some (.int .i64 0) := (blk_cell BK278.out 1).trans rfl; have hcz5_2 : w4.cell? ⟨gb278, 2, none⟩ = some (.string (⟨#[]⟩ : ByteArray)) := (blk_cell BK278.out 2).trans rfl; have hcz5_3 : w4.cell? ⟨gb278, 3, none⟩ = some (.int .i64 0) := (blk_cell BK278.out 3).trans rfl; have hfz5_0 := blk_frozen BK278.out 0; have hfz5_1 := blk_frozen BK278.out 1; have hfz5_2 := blk_frozen BK278.out 2; have hfz5_3 := blk_frozen BK278.out 3))
   refine bodyPost_ret (results_cell_row rfl _ _ gb278 38 #[.int .u8 0, .int .i64 0, .string (⟨#[]⟩ : ByteArray), .int .i64 4] (0, 0) _ rfl a20_ Tryz.underlying38 rfl a3_) rfl ?_
   exact ⟨a5_, a72_⟩
 rw [if_neg c3] at H
 have c3b0 : decide (t279 < (-2147483648)) = false := dF_ c3
 clear c3
 by_cases c6 : t279 ≥ 2147483648
 · rw [if_pos c6] at H
   have c6b0 : decide (2147483648 ≤ t279) = true := dT_ c6
   clear c6
   simp only [Option.some.injEq, Prod.mk.injEq] at H
   obtain ⟨rfl, rfl, rfl, rfl⟩ := H
   go_enter Tryz.func53, Tryz.ntmps53
   go_wp2_with (first | ((with_reducible refine gate_dst (N := 2) rfl ?_); refine box_event ?hg (N := 2) ?hd (cs := #[.int .u8 0, .int .i64 0, .string (⟨#[]⟩ : ByteArray), .int .i64 0]) (t := 38) ?hr ?_; (case hd => rfl); (case hg => rfl); (case hr => first | (go_simp; done) | (go_simp; rfl)); intro gb278 hg w7 hbox hb; have n0_ := kA_ (below_step a0_ hb); have n1_ := kA_ (hbox); have n2_ := kA_ ((a7_ : w.heap.size ≤ gb278)); have n3_ := kA_ ((a7_ : w.heap.size ≤ gb278)); clear HB; have HB := n0_; have BK278 := n1_; have GW278 := n2_; have GE278 := n3_; clear n0_ n1_ n2_ n3_; clear hb hbox hg) | ((with_reducible refine gate_callee (f := 84) rfl ?_); refine goesL_ (some 7) rfl rfl Tryz.func84 a3_ rfl #[.slice A0 l0.length c0] rfl a1_ ?_; (with_reducible refine (r6_total.calls k _ _ l0 t279 t280 _ ?side1 ?side2 A2.out).mono ?_); (case side1 => repeat (first | exact (Kd.C_below HR0.out HB.out) | (with_reducible refine Kd.cA_ ?_ _) | (with_reducible refine Kd.cN_ ?_ _) | (with_reducible refine Kd.cD_ ?_))); (case side2 => exact HC0.out); rintro e w' ⟨rfl, ⟨nd, rfl⟩⟩; refine ⟨_, rfl, ?_⟩; (try (rw [drewN_self w7]; generalize hq_ : World.drewN w7 _ = w7; have n0_ : Aside0 (w7.heap[gb278]? = some (.cells #[.int .u8 0, .int .i64 0, .string (⟨#[]⟩ : ByteArray), .int .i64 0] 38 (0, 0))) := ⟨by rw [← hq_]; exact a61_⟩; have n1_ : Aside0 (Below w.heap.size w w7) := ⟨by rw [← hq_]; exact a57_⟩; clear BK278 HB hq_; have BK278 := n0_; have HB := n1_; clear n0_ n1_)); have hcz8_0 : w7.cell? ⟨gb278, 0, none⟩ = some (.int .u8 0) := (blk_cell BK278.out 0).trans rfl; have hcz8_1 : w7.cell? ⟨gb278, 1, none⟩ = some (.int .i64 0) := (blk_cell BK278.out 1).trans rfl; have hcz8_2 : w7.cell? ⟨gb278, 2, none⟩ = some (.string (⟨#[]⟩ : ByteArray)) := (blk_cell BK278.out 2).trans rfl; have hcz8_3 : w7.cell? ⟨gb278, 3, none⟩ = some (.int .i64 0) := (blk_cell BK278.out 3).trans rfl; have hfz8_0 := blk_frozen BK278.out 0; have hfz8_1 := blk_frozen BK278.out 1; have hfz8_2 := blk_frozen BK278.out 2; have hfz8_3 := blk_frozen BK278.out 3))
   refine bodyPost_ret (results_cell_row rfl _ _ gb278 38 #[.int .u8 0, .int .i64 0, .string (⟨#[]⟩ : ByteArray), .int .i64 4] (0, 0) _ rfl a20_ Tryz.underlying38 rfl a3_) rfl ?_
   exact ⟨a5_, a72_⟩
 rw [if_neg c6] at H
 have c6b0 : decide (2147483648 ≤ t279) = false := dF_ c6
 clear c6
 replace H := Option.bind_eq_some_iff.mp H
 obtain ⟨⟨t281, t282, t283⟩, A90, H⟩ := H
 replace H : (some (t281, t282, t283, 0)) = some (r1, r2, r3, r4) := H
 have A9 := kA_ A90
 clear A90
 simp only [Option.some.injEq, Prod.mk.injEq] at H
 obtain ⟨rfl, rfl, rfl, rfl⟩ := H
 go_enter Tryz.func53, Tryz.ntmps53
 go_wp2_with (first | ((with_reducible refine gate_dst (N := 2) rfl ?_); refine box_event ?hg (N := 2) ?hd (cs := #[.int .u8 0, .int .i64 0, .string (⟨#[]⟩ : ByteArray), .int .i64 0]) (t := 38) ?hr ?_; (case hd => rfl); (case hg => rfl); (case hr => first | (go_simp; done) | (go_simp; rfl)); intro gb278 hg w10 hbox hb; have n0_ := kA_ (below_step a0_ hb); have n1_ := kA_ (hbox); have n2_ := kA_ ((a7_ : w.heap.size ≤ gb278)); have n3_ := kA_ ((a7_ : w.heap.size ≤ gb278)); clear HB; have HB := n0_; have BK278 := n1_; have GW278 := n2_; have GE278 := n3_; clear n0_ n1_ n2_ n3_; clear hb hbox hg) | ((with_reducible refine gate_callee (f := 84) rfl ?_); refine goesL_ (some 7) rfl rfl Tryz.func84 a3_ rfl #[.slice A0 l0.length c0] rfl a1_ ?_; (with_reducible refine (r6_total.calls k _ _ l0 t279 t280 _ ?side1 ?side2 A2.out).mono ?_); (case side1 => repeat (first | exact (Kd.C_below HR0.out HB.out) | (with_reducible refine Kd.cA_ ?_ _) | (with_reducible refine Kd.cN_ ?_ _) | (with_reducible refine Kd.cD_ ?_))); (case side2 => exact HC0.out); rintro e w' ⟨rfl, ⟨nd, rfl⟩⟩; refine ⟨_, rfl, ?_⟩; (try (rw [drewN_self w10]; generalize hq_ : World.drewN w10 _ = w10; have n0_ : Aside0 (w10.heap[gb278]? = some (.cells #[.int .u8 0, .int .i64 0, .string (⟨#[]⟩ : ByteArray), .int .i64 0] 38 (0, 0))) := ⟨by rw [← hq_]; exact a61_⟩; have n1_ : Aside0 (Below w.heap.size w w10) := ⟨by rw [← hq_]; exact a57_⟩; clear BK278 HB hq_; have BK278 := n0_; have HB := n1_; clear n0_ n1_))) | ((with_reducible refine gate_callee (f := 43) rfl ?_); refine goesL_ (some 21) rfl rfl Tryz.func43 a3_ rfl #[.int .i64 (wrap64 ((wrap64 (t279 * 4294967296)) + t280))] rfl a1_ ?_; (with_reducible refine (r1_Int.calls (wrap64 ((wrap64 (t279 * 4294967296)) + t280)) t281 t282 t283 _ A9.out).mono ?_); rintro e w11 ⟨rfl, hb⟩; refine ⟨_, rfl, ?_⟩; have n0_ := kA_ (blk_below (g := gb278) (o := .cells #[.int .u8 0, .int .i64 0, .string (⟨#[]⟩ : ByteArray), .int .i64 0] 38 (0, 0)) a61_ hb); have n1_ := kA_ (below_step a57_ hb); clear BK278; clear HB; have BK278 := n0_; have HB := n1_; clear n0_ n1_; (try clear hb); (try clear hb2); (try clear hk); (try clear hi); have hcz12_0 : w11.cell? ⟨gb278, 0, none⟩ = some (.int .u8 0) := (blk_cell BK278.out 0).trans rfl; have hcz12_1 : w11.cell? ⟨gb278, 1, none⟩ = some (.int .i64 0) := (blk_cell BK278.out 1).trans rfl; have hcz12_2 : w11.cell? ⟨gb278, 2, none⟩ = some (.string (⟨#[]⟩ : ByteArray)) := (blk_cell BK278.out 2).trans rfl; have hcz12_3 : w11.cell? ⟨gb278, 3, none⟩ = some (.int .i64 0) := (blk_cell BK278.out 3).trans rfl; have hfz12_0 := blk_frozen BK278.out 0; have hfz12_1 := blk_frozen BK278.out 1; have hfz12_2 := blk_frozen BK278.out 2; have hfz12_3 := blk_frozen BK278.out 3))
 refine bodyPost_ret (results_cell_row rfl _ _ gb278 38 #[.int .u8 t281, .int .i64 t282, .string t283, .int .i64 0] (0, 0) _ rfl (by (with_reducible repeat (first | refine blk_drewN ?_ _ | refine blk_drew ?_ | refine blk_alloc ?_ _)); refine blk_put (cs := #[.int .u8 t281, .int .i64 t282, .string t283, .int .i64 0]) ?_ 3 _ rfl; (with_reducible repeat (first | refine blk_drewN ?_ _ | refine blk_drew ?_ | refine blk_alloc ?_ _)); refine blk_put (cs := #[.int .u8 t281, .int .i64 t282, .string (⟨#[]⟩ : ByteArray), .int .i64 0]) ?_ 2 _ rfl; (with_reducible repeat (first | refine blk_drewN ?_ _ | refine blk_drew ?_ | refine blk_alloc ?_ _)); refine blk_put (cs := #[.int .u8 t281, .int .i64 0, .string (⟨#[]⟩ : ByteArray), .int .i64 0]) ?_ 1 _ rfl; (with_reducible repeat (first | refine blk_drewN ?_ _ | refine blk_drew ?_ | refine blk_alloc ?_ _)); refine blk_put (cs := #[.int .u8 0, .int .i64 0, .string (⟨#[]⟩ : ByteArray), .int .i64 0]) ?_ 0 _ rfl; (with_reducible repeat (first | refine blk_drewN ?_ _ | refine blk_drew ?_ | refine blk_alloc ?_ _)); exact BK278.out) Tryz.underlying38 rfl a3_) rfl ?_
 exact ⟨a5_, a72_⟩
def r6_extreme.l0 : Nat → List (S36) → Bool → Int → Int → Int → ByteArray → Option (Int × Int × ByteArray × Int)
 | 0, _, _, _, _, _, _ => none
 | k + 1, x0, x1, x6, x287000, x287001, x287002 => if x6 < (x0.length : Int) then (if 0 ≤ x6 then ((r1_Compare.f k ((rd_T36 x0 x6).f0) ((rd_T36 x0 x6).f1) ((rd_T36 x0 x6).f2) x287000 x287001 x287002).bind fun t288 => (if x1 = true then (if t288 > 0 then (r6_extreme.l0 k x0 x1 (wrap64 (x6 + 1)) ((rd_T36 x0 x6).f0) ((rd_T36 x0 x6).f1) ((rd_T36 x0 x6).f2)) else (r6_extreme.l0 k x0 x1 (wrap64 (x6 + 1)) x287000 x287001 x287002)) else (if t288 < 0 then (r6_extreme.l0 k x0 x1 (wrap64 (x6 + 1)) ((rd_T36 x0 x6).f0) ((rd_T36 x0 x6).f1) ((rd_T36 x0 x6).f2)) else (r6_extreme.l0 k x0 x1 (wrap64 (x6 + 1)) x287000 x287001 x287002)))) else (none)) else (some (x287000, x287001, x287002, 0))
def r6_extreme.f (k : Nat) (l0 : List (S36)) (a1 : Bool) : Option (Int × Int × ByteArray × Int) := if 0 < (l0.length : Int) then (r6_extreme.l0 k l0 a1 1 ((rd_T36 l0 0).f0) ((rd_T36 l0 0).f1) ((rd_T36 l0 0).f2)) else (none)
theorem r6_extreme.calls (k : Nat) (A0 : Option Addr) (c0 : Nat) (l0 : List (S36)) (a1 : Bool) (r1 : Int) (r2 : Int) (r3 : ByteArray) (r4 : Int) (w : World) (hr0 : Kd.C k36 w A0 l0.length l0) (hc0 : l0.length ≤ c0) (h : r6_extreme.f k l0 a1 = some (r1, r2, r3, r4)) :
 Calls Tryz.prog 54 #[.slice A0 l0.length c0, .bool a1] w fun e w' => e = .returned (.agg #[.int .u8 r1, .int .i64 r2, .string r3, .int .i64 r4]) ∧ Below w.heap.size w w' := by
 have hu38 := Tryz.underlying38
 have hu36 := Tryz.underlying36
 have HR0 := kA_ hr0
 have HC0 := kA_ hc0
 clear hr0 hc0
 have HB := kA_ (Below.refl w.heap.size w)
 have H : (if 0 < (l0.length : Int) then (r6_extreme.l0 k l0 a1 1 ((rd_T36 l0 0).f0) ((rd_T36 l0 0).f1) ((rd_T36 l0 0).f2)) else (none)) = some (r1, r2, r3, r4) := h
 clear h
 by_cases c3 : 0 < (l0.length : Int)
 rotate_left
 · rw [if_neg c3] at H
   exact absurd H (by simp)
 rw [if_pos c3] at H
 have c3b0 : decide (0 < (l0.length : Int)) = true := dT_ c3
 have c3b1 : decide (0 < l0.length) = true := dT_ (by omega)
 clear c3
 have H' := kA_ H
 clear H
 go_enter Tryz.func54, Tryz.ntmps54
 go_wp2_with (first | ((with_reducible refine gate_dst (N := 4) rfl ?_); refine box_event ?hg (N := 4) ?hd (cs := #[.int .u8 0, .int .i64 0, .string (⟨#[]⟩ : ByteArray), .int .i64 0]) (t := 38) ?hr ?_; (case hd => rfl); (case hg => rfl); (case hr => first | (go_simp; done) | (go_simp; rfl)); intro gb284 hg w4 hbox hb; have n0_ := kA_ (below_step a0_ hb); have n1_ := kA_ (hbox); have n2_ := kA_ ((a7_ : w.heap.size ≤ gb284)); have n3_ := kA_ ((a7_ : w.heap.size ≤ gb284)); clear HB; have HB := n0_; have BK284 := n1_; have GW284 := n2_; have GE284 := n3_; clear n0_ n1_ n2_ n3_; clear hb hbox hg; have p285 : 0 ≤ (0 : Int) := (by omega); have q285 : 0 < (l0.length : Int) := oT_ (by assumption); obtain ⟨ad285, e285, hx285_0, hx285_1, hx285_2⟩ := at_T36 HR0.out 0 p285 q285; cases e285; have qi285 : (0 < l0.length) = True := eq_true (by omega); (try rw [show ((0 : Int)).toNat = 0 from rfl] at hx285_0); (try rw [show 0 * 3 = 0 from rfl] at hx285_0); (try rw [Addr.add_zero'] at hx285_0); (try rw [show ((0 : Int)).toNat = 0 from rfl] at hx285_1); (try rw [show 0 * 3 = 0 from rfl] at hx285_1); (try rw [Addr.add_zero'] at hx285_1); (try rw [show ((0 : Int)).toNat = 0 from rfl] at hx285_2); (try rw [show 0 * 3 = 0 from rfl] at hx285_2); (try rw [Addr.add_zero'] at hx285_2); replace hx285_0 := cB_ HB.out hx285_0; replace hx285_1 := cB_ HB.out hx285_1; replace hx285_2 := cB_ HB.out hx285_2; replace p285 := eq_true p285; replace q285 := eq_true q285) | ((with_reducible refine gate_dst (N := 5) rfl ?_); refine box_event ?hg (N := 5) ?hd (cs := #[.int .u8 0, .int .i64 0, .string (⟨#[]⟩ : ByteArray)]) (t := 36) ?hr ?_; (case hd => rfl); (case hg => rfl); (case hr => first | (go_simp; done) | (go_simp; rfl)); intro gb286 hg w5 hbox hb; have n0_ := kA_ (blk_below (g := gb284) (o := .cells #[.int .u8 0, .int .i64 0, .string (⟨#[]⟩ : ByteArray), .int .i64 0] 38 (0, 0)) a35_ hb); have n1_ := kA_ (below_step a75_ hb); have n2_ := kA_ (hbox); have n3_ := kA_ ((by rw [hg]; exact (below_size a75_) : w.heap.size ≤ gb286)); have n4_ := kA_ ((by rw [hg]; exact (below_size a75_) : w.heap.size ≤ gb286)); have n5_ := kA_ ((by rw [hg]; exact Nat.ne_of_lt (blk_lt (g := gb284) (o := .cells #[.int .u8 0, .int .i64 0, .string (⟨#[]⟩ : ByteArray), .int .i64 0] 38 (0, 0)) a35_) : gb284 ≠ gb286)); have n6_ := kA_ ((by rw [hg]; exact Nat.ne_of_gt (blk_lt (g := gb284) (o := .cells #[.int .u8 0, .int .i64 0, .string (⟨#[]⟩ : ByteArray), .int .i64 0] 38 (0, 0)) a35_) : gb286 ≠ gb284)); clear BK284; clear HB; have BK284 := n0_; have HB := n1_; have BK286 := n2_; have GW286 := n3_; have GE286 := n4_; have NB284_286 := n5_; have NB286_284 := n6_; clear n0_ n1_ n2_ n3_ n4_ n5_ n6_; clear hb hbox hg; have hnb6 := NB286_284.out; have hnc6 := NB284_286.out; have hcz7_0 : w5.cell? ⟨gb286, 0, none⟩ = some (.int .u8 0) := (blk_cell BK286.out 0).trans rfl; have hcz7_1 : w5.cell? ⟨gb286, 1, none⟩ = some (.int .i64 0) := (blk_cell BK286.out 1).trans rfl; have hcz7_2 : w5.cell? ⟨gb286, 2, none⟩ = some (.string (⟨#[]⟩ : ByteArray)) := (blk_cell BK286.out 2).trans rfl; have hfz7_0 := blk_frozen BK286.out 0; have hfz7_1 := blk_frozen BK286.out 1; have hfz7_2 := blk_frozen BK286.out 2))
 go_loopg [6] k (fun kq v6 w' => ∃ (x6_1 : Int) (x287000_1 : Int) (x287001_1 : Int) (x287002_1 : ByteArray), v6 = .int .i64 x6_1 ∧ Aside0 (r6_extreme.l0 kq l0 a1 x6_1 x287000_1 x287001_1 x287002_1 = some (r1, r2, r3, r4)) ∧ Aside0 (kq ≤ k) ∧ Aside0 (w'.heap[gb284]? = some (.cells #[.int .u8 0, .int .i64 0, .string (⟨#[]⟩ : ByteArray), .int .i64 0] 38 (0, 0))) ∧ Aside0 (w'.heap[gb286]? = some (.cells #[.int .u8 x287000_1, .int .i64 x287001_1, .string x287002_1] 36 (0, 0))) ∧ Aside0 (Below w.heap.size w w'))
 case atStart => exact ⟨(1), ((rd_T36 l0 0).f0), ((rd_T36 l0 0).f1), ((rd_T36 l0 0).f2), a4_, H', ⟨Nat.le_refl _⟩, ⟨a17_⟩, ⟨by (with_reducible repeat (first | refine blk_drewN ?_ _ | refine blk_drew ?_ | refine blk_alloc ?_ _)); refine blk_put (cs := #[.int .u8 ((rd_T36 l0 0).f0), .int .i64 ((rd_T36 l0 0).f1), .string (⟨#[]⟩ : ByteArray)]) ?_ 2 _ rfl; (with_reducible repeat (first | refine blk_drewN ?_ _ | refine blk_drew ?_ | refine blk_alloc ?_ _)); refine blk_put (cs := #[.int .u8 ((rd_T36 l0 0).f0), .int .i64 0, .string (⟨#[]⟩ : ByteArray)]) ?_ 1 _ rfl; (with_reducible repeat (first | refine blk_drewN ?_ _ | refine blk_drew ?_ | refine blk_alloc ?_ _)); refine blk_put (cs := #[.int .u8 0, .int .i64 0, .string (⟨#[]⟩ : ByteArray)]) ?_ 0 _ rfl; (with_reducible repeat (first | refine blk_drewN ?_ _ | refine blk_drew ?_ | refine blk_alloc ?_ _)); exact BK286.out⟩, ⟨a37_⟩⟩
 case round =>
  clear H'
  try clear p2
  try clear q2
  try clear hx2
  try clear qi2
  try clear c3
  try clear c3b0
  try clear c3b1
  try clear c5
  try clear c6
  try clear hcz7_0
  try clear hcz7_1
  try clear hcz7_2
  try clear hfz7_0
  try clear hfz7_1
  try clear hfz7_2
  try clear hx285_0
  try clear hx285_1
  try clear hx285_2
  try clear p285
  try clear q285
  obtain ⟨x6_1, x287000_1, x287001_1, x287002_1, rfl, HA, HK1, BK284, BK286, HB⟩ := hrel
  cases gk with
  | zero => exact absurd HA.out (by simp [r6_extreme.l0])
  | succ k1 =>
   have H := HA.out
   clear HA
   simp only [r6_extreme.l0] at H
   by_cases c8 : x6_1 < (l0.length : Int)
   rotate_left
   · rw [if_neg c8] at H
     have c8b0 : decide (x6_1 < (l0.length : Int)) = false := dF_ c8
     clear c8
     simp only [Option.some.injEq, Prod.mk.injEq] at H
     obtain ⟨rfl, rfl, rfl, rfl⟩ := H
     have hnb26 := NB286_284.out
     have hnc26 := NB284_286.out
     have hcz27_0 : wr.cell? ⟨gb286, 0, none⟩ = some (.int .u8 x287000_1) := (blk_cell BK286.out 0).trans rfl
     have hcz27_1 : wr.cell? ⟨gb286, 1, none⟩ = some (.int .i64 x287001_1) := (blk_cell BK286.out 1).trans rfl
     have hcz27_2 : wr.cell? ⟨gb286, 2, none⟩ = some (.string x287002_1) := (blk_cell BK286.out 2).trans rfl
     have hfz27_0 := blk_frozen BK286.out 0
     have hfz27_1 := blk_frozen BK286.out 1
     have hfz27_2 := blk_frozen BK286.out 2
     have hcz28_0 : wr.cell? ⟨gb284, 0, none⟩ = some (.int .u8 0) := (blk_cell BK284.out 0).trans rfl
     have hcz28_1 : wr.cell? ⟨gb284, 1, none⟩ = some (.int .i64 0) := (blk_cell BK284.out 1).trans rfl
     have hcz28_2 : wr.cell? ⟨gb284, 2, none⟩ = some (.string (⟨#[]⟩ : ByteArray)) := (blk_cell BK284.out 2).trans rfl
     have hcz28_3 : wr.cell? ⟨gb284, 3, none⟩ = some (.int .i64 0) := (blk_cell BK284.out 3).trans rfl
     have hfz28_0 := blk_frozen BK284.out 0
     have hfz28_1 := blk_frozen BK284.out 1
     have hfz28_2 := blk_frozen BK284.out 2
     have hfz28_3 := blk_frozen BK284.out 3
     go_wp2
     refine bodyPost_ret (results_cell_row rfl _ _ gb284 38 #[.int .u8 x287000_1, .int .i64 x287001_1, .string x287002_1, .int .i64 0] (0, 0) _ rfl (by (with_reducible repeat (first | refine blk_drewN ?_ _ | refine blk_drew ?_ | refine blk_alloc ?_ _)); refine blk_put (cs := #[.int .u8 x287000_1, .int .i64 x287001_1, .string x287002_1, .int .i64 0]) ?_ 3 _ rfl; (with_reducible repeat (first | refine blk_drewN ?_ _ | refine blk_drew ?_ | refine blk_alloc ?_ _)); refine blk_put (cs := #[.int .u8 x287000_1, .int .i64 x287001_1, .string (⟨#[]⟩ : ByteArray), .int .i64 0]) ?_ 2 _ rfl; (with_reducible repeat (first | refine blk_drewN ?_ _ | refine blk_drew ?_ | refine blk_alloc ?_ _)); refine blk_put (cs := #[.int .u8 x287000_1, .int .i64 0, .string (⟨#[]⟩ : ByteArray), .int .i64 0]) ?_ 1 _ rfl; (with_reducible repeat (first | refine blk_drewN ?_ _ | refine blk_drew ?_ | refine blk_alloc ?_ _)); refine blk_put (cs := #[.int .u8 0, .int .i64 0, .string (⟨#[]⟩ : ByteArray), .int .i64 0]) ?_ 0 _ rfl; (with_reducible repeat (first | refine blk_drewN ?_ _ | refine blk_drew ?_ | refine blk_alloc ?_ _)); exact BK284.out) Tryz.underlying38 rfl a3_) rfl ?_
     exact ⟨a5_, a37_⟩
   rw [if_pos c8] at H
   have c8b0 : decide (x6_1 < (l0.length : Int)) = true := dT_ c8
   clear c8
   by_cases c9 : 0 ≤ x6_1
   rotate_left
   · rw [if_neg c9] at H
     exact absurd H (by simp)
   rw [if_pos c9] at H
   have c9b0 : decide (0 ≤ x6_1) = true := dT_ c9
   clear c9
   replace H := Option.bind_eq_some_iff.mp H
   obtain ⟨t288, A100, H⟩ := H
   replace H : (if a1 = true then (if t288 > 0 then (r6_extreme.l0 k1 l0 a1 (wrap64 (x6_1 + 1)) ((rd_T36 l0 x6_1).f0) ((rd_T36 l0 x6_1).f1) ((rd_T36 l0 x6_1).f2)) else (r6_extreme.l0 k1 l0 a1 (wrap64 (x6_1 + 1)) x287000_1 x287001_1 x287002_1)) else (if t288 < 0 then (r6_extreme.l0 k1 l0 a1 (wrap64 (x6_1 + 1)) ((rd_T36 l0 x6_1).f0) ((rd_T36 l0 x6_1).f1) ((rd_T36 l0 x6_1).f2)) else (r6_extreme.l0 k1 l0 a1 (wrap64 (x6_1 + 1)) x287000_1 x287001_1 x287002_1))) = some (r1, r2, r3, r4) := H
   have A10 := kA_ A100
   clear A100
   by_cases c11 : a1 = true
   · subst c11
     have H1 : (if t288 > 0 then (r6_extreme.l0 k1 l0 true (wrap64 (x6_1 + 1)) ((rd_T36 l0 x6_1).f0) ((rd_T36 l0 x6_1).f1) ((rd_T36 l0 x6_1).f2)) else (r6_extreme.l0 k1 l0 true (wrap64 (x6_1 + 1)) x287000_1 x287001_1 x287002_1)) = some (r1, r2, r3, r4) := by rw [if_pos rfl] at H; exact H
     clear H
     have H := H1
     clear H1
     by_cases c12 : t288 > 0
     rotate_left
     · rw [if_neg c12] at H
       have c12b0 : decide (0 < t288) = false := dF_ c12
       clear c12
       have H' := kA_ H
       clear H
       try go_wp2
       have n0_ := kA_ (blk_drew BK284.out)
       have n1_ := kA_ (blk_drew BK286.out)
       have n2_ := kA_ (b1_ HB.out)
       clear BK284
       clear BK286
       clear HB
       have BK284 := n0_
       have BK286 := n1_
       have HB := n2_
       clear n0_ n1_ n2_
       have p287 : 0 ≤ (x6_1 : Int) := oT_ (by assumption)
       have q287 : x6_1 < (l0.length : Int) := oT_ (by assumption)
       obtain ⟨ad287, e287, hx287_0, hx287_1, hx287_2⟩ := at_T36 HR0.out x6_1 p287 q287
       have hw287_2 := hx287_2
       have hw287_1 := hx287_1
       have hw287_0 := hx287_0
       obtain rfl : ad285 = ad287 := (by injection e287)
       replace hx287_0 := cB_ HB.out hx287_0
       replace hx287_1 := cB_ HB.out hx287_1
       replace hx287_2 := cB_ HB.out hx287_2
       replace p287 := eq_true p287
       replace q287 := eq_true q287
       refine start_ (n := 7) (S := fun w' => w'.cell? ⟨gb286, 0, none⟩ = some (.int .u8 x287000_1) ∧ w'.cell? ⟨gb286, 1, none⟩ = some (.int .i64 x287001_1) ∧ w'.cell? ⟨gb286, 2, none⟩ = some (.string x287002_1) ∧ w'.cell? (ad285.add ((x6_1).toNat * 3)) = some (.int .u8 ((rd_T36 l0 x6_1).f0)) ∧ w'.cell? ⟨(ad285.add ((x6_1).toNat * 3)).block, (ad285.add ((x6_1).toNat * 3)).off + 1, none⟩ = some (.int .i64 ((rd_T36 l0 x6_1).f1)) ∧ w'.cell? ⟨(ad285.add ((x6_1).toNat * 3)).block, (ad285.add ((x6_1).toNat * 3)).off + 2, none⟩ = some (.string ((rd_T36 l0 x6_1).f2))) (ds := []) #[X,X,X,X,X,X,X] a3_ rfl rfl ⟨(blk_cell BK286.out 0).trans rfl, (blk_cell BK286.out 1).trans rfl, (blk_cell BK286.out 2).trans rfl, (cB_ HB.out hw287_0), (cB_ HB.out hw287_1), (cB_ HB.out hw287_2)⟩ (fun hHeld => ?_)
       generalize wr.drew = w17 at BK284 BK286 HB hx287_0 hx287_1 hx287_2 hHeld ⊢
       refine pure_ (i := 0) (N := some 17) (v := ?_) (a' := ?_) #[Y,X,X,X,X,X,X] rfl rfl a3_ (fun _ _ _ h => h) (Or.inl ⟨by rfl, ?_⟩) ?_ ?_
       rotate_left
       · intro w'
         go_simp
         with_reducible rfl
       rotate_left
       · simp only [Act.put, tA, tZ, tS, iL, iW]
         rfl
       refine pure_ (i := 1) (N := some 18) (v := ?_) (a' := ?_) #[Y,Y,X,X,X,X,X] rfl rfl a3_ (fun _ _ _ h => h) (Or.inl ⟨by rfl, ?_⟩) ?_ ?_
       rotate_left
       · intro w'
         go_simp
         with_reducible rfl
       rotate_left
       · simp only [Act.put, tA, tZ, tS, iL, iW]
         rfl
       refine pure_ (i := 2) (N := some 19) (v := ?_) (a' := ?_) #[Y,Y,Y,X,X,X,X] rfl rfl a3_ (fun _ _ _ h => h) (Or.inl ⟨by rfl, ?_⟩) ?_ ?_
       rotate_left
       · intro w'
         go_simp
         with_reducible rfl
       rotate_left
       · simp only [Act.put, tA, tZ, tS, iL, iW]
         rfl
       refine take_ (i := 3) (N := some 20) (v := ?_) (a' := ?_) #[Y,Y,Y,Y,X,X,X] rfl rfl a3_ (fun _ _ _ h => h) (Or.inl ⟨by rfl, ?_⟩) hHeld ?_ ?_
       rotate_left
       · rintro w' ⟨s0, s1, s2, s3, s4, s5⟩
         go_simp
         with_reducible rfl
       rotate_left
       · simp only [Act.put, tA, tZ, tS, iL, iW]
         rfl
       refine take_ (i := 4) (N := some 21) (v := ?_) (a' := ?_) #[Y,Y,Y,Y,Y,X,X] rfl rfl a3_ (fun _ _ _ h => h) (Or.inl ⟨by rfl, ?_⟩) hHeld ?_ ?_
       rotate_left
       · rintro w' ⟨s0, s1, s2, s3, s4, s5⟩
         go_simp
         with_reducible rfl
       rotate_left
       · simp only [Act.put, tA, tZ, tS, iL, iW]
         rfl
       refine one_ (i := 5) (N := some 22) #[Y,Y,Y,Y,Y,Y,X] rfl rfl a3_ (by decide) (fun K hK => ?_)
       refine goes_ Tryz.func85 a3_ rfl #[.agg #[.int .u8 ((rd_T36 l0 x6_1).f0), .int .i64 ((rd_T36 l0 x6_1).f1), .string ((rd_T36 l0 x6_1).f2)], .agg #[.int .u8 x287000_1, .int .i64 x287001_1, .string x287002_1]] (by rfl) rfl rfl a1_ ?_
       with_reducible refine (r1_Compare.calls k1 ((rd_T36 l0 x6_1).f0) ((rd_T36 l0 x6_1).f1) ((rd_T36 l0 x6_1).f2) x287000_1 x287001_1 x287002_1 t288 _ A10.out).mono ?_
       rintro e w18 ⟨rfl, hb⟩
       refine ⟨_, rfl, ?_⟩
       have n0_ := kA_ (blk_below (g := gb284) (o := .cells #[.int .u8 0, .int .i64 0, .string (⟨#[]⟩ : ByteArray), .int .i64 0] 38 (0, 0)) a35_ hb)
       have n1_ := kA_ (blk_below (g := gb286) (o := .cells #[.int .u8 x287000_1, .int .i64 x287001_1, .string x287002_1] 36 (0, 0)) a62_ hb)
       have n2_ := kA_ (below_step a47_ hb)
       clear BK284
       clear BK286
       clear HB
       have BK284 := n0_
       have BK286 := n1_
       have HB := n2_
       clear n0_ n1_ n2_
       (try clear hb)
       (try clear hb2)
       (try clear hk)
       (try clear hi)
       refine hK.out _ _ ⟨(blk_cell BK286.out 0).trans rfl, (blk_cell BK286.out 1).trans rfl, (blk_cell BK286.out 2).trans rfl, (cB_ HB.out hw287_0), (cB_ HB.out hw287_1), (cB_ HB.out hw287_2)⟩ (fun hHeld => ?_)
       clear hK K
       refine norm_ (a' := ?_) ?_ ?_
       rotate_left
       · show Act.put _ (some 22) _ = _
         simp only [Act.put, tA, tZ, tS, iL, iW]
         rfl
       refine pure_ (i := 6) (N := some 7) (v := ?_) (a' := ?_) #[Y,Y,Y,Y,Y,Y,Y] rfl rfl a3_ (fun _ _ _ h => h) (Or.inl ⟨by rfl, ?_⟩) ?_ ?_
       rotate_left
       · intro w'
         go_simp
         with_reducible rfl
       rotate_left
       · simp only [Act.put, tA, tZ, tS, iL, iW]
         rfl
       refine done_ a3_ ?_
       try go_wp2
       go_roundg k1
       case measure => have := HK1.out; omega
       case rel => exact ⟨(wrap64 (x6_1 + 1)), (x287000_1), (x287001_1), (x287002_1), a4_, H', ⟨by have := HK1.out; omega⟩, ⟨a91_⟩, ⟨a92_⟩, ⟨a37_⟩⟩
     rw [if_pos c12] at H
     have c12b0 : decide (0 < t288) = true := dT_ c12
     clear c12
     have H' := kA_ H
     clear H
     try go_wp2
     have n0_ := kA_ (blk_drew BK284.out)
     have n1_ := kA_ (blk_drew BK286.out)
     have n2_ := kA_ (b1_ HB.out)
     clear BK284
     clear BK286
     clear HB
     have BK284 := n0_
     have BK286 := n1_
     have HB := n2_
     clear n0_ n1_ n2_
     have p287 : 0 ≤ (x6_1 : Int) := oT_ (by assumption)
     have q287 : x6_1 < (l0.length : Int) := oT_ (by assumption)
     obtain ⟨ad287, e287, hx287_0, hx287_1, hx287_2⟩ := at_T36 HR0.out x6_1 p287 q287
     have hw287_2 := hx287_2
     have hw287_1 := hx287_1
     have hw287_0 := hx287_0
     obtain rfl : ad285 = ad287 := (by injection e287)
     replace hx287_0 := cB_ HB.out hx287_0
     replace hx287_1 := cB_ HB.out hx287_1
     replace hx287_2 := cB_ HB.out hx287_2
     replace p287 := eq_true p287
     replace q287 := eq_true q287
     refine start_ (n := 7) (S := fun w' => w'.cell? ⟨gb286, 0, none⟩ = some (.int .u8 x287000_1) ∧ w'.cell? ⟨gb286, 1, none⟩ = some (.int .i64 x287001_1) ∧ w'.cell? ⟨gb286, 2, none⟩ = some (.string x287002_1) ∧ w'.cell? (ad285.add ((x6_1).toNat * 3)) = some (.int .u8 ((rd_T36 l0 x6_1).f0)) ∧ w'.cell? ⟨(ad285.add ((x6_1).toNat * 3)).block, (ad285.add ((x6_1).toNat * 3)).off + 1, none⟩ = some (.int .i64 ((rd_T36 l0 x6_1).f1)) ∧ w'.cell? ⟨(ad285.add ((x6_1).toNat * 3)).block, (ad285.add ((x6_1).toNat * 3)).off + 2, none⟩ = some (.string ((rd_T36 l0 x6_1).f2))) (ds := []) #[X,X,X,X,X,X,X] a3_ rfl rfl ⟨(blk_cell BK286.out 0).trans rfl, (blk_cell BK286.out 1).trans rfl, (blk_cell BK286.out 2).trans rfl, (cB_ HB.out hw287_0), (cB_ HB.out hw287_1), (cB_ HB.out hw287_2)⟩ (fun hHeld => ?_)
     generalize wr.drew = w13 at BK284 BK286 HB hx287_0 hx287_1 hx287_2 hHeld ⊢
     refine pure_ (i := 0) (N := some 17) (v := ?_) (a' := ?_) #[Y,X,X,X,X,X,X] rfl rfl a3_ (fun _ _ _ h => h) (Or.inl ⟨by rfl, ?_⟩) ?_ ?_
     rotate_left
     · intro w'
       go_simp
       with_reducible rfl
     rotate_left
     · simp only [Act.put, tA, tZ, tS, iL, iW]
       rfl
     refine pure_ (i := 1) (N := some 18) (v := ?_) (a' := ?_) #[Y,Y,X,X,X,X,X] rfl rfl a3_ (fun _ _ _ h => h) (Or.inl ⟨by rfl, ?_⟩) ?_ ?_
     rotate_left
     · intro w'
       go_simp
       with_reducible rfl
     rotate_left
     · simp only [Act.put, tA, tZ, tS, iL, iW]
       rfl
     refine pure_ (i := 2) (N := some 19) (v := ?_) (a' := ?_) #[Y,Y,Y,X,X,X,X] rfl rfl a3_ (fun _ _ _ h => h) (Or.inl ⟨by rfl, ?_⟩) ?_ ?_
     rotate_left
     · intro w'
       go_simp
       with_reducible rfl
     rotate_left
     · simp only [Act.put, tA, tZ, tS, iL, iW]
       rfl
     refine take_ (i := 3) (N := some 20) (v := ?_) (a' := ?_) #[Y,Y,Y,Y,X,X,X] rfl rfl a3_ (fun _ _ _ h => h) (Or.inl ⟨by rfl, ?_⟩) hHeld ?_ ?_
     rotate_left
     · rintro w' ⟨s0, s1, s2, s3, s4, s5⟩
       go_simp
       with_reducible rfl
     rotate_left
     · simp only [Act.put, tA, tZ, tS, iL, iW]
       rfl
     refine take_ (i := 4) (N := some 21) (v := ?_) (a' := ?_) #[Y,Y,Y,Y,Y,X,X] rfl rfl a3_ (fun _ _ _ h => h) (Or.inl ⟨by rfl, ?_⟩) hHeld ?_ ?_
     rotate_left
     · rintro w' ⟨s0, s1, s2, s3, s4, s5⟩
       go_simp
       with_reducible rfl
     rotate_left
     · simp only [Act.put, tA, tZ, tS, iL, iW]
       rfl
     refine one_ (i := 5) (N := some 22) #[Y,Y,Y,Y,Y,Y,X] rfl rfl a3_ (by decide) (fun K hK => ?_)
     refine goes_ Tryz.func85 a3_ rfl #[.agg #[.int .u8 ((rd_T36 l0 x6_1).f0), .int .i64 ((rd_T36 l0 x6_1).f1), .string ((rd_T36 l0 x6_1).f2)], .agg #[.int .u8 x287000_1, .int .i64 x287001_1, .string x287002_1]] (by rfl) rfl rfl a1_ ?_
     with_reducible refine (r1_Compare.calls k1 ((rd_T36 l0 x6_1).f0) ((rd_T36 l0 x6_1).f1) ((rd_T36 l0 x6_1).f2) x287000_1 x287001_1 x287002_1 t288 _ A10.out).mono ?_
     rintro e w14 ⟨rfl, hb⟩
     refine ⟨_, rfl, ?_⟩
     have n0_ := kA_ (blk_below (g := gb284) (o := .cells #[.int .u8 0, .int .i64 0, .string (⟨#[]⟩ : ByteArray), .int .i64 0] 38 (0, 0)) a35_ hb)
     have n1_ := kA_ (blk_below (g := gb286) (o := .cells #[.int .u8 x287000_1, .int .i64 x287001_1, .string x287002_1] 36 (0, 0)) a62_ hb)
     have n2_ := kA_ (below_step a47_ hb)
     clear BK284
     clear BK286
     clear HB
     have BK284 := n0_
     have BK286 := n1_
     have HB := n2_
     clear n0_ n1_ n2_
     (try clear hb)
     (try clear hb2)
     (try clear hk)
     (try clear hi)
     refine hK.out _ _ ⟨(blk_cell BK286.out 0).trans rfl, (blk_cell BK286.out 1).trans rfl, (blk_cell BK286.out 2).trans rfl, (cB_ HB.out hw287_0), (cB_ HB.out hw287_1), (cB_ HB.out hw287_2)⟩ (fun hHeld => ?_)
     clear hK K
     refine norm_ (a' := ?_) ?_ ?_
     rotate_left
     · show Act.put _ (some 22) _ = _
       simp only [Act.put, tA, tZ, tS, iL, iW]
       rfl
     refine pure_ (i := 6) (N := some 7) (v := ?_) (a' := ?_) #[Y,Y,Y,Y,Y,Y,Y] rfl rfl a3_ (fun _ _ _ h => h) (Or.inl ⟨by rfl, ?_⟩) ?_ ?_
     rotate_left
     · intro w'
       go_simp
       with_reducible rfl
     rotate_left
     · simp only [Act.put, tA, tZ, tS, iL, iW]
       rfl
     refine done_ a3_ ?_
     have p289 : 0 ≤ (x6_1 : Int) := oT_ (by assumption)
     have q289 : x6_1 < (l0.length : Int) := oT_ (by assumption)
     obtain ⟨ad289, e289, hx289_0, hx289_1, hx289_2⟩ := at_T36 HR0.out x6_1 p289 q289
     obtain rfl : ad285 = ad289 := (by injection e289)
     replace hx289_0 := cB_ HB.out hx289_0
     replace hx289_1 := cB_ HB.out hx289_1
     replace hx289_2 := cB_ HB.out hx289_2
     replace p289 := eq_true p289
     replace q289 := eq_true q289
     have hnb15 := NB286_284.out
     have hnc15 := NB284_286.out
     have hcz16_0 : w14.cell? ⟨gb286, 0, none⟩ = some (.int .u8 x287000_1) := (blk_cell BK286.out 0).trans rfl
     have hcz16_1 : w14.cell? ⟨gb286, 1, none⟩ = some (.int .i64 x287001_1) := (blk_cell BK286.out 1).trans rfl
     have hcz16_2 : w14.cell? ⟨gb286, 2, none⟩ = some (.string x287002_1) := (blk_cell BK286.out 2).trans rfl
     have hfz16_0 := blk_frozen BK286.out 0
     have hfz16_1 := blk_frozen BK286.out 1
     have hfz16_2 := blk_frozen BK286.out 2
     try go_wp2
     go_roundg k1
     case measure => have := HK1.out; omega
     case rel => exact ⟨(wrap64 (x6_1 + 1)), ((rd_T36 l0 x6_1).f0), ((rd_T36 l0 x6_1).f1), ((rd_T36 l0 x6_1).f2), a4_, H', ⟨by have := HK1.out; omega⟩, ⟨a17_⟩, ⟨a28_⟩, ⟨a37_⟩⟩
   replace c11 := Bool.eq_false_iff.mpr c11
   subst c11
   have H1 : (if t288 < 0 then (r6_extreme.l0 k1 l0 false (wrap64 (x6_1 + 1)) ((rd_T36 l0 x6_1).f0) ((rd_T36 l0 x6_1).f1) ((rd_T36 l0 x6_1).f2)) else (r6_extreme.l0 k1 l0 false (wrap64 (x6_1 + 1)) x287000_1 x287001_1 x287002_1)) = some (r1, r2, r3, r4) := by rw [if_neg (show ¬ (false = true) by decide)] at H; exact H
   clear H
   have H := H1
   clear H1
   by_cases c19 : t288 < 0
   rotate_left
   · rw [if_neg c19] at H
     have c19b0 : decide (t288 < 0) = false := dF_ c19
     clear c19
     have H' := kA_ H
     clear H
     try go_wp2
     have n0_ := kA_ (blk_drew BK284.out)
     have n1_ := kA_ (blk_drew BK286.out)
     have n2_ := kA_ (b1_ HB.out)
     clear BK284
     clear BK286
     clear HB
     have BK284 := n0_
     have BK286 := n1_
     have HB := n2_
     clear n0_ n1_ n2_
     have p287 : 0 ≤ (x6_1 : Int) := oT_ (by assumption)
     have q287 : x6_1 < (l0.length : Int) := oT_ (by assumption)
     obtain ⟨ad287, e287, hx287_0, hx287_1, hx287_2⟩ := at_T36 HR0.out x6_1 p287 q287
     have hw287_2 := hx287_2
     have hw287_1 := hx287_1
     have hw287_0 := hx287_0
     obtain rfl : ad285 = ad287 := (by injection e287)
     replace hx287_0 := cB_ HB.out hx287_0
     replace hx287_1 := cB_ HB.out hx287_1
     replace hx287_2 := cB_ HB.out hx287_2
     replace p287 := eq_true p287
     replace q287 := eq_true q287
     refine start_ (n := 7) (S := fun w' => w'.cell? ⟨gb286, 0, none⟩ = some (.int .u8 x287000_1) ∧ w'.cell? ⟨gb286, 1, none⟩ = some (.int .i64 x287001_1) ∧ w'.cell? ⟨gb286, 2, none⟩ = some (.string x287002_1) ∧ w'.cell? (ad285.add ((x6_1).toNat * 3)) = some (.int .u8 ((rd_T36 l0 x6_1).f0)) ∧ w'.cell? ⟨(ad285.add ((x6_1).toNat * 3)).block, (ad285.add ((x6_1).toNat * 3)).off + 1, none⟩ = some (.int .i64 ((rd_T36 l0 x6_1).f1)) ∧ w'.cell? ⟨(ad285.add ((x6_1).toNat * 3)).block, (ad285.add ((x6_1).toNat * 3)).off + 2, none⟩ = some (.string ((rd_T36 l0 x6_1).f2))) (ds := []) #[X,X,X,X,X,X,X] a3_ rfl rfl ⟨(blk_cell BK286.out 0).trans rfl, (blk_cell BK286.out 1).trans rfl, (blk_cell BK286.out 2).trans rfl, (cB_ HB.out hw287_0), (cB_ HB.out hw287_1), (cB_ HB.out hw287_2)⟩ (fun hHeld => ?_)
     generalize wr.drew = w24 at BK284 BK286 HB hx287_0 hx287_1 hx287_2 hHeld ⊢
     refine pure_ (i := 0) (N := some 17) (v := ?_) (a' := ?_) #[Y,X,X,X,X,X,X] rfl rfl a3_ (fun _ _ _ h => h) (Or.inl ⟨by rfl, ?_⟩) ?_ ?_
     rotate_left
     · intro w'
       go_simp
       with_reducible rfl
     rotate_left
     · simp only [Act.put, tA, tZ, tS, iL, iW]
       rfl
     refine pure_ (i := 1) (N := some 18) (v := ?_) (a' := ?_) #[Y,Y,X,X,X,X,X] rfl rfl a3_ (fun _ _ _ h => h) (Or.inl ⟨by rfl, ?_⟩) ?_ ?_
     rotate_left
     · intro w'
       go_simp
       with_reducible rfl
     rotate_left
     · simp only [Act.put, tA, tZ, tS, iL, iW]
       rfl
     refine pure_ (i := 2) (N := some 19) (v := ?_) (a' := ?_) #[Y,Y,Y,X,X,X,X] rfl rfl a3_ (fun _ _ _ h => h) (Or.inl ⟨by rfl, ?_⟩) ?_ ?_
     rotate_left
     · intro w'
       go_simp
       with_reducible rfl
     rotate_left
     · simp only [Act.put, tA, tZ, tS, iL, iW]
       rfl
     refine take_ (i := 3) (N := some 20) (v := ?_) (a' := ?_) #[Y,Y,Y,Y,X,X,X] rfl rfl a3_ (fun _ _ _ h => h) (Or.inl ⟨by rfl, ?_⟩) hHeld ?_ ?_
     rotate_left
     · rintro w' ⟨s0, s1, s2, s3, s4, s5⟩
       go_simp
       with_reducible rfl
     rotate_left
     · simp only [Act.put, tA, tZ, tS, iL, iW]
       rfl
     refine take_ (i := 4) (N := some 21) (v := ?_) (a' := ?_) #[Y,Y,Y,Y,Y,X,X] rfl rfl a3_ (fun _ _ _ h => h) (Or.inl ⟨by rfl, ?_⟩) hHeld ?_ ?_
     rotate_left
     · rintro w' ⟨s0, s1, s2, s3, s4, s5⟩
       go_simp
       with_reducible rfl
     rotate_left
     · simp only [Act.put, tA, tZ, tS, iL, iW]
       rfl
     refine one_ (i := 5) (N := some 22) #[Y,Y,Y,Y,Y,Y,X] rfl rfl a3_ (by decide) (fun K hK => ?_)
     refine goes_ Tryz.func85 a3_ rfl #[.agg #[.int .u8 ((rd_T36 l0 x6_1).f0), .int .i64 ((rd_T36 l0 x6_1).f1), .string ((rd_T36 l0 x6_1).f2)], .agg #[.int .u8 x287000_1, .int .i64 x287001_1, .string x287002_1]] (by rfl) rfl rfl a1_ ?_
     with_reducible refine (r1_Compare.calls k1 ((rd_T36 l0 x6_1).f0) ((rd_T36 l0 x6_1).f1) ((rd_T36 l0 x6_1).f2) x287000_1 x287001_1 x287002_1 t288 _ A10.out).mono ?_
     rintro e w25 ⟨rfl, hb⟩
     refine ⟨_, rfl, ?_⟩
     have n0_ := kA_ (blk_below (g := gb284) (o := .cells #[.int .u8 0, .int .i64 0, .string (⟨#[]⟩ : ByteArray), .int .i64 0] 38 (0, 0)) a35_ hb)
     have n1_ := kA_ (blk_below (g := gb286) (o := .cells #[.int .u8 x287000_1, .int .i64 x287001_1, .string x287002_1] 36 (0, 0)) a62_ hb)
     have n2_ := kA_ (below_step a47_ hb)
     clear BK284
     clear BK286
     clear HB
     have BK284 := n0_
     have BK286 := n1_
     have HB := n2_
     clear n0_ n1_ n2_
     (try clear hb)
     (try clear hb2)
     (try clear hk)
     (try clear hi)
     refine hK.out _ _ ⟨(blk_cell BK286.out 0).trans rfl, (blk_cell BK286.out 1).trans rfl, (blk_cell BK286.out 2).trans rfl, (cB_ HB.out hw287_0), (cB_ HB.out hw287_1), (cB_ HB.out hw287_2)⟩ (fun hHeld => ?_)
     clear hK K
     refine norm_ (a' := ?_) ?_ ?_
     rotate_left
     · show Act.put _ (some 22) _ = _
       simp only [Act.put, tA, tZ, tS, iL, iW]
       rfl
     refine pure_ (i := 6) (N := some 7) (v := ?_) (a' := ?_) #[Y,Y,Y,Y,Y,Y,Y] rfl rfl a3_ (fun _ _ _ h => h) (Or.inl ⟨by rfl, ?_⟩) ?_ ?_
     rotate_left
     · intro w'
       go_simp
       with_reducible rfl
     rotate_left
     · simp only [Act.put, tA, tZ, tS, iL, iW]
       rfl
     refine done_ a3_ ?_
     try go_wp2
     go_roundg k1
     case measure => have := HK1.out; omega
     case rel => exact ⟨(wrap64 (x6_1 + 1)), (x287000_1), (x287001_1), (x287002_1), a4_, H', ⟨by have := HK1.out; omega⟩, ⟨a91_⟩, ⟨a92_⟩, ⟨a37_⟩⟩
   rw [if_pos c19] at H
   have c19b0 : decide (t288 < 0) = true := dT_ c19
   clear c19
   have H' := kA_ H
   clear H
   try go_wp2
   have n0_ := kA_ (blk_drew BK284.out)
   have n1_ := kA_ (blk_drew BK286.out)
   have n2_ := kA_ (b1_ HB.out)
   clear BK284
   clear BK286
   clear HB
   have BK284 := n0_
   have BK286 := n1_
   have HB := n2_
   clear n0_ n1_ n2_
   have p287 : 0 ≤ (x6_1 : Int) := oT_ (by assumption)
   have q287 : x6_1 < (l0.length : Int) := oT_ (by assumption)
   obtain ⟨ad287, e287, hx287_0, hx287_1, hx287_2⟩ := at_T36 HR0.out x6_1 p287 q287
   have hw287_2 := hx287_2
   have hw287_1 := hx287_1
   have hw287_0 := hx287_0
   obtain rfl : ad285 = ad287 := (by injection e287)
   replace hx287_0 := cB_ HB.out hx287_0
   replace hx287_1 := cB_ HB.out hx287_1
   replace hx287_2 := cB_ HB.out hx287_2
   replace p287 := eq_true p287
   replace q287 := eq_true q287
   refine start_ (n := 7) (S := fun w' => w'.cell? ⟨gb286, 0, none⟩ = some (.int .u8 x287000_1) ∧ w'.cell? ⟨gb286, 1, none⟩ = some (.int .i64 x287001_1) ∧ w'.cell? ⟨gb286, 2, none⟩ = some (.string x287002_1) ∧ w'.cell? (ad285.add ((x6_1).toNat * 3)) = some (.int .u8 ((rd_T36 l0 x6_1).f0)) ∧ w'.cell? ⟨(ad285.add ((x6_1).toNat * 3)).block, (ad285.add ((x6_1).toNat * 3)).off + 1, none⟩ = some (.int .i64 ((rd_T36 l0 x6_1).f1)) ∧ w'.cell? ⟨(ad285.add ((x6_1).toNat * 3)).block, (ad285.add ((x6_1).toNat * 3)).off + 2, none⟩ = some (.string ((rd_T36 l0 x6_1).f2))) (ds := []) #[X,X,X,X,X,X,X] a3_ rfl rfl ⟨(blk_cell BK286.out 0).trans rfl, (blk_cell BK286.out 1).trans rfl, (blk_cell BK286.out 2).trans rfl, (cB_ HB.out hw287_0), (cB_ HB.out hw287_1), (cB_ HB.out hw287_2)⟩ (fun hHeld => ?_)
   generalize wr.drew = w20 at BK284 BK286 HB hx287_0 hx287_1 hx287_2 hHeld ⊢
   refine pure_ (i := 0) (N := some 17) (v := ?_) (a' := ?_) #[Y,X,X,X,X,X,X] rfl rfl a3_ (fun _ _ _ h => h) (Or.inl ⟨by rfl, ?_⟩) ?_ ?_
   rotate_left
   · intro w'
     go_simp
     with_reducible rfl
   rotate_left
   · simp only [Act.put, tA, tZ, tS, iL, iW]
     rfl
   refine pure_ (i := 1) (N := some 18) (v := ?_) (a' := ?_) #[Y,Y,X,X,X,X,X] rfl rfl a3_ (fun _ _ _ h => h) (Or.inl ⟨by rfl, ?_⟩) ?_ ?_
   rotate_left
   · intro w'
     go_simp
     with_reducible rfl
   rotate_left
   · simp only [Act.put, tA, tZ, tS, iL, iW]
     rfl
   refine pure_ (i := 2) (N := some 19) (v := ?_) (a' := ?_) #[Y,Y,Y,X,X,X,X] rfl rfl a3_ (fun _ _ _ h => h) (Or.inl ⟨by rfl, ?_⟩) ?_ ?_
   rotate_left
   · intro w'
     go_simp
     with_reducible rfl
   rotate_left
   · simp only [Act.put, tA, tZ, tS, iL, iW]
     rfl
   refine take_ (i := 3) (N := some 20) (v := ?_) (a' := ?_) #[Y,Y,Y,Y,X,X,X] rfl rfl a3_ (fun _ _ _ h => h) (Or.inl ⟨by rfl, ?_⟩) hHeld ?_ ?_
   rotate_left
   · rintro w' ⟨s0, s1, s2, s3, s4, s5⟩
     go_simp
     with_reducible rfl
   rotate_left
   · simp only [Act.put, tA, tZ, tS, iL, iW]
     rfl
   refine take_ (i := 4) (N := some 21) (v := ?_) (a' := ?_) #[Y,Y,Y,Y,Y,X,X] rfl rfl a3_ (fun _ _ _ h => h) (Or.inl ⟨by rfl, ?_⟩) hHeld ?_ ?_
   rotate_left
   · rintro w' ⟨s0, s1, s2, s3, s4, s5⟩
     go_simp
     with_reducible rfl
   rotate_left
   · simp only [Act.put, tA, tZ, tS, iL, iW]
     rfl
   refine one_ (i := 5) (N := some 22) #[Y,Y,Y,Y,Y,Y,X] rfl rfl a3_ (by decide) (fun K hK => ?_)
   refine goes_ Tryz.func85 a3_ rfl #[.agg #[.int .u8 ((rd_T36 l0 x6_1).f0), .int .i64 ((rd_T36 l0 x6_1).f1), .string ((rd_T36 l0 x6_1).f2)], .agg #[.int .u8 x287000_1, .int .i64 x287001_1, .string x287002_1]] (by rfl) rfl rfl a1_ ?_
   with_reducible refine (r1_Compare.calls k1 ((rd_T36 l0 x6_1).f0) ((rd_T36 l0 x6_1).f1) ((rd_T36 l0 x6_1).f2) x287000_1 x287001_1 x287002_1 t288 _ A10.out).mono ?_
   rintro e w21 ⟨rfl, hb⟩
   refine ⟨_, rfl, ?_⟩
   have n0_ := kA_ (blk_below (g := gb284) (o := .cells #[.int .u8 0, .int .i64 0, .string (⟨#[]⟩ : ByteArray), .int .i64 0] 38 (0, 0)) a35_ hb)
   have n1_ := kA_ (blk_below (g := gb286) (o := .cells #[.int .u8 x287000_1, .int .i64 x287001_1, .string x287002_1] 36 (0, 0)) a62_ hb)
   have n2_ := kA_ (below_step a47_ hb)
   clear BK284
   clear BK286
   clear HB
   have BK284 := n0_
   have BK286 := n1_
   have HB := n2_
   clear n0_ n1_ n2_
   (try clear hb)
   (try clear hb2)
   (try clear hk)
   (try clear hi)
   refine hK.out _ _ ⟨(blk_cell BK286.out 0).trans rfl, (blk_cell BK286.out 1).trans rfl, (blk_cell BK286.out 2).trans rfl, (cB_ HB.out hw287_0), (cB_ HB.out hw287_1), (cB_ HB.out hw287_2)⟩ (fun hHeld => ?_)
   clear hK K
   refine norm_ (a' := ?_) ?_ ?_
   rotate_left
   · show Act.put _ (some 22) _ = _
     simp only [Act.put, tA, tZ, tS, iL, iW]
     rfl
   refine pure_ (i := 6) (N := some 7) (v := ?_) (a' := ?_) #[Y,Y,Y,Y,Y,Y,Y] rfl rfl a3_ (fun _ _ _ h => h) (Or.inl ⟨by rfl, ?_⟩) ?_ ?_
   rotate_left
   · intro w'
     go_simp
     with_reducible rfl
   rotate_left
   · simp only [Act.put, tA, tZ, tS, iL, iW]
     rfl
   refine done_ a3_ ?_
   have p290 : 0 ≤ (x6_1 : Int) := oT_ (by assumption)
   have q290 : x6_1 < (l0.length : Int) := oT_ (by assumption)
   obtain ⟨ad290, e290, hx290_0, hx290_1, hx290_2⟩ := at_T36 HR0.out x6_1 p290 q290
   obtain rfl : ad285 = ad290 := (by injection e290)
   replace hx290_0 := cB_ HB.out hx290_0
   replace hx290_1 := cB_ HB.out hx290_1
   replace hx290_2 := cB_ HB.out hx290_2
   replace p290 := eq_true p290
   replace q290 := eq_true q290
   have hnb22 := NB286_284.out
   have hnc22 := NB284_286.out
   have hcz23_0 : w21.cell? ⟨gb286, 0, none⟩ = some (.int .u8 x287000_1) := (blk_cell BK286.out 0).trans rfl
   have hcz23_1 : w21.cell? ⟨gb286, 1, none⟩ = some (.int .i64 x287001_1) := (blk_cell BK286.out 1).trans rfl
   have hcz23_2 : w21.cell? ⟨gb286, 2, none⟩ = some (.string x287002_1) := (blk_cell BK286.out 2).trans rfl
   have hfz23_0 := blk_frozen BK286.out 0
   have hfz23_1 := blk_frozen BK286.out 1
   have hfz23_2 := blk_frozen BK286.out 2
   try go_wp2
   go_roundg k1
   case measure => have := HK1.out; omega
   case rel => exact ⟨(wrap64 (x6_1 + 1)), ((rd_T36 l0 x6_1).f0), ((rd_T36 l0 x6_1).f1), ((rd_T36 l0 x6_1).f2), a4_, H', ⟨by have := HK1.out; omega⟩, ⟨a17_⟩, ⟨a28_⟩, ⟨a37_⟩⟩
def r6_average.j0 : Nat → List (S36) → Int → Int → Bool → Option (Int × Int × ByteArray × Int)
 | 0, _, _, _, _ => none
 | k + 1, x0, x3, x4, x5 => if (x0.length : Int) = 0 then (some (0, 0, (⟨#[]⟩ : ByteArray), 0)) else (if x5 = true then ((r1_Int.f (wrap64 (-(wrap64 ((wrap64 ((wrap64 (Int.tdiv x3 (x0.length : Int))) * 4294967296)) + (wrap64 (Int.tdiv (wrap64 ((wrap64 ((Int.tmod x3 (x0.length : Int)) * 4294967296)) + x4)) (x0.length : Int)))))))).bind fun bt294 => (some (bt294.1, bt294.2.1, bt294.2.2, 0))) else ((r1_Int.f (wrap64 ((wrap64 ((wrap64 (Int.tdiv x3 (x0.length : Int))) * 4294967296)) + (wrap64 (Int.tdiv (wrap64 ((wrap64 ((Int.tmod x3 (x0.length : Int)) * 4294967296)) + x4)) (x0.length : Int)))))).bind fun bt297 => (some (bt297.1, bt297.2.1, bt297.2.2, 0))))
def r6_average.f (k : Nat) (l0 : List (S36)) : Option (Int × Int × ByteArray × Int) := (r6_total.f k l0).bind fun bt292 => (if bt292.1 < 0 then (if bt292.2 > 0 then (r6_average.j0 k l0 (wrap64 ((wrap64 (-bt292.1)) - 1)) (wrap64 (4294967296 - bt292.2)) (decide (bt292.1 < 0))) else (r6_average.j0 k l0 (wrap64 (-bt292.1)) bt292.2 (decide (bt292.1 < 0)))) else (r6_average.j0 k l0 bt292.1 bt292.2 (decide (bt292.1 < 0))))
theorem r6_average.calls (k : Nat) (A0 : Option Addr) (c0 : Nat) (l0 : List (S36)) (r1 : Int) (r2 : Int) (r3 : ByteArray) (r4 : Int) (w : World) (hr0 : Kd.C k36 w A0 l0.length l0) (hc0 : l0.length ≤ c0) (h : r6_average.f k l0 = some (r1, r2, r3, r4)) :
 Calls Tryz.prog 55 #[.slice A0 l0.length c0] w fun e w' => e = .returned (.agg #[.int .u8 r1, .int .i64 r2, .string r3, .int .i64 r4]) ∧ Below w.heap.size w w' := by
 have hu38 := Tryz.underlying38
 have HR0 := kA_ hr0
 have HC0 := kA_ hc0
 clear hr0 hc0
 have HB := kA_ (Below.refl w.heap.size w)
 have H : ((r6_total.f k l0).bind fun bt292 => (if bt292.1 < 0 then (if bt292.2 > 0 then (r6_average.j0 k l0 (wrap64 ((wrap64 (-bt292.1)) - 1)) (wrap64 (4294967296 - bt292.2)) (decide (bt292.1 < 0))) else (r6_average.j0 k l0 (wrap64 (-bt292.1)) bt292.2 (decide (bt292.1 < 0)))) else (r6_average.j0 k l0 bt292.1 bt292.2 (decide (bt292.1 < 0))))) = some (r1, r2, r3, r4) := h
 clear h
 replace H := Option.bind_eq_some_iff.mp H
 obtain ⟨⟨t292, t293⟩, A20, H⟩ := H
 replace H : (if t292 < 0 then (if t293 > 0 then (r6_average.j0 k l0 (wrap64 ((wrap64 (-t292)) - 1)) (wrap64 (4294967296 - t293)) (decide (t292 < 0))) else (r6_average.j0 k l0 (wrap64 (-t292)) t293 (decide (t292 < 0)))) else (r6_average.j0 k l0 t292 t293 (decide (t292 < 0)))) = some (r1, r2, r3, r4) := H
 have A2 := kA_ A20
 clear A20
 have HC3 := kA_ H
 clear H
 go_enter Tryz.func55, Tryz.ntmps55
 go_upto_if 16 with (first | ((with_reducible refine gate_dst (N := 2) rfl ?_); refine box_event ?hg (N := 2) ?hd (cs := #[.int .u8 0, .int .i64 0, .string (⟨#[]⟩ : ByteArray), .int .i64 0]) (t := 38) ?hr ?_; (case hd => rfl); (case hg => rfl); (case hr => first | (go_simp; done) | (go_simp; rfl)); intro gb291 hg w4 hbox hb; have n0_ := kA_ (below_step a0_ hb); have n1_ := kA_ (hbox); have n2_ := kA_ ((a7_ : w.heap.size ≤ gb291)); have n3_ := kA_ ((a7_ : w.heap.size ≤ gb291)); clear HB; have HB := n0_; have BK291 := n1_; have GW291 := n2_; have GE291 := n3_; clear n0_ n1_ n2_ n3_; clear hb hbox hg) | (go_at_call 84; (with_reducible refine (r6_total.calls k _ _ l0 t292 t293 _ ?side1 ?side2 A2.out).mono ?_); (case side1 => repeat (first | exact (Kd.C_below HR0.out HB.out) | (with_reducible refine Kd.cA_ ?_ _) | (with_reducible refine Kd.cN_ ?_ _) | (with_reducible refine Kd.cD_ ?_))); (case side2 => exact HC0.out); rintro e w' ⟨rfl, ⟨nd, rfl⟩⟩; (try first | exact ⟨rfl, _, World.drewN_drewN _ _ _⟩ | exact ⟨rfl, _, Eq.trans (World.drewN_drewN _ _ _) (congrArg (World.drewN _) (Nat.add_assoc _ _ _))⟩)))
 repeat (go_quiet (first | ((with_reducible refine gate_dst (N := 2) rfl ?_); refine box_event ?hg (N := 2) ?hd (cs := #[.int .u8 0, .int .i64 0, .string (⟨#[]⟩ : ByteArray), .int .i64 0]) (t := 38) ?hr ?_; (case hd => rfl); (case hg => rfl); (case hr => first | (go_simp; done) | (go_simp; rfl)); intro gb291 hg w4 hbox hb; have n0_ := kA_ (below_step a0_ hb); have n1_ := kA_ (hbox); have n2_ := kA_ ((a7_ : w.heap.size ≤ gb291)); have n3_ := kA_ ((a7_ : w.heap.size ≤ gb291)); clear HB; have HB := n0_; have BK291 := n1_; have GW291 := n2_; have GE291 := n3_; clear n0_ n1_ n2_ n3_; clear hb hbox hg) | (go_at_call 84; (with_reducible refine (r6_total.calls k _ _ l0 t292 t293 _ ?side1 ?side2 A2.out).mono ?_); (case side1 => repeat (first | exact (Kd.C_below HR0.out HB.out) | (with_reducible refine Kd.cA_ ?_ _) | (with_reducible refine Kd.cN_ ?_ _) | (with_reducible refine Kd.cD_ ?_))); (case side2 => exact HC0.out); rintro e w' ⟨rfl, ⟨nd, rfl⟩⟩; (try first | exact ⟨rfl, _, World.drewN_drewN _ _ _⟩ | exact ⟨rfl, _, Eq.trans (World.drewN_drewN _ _ _) (congrArg (World.drewN _) (Nat.add_assoc _ _ _))⟩))); go_upto_if 16 with (first | ((with_reducible refine gate_dst (N := 2) rfl ?_); refine box_event ?hg (N := 2) ?hd (cs := #[.int .u8 0, .int .i64 0, .string (⟨#[]⟩ : ByteArray), .int .i64 0]) (t := 38) ?hr ?_; (case hd => rfl); (case hg => rfl); (case hr => first | (go_simp; done) | (go_simp; rfl)); intro gb291 hg w4 hbox hb; have n0_ := kA_ (below_step a0_ hb); have n1_ := kA_ (hbox); have n2_ := kA_ ((a7_ : w.heap.size ≤ gb291)); have n3_ := kA_ ((a7_ : w.heap.size ≤ gb291)); clear HB; have HB := n0_; have BK291 := n1_; have GW291 := n2_; have GE291 := n3_; clear n0_ n1_ n2_ n3_; clear hb hbox hg) | (go_at_call 84; (with_reducible refine (r6_total.calls k _ _ l0 t292 t293 _ ?side1 ?side2 A2.out).mono ?_); (case side1 => repeat (first | exact (Kd.C_below HR0.out HB.out) | (with_reducible refine Kd.cA_ ?_ _) | (with_reducible refine Kd.cN_ ?_ _) | (with_reducible refine Kd.cD_ ?_))); (case side2 => exact HC0.out); rintro e w' ⟨rfl, ⟨nd, rfl⟩⟩; (try first | exact ⟨rfl, _, World.drewN_drewN _ _ _⟩ | exact ⟨rfl, _, Eq.trans (World.drewN_drewN _ _ _) (congrArg (World.drewN _) (Nat.add_assoc _ _ _))⟩))))
 (try simp only [Act.put, tA, tZ, tS])
 go_cut [3, 4, 5] (fun v3 v4 v5 wc => ∃ (kq : Nat) (x3_2 : Int) (x4_2 : Int) (x5_2 : Bool), v3 = .int .i64 x3_2 ∧ v4 = .int .i64 x4_2 ∧ v5 = .bool x5_2 ∧ Aside0 (r6_average.j0 kq l0 x3_2 x4_2 x5_2 = some (r1, r2, r3, r4)) ∧ Aside0 (kq ≤ k) ∧ Aside0 (wc.heap[gb291]? = some (.cells #[.int .u8 0, .int .i64 0, .string (⟨#[]⟩ : ByteArray), .int .i64 0] 38 (0, 0))) ∧ Aside0 (Below w.heap.size w wc))
 case first =>
  have H := HC3.out
  clear HC3
  by_cases c5 : t292 < 0
  rotate_left
  · rw [if_neg c5] at H
    have c5b0 : decide (t292 < 0) = false := dF_ c5
    clear c5
    (first | rw [c5b0] | (simp only [iL, iW]; rw [c5b0]) | skip)
    have H' := kA_ H
    clear H
    go_wp2
    repeat (go_quiet (fail); try go_wp2)
    go_meet
    case rel => exact ⟨_, (t292), (t293), (decide (t292 < 0)), a4_, a4_, (by first | rw [c5b0] | rfl | simp [*]), H', ⟨by first | omega | exact Nat.le_refl _⟩, ⟨a78_⟩, ⟨a70_⟩⟩
  rw [if_pos c5] at H
  have c5b0 : decide (t292 < 0) = true := dT_ c5
  clear c5
  (first | rw [c5b0] | (simp only [iL, iW]; rw [c5b0]) | skip)
  by_cases c6 : t293 > 0
  · rw [if_pos c6] at H
    have c6b0 : decide (0 < t293) = true := dT_ c6
    clear c6
    have H' := kA_ H
    clear H
    go_wp2
    repeat (go_quiet (fail); try go_wp2)
    go_meet
    case rel => exact ⟨_, (wrap64 ((wrap64 (-t292)) - 1)), (wrap64 (4294967296 - t293)), (decide (t292 < 0)), a4_, a4_, (by first | rw [c5b0] | rfl | simp [*]), H', ⟨by first | omega | exact Nat.le_refl _⟩, ⟨a78_⟩, ⟨a70_⟩⟩
  rw [if_neg c6] at H
  have c6b0 : decide (0 < t293) = false := dF_ c6
  clear c6
  have H' := kA_ H
  clear H
  go_wp2
  repeat (go_quiet (fail); try go_wp2)
  go_meet
  case rel => exact ⟨_, (wrap64 (-t292)), (t293), (decide (t292 < 0)), a4_, a4_, (by first | rw [c5b0] | rfl | simp [*]), H', ⟨by first | omega | exact Nat.le_refl _⟩, ⟨a78_⟩, ⟨a70_⟩⟩
 case rest =>
  clear HC3
  try clear p2
  try clear c5
  try clear c5b0
  try clear c6
  try clear c6b0
  try clear p6
  obtain ⟨kq, x3_2, x4_2, x5_2, rfl, rfl, rfl, HA, HJ2, BK291, HB⟩ := hcut
  cases kq with
  | zero => exact absurd HA.out (by simp [r6_average.j0])
  | succ kj2 =>
   have H := HA.out
   clear HA
   simp only [r6_average.j0] at H
   by_cases c7 : (l0.length : Int) = 0
   · rw [if_pos c7] at H
     have c7b0 : ((l0.length : Int) == 0) = true := beq_iff_eq.mpr c7
     have c7b1 : ((l0.length : Int) != 0) = false := bne_eq_false_iff_eq.mpr c7
     clear c7
     simp only [Option.some.injEq, Prod.mk.injEq] at H
     obtain ⟨rfl, rfl, rfl, rfl⟩ := H
     have hcz8_0 : wc.cell? ⟨gb291, 0, none⟩ = some (.int .u8 0) := (blk_cell BK291.out 0).trans rfl
     have hcz8_1 : wc.cell? ⟨gb291, 1, none⟩ = some (.int .i64 0) := (blk_cell BK291.out 1).trans rfl
     have hcz8_2 : wc.cell? ⟨gb291, 2, none⟩ = some (.string (⟨#[]⟩ : ByteArray)) := (blk_cell BK291.out 2).trans rfl
     have hcz8_3 : wc.cell? ⟨gb291, 3, none⟩ = some (.int .i64 0) := (blk_cell BK291.out 3).trans rfl
     have hfz8_0 := blk_frozen BK291.out 0
     have hfz8_1 := blk_frozen BK291.out 1
     have hfz8_2 := blk_frozen BK291.out 2
     have hfz8_3 := blk_frozen BK291.out 3
     go_wp2
     repeat (go_quiet (fail); try go_wp2)
     refine bodyPost_ret (results_cell_row rfl _ _ gb291 38 #[.int .u8 0, .int .i64 0, .string (⟨#[]⟩ : ByteArray), .int .i64 0] (0, 0) _ rfl (by (with_reducible repeat (first | refine blk_drewN ?_ _ | refine blk_drew ?_ | refine blk_alloc ?_ _)); refine blk_put (cs := #[.int .u8 0, .int .i64 0, .string (⟨#[]⟩ : ByteArray), .int .i64 0]) ?_ 3 _ rfl; (with_reducible repeat (first | refine blk_drewN ?_ _ | refine blk_drew ?_ | refine blk_alloc ?_ _)); refine blk_put (cs := #[.int .u8 0, .int .i64 0, .string (⟨#[]⟩ : ByteArray), .int .i64 0]) ?_ 2 _ rfl; (with_reducible repeat (first | refine blk_drewN ?_ _ | refine blk_drew ?_ | refine blk_alloc ?_ _)); refine blk_put (cs := #[.int .u8 0, .int .i64 0, .string (⟨#[]⟩ : ByteArray), .int .i64 0]) ?_ 1 _ rfl; (with_reducible repeat (first | refine blk_drewN ?_ _ | refine blk_drew ?_ | refine blk_alloc ?_ _)); refine blk_put (cs := #[.int .u8 0, .int .i64 0, .string (⟨#[]⟩ : ByteArray), .int .i64 0]) ?_ 0 _ rfl; (with_reducible repeat (first | refine blk_drewN ?_ _ | refine blk_drew ?_ | refine blk_alloc ?_ _)); exact BK291.out) Tryz.underlying38 rfl a3_) rfl ?_
     exact ⟨a5_, a70_⟩
   rw [if_neg c7] at H
   have c7b0 : ((l0.length : Int) == 0) = false := beq_eq_false_iff_ne.mpr c7
   have c7b1 : ((l0.length : Int) != 0) = true := bne_iff_ne.mpr c7
   have c7b2 : ¬ (l0 = []) := fun h_ => c7 (by rw [h_]; rfl)
   by_cases c9 : x5_2 = true
   · rw [if_pos c9] at H
     have c9b0 : x5_2 = true := c9
     subst c9b0
     replace H := Option.bind_eq_some_iff.mp H
     obtain ⟨⟨t294, t295, t296⟩, A100, H⟩ := H
     replace H : (some (t294, t295, t296, 0)) = some (r1, r2, r3, r4) := H
     have A10 := kA_ A100
     clear A100
     simp only [Option.some.injEq, Prod.mk.injEq] at H
     obtain ⟨rfl, rfl, rfl, rfl⟩ := H
     go_wp2_with (first | (go_at_call 43; (with_reducible refine (r1_Int.calls (wrap64 (-(wrap64 ((wrap64 ((wrap64 (Int.tdiv x3_2 (l0.length : Int))) * 4294967296)) + (wrap64 (Int.tdiv (wrap64 ((wrap64 ((Int.tmod x3_2 (l0.length : Int)) * 4294967296)) + x4_2)) (l0.length : Int))))))) t294 t295 t296 _ A10.out).mono ?_); rintro e w11 ⟨rfl, hb⟩; have n0_ := kA_ (blk_below (g := gb291) (o := .cells #[.int .u8 0, .int .i64 0, .string (⟨#[]⟩ : ByteArray), .int .i64 0] 38 (0, 0)) a42_ hb); have n1_ := kA_ (below_step a38_ hb); clear BK291; clear HB; have BK291 := n0_; have HB := n1_; clear n0_ n1_; (try clear hb); (try clear hb2); (try clear hk); (try clear hi); have hcz12_0 : w11.cell? ⟨gb291, 0, none⟩ = some (.int .u8 0) := (blk_cell BK291.out 0).trans rfl; have hcz12_1 : w11.cell? ⟨gb291, 1, none⟩ = some (.int .i64 0) := (blk_cell BK291.out 1).trans rfl; have hcz12_2 : w11.cell? ⟨gb291, 2, none⟩ = some (.string (⟨#[]⟩ : ByteArray)) := (blk_cell BK291.out 2).trans rfl; have hcz12_3 : w11.cell? ⟨gb291, 3, none⟩ = some (.int .i64 0) := (blk_cell BK291.out 3).trans rfl; have hfz12_0 := blk_frozen BK291.out 0; have hfz12_1 := blk_frozen BK291.out 1; have hfz12_2 := blk_frozen BK291.out 2; have hfz12_3 := blk_frozen BK291.out 3))
     repeat (go_quiet (first | (go_at_call 43; (with_reducible refine (r1_Int.calls (wrap64 (-(wrap64 ((wrap64 ((wrap64 (Int.tdiv x3_2 (l0.length : Int))) * 4294967296)) + (wrap64 (Int.tdiv (wrap64 ((wrap64 ((Int.tmod x3_2 (l0.length : Int)) * 4294967296)) + x4_2)) (l0.length : Int))))))) t294 t295 t296 _ A10.out).mono ?_); rintro e w11 ⟨rfl, hb⟩; have n0_ := kA_ (blk_below (g := gb291) (o := .cells #[.int .u8 0, .int .i64 0, .string (⟨#[]⟩ : ByteArray), .int .i64 0] 38 (0, 0)) a42_ hb); have n1_ := kA_ (below_step a38_ hb); clear BK291; clear HB; have BK291 := n0_; have HB := n1_; clear n0_ n1_; (try clear hb); (try clear hb2); (try clear hk); (try clear hi); have hcz12_0 : w11.cell? ⟨gb291, 0, none⟩ = some (.int .u8 0) := (blk_cell BK291.out 0).trans rfl; have hcz12_1 : w11.cell? ⟨gb291, 1, none⟩ = some (.int .i64 0) := (blk_cell BK291.out 1).trans rfl; have hcz12_2 : w11.cell? ⟨gb291, 2, none⟩ = some (.string (⟨#[]⟩ : ByteArray)) := (blk_cell BK291.out 2).trans rfl; have hcz12_3 : w11.cell? ⟨gb291, 3, none⟩ = some (.int .i64 0) := (blk_cell BK291.out 3).trans rfl; have hfz12_0 := blk_frozen BK291.out 0; have hfz12_1 := blk_frozen BK291.out 1; have hfz12_2 := blk_frozen BK291.out 2; have hfz12_3 := blk_frozen BK291.out 3)); try go_wp2_with (first | (go_at_call 43; (with_reducible refine (r1_Int.calls (wrap64 (-(wrap64 ((wrap64 ((wrap64 (Int.tdiv x3_2 (l0.length : Int))) * 4294967296)) + (wrap64 (Int.tdiv (wrap64 ((wrap64 ((Int.tmod x3_2 (l0.length : Int)) * 4294967296)) + x4_2)) (l0.length : Int))))))) t294 t295 t296 _ A10.out).mono ?_); rintro e w11 ⟨rfl, hb⟩; have n0_ := kA_ (blk_below (g := gb291) (o := .cells #[.int .u8 0, .int .i64 0, .string (⟨#[]⟩ : ByteArray), .int .i64 0] 38 (0, 0)) a42_ hb); have n1_ := kA_ (below_step a38_ hb); clear BK291; clear HB; have BK291 := n0_; have HB := n1_; clear n0_ n1_; (try clear hb); (try clear hb2); (try clear hk); (try clear hi); have hcz12_0 : w11.cell? ⟨gb291, 0, none⟩ = some (.int .u8 0) := (blk_cell BK291.out 0).trans rfl; have hcz12_1 : w11.cell? ⟨gb291, 1, none⟩ = some (.int .i64 0) := (blk_cell BK291.out 1).trans rfl; have hcz12_2 : w11.cell? ⟨gb291, 2, none⟩ = some (.string (⟨#[]⟩ : ByteArray)) := (blk_cell BK291.out 2).trans rfl; have hcz12_3 : w11.cell? ⟨gb291, 3, none⟩ = some (.int .i64 0) := (blk_cell BK291.out 3).trans rfl; have hfz12_0 := blk_frozen BK291.out 0; have hfz12_1 := blk_frozen BK291.out 1; have hfz12_2 := blk_frozen BK291.out 2; have hfz12_3 := blk_frozen BK291.out 3)))
     refine bodyPost_ret (results_cell_row rfl _ _ gb291 38 #[.int .u8 t294, .int .i64 t295, .string t296, .int .i64 0] (0, 0) _ rfl (by (with_reducible repeat (first | refine blk_drewN ?_ _ | refine blk_drew ?_ | refine blk_alloc ?_ _)); refine blk_put (cs := #[.int .u8 t294, .int .i64 t295, .string t296, .int .i64 0]) ?_ 3 _ rfl; (with_reducible repeat (first | refine blk_drewN ?_ _ | refine blk_drew ?_ | refine blk_alloc ?_ _)); refine blk_put (cs := #[.int .u8 t294, .int .i64 t295, .string (⟨#[]⟩ : ByteArray), .int .i64 0]) ?_ 2 _ rfl; (with_reducible repeat (first | refine blk_drewN ?_ _ | refine blk_drew ?_ | refine blk_alloc ?_ _)); refine blk_put (cs := #[.int .u8 t294, .int .i64 0, .string (⟨#[]⟩ : ByteArray), .int .i64 0]) ?_ 1 _ rfl; (with_reducible repeat (first | refine blk_drewN ?_ _ | refine blk_drew ?_ | refine blk_alloc ?_ _)); refine blk_put (cs := #[.int .u8 0, .int .i64 0, .string (⟨#[]⟩ : ByteArray), .int .i64 0]) ?_ 0 _ rfl; (with_reducible repeat (first | refine blk_drewN ?_ _ | refine blk_drew ?_ | refine blk_alloc ?_ _)); exact BK291.out) Tryz.underlying38 rfl a3_) rfl ?_
     exact ⟨a5_, a70_⟩
   rw [if_neg c9] at H
   have c9b0 : x5_2 = false := by simpa using c9
   subst c9b0
   replace H := Option.bind_eq_some_iff.mp H
   obtain ⟨⟨t297, t298, t299⟩, A130, H⟩ := H
   replace H : (some (t297, t298, t299, 0)) = some (r1, r2, r3, r4) := H
   have A13 := kA_ A130
   clear A130
   simp only [Option.some.injEq, Prod.mk.injEq] at H
   obtain ⟨rfl, rfl, rfl, rfl⟩ := H
   go_wp2_with (first | (go_at_call 43; (with_reducible refine (r1_Int.calls (wrap64 ((wrap64 ((wrap64 (Int.tdiv x3_2 (l0.length : Int))) * 4294967296)) + (wrap64 (Int.tdiv (wrap64 ((wrap64 ((Int.tmod x3_2 (l0.length : Int)) * 4294967296)) + x4_2)) (l0.length : Int))))) t297 t298 t299 _ A13.out).mono ?_); rintro e w14 ⟨rfl, hb⟩; have n0_ := kA_ (blk_below (g := gb291) (o := .cells #[.int .u8 0, .int .i64 0, .string (⟨#[]⟩ : ByteArray), .int .i64 0] 38 (0, 0)) a42_ hb); have n1_ := kA_ (below_step a38_ hb); clear BK291; clear HB; have BK291 := n0_; have HB := n1_; clear n0_ n1_; (try clear hb); (try clear hb2); (try clear hk); (try clear hi); have hcz15_0 : w14.cell? ⟨gb291, 0, none⟩ = some (.int .u8 0) := (blk_cell BK291.out 0).trans rfl; have hcz15_1 : w14.cell? ⟨gb291, 1, none⟩ = some (.int .i64 0) := (blk_cell BK291.out 1).trans rfl; have hcz15_2 : w14.cell? ⟨gb291, 2, none⟩ = some (.string (⟨#[]⟩ : ByteArray)) := (blk_cell BK291.out 2).trans rfl; have hcz15_3 : w14.cell? ⟨gb291, 3, none⟩ = some (.int .i64 0) := (blk_cell BK291.out 3).trans rfl; have hfz15_0 := blk_frozen BK291.out 0; have hfz15_1 := blk_frozen BK291.out 1; have hfz15_2 := blk_frozen BK291.out 2; have hfz15_3 := blk_frozen BK291.out 3))
   repeat (go_quiet (first | (go_at_call 43; (with_reducible refine (r1_Int.calls (wrap64 ((wrap64 ((wrap64 (Int.tdiv x3_2 (l0.length : Int))) * 4294967296)) + (wrap64 (Int.tdiv (wrap64 ((wrap64 ((Int.tmod x3_2 (l0.length : Int)) * 4294967296)) + x4_2)) (l0.length : Int))))) t297 t298 t299 _ A13.out).mono ?_); rintro e w14 ⟨rfl, hb⟩; have n0_ := kA_ (blk_below (g := gb291) (o := .cells #[.int .u8 0, .int .i64 0, .string (⟨#[]⟩ : ByteArray), .int .i64 0] 38 (0, 0)) a42_ hb); have n1_ := kA_ (below_step a38_ hb); clear BK291; clear HB; have BK291 := n0_; have HB := n1_; clear n0_ n1_; (try clear hb); (try clear hb2); (try clear hk); (try clear hi); have hcz15_0 : w14.cell? ⟨gb291, 0, none⟩ = some (.int .u8 0) := (blk_cell BK291.out 0).trans rfl; have hcz15_1 : w14.cell? ⟨gb291, 1, none⟩ = some (.int .i64 0) := (blk_cell BK291.out 1).trans rfl; have hcz15_2 : w14.cell? ⟨gb291, 2, none⟩ = some (.string (⟨#[]⟩ : ByteArray)) := (blk_cell BK291.out 2).trans rfl; have hcz15_3 : w14.cell? ⟨gb291, 3, none⟩ = some (.int .i64 0) := (blk_cell BK291.out 3).trans rfl; have hfz15_0 := blk_frozen BK291.out 0; have hfz15_1 := blk_frozen BK291.out 1; have hfz15_2 := blk_frozen BK291.out 2; have hfz15_3 := blk_frozen BK291.out 3)); try go_wp2_with (first | (go_at_call 43; (with_reducible refine (r1_Int.calls (wrap64 ((wrap64 ((wrap64 (Int.tdiv x3_2 (l0.length : Int))) * 4294967296)) + (wrap64 (Int.tdiv (wrap64 ((wrap64 ((Int.tmod x3_2 (l0.length : Int)) * 4294967296)) + x4_2)) (l0.length : Int))))) t297 t298 t299 _ A13.out).mono ?_); rintro e w14 ⟨rfl, hb⟩; have n0_ := kA_ (blk_below (g := gb291) (o := .cells #[.int .u8 0, .int .i64 0, .string (⟨#[]⟩ : ByteArray), .int .i64 0] 38 (0, 0)) a42_ hb); have n1_ := kA_ (below_step a38_ hb); clear BK291; clear HB; have BK291 := n0_; have HB := n1_; clear n0_ n1_; (try clear hb); (try clear hb2); (try clear hk); (try clear hi); have hcz15_0 : w14.cell? ⟨gb291, 0, none⟩ = some (.int .u8 0) := (blk_cell BK291.out 0).trans rfl; have hcz15_1 : w14.cell? ⟨gb291, 1, none⟩ = some (.int .i64 0) := (blk_cell BK291.out 1).trans rfl; have hcz15_2 : w14.cell? ⟨gb291, 2, none⟩ = some (.string (⟨#[]⟩ : ByteArray)) := (blk_cell BK291.out 2).trans rfl; have hcz15_3 : w14.cell? ⟨gb291, 3, none⟩ = some (.int .i64 0) := (blk_cell BK291.out 3).trans rfl; have hfz15_0 := blk_frozen BK291.out 0; have hfz15_1 := blk_frozen BK291.out 1; have hfz15_2 := blk_frozen BK291.out 2; have hfz15_3 := blk_frozen BK291.out 3)))
   refine bodyPost_ret (results_cell_row rfl _ _ gb291 38 #[.int .u8 t297, .int .i64 t298, .string t299, .int .i64 0] (0, 0) _ rfl (by (with_reducible repeat (first | refine blk_drewN ?_ _ | refine blk_drew ?_ | refine blk_alloc ?_ _)); refine blk_put (cs := #[.int .u8 t297, .int .i64 t298, .string t299, .int .i64 0]) ?_ 3 _ rfl; (with_reducible repeat (first | refine blk_drewN ?_ _ | refine blk_drew ?_ | refine blk_alloc ?_ _)); refine blk_put (cs := #[.int .u8 t297, .int .i64 t298, .string (⟨#[]⟩ : ByteArray), .int .i64 0]) ?_ 2 _ rfl; (with_reducible repeat (first | refine blk_drewN ?_ _ | refine blk_drew ?_ | refine blk_alloc ?_ _)); refine blk_put (cs := #[.int .u8 t297, .int .i64 0, .string (⟨#[]⟩ : ByteArray), .int .i64 0]) ?_ 1 _ rfl; (with_reducible repeat (first | refine blk_drewN ?_ _ | refine blk_drew ?_ | refine blk_alloc ?_ _)); refine blk_put (cs := #[.int .u8 0, .int .i64 0, .string (⟨#[]⟩ : ByteArray), .int .i64 0]) ?_ 0 _ rfl; (with_reducible repeat (first | refine blk_drewN ?_ _ | refine blk_drew ?_ | refine blk_alloc ?_ _)); exact BK291.out) Tryz.underlying38 rfl a3_) rfl ?_
   exact ⟨a5_, a70_⟩
def r6_Aggregate.f (k : Nat) (a0 : Int) (a1 : Bool) (l2 : List (S36)) : Option (Int × Int × ByteArray × Int) := (r6_aggregable.f k a0 a1 l2).bind fun t301 => (if t301 = true then (if a0 = 0 then ((r1_Int.f (l2.length : Int)).bind fun bt302 => (some (bt302.1, bt302.2.1, bt302.2.2, 0))) else ((r6_counted.f k l2 a1).bind fun t305 => (if a0 = 1 then ((r1_Int.f (t305.length : Int)).bind fun bt308 => (some (bt308.1, bt308.2.1, bt308.2.2, 0))) else (if (t305.length : Int) = 0 then (some (0, 0, (⟨#[]⟩ : ByteArray), 0)) else (if a0 = 2 then ((r6_sum.f k t305).bind fun bt311 => (some (bt311.1, bt311.2.1, bt311.2.2.1, bt311.2.2.2))) else (if a0 = 3 then ((r6_extreme.f k t305 false).bind fun bt315 => (some (bt315.1, bt315.2.1, bt315.2.2.1, bt315.2.2.2))) else (if a0 = 4 then ((r6_extreme.f k t305 true).bind fun bt319 => (some (bt319.1, bt319.2.1, bt319.2.2.1, bt319.2.2.2))) else ((r6_average.f k t305).bind fun bt323 => (some (bt323.1, bt323.2.1, bt323.2.2.1, bt323.2.2.2)))))))))) else (some (0, 0, (⟨#[]⟩ : ByteArray), 1)))
theorem r6_Aggregate.calls (k : Nat) (a0 : Int) (a1 : Bool) (A2 : Option Addr) (c2 : Nat) (l2 : List (S36)) (r1 : Int) (r2 : Int) (r3 : ByteArray) (r4 : Int) (w : World) (hr2 : Kd.C k36 w A2 l2.length l2) (hc2 : l2.length ≤ c2) (h : r6_Aggregate.f k a0 a1 l2 = some (r1, r2, r3, r4)) :
 Calls Tryz.prog 20 #[.int .u8 a0, .bool a1, .slice A2 l2.length c2] w fun e w' => e = .returned (.agg #[.int .u8 r1, .int .i64 r2, .string r3, .int .i64 r4]) ∧ Below w.heap.size w w' := by
 have hu38 := Tryz.underlying38
 have HR2 := kA_ hr2
 have HC2 := kA_ hc2
 clear hr2 hc2
 have HB := kA_ (Below.refl w.heap.size w)
 have H : ((r6_aggregable.f k a0 a1 l2).bind fun t301 => (if t301 = true then (if a0 = 0 then ((r1_Int.f (l2.length : Int)).bind fun bt302 => (some (bt302.1, bt302.2.1, bt302.2.2, 0))) else ((r6_counted.f k l2 a1).bind fun t305 => (if a0 = 1 then ((r1_Int.f (t305.length : Int)).bind fun bt308 => (some (bt308.1, bt308.2.1, bt308.2.2, 0))) else (if (t305.length : Int) = 0 then (some (0, 0, (⟨#[]⟩ : ByteArray), 0)) else (if a0 = 2 then ((r6_sum.f k t305).bind fun bt311 => (some (bt311.1, bt311.2.1, bt311.2.2.1, bt311.2.2.2))) else (if a0 = 3 then ((r6_extreme.f k t305 false).bind fun bt315 => (some (bt315.1, bt315.2.1, bt315.2.2.1, bt315.2.2.2))) else (if a0 = 4 then ((r6_extreme.f k t305 true).bind fun bt319 => (some (bt319.1, bt319.2.1, bt319.2.2.1, bt319.2.2.2))) else ((r6_average.f k t305).bind fun bt323 => (some (bt323.1, bt323.2.1, bt323.2.2.1, bt323.2.2.2)))))))))) else (some (0, 0, (⟨#[]⟩ : ByteArray), 1)))) = some (r1, r2, r3, r4) := h
 clear h
 replace H := Option.bind_eq_some_iff.mp H
 obtain ⟨t301, A40, H⟩ := H
 replace H : (if t301 = true then (if a0 = 0 then ((r1_Int.f (l2.length : Int)).bind fun bt302 => (some (bt302.1, bt302.2.1, bt302.2.2, 0))) else ((r6_counted.f k l2 a1).bind fun t305 => (if a0 = 1 then ((r1_Int.f (t305.length : Int)).bind fun bt308 => (some (bt308.1, bt308.2.1, bt308.2.2, 0))) else (if (t305.length : Int) = 0 then (some (0, 0, (⟨#[]⟩ : ByteArray), 0)) else (if a0 = 2 then ((r6_sum.f k t305).bind fun bt311 => (some (bt311.1, bt311.2.1, bt311.2.2.1, bt311.2.2.2))) else (if a0 = 3 then ((r6_extreme.f k t305 false).bind fun bt315 => (some (bt315.1, bt315.2.1, bt315.2.2.1, bt315.2.2.2))) else (if a0 = 4 then ((r6_extreme.f k t305 true).bind fun bt319 => (some (bt319.1, bt319.2.1, bt319.2.2.1, bt319.2.2.2))) else ((r6_average.f k t305).bind fun bt323 => (some (bt323.1, bt323.2.1, bt323.2.2.1, bt323.2.2.2)))))))))) else (some (0, 0, (⟨#[]⟩ : ByteArray), 1))) = some (r1, r2, r3, r4) := H
 have A4 := kA_ A40
 clear A40
 by_cases c5 : t301 = true
 rotate_left
 · replace c5 := Bool.eq_false_iff.mpr c5
   subst c5
   have H1 : (some (0, 0, (⟨#[]⟩ : ByteArray), 1)) = some (r1, r2, r3, r4) := by rw [if_neg (show ¬ (false = true) by decide)] at H; exact H
   clear H
   have H := H1
   clear H1
   simp only [Option.some.injEq, Prod.mk.injEq] at H
   obtain ⟨rfl, rfl, rfl, rfl⟩ := H
   go_enter Tryz.func20, Tryz.ntmps20
   go_wp2_with (first | ((with_reducible refine gate_dst (N := 6) rfl ?_); refine box_event ?hg (N := 6) ?hd (cs := #[.int .u8 0, .int .i64 0, .string (⟨#[]⟩ : ByteArray), .int .i64 0]) (t := 38) ?hr ?_; (case hd => rfl); (case hg => rfl); (case hr => first | (go_simp; done) | (go_simp; rfl)); intro gb300 hg w58 hbox hb; have n0_ := kA_ (below_step a0_ hb); have n1_ := kA_ (hbox); have n2_ := kA_ ((a7_ : w.heap.size ≤ gb300)); have n3_ := kA_ ((a7_ : w.heap.size ≤ gb300)); clear HB; have HB := n0_; have BK300 := n1_; have GW300 := n2_; have GE300 := n3_; clear n0_ n1_ n2_ n3_; clear hb hbox hg) | ((with_reducible refine gate_callee (f := 51) rfl ?_); refine goesL_ (some 11) rfl rfl Tryz.func51 a3_ rfl #[.int .u8 a0, .bool a1, .slice A2 l2.length c2] rfl a1_ ?_; (with_reducible refine (r6_aggregable.calls k a0 a1 _ _ l2 false _ ?side1 ?side2 A4.out).mono ?_); (case side1 => repeat (first | exact (Kd.C_below HR2.out HB.out) | (with_reducible refine Kd.cA_ ?_ _) | (with_reducible refine Kd.cN_ ?_ _) | (with_reducible refine Kd.cD_ ?_))); (case side2 => exact HC2.out); rintro e w59 ⟨rfl, hb⟩; refine ⟨_, rfl, ?_⟩; have n0_ := kA_ (blk_below (g := gb300) (o := .cells #[.int .u8 0, .int .i64 0, .string (⟨#[]⟩ : ByteArray), .int .i64 0] 38 (0, 0)) a10_ hb); have n1_ := kA_ (below_step a6_ hb); clear BK300; clear HB; have BK300 := n0_; have HB := n1_; clear n0_ n1_; (try clear hb); (try clear hb2); (try clear hk); (try clear hi); have hcz60_0 : w59.cell? ⟨gb300, 0, none⟩ = some (.int .u8 0) := (blk_cell BK300.out 0).trans rfl; have hcz60_1 : w59.cell? ⟨gb300, 1, none⟩ = some (.int .i64 0) := (blk_cell BK300.out 1).trans rfl; have hcz60_2 : w59.cell? ⟨gb300, 2, none⟩ = some (.string (⟨#[]⟩ : ByteArray)) := (blk_cell BK300.out 2).trans rfl; have hcz60_3 : w59.cell? ⟨gb300, 3, none⟩ = some (.int .i64 0) := (blk_cell BK300.out 3).trans rfl; have hfz60_0 := blk_frozen BK300.out 0; have hfz60_1 := blk_frozen BK300.out 1; have hfz60_2 := blk_frozen BK300.out 2; have hfz60_3 := blk_frozen BK300.out 3))
   refine bodyPost_ret (results_cell_row rfl _ _ gb300 38 #[.int .u8 0, .int .i64 0, .string (⟨#[]⟩ : ByteArray), .int .i64 1] (0, 0) _ rfl a21_ Tryz.underlying38 rfl a3_) rfl ?_
   exact ⟨a5_, a19_⟩
 subst c5
 have H1 : (if a0 = 0 then ((r1_Int.f (l2.length : Int)).bind fun bt302 => (some (bt302.1, bt302.2.1, bt302.2.2, 0))) else ((r6_counted.f k l2 a1).bind fun t305 => (if a0 = 1 then ((r1_Int.f (t305.length : Int)).bind fun bt308 => (some (bt308.1, bt308.2.1, bt308.2.2, 0))) else (if (t305.length : Int) = 0 then (some (0, 0, (⟨#[]⟩ : ByteArray), 0)) else (if a0 = 2 then ((r6_sum.f k t305).bind fun bt311 => (some (bt311.1, bt311.2.1, bt311.2.2.1, bt311.2.2.2))) else (if a0 = 3 then ((r6_extreme.f k t305 false).bind fun bt315 => (some (bt315.1, bt315.2.1, bt315.2.2.1, bt315.2.2.2))) else (if a0 = 4 then ((r6_extreme.f k t305 true).bind fun bt319 => (some (bt319.1, bt319.2.1, bt319.2.2.1, bt319.2.2.2))) else ((r6_average.f k t305).bind fun bt323 => (some (bt323.1, bt323.2.1, bt323.2.2.1, bt323.2.2.2)))))))))) = some (r1, r2, r3, r4) := by rw [if_pos rfl] at H; exact H
 clear H
 have H := H1
 clear H1
 by_cases c6 : a0 = 0
 · rw [if_pos c6] at H
   have c6b0 : (a0 == 0) = true := beq_iff_eq.mpr c6
   have c6b1 : (a0 != 0) = false := bne_eq_false_iff_eq.mpr c6
   clear c6
   replace H := Option.bind_eq_some_iff.mp H
   obtain ⟨⟨t302, t303, t304⟩, A70, H⟩ := H
   replace H : (some (t302, t303, t304, 0)) = some (r1, r2, r3, r4) := H
   have A7 := kA_ A70
   clear A70
   simp only [Option.some.injEq, Prod.mk.injEq] at H
   obtain ⟨rfl, rfl, rfl, rfl⟩ := H
   go_enter Tryz.func20, Tryz.ntmps20
   go_wp2_with (first | ((with_reducible refine gate_dst (N := 6) rfl ?_); refine box_event ?hg (N := 6) ?hd (cs := #[.int .u8 0, .int .i64 0, .string (⟨#[]⟩ : ByteArray), .int .i64 0]) (t := 38) ?hr ?_; (case hd => rfl); (case hg => rfl); (case hr => first | (go_simp; done) | (go_simp; rfl)); intro gb300 hg w8 hbox hb; have n0_ := kA_ (below_step a0_ hb); have n1_ := kA_ (hbox); have n2_ := kA_ ((a7_ : w.heap.size ≤ gb300)); have n3_ := kA_ ((a7_ : w.heap.size ≤ gb300)); clear HB; have HB := n0_; have BK300 := n1_; have GW300 := n2_; have GE300 := n3_; clear n0_ n1_ n2_ n3_; clear hb hbox hg) | ((with_reducible refine gate_callee (f := 51) rfl ?_); refine goesL_ (some 11) rfl rfl Tryz.func51 a3_ rfl #[.int .u8 a0, .bool a1, .slice A2 l2.length c2] rfl a1_ ?_; (with_reducible refine (r6_aggregable.calls k a0 a1 _ _ l2 true _ ?side1 ?side2 A4.out).mono ?_); (case side1 => repeat (first | exact (Kd.C_below HR2.out HB.out) | (with_reducible refine Kd.cA_ ?_ _) | (with_reducible refine Kd.cN_ ?_ _) | (with_reducible refine Kd.cD_ ?_))); (case side2 => exact HC2.out); rintro e w9 ⟨rfl, hb⟩; refine ⟨_, rfl, ?_⟩; have n0_ := kA_ (blk_below (g := gb300) (o := .cells #[.int .u8 0, .int .i64 0, .string (⟨#[]⟩ : ByteArray), .int .i64 0] 38 (0, 0)) a10_ hb); have n1_ := kA_ (below_step a6_ hb); clear BK300; clear HB; have BK300 := n0_; have HB := n1_; clear n0_ n1_; (try clear hb); (try clear hb2); (try clear hk); (try clear hi)) | ((with_reducible refine gate_callee (f := 43) rfl ?_); refine goesL_ (some 18) rfl rfl Tryz.func43 a3_ rfl #[.int .i64 (l2.length : Int)] rfl a1_ ?_; (with_reducible refine (r1_Int.calls (l2.length : Int) t302 t303 t304 _ A7.out).mono ?_); rintro e w10 ⟨rfl, hb⟩; refine ⟨_, rfl, ?_⟩; have n0_ := kA_ (blk_below (g := gb300) (o := .cells #[.int .u8 0, .int .i64 0, .string (⟨#[]⟩ : ByteArray), .int .i64 0] 38 (0, 0)) a10_ hb); have n1_ := kA_ (below_step a6_ hb); clear BK300; clear HB; have BK300 := n0_; have HB := n1_; clear n0_ n1_; (try clear hb); (try clear hb2); (try clear hk); (try clear hi); have hcz11_0 : w10.cell? ⟨gb300, 0, none⟩ = some (.int .u8 0) := (blk_cell BK300.out 0).trans rfl; have hcz11_1 : w10.cell? ⟨gb300, 1, none⟩ = some (.int .i64 0) := (blk_cell BK300.out 1).trans rfl; have hcz11_2 : w10.cell? ⟨gb300, 2, none⟩ = some (.string (⟨#[]⟩ : ByteArray)) := (blk_cell BK300.out 2).trans rfl; have hcz11_3 : w10.cell? ⟨gb300, 3, none⟩ = some (.int .i64 0) := (blk_cell BK300.out 3).trans rfl; have hfz11_0 := blk_frozen BK300.out 0; have hfz11_1 := blk_frozen BK300.out 1; have hfz11_2 := blk_frozen BK300.out 2; have hfz11_3 := blk_frozen BK300.out 3))
   refine bodyPost_ret (results_cell_row rfl _ _ gb300 38 #[.int .u8 t302, .int .i64 t303, .string t304, .int .i64 0] (0, 0) _ rfl (by (with_reducible repeat (first | refine blk_drewN ?_ _ | refine blk_drew ?_ | refine blk_alloc ?_ _)); refine blk_put (cs := #[.int .u8 t302, .int .i64 t303, .string t304, .int .i64 0]) ?_ 3 _ rfl; (with_reducible repeat (first | refine blk_drewN ?_ _ | refine blk_drew ?_ | refine blk_alloc ?_ _)); refine blk_put (cs := #[.int .u8 t302, .int .i64 t303, .string (⟨#[]⟩ : ByteArray), .int .i64 0]) ?_ 2 _ rfl; (with_reducible repeat (first | refine blk_drewN ?_ _ | refine blk_drew ?_ | refine blk_alloc ?_ _)); refine blk_put (cs := #[.int .u8 t302, .int .i64 0, .string (⟨#[]⟩ : ByteArray), .int .i64 0]) ?_ 1 _ rfl; (with_reducible repeat (first | refine blk_drewN ?_ _ | refine blk_drew ?_ | refine blk_alloc ?_ _)); refine blk_put (cs := #[.int .u8 0, .int .i64 0, .string (⟨#[]⟩ : ByteArray), .int .i64 0]) ?_ 0 _ rfl; (with_reducible repeat (first | refine blk_drewN ?_ _ | refine blk_drew ?_ | refine blk_alloc ?_ _)); exact BK300.out) Tryz.underlying38 rfl a3_) rfl ?_
   exact ⟨a5_, a19_⟩
 rw [if_neg c6] at H
 have c6b0 : (a0 == 0) = false := beq_eq_false_iff_ne.mpr c6
 have c6b1 : (a0 != 0) = true := bne_iff_ne.mpr c6
 replace H := Option.bind_eq_some_iff.mp H
 obtain ⟨t305, A120, H⟩ := H
 replace H : (if a0 = 1 then ((r1_Int.f (t305.length : Int)).bind fun bt308 => (some (bt308.1, bt308.2.1, bt308.2.2, 0))) else (if (t305.length : Int) = 0 then (some (0, 0, (⟨#[]⟩ : ByteArray), 0)) else (if a0 = 2 then ((r6_sum.f k t305).bind fun bt311 => (some (bt311.1, bt311.2.1, bt311.2.2.1, bt311.2.2.2))) else (if a0 = 3 then ((r6_extreme.f k t305 false).bind fun bt315 => (some (bt315.1, bt315.2.1, bt315.2.2.1, bt315.2.2.2))) else (if a0 = 4 then ((r6_extreme.f k t305 true).bind fun bt319 => (some (bt319.1, bt319.2.1, bt319.2.2.1, bt319.2.2.2))) else ((r6_average.f k t305).bind fun bt323 => (some (bt323.1, bt323.2.1, bt323.2.2.1, bt323.2.2.2)))))))) = some (r1, r2, r3, r4) := H
 have A12 := kA_ A120
 clear A120
 by_cases c13 : a0 = 1
 · rw [if_pos c13] at H
   have c13b0 : (a0 == 1) = true := beq_iff_eq.mpr c13
   have c13b1 : (a0 != 1) = false := bne_eq_false_iff_eq.mpr c13
   clear c13
   replace H := Option.bind_eq_some_iff.mp H
   obtain ⟨⟨t308, t309, t310⟩, A140, H⟩ := H
   replace H : (some (t308, t309, t310, 0)) = some (r1, r2, r3, r4) := H
   have A14 := kA_ A140
   clear A140
   simp only [Option.some.injEq, Prod.mk.injEq] at H
   obtain ⟨rfl, rfl, rfl, rfl⟩ := H
   go_enter Tryz.func20, Tryz.ntmps20
   go_wp2_with (first | ((with_reducible refine gate_dst (N := 6) rfl ?_); refine box_event ?hg (N := 6) ?hd (cs := #[.int .u8 0, .int .i64 0, .string (⟨#[]⟩ : ByteArray), .int .i64 0]) (t := 38) ?hr ?_; (case hd => rfl); (case hg => rfl); (case hr => first | (go_simp; done) | (go_simp; rfl)); intro gb300 hg w15 hbox hb; have n0_ := kA_ (below_step a0_ hb); have n1_ := kA_ (hbox); have n2_ := kA_ ((a7_ : w.heap.size ≤ gb300)); have n3_ := kA_ ((a7_ : w.heap.size ≤ gb300)); clear HB; have HB := n0_; have BK300 := n1_; have GW300 := n2_; have GE300 := n3_; clear n0_ n1_ n2_ n3_; clear hb hbox hg) | ((with_reducible refine gate_callee (f := 51) rfl ?_); refine goesL_ (some 11) rfl rfl Tryz.func51 a3_ rfl #[.int .u8 a0, .bool a1, .slice A2 l2.length c2] rfl a1_ ?_; (with_reducible refine (r6_aggregable.calls k a0 a1 _ _ l2 true _ ?side1 ?side2 A4.out).mono ?_); (case side1 => repeat (first | exact (Kd.C_below HR2.out HB.out) | (with_reducible refine Kd.cA_ ?_ _) | (with_reducible refine Kd.cN_ ?_ _) | (with_reducible refine Kd.cD_ ?_))); (case side2 => exact HC2.out); rintro e w16 ⟨rfl, hb⟩; refine ⟨_, rfl, ?_⟩; have n0_ := kA_ (blk_below (g := gb300) (o := .cells #[.int .u8 0, .int .i64 0, .string (⟨#[]⟩ : ByteArray), .int .i64 0] 38 (0, 0)) a10_ hb); have n1_ := kA_ (below_step a6_ hb); clear BK300; clear HB; have BK300 := n0_; have HB := n1_; clear n0_ n1_; (try clear hb); (try clear hb2); (try clear hk); (try clear hi)) | ((with_reducible refine gate_callee (f := 52) rfl ?_); refine goesL_ (some 22) rfl rfl Tryz.func52 a3_ rfl #[.slice A2 l2.length c2, .bool a1] rfl a1_ ?_; (with_reducible refine (r6_counted.calls k _ _ l2 a1 t305 _ ?side1 ?side2 A12.out).mono ?_); (case side1 => repeat (first | exact (Kd.C_below HR2.out HB.out) | (with_reducible refine Kd.cA_ ?_ _) | (with_reducible refine Kd.cN_ ?_ _) | (with_reducible refine Kd.cD_ ?_))); (case side2 => exact HC2.out); rintro e w17 ⟨v306, rfl, ho0, hb⟩; refine ⟨_, rfl, ?_⟩; have n0_ := kA_ (Kd.R_lower ho0 (below_size a6_)); have n1_ := kA_ (blk_below (g := gb300) (o := .cells #[.int .u8 0, .int .i64 0, .string (⟨#[]⟩ : ByteArray), .int .i64 0] 38 (0, 0)) a10_ hb); have n2_ := kA_ (below_step a6_ hb); clear BK300; clear HB; have HO307 := n0_; have BK300 := n1_; have HB := n2_; clear n0_ n1_ n2_; (try clear hb); (try clear hb2); (try clear hk); (try clear hi); (try clear ho0); obtain ⟨Ao18, co18, eo18⟩ := Kd.R_slice HO307.out; subst eo18) | ((with_reducible refine gate_callee (f := 43) rfl ?_); refine goesL_ (some 27) rfl rfl Tryz.func43 a3_ rfl #[.int .i64 (t305.length : Int)] rfl a1_ ?_; (with_reducible refine (r1_Int.calls (t305.length : Int) t308 t309 t310 _ A14.out).mono ?_); rintro e w19 ⟨rfl, hb⟩; refine ⟨_, rfl, ?_⟩; have n0_ := kA_ (Kd.R_below a55_ hb); have n1_ := kA_ (blk_below (g := gb300) (o := .cells #[.int .u8 0, .int .i64 0, .string (⟨#[]⟩ : ByteArray), .int .i64 0] 38 (0, 0)) a10_ hb); have n2_ := kA_ (below_step a6_ hb); clear HO307; clear BK300; clear HB; have HO307 := n0_; have BK300 := n1_; have HB := n2_; clear n0_ n1_ n2_; (try clear hb); (try clear hb2); (try clear hk); (try clear hi); have hcz20_0 : w19.cell? ⟨gb300, 0, none⟩ = some (.int .u8 0) := (blk_cell BK300.out 0).trans rfl; have hcz20_1 : w19.cell? ⟨gb300, 1, none⟩ = some (.int .i64 0) := (blk_cell BK300.out 1).trans rfl; have hcz20_2 : w19.cell? ⟨gb300, 2, none⟩ = some (.string (⟨#[]⟩ : ByteArray)) := (blk_cell BK300.out 2).trans rfl; have hcz20_3 : w19.cell? ⟨gb300, 3, none⟩ = some (.int .i64 0) := (blk_cell BK300.out 3).trans rfl; have hfz20_0 := blk_frozen BK300.out 0; have hfz20_1 := blk_frozen BK300.out 1; have hfz20_2 := blk_frozen BK300.out 2; have hfz20_3 := blk_frozen BK300.out 3))
   refine bodyPost_ret (results_cell_row rfl _ _ gb300 38 #[.int .u8 t308, .int .i64 t309, .string t310, .int .i64 0] (0, 0) _ rfl (by (with_reducible repeat (first | refine blk_drewN ?_ _ | refine blk_drew ?_ | refine blk_alloc ?_ _)); refine blk_put (cs := #[.int .u8 t308, .int .i64 t309, .string t310, .int .i64 0]) ?_ 3 _ rfl; (with_reducible repeat (first | refine blk_drewN ?_ _ | refine blk_drew ?_ | refine blk_alloc ?_ _)); refine blk_put (cs := #[.int .u8 t308, .int .i64 t309, .string (⟨#[]⟩ : ByteArray), .int .i64 0]) ?_ 2 _ rfl; (with_reducible repeat (first | refine blk_drewN ?_ _ | refine blk_drew ?_ | refine blk_alloc ?_ _)); refine blk_put (cs := #[.int .u8 t308, .int .i64 0, .string (⟨#[]⟩ : ByteArray), .int .i64 0]) ?_ 1 _ rfl; (with_reducible repeat (first | refine blk_drewN ?_ _ | refine blk_drew ?_ | refine blk_alloc ?_ _)); refine blk_put (cs := #[.int .u8 0, .int .i64 0, .string (⟨#[]⟩ : ByteArray), .int .i64 0]) ?_ 0 _ rfl; (with_reducible repeat (first | refine blk_drewN ?_ _ | refine blk_drew ?_ | refine blk_alloc ?_ _)); exact BK300.out) Tryz.underlying38 rfl a3_) rfl ?_
   exact ⟨a5_, a19_⟩
 rw [if_neg c13] at H
 have c13b0 : (a0 == 1) = false := beq_eq_false_iff_ne.mpr c13
 have c13b1 : (a0 != 1) = true := bne_iff_ne.mpr c13
 by_cases c21 : (t305.length : Int) = 0
 · rw [if_pos c21] at H
   have c21b0 : ((t305.length : Int) == 0) = true := beq_iff_eq.mpr c21
   have c21b1 : ((t305.length : Int) != 0) = false := bne_eq_false_iff_eq.mpr c21
   clear c21
   simp only [Option.some.injEq, Prod.mk.injEq] at H
   obtain ⟨rfl, rfl, rfl, rfl⟩ := H
   go_enter Tryz.func20, Tryz.ntmps20
   go_wp2_with (first | ((with_reducible refine gate_dst (N := 6) rfl ?_); refine box_event ?hg (N := 6) ?hd (cs := #[.int .u8 0, .int .i64 0, .string (⟨#[]⟩ : ByteArray), .int .i64 0]) (t := 38) ?hr ?_; (case hd => rfl); (case hg => rfl); (case hr => first | (go_simp; done) | (go_simp; rfl)); intro gb300 hg w22 hbox hb; have n0_ := kA_ (below_step a0_ hb); have n1_ := kA_ (hbox); have n2_ := kA_ ((a7_ : w.heap.size ≤ gb300)); have n3_ := kA_ ((a7_ : w.heap.size ≤ gb300)); clear HB; have HB := n0_; have BK300 := n1_; have GW300 := n2_; have GE300 := n3_; clear n0_ n1_ n2_ n3_; clear hb hbox hg) | ((with_reducible refine gate_callee (f := 51) rfl ?_); refine goesL_ (some 11) rfl rfl Tryz.func51 a3_ rfl #[.int .u8 a0, .bool a1, .slice A2 l2.length c2] rfl a1_ ?_; (with_reducible refine (r6_aggregable.calls k a0 a1 _ _ l2 true _ ?side1 ?side2 A4.out).mono ?_); (case side1 => repeat (first | exact (Kd.C_below HR2.out HB.out) | (with_reducible refine Kd.cA_ ?_ _) | (with_reducible refine Kd.cN_ ?_ _) | (with_reducible refine Kd.cD_ ?_))); (case side2 => exact HC2.out); rintro e w23 ⟨rfl, hb⟩; refine ⟨_, rfl, ?_⟩; have n0_ := kA_ (blk_below (g := gb300) (o := .cells #[.int .u8 0, .int .i64 0, .string (⟨#[]⟩ : ByteArray), .int .i64 0] 38 (0, 0)) a10_ hb); have n1_ := kA_ (below_step a6_ hb); clear BK300; clear HB; have BK300 := n0_; have HB := n1_; clear n0_ n1_; (try clear hb); (try clear hb2); (try clear hk); (try clear hi)) | ((with_reducible refine gate_callee (f := 52) rfl ?_); refine goesL_ (some 22) rfl rfl Tryz.func52 a3_ rfl #[.slice A2 l2.length c2, .bool a1] rfl a1_ ?_; (with_reducible refine (r6_counted.calls k _ _ l2 a1 t305 _ ?side1 ?side2 A12.out).mono ?_); (case side1 => repeat (first | exact (Kd.C_below HR2.out HB.out) | (with_reducible refine Kd.cA_ ?_ _) | (with_reducible refine Kd.cN_ ?_ _) | (with_reducible refine Kd.cD_ ?_))); (case side2 => exact HC2.out); rintro e w24 ⟨v306, rfl, ho0, hb⟩; refine ⟨_, rfl, ?_⟩; have n0_ := kA_ (Kd.R_lower ho0 (below_size a6_)); have n1_ := kA_ (blk_below (g := gb300) (o := .cells #[.int .u8 0, .int .i64 0, .string (⟨#[]⟩ : ByteArray), .int .i64 0] 38 (0, 0)) a10_ hb); have n2_ := kA_ (below_step a6_ hb); clear BK300; clear HB; have HO307 := n0_; have BK300 := n1_; have HB := n2_; clear n0_ n1_ n2_; (try clear hb); (try clear hb2); (try clear hk); (try clear hi); (try clear ho0); obtain ⟨Ao25, co25, eo25⟩ := Kd.R_slice HO307.out; subst eo25; have hcz26_0 : w24.cell? ⟨gb300, 0, none⟩ = some (.int .u8 0) := (blk_cell BK300.out 0).trans rfl; have hcz26_1 : w24.cell? ⟨gb300, 1, none⟩ = some (.int .i64 0) := (blk_cell BK300.out 1).trans rfl; have hcz26_2 : w24.cell? ⟨gb300, 2, none⟩ = some (.string (⟨#[]⟩ : ByteArray)) := (blk_cell BK300.out 2).trans rfl; have hcz26_3 : w24.cell? ⟨gb300, 3, none⟩ = some (.int .i64 0) := (blk_cell BK300.out 3).trans rfl; have hfz26_0 := blk_frozen BK300.out 0; have hfz26_1 := blk_frozen BK300.out 1; have hfz26_2 := blk_frozen BK300.out 2; have hfz26_3 := blk_frozen BK300.out 3))
   refine bodyPost_ret (results_cell_row rfl _ _ gb300 38 #[.int .u8 0, .int .i64 0, .string (⟨#[]⟩ : ByteArray), .int .i64 0] (0, 0) _ rfl a21_ Tryz.underlying38 rfl a3_) rfl ?_
   exact ⟨a5_, a19_⟩
 rw [if_neg c21] at H
 have c21b0 : ((t305.length : Int) == 0) = false := beq_eq_false_iff_ne.mpr c21
 have c21b1 : ((t305.length : Int) != 0) = true := bne_iff_ne.mpr c21
 have c21b2 : ¬ (t305 = []) := fun h_ => c21 (by rw [h_]; rfl)
 by_cases c27 : a0 = 2
 · rw [if_pos c27] at H
   have c27b0 : (a0 == 2) = true := beq_iff_eq.mpr c27
   have c27b1 : (a0 != 2) = false := bne_eq_false_iff_eq.mpr c27
   clear c27
   replace H := Option.bind_eq_some_iff.mp H
   obtain ⟨⟨t311, t312, t313, t314⟩, A280, H⟩ := H
   replace H : (some (t311, t312, t313, t314)) = some (r1, r2, r3, r4) := H
   have A28 := kA_ A280
   clear A280
   simp only [Option.some.injEq, Prod.mk.injEq] at H
   obtain ⟨rfl, rfl, rfl, rfl⟩ := H
   go_enter Tryz.func20, Tryz.ntmps20
   go_wp2_with (first | ((with_reducible refine gate_dst (N := 6) rfl ?_); refine box_event ?hg (N := 6) ?hd (cs := #[.int .u8 0, .int .i64 0, .string (⟨#[]⟩ : ByteArray), .int .i64 0]) (t := 38) ?hr ?_; (case hd => rfl); (case hg => rfl); (case hr => first | (go_simp; done) | (go_simp; rfl)); intro gb300 hg w29 hbox hb; have n0_ := kA_ (below_step a0_ hb); have n1_ := kA_ (hbox); have n2_ := kA_ ((a7_ : w.heap.size ≤ gb300)); have n3_ := kA_ ((a7_ : w.heap.size ≤ gb300)); clear HB; have HB := n0_; have BK300 := n1_; have GW300 := n2_; have GE300 := n3_; clear n0_ n1_ n2_ n3_; clear hb hbox hg) | ((with_reducible refine gate_callee (f := 51) rfl ?_); refine goesL_ (some 11) rfl rfl Tryz.func51 a3_ rfl #[.int .u8 a0, .bool a1, .slice A2 l2.length c2] rfl a1_ ?_; (with_reducible refine (r6_aggregable.calls k a0 a1 _ _ l2 true _ ?side1 ?side2 A4.out).mono ?_); (case side1 => repeat (first | exact (Kd.C_below HR2.out HB.out) | (with_reducible refine Kd.cA_ ?_ _) | (with_reducible refine Kd.cN_ ?_ _) | (with_reducible refine Kd.cD_ ?_))); (case side2 => exact HC2.out); rintro e w30 ⟨rfl, hb⟩; refine ⟨_, rfl, ?_⟩; have n0_ := kA_ (blk_below (g := gb300) (o := .cells #[.int .u8 0, .int .i64 0, .string (⟨#[]⟩ : ByteArray), .int .i64 0] 38 (0, 0)) a10_ hb); have n1_ := kA_ (below_step a6_ hb); clear BK300; clear HB; have BK300 := n0_; have HB := n1_; clear n0_ n1_; (try clear hb); (try clear hb2); (try clear hk); (try clear hi)) | ((with_reducible refine gate_callee (f := 52) rfl ?_); refine goesL_ (some 22) rfl rfl Tryz.func52 a3_ rfl #[.slice A2 l2.length c2, .bool a1] rfl a1_ ?_; (with_reducible refine (r6_counted.calls k _ _ l2 a1 t305 _ ?side1 ?side2 A12.out).mono ?_); (case side1 => repeat (first | exact (Kd.C_below HR2.out HB.out) | (with_reducible refine Kd.cA_ ?_ _) | (with_reducible refine Kd.cN_ ?_ _) | (with_reducible refine Kd.cD_ ?_))); (case side2 => exact HC2.out); rintro e w31 ⟨v306, rfl, ho0, hb⟩; refine ⟨_, rfl, ?_⟩; have n0_ := kA_ (Kd.R_lower ho0 (below_size a6_)); have n1_ := kA_ (blk_below (g := gb300) (o := .cells #[.int .u8 0, .int .i64 0, .string (⟨#[]⟩ : ByteArray), .int .i64 0] 38 (0, 0)) a10_ hb); have n2_ := kA_ (below_step a6_ hb); clear BK300; clear HB; have HO307 := n0_; have BK300 := n1_; have HB := n2_; clear n0_ n1_ n2_; (try clear hb); (try clear hb2); (try clear hk); (try clear hi); (try clear ho0); obtain ⟨Ao32, co32, eo32⟩ := Kd.R_slice HO307.out; subst eo32) | ((with_reducible refine gate_callee (f := 53) rfl ?_); refine goesL_ (some 37) rfl rfl Tryz.func53 a3_ rfl #[.slice Ao32 t305.length co32] rfl a1_ ?_; (with_reducible refine (r6_sum.calls k _ _ t305 t311 t312 t313 t314 _ ?side1 ?side2 A28.out).mono ?_); (case side1 => repeat (first | exact (Kd.R_reads' HO307.out).2.2 | (with_reducible refine Kd.cA_ ?_ _) | (with_reducible refine Kd.cN_ ?_ _) | (with_reducible refine Kd.cD_ ?_))); (case side2 => exact (Kd.R_reads' HO307.out).2.1); rintro e w33 ⟨rfl, hb⟩; refine ⟨_, rfl, ?_⟩; have n0_ := kA_ (Kd.R_below a55_ hb); have n1_ := kA_ (blk_below (g := gb300) (o := .cells #[.int .u8 0, .int .i64 0, .string (⟨#[]⟩ : ByteArray), .int .i64 0] 38 (0, 0)) a10_ hb); have n2_ := kA_ (below_step a6_ hb); clear HO307; clear BK300; clear HB; have HO307 := n0_; have BK300 := n1_; have HB := n2_; clear n0_ n1_ n2_; (try clear hb); (try clear hb2); (try clear hk); (try clear hi); have hcz34_0 : w33.cell? ⟨gb300, 0, none⟩ = some (.int .u8 0) := (blk_cell BK300.out 0).trans rfl; have hcz34_1 : w33.cell? ⟨gb300, 1, none⟩ = some (.int .i64 0) := (blk_cell BK300.out 1).trans rfl; have hcz34_2 : w33.cell? ⟨gb300, 2, none⟩ = some (.string (⟨#[]⟩ : ByteArray)) := (blk_cell BK300.out 2).trans rfl; have hcz34_3 : w33.cell? ⟨gb300, 3, none⟩ = some (.int .i64 0) := (blk_cell BK300.out 3).trans rfl; have hfz34_0 := blk_frozen BK300.out 0; have hfz34_1 := blk_frozen BK300.out 1; have hfz34_2 := blk_frozen BK300.out 2; have hfz34_3 := blk_frozen BK300.out 3))
   refine bodyPost_ret (results_cell_row rfl _ _ gb300 38 #[.int .u8 t311, .int .i64 t312, .string t313, .int .i64 t314] (0, 0) _ rfl (by (with_reducible repeat (first | refine blk_drewN ?_ _ | refine blk_drew ?_ | refine blk_alloc ?_ _)); refine blk_put (cs := #[.int .u8 t311, .int .i64 t312, .string t313, .int .i64 0]) ?_ 3 _ rfl; (with_reducible repeat (first | refine blk_drewN ?_ _ | refine blk_drew ?_ | refine blk_alloc ?_ _)); refine blk_put (cs := #[.int .u8 t311, .int .i64 t312, .string (⟨#[]⟩ : ByteArray), .int .i64 0]) ?_ 2 _ rfl; (with_reducible repeat (first | refine blk_drewN ?_ _ | refine blk_drew ?_ | refine blk_alloc ?_ _)); refine blk_put (cs := #[.int .u8 t311, .int .i64 0, .string (⟨#[]⟩ : ByteArray), .int .i64 0]) ?_ 1 _ rfl; (with_reducible repeat (first | refine blk_drewN ?_ _ | refine blk_drew ?_ | refine blk_alloc ?_ _)); refine blk_put (cs := #[.int .u8 0, .int .i64 0, .string (⟨#[]⟩ : ByteArray), .int .i64 0]) ?_ 0 _ rfl; (with_reducible repeat (first | refine blk_drewN ?_ _ | refine blk_drew ?_ | refine blk_alloc ?_ _)); exact BK300.out) Tryz.underlying38 rfl a3_) rfl ?_
   exact ⟨a5_, a19_⟩
 rw [if_neg c27] at H
 have c27b0 : (a0 == 2) = false := beq_eq_false_iff_ne.mpr c27
 have c27b1 : (a0 != 2) = true := bne_iff_ne.mpr c27
 by_cases c35 : a0 = 3
 · rw [if_pos c35] at H
   have c35b0 : (a0 == 3) = true := beq_iff_eq.mpr c35
   have c35b1 : (a0 != 3) = false := bne_eq_false_iff_eq.mpr c35
   clear c35
   replace H := Option.bind_eq_some_iff.mp H
   obtain ⟨⟨t315, t316, t317, t318⟩, A360, H⟩ := H
   replace H : (some (t315, t316, t317, t318)) = some (r1, r2, r3, r4) := H
   have A36 := kA_ A360
   clear A360
   simp only [Option.some.injEq, Prod.mk.injEq] at H
   obtain ⟨rfl, rfl, rfl, rfl⟩ := H
   go_enter Tryz.func20, Tryz.ntmps20
   go_wp2_with (first | ((with_reducible refine gate_dst (N := 6) rfl ?_); refine box_event ?hg (N := 6) ?hd (cs := #[.int .u8 0, .int .i64 0, .string (⟨#[]⟩ : ByteArray), .int .i64 0]) (t := 38) ?hr ?_; (case hd => rfl); (case hg => rfl); (case hr => first | (go_simp; done) | (go_simp; rfl)); intro gb300 hg w37 hbox hb; have n0_ := kA_ (below_step a0_ hb); have n1_ := kA_ (hbox); have n2_ := kA_ ((a7_ : w.heap.size ≤ gb300)); have n3_ := kA_ ((a7_ : w.heap.size ≤ gb300)); clear HB; have HB := n0_; have BK300 := n1_; have GW300 := n2_; have GE300 := n3_; clear n0_ n1_ n2_ n3_; clear hb hbox hg) | ((with_reducible refine gate_callee (f := 51) rfl ?_); refine goesL_ (some 11) rfl rfl Tryz.func51 a3_ rfl #[.int .u8 a0, .bool a1, .slice A2 l2.length c2] rfl a1_ ?_; (with_reducible refine (r6_aggregable.calls k a0 a1 _ _ l2 true _ ?side1 ?side2 A4.out).mono ?_); (case side1 => repeat (first | exact (Kd.C_below HR2.out HB.out) | (with_reducible refine Kd.cA_ ?_ _) | (with_reducible refine Kd.cN_ ?_ _) | (with_reducible refine Kd.cD_ ?_))); (case side2 => exact HC2.out); rintro e w38 ⟨rfl, hb⟩; refine ⟨_, rfl, ?_⟩; have n0_ := kA_ (blk_below (g := gb300) (o := .cells #[.int .u8 0, .int .i64 0, .string (⟨#[]⟩ : ByteArray), .int .i64 0] 38 (0, 0)) a10_ hb); have n1_ := kA_ (below_step a6_ hb); clear BK300; clear HB; have BK300 := n0_; have HB := n1_; clear n0_ n1_; (try clear hb); (try clear hb2); (try clear hk); (try clear hi)) | ((with_reducible refine gate_callee (f := 52) rfl ?_); refine goesL_ (some 22) rfl rfl Tryz.func52 a3_ rfl #[.slice A2 l2.length c2, .bool a1] rfl a1_ ?_; (with_reducible refine (r6_counted.calls k _ _ l2 a1 t305 _ ?side1 ?side2 A12.out).mono ?_); (case side1 => repeat (first | exact (Kd.C_below HR2.out HB.out) | (with_reducible refine Kd.cA_ ?_ _) | (with_reducible refine Kd.cN_ ?_ _) | (with_reducible refine Kd.cD_ ?_))); (case side2 => exact HC2.out); rintro e w39 ⟨v306, rfl, ho0, hb⟩; refine ⟨_, rfl, ?_⟩; have n0_ := kA_ (Kd.R_lower ho0 (below_size a6_)); have n1_ := kA_ (blk_below (g := gb300) (o := .cells #[.int .u8 0, .int .i64 0, .string (⟨#[]⟩ : ByteArray), .int .i64 0] 38 (0, 0)) a10_ hb); have n2_ := kA_ (below_step a6_ hb); clear BK300; clear HB; have HO307 := n0_; have BK300 := n1_; have HB := n2_; clear n0_ n1_ n2_; (try clear hb); (try clear hb2); (try clear hk); (try clear hi); (try clear ho0); obtain ⟨Ao40, co40, eo40⟩ := Kd.R_slice HO307.out; subst eo40) | ((with_reducible refine gate_callee (f := 54) rfl ?_); refine goesL_ (some 41) rfl rfl Tryz.func54 a3_ rfl #[.slice Ao40 t305.length co40, .bool false] rfl a1_ ?_; (with_reducible refine (r6_extreme.calls k _ _ t305 false t315 t316 t317 t318 _ ?side1 ?side2 A36.out).mono ?_); (case side1 => repeat (first | exact (Kd.R_reads' HO307.out).2.2 | (with_reducible refine Kd.cA_ ?_ _) | (with_reducible refine Kd.cN_ ?_ _) | (with_reducible refine Kd.cD_ ?_))); (case side2 => exact (Kd.R_reads' HO307.out).2.1); rintro e w41 ⟨rfl, hb⟩; refine ⟨_, rfl, ?_⟩; have n0_ := kA_ (Kd.R_below a55_ hb); have n1_ := kA_ (blk_below (g := gb300) (o := .cells #[.int .u8 0, .int .i64 0, .string (⟨#[]⟩ : ByteArray), .int .i64 0] 38 (0, 0)) a10_ hb); have n2_ := kA_ (below_step a6_ hb); clear HO307; clear BK300; clear HB; have HO307 := n0_; have BK300 := n1_; have HB := n2_; clear n0_ n1_ n2_; (try clear hb); (try clear hb2); (try clear hk); (try clear hi); have hcz42_0 : w41.cell? ⟨gb300, 0, none⟩ = some (.int .u8 0) := (blk_cell BK300.out 0).trans rfl; have hcz42_1 : w41.cell? ⟨gb300, 1, none⟩ = some (.int .i64 0) := (blk_cell BK300.out 1).trans rfl; have hcz42_2 : w41.cell? ⟨gb300, 2, none⟩ = some (.string (⟨#[]⟩ : ByteArray)) := (blk_cell BK300.out 2).trans rfl; have hcz42_3 : w41.cell? ⟨gb300, 3, none⟩ = some (.int .i64 0) := (blk_cell BK300.out 3).trans rfl; have hfz42_0 := blk_frozen BK300.out 0; have hfz42_1 := blk_frozen BK300.out 1; have hfz42_2 := blk_frozen BK300.out 2; have hfz42_3 := blk_frozen BK300.out 3))
   refine bodyPost_ret (results_cell_row rfl _ _ gb300 38 #[.int .u8 t315, .int .i64 t316, .string t317, .int .i64 t318] (0, 0) _ rfl (by (with_reducible repeat (first | refine blk_drewN ?_ _ | refine blk_drew ?_ | refine blk_alloc ?_ _)); refine blk_put (cs := #[.int .u8 t315, .int .i64 t316, .string t317, .int .i64 0]) ?_ 3 _ rfl; (with_reducible repeat (first | refine blk_drewN ?_ _ | refine blk_drew ?_ | refine blk_alloc ?_ _)); refine blk_put (cs := #[.int .u8 t315, .int .i64 t316, .string (⟨#[]⟩ : ByteArray), .int .i64 0]) ?_ 2 _ rfl; (with_reducible repeat (first | refine blk_drewN ?_ _ | refine blk_drew ?_ | refine blk_alloc ?_ _)); refine blk_put (cs := #[.int .u8 t315, .int .i64 0, .string (⟨#[]⟩ : ByteArray), .int .i64 0]) ?_ 1 _ rfl; (with_reducible repeat (first | refine blk_drewN ?_ _ | refine blk_drew ?_ | refine blk_alloc ?_ _)); refine blk_put (cs := #[.int .u8 0, .int .i64 0, .string (⟨#[]⟩ : ByteArray), .int .i64 0]) ?_ 0 _ rfl; (with_reducible repeat (first | refine blk_drewN ?_ _ | refine blk_drew ?_ | refine blk_alloc ?_ _)); exact BK300.out) Tryz.underlying38 rfl a3_) rfl ?_
   exact ⟨a5_, a19_⟩
 rw [if_neg c35] at H
 have c35b0 : (a0 == 3) = false := beq_eq_false_iff_ne.mpr c35
 have c35b1 : (a0 != 3) = true := bne_iff_ne.mpr c35
 by_cases c43 : a0 = 4
 · rw [if_pos c43] at H
   have c43b0 : (a0 == 4) = true := beq_iff_eq.mpr c43
   have c43b1 : (a0 != 4) = false := bne_eq_false_iff_eq.mpr c43
   clear c43
   replace H := Option.bind_eq_some_iff.mp H
   obtain ⟨⟨t319, t320, t321, t322⟩, A440, H⟩ := H
   replace H : (some (t319, t320, t321, t322)) = some (r1, r2, r3, r4) := H
   have A44 := kA_ A440
   clear A440
   simp only [Option.some.injEq, Prod.mk.injEq] at H
   obtain ⟨rfl, rfl, rfl, rfl⟩ := H
   go_enter Tryz.func20, Tryz.ntmps20
   go_wp2_with (first | ((with_reducible refine gate_dst (N := 6) rfl ?_); refine box_event ?hg (N := 6) ?hd (cs := #[.int .u8 0, .int .i64 0, .string (⟨#[]⟩ : ByteArray), .int .i64 0]) (t := 38) ?hr ?_; (case hd => rfl); (case hg => rfl); (case hr => first | (go_simp; done) | (go_simp; rfl)); intro gb300 hg w45 hbox hb; have n0_ := kA_ (below_step a0_ hb); have n1_ := kA_ (hbox); have n2_ := kA_ ((a7_ : w.heap.size ≤ gb300)); have n3_ := kA_ ((a7_ : w.heap.size ≤ gb300)); clear HB; have HB := n0_; have BK300 := n1_; have GW300 := n2_; have GE300 := n3_; clear n0_ n1_ n2_ n3_; clear hb hbox hg) | ((with_reducible refine gate_callee (f := 51) rfl ?_); refine goesL_ (some 11) rfl rfl Tryz.func51 a3_ rfl #[.int .u8 a0, .bool a1, .slice A2 l2.length c2] rfl a1_ ?_; (with_reducible refine (r6_aggregable.calls k a0 a1 _ _ l2 true _ ?side1 ?side2 A4.out).mono ?_); (case side1 => repeat (first | exact (Kd.C_below HR2.out HB.out) | (with_reducible refine Kd.cA_ ?_ _) | (with_reducible refine Kd.cN_ ?_ _) | (with_reducible refine Kd.cD_ ?_))); (case side2 => exact HC2.out); rintro e w46 ⟨rfl, hb⟩; refine ⟨_, rfl, ?_⟩; have n0_ := kA_ (blk_below (g := gb300) (o := .cells #[.int .u8 0, .int .i64 0, .string (⟨#[]⟩ : ByteArray), .int .i64 0] 38 (0, 0)) a10_ hb); have n1_ := kA_ (below_step a6_ hb); clear BK300; clear HB; have BK300 := n0_; have HB := n1_; clear n0_ n1_; (try clear hb); (try clear hb2); (try clear hk); (try clear hi)) | ((with_reducible refine gate_callee (f := 52) rfl ?_); refine goesL_ (some 22) rfl rfl Tryz.func52 a3_ rfl #[.slice A2 l2.length c2, .bool a1] rfl a1_ ?_; (with_reducible refine (r6_counted.calls k _ _ l2 a1 t305 _ ?side1 ?side2 A12.out).mono ?_); (case side1 => repeat (first | exact (Kd.C_below HR2.out HB.out) | (with_reducible refine Kd.cA_ ?_ _) | (with_reducible refine Kd.cN_ ?_ _) | (with_reducible refine Kd.cD_ ?_))); (case side2 => exact HC2.out); rintro e w47 ⟨v306, rfl, ho0, hb⟩; refine ⟨_, rfl, ?_⟩; have n0_ := kA_ (Kd.R_lower ho0 (below_size a6_)); have n1_ := kA_ (blk_below (g := gb300) (o := .cells #[.int .u8 0, .int .i64 0, .string (⟨#[]⟩ : ByteArray), .int .i64 0] 38 (0, 0)) a10_ hb); have n2_ := kA_ (below_step a6_ hb); clear BK300; clear HB; have HO307 := n0_; have BK300 := n1_; have HB := n2_; clear n0_ n1_ n2_; (try clear hb); (try clear hb2); (try clear hk); (try clear hi); (try clear ho0); obtain ⟨Ao48, co48, eo48⟩ := Kd.R_slice HO307.out; subst eo48) | ((with_reducible refine gate_callee (f := 54) rfl ?_); refine goesL_ (some 45) rfl rfl Tryz.func54 a3_ rfl #[.slice Ao48 t305.length co48, .bool true] rfl a1_ ?_; (with_reducible refine (r6_extreme.calls k _ _ t305 true t319 t320 t321 t322 _ ?side1 ?side2 A44.out).mono ?_); (case side1 => repeat (first | exact (Kd.R_reads' HO307.out).2.2 | (with_reducible refine Kd.cA_ ?_ _) | (with_reducible refine Kd.cN_ ?_ _) | (with_reducible refine Kd.cD_ ?_))); (case side2 => exact (Kd.R_reads' HO307.out).2.1); rintro e w49 ⟨rfl, hb⟩; refine ⟨_, rfl, ?_⟩; have n0_ := kA_ (Kd.R_below a55_ hb); have n1_ := kA_ (blk_below (g := gb300) (o := .cells #[.int .u8 0, .int .i64 0, .string (⟨#[]⟩ : ByteArray), .int .i64 0] 38 (0, 0)) a10_ hb); have n2_ := kA_ (below_step a6_ hb); clear HO307; clear BK300; clear HB; have HO307 := n0_; have BK300 := n1_; have HB := n2_; clear n0_ n1_ n2_; (try clear hb); (try clear hb2); (try clear hk); (try clear hi); have hcz50_0 : w49.cell? ⟨gb300, 0, none⟩ = some (.int .u8 0) := (blk_cell BK300.out 0).trans rfl; have hcz50_1 : w49.cell? ⟨gb300, 1, none⟩ = some (.int .i64 0) := (blk_cell BK300.out 1).trans rfl; have hcz50_2 : w49.cell? ⟨gb300, 2, none⟩ = some (.string (⟨#[]⟩ : ByteArray)) := (blk_cell BK300.out 2).trans rfl; have hcz50_3 : w49.cell? ⟨gb300, 3, none⟩ = some (.int .i64 0) := (blk_cell BK300.out 3).trans rfl; have hfz50_0 := blk_frozen BK300.out 0; have hfz50_1 := blk_frozen BK300.out 1; have hfz50_2 := blk_frozen BK300.out 2; have hfz50_3 := blk_frozen BK300.out 3))
   refine bodyPost_ret (results_cell_row rfl _ _ gb300 38 #[.int .u8 t319, .int .i64 t320, .string t321, .int .i64 t322] (0, 0) _ rfl (by (with_reducible repeat (first | refine blk_drewN ?_ _ | refine blk_drew ?_ | refine blk_alloc ?_ _)); refine blk_put (cs := #[.int .u8 t319, .int .i64 t320, .string t321, .int .i64 0]) ?_ 3 _ rfl; (with_reducible repeat (first | refine blk_drewN ?_ _ | refine blk_drew ?_ | refine blk_alloc ?_ _)); refine blk_put (cs := #[.int .u8 t319, .int .i64 t320, .string (⟨#[]⟩ : ByteArray), .int .i64 0]) ?_ 2 _ rfl; (with_reducible repeat (first | refine blk_drewN ?_ _ | refine blk_drew ?_ | refine blk_alloc ?_ _)); refine blk_put (cs := #[.int .u8 t319, .int .i64 0, .string (⟨#[]⟩ : ByteArray), .int .i64 0]) ?_ 1 _ rfl; (with_reducible repeat (first | refine blk_drewN ?_ _ | refine blk_drew ?_ | refine blk_alloc ?_ _)); refine blk_put (cs := #[.int .u8 0, .int .i64 0, .string (⟨#[]⟩ : ByteArray), .int .i64 0]) ?_ 0 _ rfl; (with_reducible repeat (first | refine blk_drewN ?_ _ | refine blk_drew ?_ | refine blk_alloc ?_ _)); exact BK300.out) Tryz.underlying38 rfl a3_) rfl ?_
   exact ⟨a5_, a19_⟩
 rw [if_neg c43] at H
 have c43b0 : (a0 == 4) = false := beq_eq_false_iff_ne.mpr c43
 have c43b1 : (a0 != 4) = true := bne_iff_ne.mpr c43
 replace H := Option.bind_eq_some_iff.mp H
 obtain ⟨⟨t323, t324, t325, t326⟩, A510, H⟩ := H
 replace H : (some (t323, t324, t325, t326)) = some (r1, r2, r3, r4) := H
 have A51 := kA_ A510
 clear A510
 simp only [Option.some.injEq, Prod.mk.injEq] at H
 obtain ⟨rfl, rfl, rfl, rfl⟩ := H
 go_enter Tryz.func20, Tryz.ntmps20
 go_wp2_with (first | ((with_reducible refine gate_dst (N := 6) rfl ?_); refine box_event ?hg (N := 6) ?hd (cs := #[.int .u8 0, .int .i64 0, .string (⟨#[]⟩ : ByteArray), .int .i64 0]) (t := 38) ?hr ?_; (case hd => rfl); (case hg => rfl); (case hr => first | (go_simp; done) | (go_simp; rfl)); intro gb300 hg w52 hbox hb; have n0_ := kA_ (below_step a0_ hb); have n1_ := kA_ (hbox); have n2_ := kA_ ((a7_ : w.heap.size ≤ gb300)); have n3_ := kA_ ((a7_ : w.heap.size ≤ gb300)); clear HB; have HB := n0_; have BK300 := n1_; have GW300 := n2_; have GE300 := n3_; clear n0_ n1_ n2_ n3_; clear hb hbox hg) | ((with_reducible refine gate_callee (f := 51) rfl ?_); refine goesL_ (some 11) rfl rfl Tryz.func51 a3_ rfl #[.int .u8 a0, .bool a1, .slice A2 l2.length c2] rfl a1_ ?_; (with_reducible refine (r6_aggregable.calls k a0 a1 _ _ l2 true _ ?side1 ?side2 A4.out).mono ?_); (case side1 => repeat (first | exact (Kd.C_below HR2.out HB.out) | (with_reducible refine Kd.cA_ ?_ _) | (with_reducible refine Kd.cN_ ?_ _) | (with_reducible refine Kd.cD_ ?_))); (case side2 => exact HC2.out); rintro e w53 ⟨rfl, hb⟩; refine ⟨_, rfl, ?_⟩; have n0_ := kA_ (blk_below (g := gb300) (o := .cells #[.int .u8 0, .int .i64 0, .string (⟨#[]⟩ : ByteArray), .int .i64 0] 38 (0, 0)) a10_ hb); have n1_ := kA_ (below_step a6_ hb); clear BK300; clear HB; have BK300 := n0_; have HB := n1_; clear n0_ n1_; (try clear hb); (try clear hb2); (try clear hk); (try clear hi)) | ((with_reducible refine gate_callee (f := 52) rfl ?_); refine goesL_ (some 22) rfl rfl Tryz.func52 a3_ rfl #[.slice A2 l2.length c2, .bool a1] rfl a1_ ?_; (with_reducible refine (r6_counted.calls k _ _ l2 a1 t305 _ ?side1 ?side2 A12.out).mono ?_); (case side1 => repeat (first | exact (Kd.C_below HR2.out HB.out) | (with_reducible refine Kd.cA_ ?_ _) | (with_reducible refine Kd.cN_ ?_ _) | (with_reducible refine Kd.cD_ ?_))); (case side2 => exact HC2.out); rintro e w54 ⟨v306, rfl, ho0, hb⟩; refine ⟨_, rfl, ?_⟩; have n0_ := kA_ (Kd.R_lower ho0 (below_size a6_)); have n1_ := kA_ (blk_below (g := gb300) (o := .cells #[.int .u8 0, .int .i64 0, .string (⟨#[]⟩ : ByteArray), .int .i64 0] 38 (0, 0)) a10_ hb); have n2_ := kA_ (below_step a6_ hb); clear BK300; clear HB; have HO307 := n0_; have BK300 := n1_; have HB := n2_; clear n0_ n1_ n2_; (try clear hb); (try clear hb2); (try clear hk); (try clear hi); (try clear ho0); obtain ⟨Ao55, co55, eo55⟩ := Kd.R_slice HO307.out; subst eo55) | ((with_reducible refine gate_callee (f := 55) rfl ?_); refine goesL_ (some 47) rfl rfl Tryz.func55 a3_ rfl #[.slice Ao55 t305.length co55] rfl a1_ ?_; (with_reducible refine (r6_average.calls k _ _ t305 t323 t324 t325 t326 _ ?side1 ?side2 A51.out).mono ?_); (case side1 => repeat (first | exact (Kd.R_reads' HO307.out).2.2 | (with_reducible refine Kd.cA_ ?_ _) | (with_reducible refine Kd.cN_ ?_ _) | (with_reducible refine Kd.cD_ ?_))); (case side2 => exact (Kd.R_reads' HO307.out).2.1); rintro e w56 ⟨rfl, hb⟩; refine ⟨_, rfl, ?_⟩; have n0_ := kA_ (Kd.R_below a55_ hb); have n1_ := kA_ (blk_below (g := gb300) (o := .cells #[.int .u8 0, .int .i64 0, .string (⟨#[]⟩ : ByteArray), .int .i64 0] 38 (0, 0)) a10_ hb); have n2_ := kA_ (below_step a6_ hb); clear HO307; clear BK300; clear HB; have HO307 := n0_; have BK300 := n1_; have HB := n2_; clear n0_ n1_ n2_; (try clear hb); (try clear hb2); (try clear hk); (try clear hi); have hcz57_0 : w56.cell? ⟨gb300, 0, none⟩ = some (.int .u8 0) := (blk_cell BK300.out 0).trans rfl; have hcz57_1 : w56.cell? ⟨gb300, 1, none⟩ = some (.int .i64 0) := (blk_cell BK300.out 1).trans rfl; have hcz57_2 : w56.cell? ⟨gb300, 2, none⟩ = some (.string (⟨#[]⟩ : ByteArray)) := (blk_cell BK300.out 2).trans rfl; have hcz57_3 : w56.cell? ⟨gb300, 3, none⟩ = some (.int .i64 0) := (blk_cell BK300.out 3).trans rfl; have hfz57_0 := blk_frozen BK300.out 0; have hfz57_1 := blk_frozen BK300.out 1; have hfz57_2 := blk_frozen BK300.out 2; have hfz57_3 := blk_frozen BK300.out 3))
 refine bodyPost_ret (results_cell_row rfl _ _ gb300 38 #[.int .u8 t323, .int .i64 t324, .string t325, .int .i64 t326] (0, 0) _ rfl (by (with_reducible repeat (first | refine blk_drewN ?_ _ | refine blk_drew ?_ | refine blk_alloc ?_ _)); refine blk_put (cs := #[.int .u8 t323, .int .i64 t324, .string t325, .int .i64 0]) ?_ 3 _ rfl; (with_reducible repeat (first | refine blk_drewN ?_ _ | refine blk_drew ?_ | refine blk_alloc ?_ _)); refine blk_put (cs := #[.int .u8 t323, .int .i64 t324, .string (⟨#[]⟩ : ByteArray), .int .i64 0]) ?_ 2 _ rfl; (with_reducible repeat (first | refine blk_drewN ?_ _ | refine blk_drew ?_ | refine blk_alloc ?_ _)); refine blk_put (cs := #[.int .u8 t323, .int .i64 0, .string (⟨#[]⟩ : ByteArray), .int .i64 0]) ?_ 1 _ rfl; (with_reducible repeat (first | refine blk_drewN ?_ _ | refine blk_drew ?_ | refine blk_alloc ?_ _)); refine blk_put (cs := #[.int .u8 0, .int .i64 0, .string (⟨#[]⟩ : ByteArray), .int .i64 0]) ?_ 0 _ rfl; (with_reducible repeat (first | refine blk_drewN ?_ _ | refine blk_drew ?_ | refine blk_alloc ?_ _)); exact BK300.out) Tryz.underlying38 rfl a3_) rfl ?_
 exact ⟨a5_, a19_⟩
end
theorem i64_and32 (n : Int) : Go.bits .and .i64 n 4294967295 = n % 4294967296 := by
 have h127 : (BitVec.ofInt 64 4294967295).toNat = 2 ^ 32 - 1 := by decide
 have key : (BitVec.ofInt 64 n &&& BitVec.ofInt 64 4294967295).toNat = (n % ((2 ^ 64 : Nat) : Int)).toNat % 2 ^ 32 := by
  rw [BitVec.toNat_and, BitVec.toNat_ofInt, h127, Nat.and_two_pow_sub_one_eq_mod]
 show IntKind.i64.wrap ((BitVec.ofInt 64 n &&& BitVec.ofInt 64 4294967295).toNat : Nat) = n % 4294967296
 rw [key, IntKind.wrap_i64]
 omega
theorem rfits_eq (v : V) (k : Int) : r6_fits.f v.f0 v.f1 v.f2 k = some (decide (k = 0 ∨ v.f0 = 0 ∨ v.f0 = k)) := by
 unfold r6_fits.f
 by_cases c0 : v.f0 = 0
 · simp [c0]
 by_cases c1 : k = 0
 · simp [c0, c1]
 rw [if_neg c0, if_neg c1]
 by_cases c2 : v.f0 = k
 · simp [c2]
 simp [c0, c1, c2]
theorem raggregable_l0 (fn : Int) (vs : List V) (hn : vs.length ≤ 1099511627776) : ∀ (d i : Nat) (k0 : Int), i + d = vs.length →
 Ev (fun k => r6_aggregable.l0 k fn vs k0 (i : Int)) (match kindFrom k0 (vs.drop i) with
 | none => false
 | some k => decide (k = 0 ∨ k = 1 ∨ fn ≠ 2 ∧ fn ≠ 5)) := by
 intro d
 induction d with
 | zero =>
  intro i k0 hi
  rw [List.drop_eq_nil_of_le (by omega)]
  refine Ev.step (f := fun _ => some (decide (k0 = 0 ∨ k0 = 1 ∨ fn ≠ 2 ∧ fn ≠ 5))) (fun k => ?_) (Ev.now _)
  simp only [r6_aggregable.l0]
  rw [if_neg (by omega)]
  by_cases c0 : k0 = 0
  · simp [c0]
  by_cases c1 : k0 = 1
  · simp [c1]
  by_cases c2 : fn = 2
  · simp [c0, c1, c2]
  by_cases c3 : fn = 5 <;> simp [c0, c1, c2, c3]
 | succ d ih =>
  intro i k0 hi
  have hlt : i < vs.length := by omega
  rw [drop_cons vs i hlt]
  have one : ∀ k, r6_aggregable.l0 (k + 1) fn vs k0 (i : Int) = if validV vs[i] = true then r6_aggregable.j2 k fn vs k0 (i : Int) (!decide (k0 = 0 ∨ vs[i].f0 = 0 ∨ vs[i].f0 = k0)) else r6_aggregable.j2 k fn vs k0 (i : Int) true := fun k => by
   simp only [r6_aggregable.l0]
   rw [if_pos (by omega), if_pos (by omega), rdV_at hlt, ref_value, rfits_eq]
   rfl
  have bad : Ev (fun k => r6_aggregable.j2 k fn vs k0 (i : Int) true) false :=
   Ev.step (f := fun _ => some false) (fun k => by simp [r6_aggregable.j2]) (Ev.now _)
  have good : ∀ b, Ev (fun k => r6_aggregable.l0 k fn vs (if vs[i].f0 = 0 then k0 else vs[i].f0) ((i + 1 : Nat) : Int)) b → Ev (fun k => r6_aggregable.j2 k fn vs k0 (i : Int) false) b := fun b hb =>
   Ev.step (fun k => by
    simp only [r6_aggregable.j2]
    rw [if_neg (by simp), if_pos (by omega), if_pos (by omega), rdV_at hlt, w64 _ (by omega) (by omega)]
    by_cases c : vs[i].f0 = 0
    · rw [if_pos c, if_pos c]; rfl
    rw [if_neg c, if_neg c]; rfl) hb
  simp only [kindFrom]
  by_cases c0 : validV vs[i] = true
  rotate_left
  · rw [if_neg (fun h => c0 h.1)]
    refine Ev.step (f := fun k => r6_aggregable.j2 k fn vs k0 (i : Int) true) (fun k => ?_) bad
    rw [one, if_neg c0]
  by_cases c1 : k0 = 0 ∨ vs[i].f0 = 0 ∨ vs[i].f0 = k0
  · rw [if_pos ⟨c0, c1⟩]
    refine Ev.step (f := fun k => r6_aggregable.j2 k fn vs k0 (i : Int) false) (fun k => ?_) (good _ (ih (i + 1) _ (by omega)))
    rw [one, if_pos c0, decide_eq_true c1]
    rfl
  rw [if_neg (fun h => c1 h.2)]
  refine Ev.step (f := fun k => r6_aggregable.j2 k fn vs k0 (i : Int) true) (fun k => ?_) bad
  rw [one, if_pos c0, decide_eq_false c1]
  rfl
theorem raggregable_ev (fn : Int) (d : Bool) (vs : List V) (hn : vs.length ≤ 1099511627776) : Ev (fun k => r6_aggregable.f k fn d vs) (allowedB fn d vs) := by
 have bad : Ev (fun k => r6_aggregable.j0 k fn vs true) false := Ev.step (f := fun _ => some false) (fun k => by simp [r6_aggregable.j0]) (Ev.now _)
 have good := raggregable_l0 fn vs hn vs.length 0 0 (by omega)
 rw [List.drop_zero] at good
 have good2 : Ev (fun k => r6_aggregable.j0 k fn vs false) (match kindFrom 0 vs with
  | none => false
  | some k => decide (k = 0 ∨ k = 1 ∨ fn ≠ 2 ∧ fn ≠ 5)) := Ev.step (fun k => by simp only [r6_aggregable.j0]; rw [if_neg (by simp)]; rfl) good
 unfold allowedB
 by_cases c0 : fn > 5
 · rw [if_pos (.inl c0)]
   exact Ev.congr (fun k => by unfold r6_aggregable.f; rw [if_pos c0]) bad
 by_cases c1 : fn = 0
 rotate_left
 · rw [if_neg (by omega)]
   exact Ev.congr (fun k => by unfold r6_aggregable.f; rw [if_neg c0, if_neg c1]) good2
 cases d with
 | true =>
  rw [if_pos (.inr ⟨c1, rfl⟩)]
  exact Ev.congr (fun k => by unfold r6_aggregable.f; rw [if_neg c0, if_pos c1]) bad
 | false =>
  rw [if_neg a82_]
  exact Ev.congr (fun k => by unfold r6_aggregable.f; rw [if_neg c0, if_pos c1]) good2
open Classical in
theorem counted_l1 (vs : List V) (d : Bool) (out r : List V) (i : Nat) (hi : i < vs.length) (hn : vs.length ≤ 1099511627776) (ho : out.length ≤ 1099511627776) : ∀ (dd j : Nat), j + dd = out.length →
 (Ev (fun k => r6_counted.l0 k vs d out ((i + 1 : Nat) : Int)) r → Ev (fun k => r6_counted.l1 k vs d out (i : Int) false (j : Int)) r) ∧
 (d = true ∧ vs[i] ∈ out.drop j → Ev (fun k => r6_counted.l0 k vs d out ((i + 1 : Nat) : Int)) r → Ev (fun k => r6_counted.l1 k vs d out (i : Int) true (j : Int)) r) ∧
 (¬ (d = true ∧ vs[i] ∈ out.drop j) → Ev (fun k => r6_counted.l0 k vs d (out ++ [vs[i]]) ((i + 1 : Nat) : Int)) r → Ev (fun k => r6_counted.l1 k vs d out (i : Int) true (j : Int)) r) := by
 have exit0 : ∀ j : Nat, Ev (fun k => r6_counted.l0 k vs d out ((i + 1 : Nat) : Int)) r → Ev (fun k => r6_counted.j2 k vs d out (i : Int) false (j : Int) false) r := fun j h =>
  Ev.step (fun k => by
   simp only [r6_counted.j2]
   rw [if_neg (by simp), if_neg (by simp), w64 _ (by omega) (by omega)]
   rfl) h
 have exit1 : ∀ j : Nat, Ev (fun k => r6_counted.l0 k vs d (out ++ [vs[i]]) ((i + 1 : Nat) : Int)) r → Ev (fun k => r6_counted.j2 k vs d out (i : Int) true (j : Int) false) r := fun j h =>
  Ev.step (fun k => by
   simp only [r6_counted.j2]
   rw [if_neg (by simp), if_pos trivial, if_pos (by omega), if_pos (by omega), if_pos (by omega), rdV_at hi, w64 _ (by omega) (by omega)]
   rfl) h
 intro dd
 induction dd with
 | zero =>
  intro j hj
  have e : ∀ (b : Bool) (k : Nat), r6_counted.l1 (k + 1) vs d out (i : Int) b (j : Int) = r6_counted.j2 k vs d out (i : Int) b (j : Int) false := fun b k => by
   simp only [r6_counted.l1]
   rw [if_neg (by omega)]
  refine ⟨fun h => Ev.step (e false) (exit0 j h), fun h => ?_, fun _ h => Ev.step (e true) (exit1 j h)⟩
  rw [List.drop_eq_nil_of_le (by omega)] at h
  exact absurd h.2 (by simp)
 | succ dd ih =>
  intro j hj
  have hlt : j < out.length := by omega
  obtain ⟨i1, i2, i3⟩ := ih (j + 1) (by omega)
  have e0 : ∀ k : Nat, r6_counted.l1 (k + 1) vs d out (i : Int) false (j : Int) = r6_counted.j2 k vs d out (i : Int) false (j : Int) false := fun k => by
   simp only [r6_counted.l1]
   rw [if_pos (by omega), if_neg (by simp)]
  have e1 : ∀ k : Nat, r6_counted.l1 (k + 1) vs d out (i : Int) true (j : Int) = r6_counted.j2 k vs d out (i : Int) true (j : Int) d := fun k => by
   simp only [r6_counted.l1]
   rw [if_pos (by omega), if_pos trivial]
  cases d with
  | false =>
   refine ⟨fun h => Ev.step e0 (exit0 j h), fun h => absurd h.1 (by simp), fun _ h => Ev.step e1 (exit1 j h)⟩
  | true =>
   have e2 : ∀ k : Nat, r6_counted.j2 (k + 1) vs true out (i : Int) true (j : Int) true = if out[j] = vs[i] then r6_counted.l1 k vs true out (i : Int) false ((j + 1 : Nat) : Int) else r6_counted.l1 k vs true out (i : Int) true ((j + 1 : Nat) : Int) := fun k => by
    simp only [r6_counted.j2]
    rw [if_pos trivial, if_pos (by omega), if_pos (by omega), if_pos (by omega), if_pos (by omega), rdV_at hlt, rdV_at hi, sameV_eq, w64 _ (by omega) (by omega)]
    simp only [Option.bind_some, decide_eq_true_eq]
    rfl
   refine ⟨fun h => Ev.step e0 (exit0 j h), fun h hb => ?_, fun h hb => ?_⟩
   rotate_left
   · refine Ev.step e1 ?_
     rw [drop_cons out j hlt] at h
     have c : ¬ out[j] = vs[i] := fun e => h ⟨rfl, by rw [e]; exact List.mem_cons_self⟩
     exact Ev.step (fun k => by rw [e2, if_neg c]) (i3 (fun h2 => h ⟨rfl, List.mem_cons_of_mem _ h2.2⟩) hb)
   refine Ev.step e1 ?_
   by_cases c : out[j] = vs[i]
   · exact Ev.step (fun k => by rw [e2, if_pos c]) (i1 hb)
   refine Ev.step (fun k => by rw [e2, if_neg c]) (i2 ⟨rfl, ?_⟩ hb)
   have h2 := h.2
   rw [drop_cons out j hlt] at h2
   rcases List.mem_cons.1 h2 with h3 | h3
   · exact absurd h3.symm c
   exact h3
theorem counted_l0 (fn : Int) (hfn : fn ≠ 0) (vs : List V) (d : Bool) (hn : vs.length ≤ 1099511627776) : ∀ (dd i : Nat) (out : List V) (seen : List ByteArray), i + dd = vs.length → out.length ≤ i → (d = true → ∀ v, nameOf [v] ∈ seen ↔ v ∈ out) →
 Ev (fun k => r6_counted.l0 k vs d out (i : Int)) (out ++ pickV fn d seen (vs.drop i)) := by
 intro dd
 induction dd with
 | zero =>
  intro i out seen hi ho hs
  rw [List.drop_eq_nil_of_le (by omega)]
  refine Ev.step (f := fun _ => some (out ++ [])) (fun k => ?_) (Ev.now _)
  simp only [r6_counted.l0]
  rw [if_neg (by omega), List.append_nil]
 | succ dd ih =>
  intro i out seen hi ho hs
  have hlt : i < vs.length := by omega
  rw [drop_cons vs i hlt]
  have one : ∀ k : Nat, r6_counted.l0 (k + 1) vs d out (i : Int) = r6_counted.l1 k vs d out (i : Int) (vs[i].f0 != 0) ((0 : Nat) : Int) := fun k => by
   simp only [r6_counted.l0]
   rw [if_pos (by omega), if_pos (by omega), rdV_at hlt]
   rfl
  have L := fun r => counted_l1 vs d out r i hlt hn (by omega) out.length 0 (by omega)
  simp only [List.drop_zero] at L
  have snoc : ∀ seen', (d = true → ∀ v, nameOf [v] ∈ seen' ↔ v ∈ out ++ [vs[i]]) → Ev (fun k => r6_counted.l0 k vs d (out ++ [vs[i]]) ((i + 1 : Nat) : Int)) (out ++ vs[i] :: pickV fn d seen' (vs.drop (i + 1))) := fun seen' h => by
   have := ih (i + 1) (out ++ [vs[i]]) seen' (by omega) a82_ h
   rw [List.append_assoc] at this
   exact this
  simp only [pickV]
  by_cases c0 : vs[i].f0 = 0
  · rw [if_pos ⟨hfn, c0⟩]
    exact Ev.step (fun k => by rw [one, c0]; rfl) ((L _).1 (ih (i + 1) out seen (by omega) (by omega) hs))
  rw [if_neg (fun h => c0 h.2)]
  have e : (vs[i].f0 != 0) = true := by simpa using c0
  cases d with
  | false =>
   rw [if_neg (by simp)]
   exact Ev.step (fun k => by rw [one, e]) ((L _).2.2 (by simp) (snoc seen (by simp)))
  | true =>
   rw [if_pos rfl]
   by_cases c1 : nameOf [vs[i]] ∈ seen
   · rw [if_pos c1]
     exact Ev.step (fun k => by rw [one, e]) ((L _).2.1 ⟨rfl, (hs rfl _).1 c1⟩ (ih (i + 1) out seen (by omega) (by omega) hs))
   rw [if_neg c1]
   refine Ev.step (fun k => by rw [one, e]) ((L _).2.2 (fun h => c1 ((hs rfl _).2 h.2)) (snoc _ (fun _ v => ?_)))
   rw [List.mem_cons, List.mem_append, List.mem_singleton, hs rfl v]
   refine ⟨fun h => ?_, fun h => ?_⟩
   rotate_left
   · rcases h with h | h
     · exact .inr h
     exact .inl (by rw [h])
   rcases h with h | h
   rotate_left
   · exact .inl h
   have := name_inj h
   simp only [List.cons.injEq, and_true] at this
   exact .inr this
theorem counted_ev (fn : Int) (hfn : fn ≠ 0) (vs : List V) (d : Bool) (hn : vs.length ≤ 1099511627776) : Ev (fun k => r6_counted.f k vs d) (pickV fn d [] vs) := by
 have h := counted_l0 fn hfn vs d hn vs.length 0 [] [] (by omega) (by simp) (by simp)
 rw [List.drop_zero, List.nil_append] at h
 exact h
theorem tot_step (S x : Int) (hS : -9903520314283042199192993792 ≤ S ∧ S ≤ 9903520314283042199192993792) (hx : -9223372036854775808 ≤ x ∧ x ≤ 9223372036854775807) :
 wrap64 (wrap64 (S / 4294967296 + x / 4294967296) + wrap64 (S % 4294967296 + x % 4294967296) / 4294967296) = (S + x) / 4294967296 ∧ wrap64 (S % 4294967296 + x % 4294967296) % 4294967296 = (S + x) % 4294967296 := by
 have h1 : wrap64 (S % 4294967296 + x % 4294967296) = S % 4294967296 + x % 4294967296 := by unfold wrap64; omega
 have h2 : wrap64 (S / 4294967296 + x / 4294967296) = S / 4294967296 + x / 4294967296 := by unfold wrap64; omega
 rw [h1, h2]
 refine ⟨?_, by omega⟩
 have h3 : S / 4294967296 + x / 4294967296 + (S % 4294967296 + x % 4294967296) / 4294967296 = (S + x) / 4294967296 := by omega
 rw [h3]
 unfold wrap64
 omega
theorem rtotal_l0 (vs : List V) (h : ∀ v ∈ vs, okInt v) (hn : vs.length ≤ 1073741824) : ∀ (d i : Nat) (S : Int), i + d = vs.length → -9223372036854775808 * (i : Int) ≤ S ∧ S ≤ 9223372036854775807 * (i : Int) →
 Ev (fun k => r6_total.l0 k vs (S / 4294967296) (S % 4294967296) (i : Int)) ((S + sumV (vs.drop i)) / 4294967296, (S + sumV (vs.drop i)) % 4294967296) := by
 intro d
 induction d with
 | zero =>
  intro i S hi hS
  rw [List.drop_eq_nil_of_le (by omega)]
  refine Ev.step (f := fun _ => some ((S + sumV []) / 4294967296, (S + sumV []) % 4294967296)) (fun k => ?_) (Ev.now _)
  simp only [r6_total.l0]
  rw [if_neg (by omega)]
  simp [sumV]
 | succ d ih =>
  intro i S hi hS
  have hlt : i < vs.length := by omega
  have hv := h _ (List.getElem_mem hlt)
  unfold okInt at hv
  rw [drop_cons vs i hlt]
  have t := tot_step S vs[i].f1 (by omega) hv
  have hs : S + sumV (vs[i] :: vs.drop (i + 1)) = (S + vs[i].f1) + sumV (vs.drop (i + 1)) := by simp only [sumV]; omega
  rw [hs]
  refine Ev.step (fun k => ?_) (ih (i + 1) (S + vs[i].f1) (by omega) (by omega))
  simp only [r6_total.l0]
  rw [if_pos (by omega), if_pos (by omega), rdV_at hlt, i64_and32, i64_and32, t.1, t.2, w64 _ (by omega) (by omega)]
  rfl
theorem rtotal_ev (vs : List V) (h : ∀ v ∈ vs, okInt v) (hn : vs.length ≤ 1073741824) : Ev (fun k => r6_total.f k vs) (sumV vs / 4294967296, sumV vs % 4294967296) := by
 have t := rtotal_l0 vs h hn vs.length 0 0 (by omega) (by omega)
 rw [List.drop_zero, Int.zero_add] at t
 exact t
theorem rsum_ev (vs : List V) (h : ∀ v ∈ vs, okInt v) (hn : vs.length ≤ 1073741824) (h0 : vs ≠ []) : Ev (fun k => r6_sum.f k vs) (sumR vs) := by
 have hb := sumV_bd vs h
 have t := rtotal_ev vs h hn
 unfold sumR
 rw [if_neg h0]
 obtain ⟨S, hS⟩ : ∃ S, S = sumV vs := ⟨_, rfl⟩
 rw [← hS] at t hb ⊢
 unfold r6_sum.f
 refine Ev.bind t ?_
 by_cases c1 : S < -9223372036854775808
 · refine Ev.congr (fun k => ?_) (Ev.now _)
   rw [if_pos (by show S / 4294967296 < -2147483648; omega), if_neg (by omega)]
 by_cases c2 : 9223372036854775807 < S
 · refine Ev.congr (fun k => ?_) (Ev.now _)
   rw [if_neg (by show ¬ S / 4294967296 < -2147483648; omega), if_pos (by show S / 4294967296 ≥ 2147483648; omega), if_neg (by omega)]
 refine Ev.congr (fun k => ?_) (Ev.now _)
 have e : wrap64 (wrap64 (S / 4294967296 * 4294967296) + S % 4294967296) = S := by unfold wrap64; omega
 rw [if_neg (by show ¬ S / 4294967296 < -2147483648; omega), if_neg (by show ¬ S / 4294967296 ≥ 2147483648; omega), if_pos (by omega)]
 show (r1_Int.f (wrap64 (wrap64 (S / 4294967296 * 4294967296) + S % 4294967296))).bind _ = _
 rw [e]
 rfl
theorem rquo (M n : Int) (n0 : 0 < n) (n1 : n ≤ 1073741824) (h0 : 0 ≤ M) :
 wrap64 (wrap64 (wrap64 ((M / 4294967296).tdiv n) * 4294967296) + wrap64 ((wrap64 (wrap64 ((M / 4294967296).tmod n * 4294967296) + M % 4294967296)).tdiv n)) = wrap64 (M / n) := by
 have hi0 : 0 ≤ M / 4294967296 := by omega
 rw [Int.tdiv_eq_ediv_of_nonneg hi0, Int.tmod_eq_emod_of_nonneg hi0]
 have r0 := Int.emod_nonneg (M / 4294967296) (by omega : n ≠ 0)
 have r1 := Int.emod_lt_of_pos (M / 4294967296) n0
 have e := Int.mul_ediv_add_emod (M / 4294967296) n
 obtain ⟨q, hq⟩ : ∃ q, q = M / 4294967296 / n := ⟨_, rfl⟩
 obtain ⟨r, hr⟩ : ∃ r, r = M / 4294967296 % n := ⟨_, rfl⟩
 rw [← hr] at r0 r1 e ⊢
 rw [← hq] at e ⊢
 have ht : wrap64 (wrap64 (r * 4294967296) + M % 4294967296) = r * 4294967296 + M % 4294967296 := by unfold wrap64; omega
 rw [ht, Int.tdiv_eq_ediv_of_nonneg (by omega)]
 have hM : M = (r * 4294967296 + M % 4294967296) + n * (q * 4294967296) := by
  have e2 : n * (q * 4294967296) = n * q * 4294967296 := by rw [Int.mul_assoc]
  rw [e2]
  omega
 have hd : M / n = (r * 4294967296 + M % 4294967296) / n + q * 4294967296 := by
  conv => lhs; rw [hM]
  exact Int.add_mul_ediv_left _ _ (by omega)
 rw [hd]
 obtain ⟨u, hu⟩ : ∃ u, u = (r * 4294967296 + M % 4294967296) / n := ⟨_, rfl⟩
 rw [← hu]
 unfold wrap64
 omega
theorem raverage_ev (vs : List V) (h : ∀ v ∈ vs, okInt v) (hn : vs.length ≤ 1073741824) (h0 : vs ≠ []) : Ev (fun k => r6_average.f k vs) (avgR vs) := by
 have hb := sumV_bd vs h
 have t := rtotal_ev vs h hn
 have hp : 0 < vs.length := List.length_pos_iff.2 h0
 unfold avgR
 rw [if_neg h0]
 obtain ⟨S, hS⟩ : ∃ S, S = sumV vs := ⟨_, rfl⟩
 obtain ⟨n, hnn⟩ : ∃ n : Int, n = (vs.length : Int) := ⟨_, rfl⟩
 rw [← hS] at t hb ⊢
 rw [← hnn] at hb ⊢
 unfold r6_average.f
 refine Ev.bind t ?_
 by_cases c : S < 0
 rotate_left
 · have e : wrap64 (S / n) = S.tdiv n := by
    rw [Int.tdiv_eq_ediv_of_nonneg (by omega)]
    have q1 : S / n ≤ 9223372036854775807 := Int.ediv_le_of_le_mul (by omega) (by omega)
    have q0 : 0 ≤ S / n := Int.ediv_nonneg (by omega) (by omega)
    obtain ⟨q, hq⟩ : ∃ q, q = S / n := ⟨_, rfl⟩
    rw [← hq] at q0 q1 ⊢
    unfold wrap64
    omega
   have fin : Ev (fun k => r6_average.j0 k vs (S / 4294967296) (S % 4294967296) false) (1, S.tdiv n, ⟨#[]⟩, 0) := by
    refine Ev.step (f := fun _ => some (1, S.tdiv n, ⟨#[]⟩, 0)) (fun k => ?_) (Ev.now _)
    simp only [r6_average.j0]
    rw [← hnn, if_neg (by omega), if_neg (by simp), rquo S n (by omega) (by omega) (by omega), e]
    rfl
   have d1 : decide (S / 4294967296 < 0) = false := decide_eq_false (by omega)
   refine Ev.congr (fun k => ?_) fin
   rw [if_neg (by show ¬ S / 4294967296 < 0; omega)]
   show r6_average.j0 k vs (S / 4294967296) (S % 4294967296) (decide (S / 4294967296 < 0)) = _
   rw [d1]
 obtain ⟨M, hM⟩ : ∃ M, M = -S := ⟨_, rfl⟩
 obtain rfl : S = -M := by omega
 have e : (wrap64 (-(wrap64 (M / n)))) = (-M).tdiv n := by
  rw [Int.neg_tdiv, Int.tdiv_eq_ediv_of_nonneg (by omega)]
  have q1 : M / n ≤ 9223372036854775808 := Int.ediv_le_of_le_mul (by omega) (by omega)
  have q0 : 0 ≤ M / n := Int.ediv_nonneg (by omega) (by omega)
  obtain ⟨q, hq⟩ : ∃ q, q = M / n := ⟨_, rfl⟩
  rw [← hq] at q0 q1 ⊢
  unfold wrap64
  omega
 have fin : Ev (fun k => r6_average.j0 k vs (M / 4294967296) (M % 4294967296) true) (1, (-M).tdiv n, ⟨#[]⟩, 0) := by
  refine Ev.step (f := fun _ => some (1, (-M).tdiv n, ⟨#[]⟩, 0)) (fun k => ?_) (Ev.now _)
  simp only [r6_average.j0]
  rw [← hnn, if_neg (by omega), if_pos trivial, rquo M n (by omega) (by omega) (by omega), e]
  rfl
 have d1 : decide (-M / 4294967296 < 0) = true := decide_eq_true (by omega)
 refine Ev.congr (fun k => ?_) fin
 rw [if_pos (by show -M / 4294967296 < 0; omega)]
 show (if -M % 4294967296 > 0 then r6_average.j0 k vs (wrap64 (wrap64 (-(-M / 4294967296)) - 1)) (wrap64 (4294967296 - -M % 4294967296)) (decide (-M / 4294967296 < 0)) else r6_average.j0 k vs (wrap64 (-(-M / 4294967296))) (-M % 4294967296) (decide (-M / 4294967296 < 0))) = _
 rw [d1]
 by_cases c2 : -M % 4294967296 > 0
 rotate_left
 · rw [if_neg c2, show wrap64 (-(-M / 4294967296)) = M / 4294967296 by unfold wrap64; omega, show -M % 4294967296 = M % 4294967296 by omega]
 rw [if_pos c2, show wrap64 (wrap64 (-(-M / 4294967296)) - 1) = M / 4294967296 by unfold wrap64; omega, show wrap64 (4294967296 - -M % 4294967296) = M % 4294967296 by unfold wrap64; omega]
theorem rextreme_l0 (sg : Int) (mx : Bool) (hs : sg = if mx = true then -1 else 1) (vs : List V) (hv : ∀ v ∈ vs, validV v = true) (hn : vs.length ≤ 1099511627776) : ∀ (d i : Nat) (u : V), i + d = vs.length → validV u = true →
 Ev (fun k => r6_extreme.l0 k vs mx (i : Int) u.f0 u.f1 u.f2) ((fun s : Bool × V => (s.2.f0, s.2.f1, s.2.f2, (0 : Int))) ((vs.drop i).foldl (eStep sg) (true, u))) := by
 intro d
 induction d with
 | zero =>
  intro i u hi hu
  rw [List.drop_eq_nil_of_le (by omega)]
  refine Ev.step (f := fun _ => some (u.f0, u.f1, u.f2, (0 : Int))) (fun k => ?_) (Ev.now _)
  simp only [r6_extreme.l0]
  rw [if_neg (by omega)]
 | succ d ih =>
  intro i u hi hu
  have hlt : i < vs.length := by omega
  have hvi := hv _ (List.getElem_mem hlt)
  rw [drop_cons vs i hlt, List.foldl_cons]
  have hc := compare_ev vs[i] u hvi (valid_f0 hvi) (valid_f0 hu)
  have one : Ev (fun k => (r1_Compare.f k vs[i].f0 vs[i].f1 vs[i].f2 u.f0 u.f1 u.f2).bind fun t => if sg * t < 0 then r6_extreme.l0 k vs mx ((i + 1 : Nat) : Int) vs[i].f0 vs[i].f1 vs[i].f2 else r6_extreme.l0 k vs mx ((i + 1 : Nat) : Int) u.f0 u.f1 u.f2) ((fun s : Bool × V => (s.2.f0, s.2.f1, s.2.f2, (0 : Int))) ((vs.drop (i + 1)).foldl (eStep sg) (eStep sg (true, u) vs[i]))) := by
   refine Ev.bind hc ?_
   unfold eStep
   by_cases c : sg * compareV vs[i] u < 0
   · refine Ev.congr (fun k => if_pos c) ?_
     rw [if_pos (.inr c)]
     exact ih (i + 1) vs[i] (by omega) hvi
   refine Ev.congr (fun k => if_neg c) ?_
   rw [if_neg a82_]
   exact ih (i + 1) u (by omega) hu
  refine Ev.step (fun k => ?_) one
  simp only [r6_extreme.l0]
  rw [if_pos (by omega), if_pos (by omega), rdV_at hlt, w64 _ (by omega) (by omega)]
  congr 1
  funext t
  cases mx with
  | true =>
   rw [if_pos rfl]
   by_cases c : t > 0
   · rw [if_pos c, if_pos (by rw [hs, if_pos rfl]; omega)]; rfl
   rw [if_neg c, if_neg (by rw [hs, if_pos rfl]; omega)]; rfl
  | false =>
   rw [if_neg (by simp)]
   by_cases c : t < 0
   · rw [if_pos c, if_pos (by rw [hs, if_neg (by simp)]; omega)]; rfl
   rw [if_neg c, if_neg (by rw [hs, if_neg (by simp)]; omega)]; rfl
theorem rextreme_ev (sg : Int) (mx : Bool) (hs : sg = if mx = true then -1 else 1) (vs : List V) (hv : ∀ v ∈ vs, validV v = true) (hn : vs.length ≤ 1099511627776) (h0 : vs ≠ []) : Ev (fun k => r6_extreme.f k vs mx) (extR sg vs) := by
 have hp : 0 < vs.length := List.length_pos_iff.2 h0
 have h := rextreme_l0 sg mx hs vs hv hn (vs.length - 1) 1 vs[0] (by omega) (hv _ (List.getElem_mem hp))
 have e : extR sg vs = ((fun s : Bool × V => (s.2.f0, s.2.f1, s.2.f2, (0 : Int))) ((vs.drop 1).foldl (eStep sg) (true, vs[0]))) := by
  unfold extR
  cases vs with
  | nil => exact absurd rfl h0
  | cons v vs =>
   have e1 : eStep sg (false, ⟨0, 0, ⟨#[]⟩⟩) v = (true, v) := by
    unfold eStep
    rw [if_pos (.inl rfl)]
   rw [List.foldl_cons, e1]
   rfl
 rw [e]
 refine Ev.congr (fun k => ?_) h
 have hr : rd_T36 vs 0 = vs[0] := rdV_at hp
 unfold r6_extreme.f
 rw [if_pos (by omega), hr]
 rfl
theorem raggregate_ev (fn : Int) (d : Bool) (vs : List V) (h0 : 0 ≤ fn) (hv : ∀ v ∈ vs, okInt v) (hn : vs.length ≤ 1073741824) : Ev (fun k => r6_Aggregate.f k fn d vs) (aggR fn d vs) := by
 unfold r6_Aggregate.f
 refine Ev.bind (raggregable_ev fn d vs (by omega)) ?_
 unfold aggR
 by_cases ha : allowedB fn d vs = true
 rotate_left
 · rw [if_neg ha]
   exact Ev.congr (f := fun _ => some (0, 0, ⟨#[]⟩, 1)) (fun k => by rw [if_neg ha]) (Ev.now _)
 obtain ⟨hle, hval⟩ := allowedB_valid ha
 rw [if_pos ha]
 by_cases c0 : fn = 0
 · subst c0
   have hd : d = false := by
    cases d with
    | false => rfl
    | true => simp [allowedB] at ha
   subst hd
   rw [pickV_all]
   exact Ev.congr (f := fun _ => some (1, (vs.length : Int), ⟨#[]⟩, 0)) (fun k => by rw [if_pos ha, if_pos rfl]; rfl) (Ev.now _)
 obtain ⟨hsub, hlen⟩ := pickV_sub fn d vs []
 have hp := counted_ev fn c0 vs d (by omega)
 obtain ⟨ps, hps⟩ : ∃ ps, ps = pickV fn d [] vs := ⟨_, rfl⟩
 rw [← hps] at hp hsub hlen ⊢
 refine Ev.congr (fun k => by rw [if_pos ha, if_neg c0]) (Ev.bind hp ?_)
 have hpi : ∀ v ∈ ps, okInt v := fun v hm => hv v (hsub v hm)
 have hpv : ∀ v ∈ ps, validV v = true := fun v hm => hval v (hsub v hm)
 unfold aggV
 by_cases c1 : fn = 1
 · rw [if_neg (by omega), if_neg (by omega), if_neg (by omega), if_neg (by omega)]
   exact Ev.congr (f := fun _ => some (1, (ps.length : Int), ⟨#[]⟩, 0)) (fun k => by rw [if_pos c1]; rfl) (Ev.now _)
 by_cases ce : ps = []
 · subst ce
   refine Ev.congr (f := fun _ => some (0, 0, ⟨#[]⟩, 0)) (fun k => by rw [if_neg c1, if_pos (by simp)]) ?_
   have e : (if fn = 2 then sumR [] else if fn = 3 then extR 1 [] else if fn = 4 then extR (-1) [] else if fn = 5 then avgR [] else (1, (([] : List V).length : Int), ⟨#[]⟩, 0)) = (0, 0, ⟨#[]⟩, 0) := by
    by_cases c2 : fn = 2
    · rw [if_pos c2]; rfl
    rw [if_neg c2]
    by_cases c3 : fn = 3
    · rw [if_pos c3]; rfl
    rw [if_neg c3]
    by_cases c4 : fn = 4
    · rw [if_pos c4]; rfl
    rw [if_neg c4, if_pos (by omega)]; rfl
   rw [e]
   exact Ev.now _
 have hpl : ¬ (ps.length : Int) = 0 := by
  have := List.length_pos_iff.2 ce
  omega
 by_cases c2 : fn = 2
 · rw [if_pos c2]
   refine Ev.congr (f := fun k => (r6_sum.f k ps).bind fun b => some (b.1, b.2.1, b.2.2.1, b.2.2.2)) (fun k => by rw [if_neg c1, if_neg hpl, if_pos c2]) ?_
   exact Ev.bind (rsum_ev ps hpi (by omega) ce) (Ev.now _)
 rw [if_neg c2]
 by_cases c3 : fn = 3
 · rw [if_pos c3]
   refine Ev.congr (f := fun k => (r6_extreme.f k ps false).bind fun b => some (b.1, b.2.1, b.2.2.1, b.2.2.2)) (fun k => by rw [if_neg c1, if_neg hpl, if_neg c2, if_pos c3]) ?_
   exact Ev.bind (rextreme_ev 1 false (by simp) ps hpv (by omega) ce) (Ev.now _)
 rw [if_neg c3]
 by_cases c4 : fn = 4
 · rw [if_pos c4]
   refine Ev.congr (f := fun k => (r6_extreme.f k ps true).bind fun b => some (b.1, b.2.1, b.2.2.1, b.2.2.2)) (fun k => by rw [if_neg c1, if_neg hpl, if_neg c2, if_neg c3, if_pos c4]) ?_
   exact Ev.bind (rextreme_ev (-1) true (by simp) ps hpv (by omega) ce) (Ev.now _)
 rw [if_neg c4, if_pos (by omega)]
 refine Ev.congr (f := fun k => (r6_average.f k ps).bind fun b => some (b.1, b.2.1, b.2.2.1, b.2.2.2)) (fun k => by rw [if_neg c1, if_neg hpl, if_neg c2, if_neg c3, if_neg c4]) ?_
 exact Ev.bind (raverage_ev ps hpi (by omega) ce) (Ev.now _)
theorem distR_seen : ∀ (l : List (List V)) (s t : List ByteArray), (∀ x, x ∈ s ↔ x ∈ t) → distR s l = distR t l
 | [], _, _, _ => rfl
 | r :: rs, s, t, h => by
  have h2 : ∀ x, x ∈ nameOf r :: s ↔ x ∈ nameOf r :: t := fun x => by simp only [List.mem_cons, h]
  simp only [distR]
  rw [distR_seen rs s t h, distR_seen rs _ _ h2]
  by_cases hm : nameOf r ∈ s
  · rw [if_pos hm, if_pos ((h _).1 hm)]
  rw [if_neg hm, if_neg (fun e => hm ((h _).2 e))]
theorem has_cols {l : List (List V)} {cols : List Int} (hv : validB l = true) (hc : ∀ n ∈ cols, hasB l n = true) : ∀ row ∈ l, ∀ n ∈ cols, 0 ≤ n ∧ n < (row.length : Int) := fun row hrow n hn => by
 have h1 := hc n hn
 cases hl : l with
 | nil => rw [hl] at hrow; cases hrow
 | cons r rs =>
  rw [hl] at h1 hrow
  have h2 := validB_len (hl ▸ hv) row hrow
  have := of_decide_eq_true h1
  omega
theorem key_valid {l : List (List V)} {cols : List Int} (hv : validB l = true) (hc : ∀ n ∈ cols, hasB l n = true) : ∀ row ∈ l, ∀ v ∈ keyOf cols row, validV v = true := fun row hrow v hm => by
 obtain ⟨n, hn, rfl⟩ := List.mem_map.1 hm
 have h1 := has_cols hv hc row hrow n hn
 have h2 : n.toNat < row.length := by omega
 have : rd_T36 row n = row[n.toNat] := by simp [rd_T36, List.getElem?_eq_getElem h2]
 rw [this]
 exact validB_valid hv row hrow _ (List.getElem_mem h2)
theorem distR_has : ∀ (l : List (List V)) (s : List ByteArray) (r : List V), r ∈ l → nameOf r ∉ s → r ∈ distR s l
 | [], _, _, h, _ => by cases h
 | a :: l, s, r, h, hn => by
  simp only [distR]
  by_cases hm : nameOf a ∈ s
  · rw [if_pos hm]
    rcases List.mem_cons.1 h with rfl | h
    · exact absurd hm hn
    exact distR_has l s r h hn
  rw [if_neg hm]
  by_cases ha : nameOf r = nameOf a
  · rw [name_inj ha]; exact List.mem_cons_self
  rcases List.mem_cons.1 h with rfl | h
  · exact absurd rfl ha
  exact List.mem_cons_of_mem _ (distR_has l _ r h (fun e => (List.mem_cons.1 e).elim ha hn))
theorem mem_keysR {cols : List Int} {l : List (List V)} {key : List V} : key ∈ keysR cols l ↔ (cols = [] ∧ key = []) ∨ (cols ≠ [] ∧ ∃ row ∈ l, keyOf cols row = key) := by
 unfold keysR
 by_cases h : cols = []
 · simp [h]
 rw [if_neg h, (sortR_perm _ _).mem_iff]
 constructor
 · intro hm
   obtain ⟨row, hr, e⟩ := List.mem_map.1 (distR_mem _ _ _ hm)
   exact .inr ⟨h, row, hr, e⟩
 rintro (⟨e, _⟩ | ⟨_, row, hr, rfl⟩)
 · exact absurd e h
 exact distR_has _ _ _ (List.mem_map_of_mem hr) (by simp)
theorem keysR_len (cols : List Int) (l : List (List V)) : (keysR cols l).length ≤ l.length + 1 := by
 unfold keysR
 split
 · simp
 rw [(sortR_perm _ _).length_eq]
 have := distR_len (l.map (keyOf cols)) []
 rw [List.length_map] at this
 omega
theorem key_len {cols : List Int} {l : List (List V)} {key : List V} (h : key ∈ keysR cols l) : key.length = cols.length := by
 rcases mem_keysR.1 h with ⟨rfl, rfl⟩ | ⟨_, row, _, rfl⟩
 · rfl
 simp [keyOf]
theorem rowOf_len (ls : List (List V)) : ∀ (aggs : List AggT) (acc : List V), (rowOf ls aggs acc).1.length ≤ acc.length + aggs.length
 | [], _ => by simp [rowOf]
 | a :: aa, acc => by
  simp only [rowOf]
  split
  rotate_left
  · simp
  have := rowOf_len ls aa (acc ++ [⟨(aggR a.f0 a.f2 (columnR ls a.f1)).1, (aggR a.f0 a.f2 (columnR ls a.f1)).2.1, (aggR a.f0 a.f2 (columnR ls a.f1)).2.2.1⟩])
  simp only [List.length_append, List.length_cons, List.length_nil] at this ⊢
  omega
theorem rowsOf_len {cols : List Int} {l : List (List V)} {aggs : List AggT} : ∀ (ks acc : List (List V)), (rowsOf cols l aggs ks acc).1.length ≤ acc.length + ks.length
 | [], _ => by simp [rowsOf]
 | k :: ks, acc => by
  simp only [rowsOf]
  split
  rotate_left
  · simp
  have := rowsOf_len (cols := cols) (l := l) (aggs := aggs) ks (acc ++ [(rowOf (listR cols l (nameOf k)) aggs k).1])
  simp only [List.length_append, List.length_cons, List.length_nil] at this ⊢
  omega
theorem rowsOf_lens {cols : List Int} {l : List (List V)} {aggs : List AggT} : ∀ (ks acc : List (List V)) (n : Nat), (∀ r ∈ acc, r.length ≤ n) → (∀ k ∈ ks, k.length + aggs.length ≤ n) → ∀ r ∈ (rowsOf cols l aggs ks acc).1, r.length ≤ n
 | [], acc, n, ha, _ => by simpa [rowsOf] using ha
 | k :: ks, acc, n, ha, hk => by
  simp only [rowsOf]
  split
  rotate_left
  · simp
  refine rowsOf_lens ks _ n (fun r hr => ?_) (fun x hx => hk x (List.mem_cons_of_mem _ hx))
  rcases List.mem_append.1 hr with hr | hr
  · exact ha r hr
  obtain rfl : r = _ := by simpa using hr
  exact Nat.le_trans (rowOf_len _ _ _) (hk k List.mem_cons_self)
theorem nameV_short (v : V) (h : VOk v) (hs : v.f2.size ≤ 1099511627776) : (nameV v).length ≤ v.f2.size + 66 := by
 obtain ⟨h0, h1, h2, h3⟩ := h
 have i1 := Lib.itoa_length_le v.f0 (by omega) (by omega)
 have i2 := Lib.itoa_length_le v.f1 h2 h3
 have i3 := Lib.itoa_length_le (v.f2.size : Int) (by omega) (by omega)
 have e : v.f2.data.toList.length = v.f2.size := Array.length_toList
 unfold nameV
 simp only [List.length_append, List.length_cons, List.length_nil, e]
 omega
theorem nameB_short (S : Nat) (hS : S ≤ 1048576) : ∀ r : List V, (∀ v ∈ r, VOk v ∧ v.f2.size ≤ S) → (nameB r).length ≤ r.length * (S + 66)
 | [], _ => by simp [nameB]
 | v :: r, h => by
  obtain ⟨a, b⟩ := h v List.mem_cons_self
  have h1 := nameV_short v a (by omega)
  have h2 := nameB_short S hS r (fun u hu => h u (List.mem_cons_of_mem _ hu))
  simp only [nameB, List.length_append, List.length_cons, Nat.add_mul, Nat.one_mul]
  simp only [Nat.mul_add] at h2 ⊢
  omega
theorem rowOk_short {S : Nat} {r : List V} (h : ∀ v ∈ r, VOk v ∧ v.f2.size ≤ S) (hn : r.length + S ≤ 1048586) (hS : S ≤ 1048576) : RowOk r := by
 have h1 := nameB_short S hS r h
 refine ⟨fun v hv => (h v hv).1, ?_, by omega⟩
 refine Nat.le_trans h1 ?_
 by_cases hc : r.length ≤ 524300
 · exact Nat.le_trans (Nat.mul_le_mul hc (show S + 66 ≤ 1048642 by omega)) (by decide)
 exact Nat.le_trans (Nat.mul_le_mul (show r.length ≤ 1048586 by omega) (show S + 66 ≤ 524400 by omega)) (by decide)
theorem rd_short {S : Nat} {l : List (List V)} (h : ∀ row ∈ l, ∀ v ∈ row, VOk v ∧ v.f2.size ≤ S) (n : Int) : ∀ row ∈ l, VOk (rd_T36 row n) ∧ (rd_T36 row n).f2.size ≤ S := fun row hr => by
 by_cases hn : n.toNat < row.length
 · have e : rd_T36 row n = row[n.toNat] := by simp [rd_T36, List.getElem?_eq_getElem hn]
   rw [e]
   exact h row hr _ (List.getElem_mem hn)
 have e : rd_T36 row n = z36 := by
  unfold rd_T36
  rw [List.getD_eq_getElem?_getD, List.getElem?_eq_none (by omega)]
  rfl
 rw [e]
 exact ⟨⟨by decide, by decide, by decide, by decide⟩, Nat.zero_le _⟩
theorem groupOk_short {l : List (List V)} {cols : List Int} {aggs : List AggT} {S : Nat} (hl : RowsOk l) (hn : l.length ≤ 1048586) (hs : ∀ row ∈ l, ∀ v ∈ row, v.f2.size ≤ S) (hc : cols.length + S ≤ 1048576) (ha : aggs.length ≤ 1048576) (hf : ∀ a ∈ aggs, 0 ≤ a.f0) : GroupOk l cols aggs := by
 have hv : ∀ row ∈ l, ∀ v ∈ row, VOk v ∧ v.f2.size ≤ S := fun row hr v hm => ⟨(hl.1 row hr).1 v hm, hs row hr v hm⟩
 refine ⟨hl, by omega, by omega, by omega, hf, fun row hr => rowOk_short (S := S) (fun v hm => ?_) ?_ (by omega), fun a _ row hr => rowOk_short (S := S) (fun v hm => ?_) ?_ (by omega)⟩
 · obtain ⟨n, _, rfl⟩ := List.mem_map.1 hm
   exact rd_short hv n row hr
 · rw [keyOf, List.length_map]; omega
 · obtain rfl : v = _ := List.mem_singleton.1 hm
   exact rd_short hv _ row hr
 simp only [List.length_cons, List.length_nil]; omega
theorem groupG_len {l : List (List V)} {cols : List Int} {aggs : List AggT} (hn : l.length ≤ 1048586) (hc : cols.length ≤ 1048576) (ha : aggs.length ≤ 1048576) : (groupG l cols aggs).1.length ≤ 1099511627776 ∧ ∀ r ∈ (groupG l cols aggs).1, r.length ≤ 1099511627776 := by
 unfold groupG
 split
 rotate_left
 · exact ⟨by simp, by simp⟩
 refine ⟨?_, rowsOf_lens _ _ _ (by simp) (fun k hk => by rw [key_len hk]; omega)⟩
 have h1 := rowsOf_len (cols := cols) (l := l) (aggs := aggs) (keysR cols l) []
 have h2 := keysR_len cols l
 simp only [List.length_nil] at h1
 omega
section
attribute [local go_sem] max2_int min2_int max_two min_two max_three min_three max_four min_four
def r6_column.l0 : Nat → List (List (S36)) → Int → List (S36) → Int → Option ((List (S36)))
 | 0, _, _, _, _ => none
 | k + 1, x0, x1, x5, x6 => if x6 < (x0.length : Int) then (if x1 ≥ 0 then (if 0 ≤ x6 then (if x1 < ((rd_L4 x0 x6).length : Int) then (if 0 ≤ x1 then (if x5.length < 4398046511104 then (r6_column.l0 k x0 x1 (x5 ++ [(⟨(rd_T36 (rd_L4 x0 x6) x1).f0, (rd_T36 (rd_L4 x0 x6) x1).f1, (rd_T36 (rd_L4 x0 x6) x1).f2⟩ : S36)]) (wrap64 (x6 + 1))) else (none)) else (none)) else (if x5.length < 4398046511104 then (r6_column.l0 k x0 x1 (x5 ++ [(⟨0, 0, (⟨#[]⟩ : ByteArray)⟩ : S36)]) (wrap64 (x6 + 1))) else (none))) else (none)) else (if x5.length < 4398046511104 then (r6_column.l0 k x0 x1 (x5 ++ [(⟨0, 0, (⟨#[]⟩ : ByteArray)⟩ : S36)]) (wrap64 (x6 + 1))) else (none))) else (some x5)
def r6_column.f (k : Nat) (l0 : List (List (S36))) (a1 : Int) : Option ((List (S36))) := r6_column.l0 k l0 a1 ([] : List (S36)) 0
theorem r6_column.calls (k : Nat) (A0 : Option Addr) (c0 : Nat) (l0 : List (List (S36))) (a1 : Int) (r : List (S36)) (w : World) (hr0 : Kd.C (Kd.slice 36 k36) w A0 l0.length l0) (hc0 : l0.length ≤ c0) (h : r6_column.f k l0 a1 = some r) :
 Calls Tryz.prog 87 #[.slice A0 l0.length c0, .int .i64 a1] w fun e w' => ∃ v0_ : Value, e = .returned (v0_) ∧ Kd.R k36 36 w' w.heap.size (fun _ => True) v0_ r ∧ Below w.heap.size w w' := by
 have hu36 := Tryz.underlying36
 have HR0 := kA_ hr0
 have HC0 := kA_ hc0
 clear hr0 hc0
 have HB := kA_ (Below.refl w.heap.size w)
 have H : (r6_column.l0 k l0 a1 ([] : List (S36)) 0) = some r := h
 clear h
 have H' := kA_ H
 clear H
 go_enter Tryz.func87, Tryz.ntmps87
 go_wp2
 go_loopg [5, 6] k (fun kq v5 v6 w' => ∃ (x5_1 : List (S36)) (x6_1 : Int), v6 = .int .i64 x6_1 ∧ Aside0 (r6_column.l0 kq l0 a1 x5_1 x6_1 = some r) ∧ Aside0 (kq ≤ k) ∧ Aside0 (Kd.R k36 36 w' w.heap.size (fun _ => True) v5 x5_1) ∧ Aside0 (Below w.heap.size w w'))
 case atStart => exact ⟨(([] : List (S36))), (0), a4_, H', ⟨Nat.le_refl _⟩, ⟨a32_⟩, ⟨a2_⟩⟩
 case round =>
  clear H'
  try clear p2
  obtain ⟨x5_1, x6_1, rfl, HA, HK1, HO_5, HB⟩ := hrel
  cases gk with
  | zero => exact absurd HA.out (by simp [r6_column.l0])
  | succ k1 =>
   have H := HA.out
   clear HA
   simp only [r6_column.l0] at H
   by_cases c3 : x6_1 < (l0.length : Int)
   rotate_left
   · rw [if_neg c3] at H
     have c3b0 : decide (x6_1 < (l0.length : Int)) = false := dF_ c3
     clear c3
     obtain rfl := Option.some.inj H
     go_wp2
     go_ret
     exact ⟨_, a5_, a16_, a2_⟩
   rw [if_pos c3] at H
   have c3b0 : decide (x6_1 < (l0.length : Int)) = true := dT_ c3
   clear c3
   by_cases c4 : a1 ≥ 0
   rotate_left
   · rw [if_neg c4] at H
     have c4b0 : decide (0 ≤ a1) = false := dF_ c4
     clear c4
     by_cases c12 : x5_1.length < 4398046511104
     rotate_left
     · rw [if_neg c12] at H
       exact absurd H (by simp)
     rw [if_pos c12] at H
     have LMc12 := kA_ c12
     clear c12
     obtain ⟨y493, hy493⟩ : ∃ y_ : List (S36), y_ = (x5_1 ++ [(⟨0, 0, (⟨#[]⟩ : ByteArray)⟩ : S36)]) := ⟨_, rfl⟩
     replace H : (r6_column.l0 k1 l0 a1 y493 (wrap64 (x6_1 + 1))) = some r := by first | (rw [hy493]; with_reducible exact H) | (have H2_ := (Option.bind_some _ _).symm.trans H; rw [hy493]; with_reducible exact H2_) | (have H2_ := (Option.bind_some _ _).symm.trans H; with_reducible exact H2_) | with_reducible exact H | (rw [hy493]; exact H) | exact H
     have Ny493 := kA_ hy493
     clear hy493
     have H' := kA_ H
     clear H
     go_wp2_with (first | ((with_reducible refine gate_builtin (b := .append) (xs := #[.tmp 34, .tmp 36]) rfl ?_); (try (refine gate_guard (by rfl) ?_; dsimp only)); at_builtin; refine Kd.R_append k36 (w0 := w) w.heap.size rfl (.tmp 34) (.tmp 36) 33 36 (.agg #[(.int .u8 0), (.int .i64 0), (.string ⟨#[]⟩)]) 32 rfl Tryz.underlying33 info36 rfl (by decide) (by omega) u5 x5_1 (⟨0, 0, (⟨#[]⟩ : ByteArray)⟩ : S36) [.int .u8 0, .int .i64 0, .string (⟨#[]⟩ : ByteArray)] (fun _ => True) (fun _ => False) rfl rfl ?aP (fun _ hk => hk.elim) ?aF ?aO ?aB ?aS ?aL ?_; (case aP => exact k36_mkM _ _ _ (⟨0, 0, (⟨#[]⟩ : ByteArray)⟩ : S36)); (case aB => exact a0_); (case aF => exact (fun _ _ => trivial)); (case aO => exact a31_); (case aS => exact (below_size a0_)); (case aL => have := LMc12.out; omega); intro v494 w13 ho hb hg hat; rw [← Ny493.out] at ho; have n0_ := kA_ (hb); have n1_ := kA_ (ho); clear HB; clear HO_5; have HB := n0_; have HO495 := n1_; clear n0_ n1_; clear ho hb hg hat))
     go_roundg k1
     case measure => have := HK1.out; omega
     case rel => exact ⟨(y493), (wrap64 (x6_1 + 1)), a4_, H', ⟨by have := HK1.out; omega⟩, ⟨by (with_reducible repeat (first | apply Kd.R_alloc | apply Kd.R_drewN | apply Kd.R_drew)); exact HO495.out⟩, ⟨a2_⟩⟩
   rw [if_pos c4] at H
   have c4b0 : decide (0 ≤ a1) = true := dT_ c4
   clear c4
   by_cases c5 : 0 ≤ x6_1
   rotate_left
   · rw [if_neg c5] at H
     exact absurd H (by simp)
   rw [if_pos c5] at H
   have c5b0 : decide (0 ≤ x6_1) = true := dT_ c5
   clear c5
   by_cases c6 : a1 < ((rd_L4 l0 x6_1).length : Int)
   rotate_left
   · rw [if_neg c6] at H
     have c6b0 : decide (a1 < ((rd_L4 l0 x6_1).length : Int)) = false := dF_ c6
     clear c6
     by_cases c10 : x5_1.length < 4398046511104
     rotate_left
     · rw [if_neg c10] at H
       exact absurd H (by simp)
     rw [if_pos c10] at H
     have LMc10 := kA_ c10
     clear c10
     obtain ⟨y490, hy490⟩ : ∃ y_ : List (S36), y_ = (x5_1 ++ [(⟨0, 0, (⟨#[]⟩ : ByteArray)⟩ : S36)]) := ⟨_, rfl⟩
     replace H : (r6_column.l0 k1 l0 a1 y490 (wrap64 (x6_1 + 1))) = some r := by first | (rw [hy490]; with_reducible exact H) | (have H2_ := (Option.bind_some _ _).symm.trans H; rw [hy490]; with_reducible exact H2_) | (have H2_ := (Option.bind_some _ _).symm.trans H; with_reducible exact H2_) | with_reducible exact H | (rw [hy490]; exact H) | exact H
     have Ny490 := kA_ hy490
     clear hy490
     have H' := kA_ H
     clear H
     have p484 : 0 ≤ (x6_1 : Int) := oT_ (by assumption)
     have q484 : x6_1 < (l0.length : Int) := oT_ (by assumption)
     obtain ⟨ad484, A484_0, c484_0, e484, hx484_0, hl484_0, hi484_0⟩ := at_L4 HR0.out x6_1 p484 q484
     cases e484
     replace hx484_0 := cB_ HB.out hx484_0
     have HR484_0 := kA_ hi484_0
     have HC484_0 := kA_ hl484_0
     clear hi484_0 hl484_0
     replace p484 := eq_true p484
     replace q484 := eq_true q484
     go_wp2_with (first | ((with_reducible refine gate_builtin (b := .append) (xs := #[.tmp 34, .tmp 36]) rfl ?_); (try (refine gate_guard (by rfl) ?_; dsimp only)); at_builtin; refine Kd.R_append k36 (w0 := w) w.heap.size rfl (.tmp 34) (.tmp 36) 33 36 (.agg #[(.int .u8 0), (.int .i64 0), (.string ⟨#[]⟩)]) 32 rfl Tryz.underlying33 info36 rfl (by decide) (by omega) u5 x5_1 (⟨0, 0, (⟨#[]⟩ : ByteArray)⟩ : S36) [.int .u8 0, .int .i64 0, .string (⟨#[]⟩ : ByteArray)] (fun _ => True) (fun _ => False) rfl rfl ?aP (fun _ hk => hk.elim) ?aF ?aO ?aB ?aS ?aL ?_; (case aP => exact k36_mkM _ _ _ (⟨0, 0, (⟨#[]⟩ : ByteArray)⟩ : S36)); (case aB => exact a0_); (case aF => exact (fun _ _ => trivial)); (case aO => exact a31_); (case aS => exact (below_size a0_)); (case aL => have := LMc10.out; omega); intro v491 w11 ho hb hg hat; rw [← Ny490.out] at ho; have n0_ := kA_ (hb); have n1_ := kA_ (ho); clear HB; clear HO_5; have HB := n0_; have HO492 := n1_; clear n0_ n1_; clear ho hb hg hat))
     go_roundg k1
     case measure => have := HK1.out; omega
     case rel => exact ⟨(y490), (wrap64 (x6_1 + 1)), a4_, H', ⟨by have := HK1.out; omega⟩, ⟨by (with_reducible repeat (first | apply Kd.R_alloc | apply Kd.R_drewN | apply Kd.R_drew)); exact HO492.out⟩, ⟨a2_⟩⟩
   rw [if_pos c6] at H
   have c6b0 : decide (a1 < ((rd_L4 l0 x6_1).length : Int)) = true := dT_ c6
   clear c6
   by_cases c7 : 0 ≤ a1
   rotate_left
   · rw [if_neg c7] at H
     exact absurd H (by simp)
   rw [if_pos c7] at H
   have c7b0 : decide (0 ≤ a1) = true := dT_ c7
   clear c7
   by_cases c8 : x5_1.length < 4398046511104
   rotate_left
   · rw [if_neg c8] at H
     exact absurd H (by simp)
   rw [if_pos c8] at H
   have LMc8 := kA_ c8
   clear c8
   obtain ⟨y487, hy487⟩ : ∃ y_ : List (S36), y_ = (x5_1 ++ [(⟨(rd_T36 (rd_L4 l0 x6_1) a1).f0, (rd_T36 (rd_L4 l0 x6_1) a1).f1, (rd_T36 (rd_L4 l0 x6_1) a1).f2⟩ : S36)]) := ⟨_, rfl⟩
   replace H : (r6_column.l0 k1 l0 a1 y487 (wrap64 (x6_1 + 1))) = some r := by first | (rw [hy487]; with_reducible exact H) | (have H2_ := (Option.bind_some _ _).symm.trans H; rw [hy487]; with_reducible exact H2_) | (have H2_ := (Option.bind_some _ _).symm.trans H; with_reducible exact H2_) | with_reducible exact H | (rw [hy487]; exact H) | exact H
   have Ny487 := kA_ hy487
   clear hy487
   have H' := kA_ H
   clear H
   have p484 : 0 ≤ (x6_1 : Int) := oT_ (by assumption)
   have q484 : x6_1 < (l0.length : Int) := oT_ (by assumption)
   obtain ⟨ad484, A484_0, c484_0, e484, hx484_0, hl484_0, hi484_0⟩ := at_L4 HR0.out x6_1 p484 q484
   cases e484
   replace hx484_0 := cB_ HB.out hx484_0
   have HR484_0 := kA_ hi484_0
   have HC484_0 := kA_ hl484_0
   clear hi484_0 hl484_0
   replace p484 := eq_true p484
   replace q484 := eq_true q484
   have p485 : 0 ≤ (x6_1 : Int) := oT_ (by assumption)
   have q485 : x6_1 < (l0.length : Int) := oT_ (by assumption)
   obtain ⟨ad485, A485_0, c485_0, e485, hx485_0, hl485_0, hi485_0⟩ := at_L4 HR0.out x6_1 p485 q485
   obtain rfl : ad484 = ad485 := (by injection e485)
   replace hx485_0 := cB_ HB.out hx485_0
   have HR485_0 := kA_ hi485_0
   have HC485_0 := kA_ hl485_0
   clear hi485_0 hl485_0
   replace p485 := eq_true p485
   replace q485 := eq_true q485
   have ea_ := Option.some.inj (hx484_0.symm.trans hx485_0)
   injection ea_ with ea_ en_ ec_
   subst ea_
   subst ec_
   clear en_
   have p486 : 0 ≤ (a1 : Int) := oT_ (by assumption)
   have q486 : a1 < ((rd_L4 l0 x6_1).length : Int) := oT_ (by assumption)
   obtain ⟨ad486, e486, hx486_0, hx486_1, hx486_2⟩ := at_T36 HR485_0.out a1 p486 q486
   cases e486
   replace hx486_0 := cB_ HB.out hx486_0
   replace hx486_1 := cB_ HB.out hx486_1
   replace hx486_2 := cB_ HB.out hx486_2
   replace p486 := eq_true p486
   replace q486 := eq_true q486
   go_wp2_with (first | ((with_reducible refine gate_builtin (b := .append) (xs := #[.tmp 24, .tmp 32]) rfl ?_); (try (refine gate_guard (by rfl) ?_; dsimp only)); at_builtin; refine Kd.R_append k36 (w0 := w) w.heap.size rfl (.tmp 24) (.tmp 32) 33 36 (.agg #[(.int .u8 0), (.int .i64 0), (.string ⟨#[]⟩)]) 32 rfl Tryz.underlying33 info36 rfl (by decide) (by omega) u5 x5_1 (⟨(rd_T36 (rd_L4 l0 x6_1) a1).f0, (rd_T36 (rd_L4 l0 x6_1) a1).f1, (rd_T36 (rd_L4 l0 x6_1) a1).f2⟩ : S36) [.int .u8 ((rd_T36 (rd_L4 l0 x6_1) a1).f0), .int .i64 ((rd_T36 (rd_L4 l0 x6_1) a1).f1), .string ((rd_T36 (rd_L4 l0 x6_1) a1).f2)] (fun _ => True) (fun _ => False) rfl rfl ?aP (fun _ hk => hk.elim) ?aF ?aO ?aB ?aS ?aL ?_; (case aP => exact k36_mkM _ _ _ (⟨(rd_T36 (rd_L4 l0 x6_1) a1).f0, (rd_T36 (rd_L4 l0 x6_1) a1).f1, (rd_T36 (rd_L4 l0 x6_1) a1).f2⟩ : S36)); (case aB => exact a0_); (case aF => exact (fun _ _ => trivial)); (case aO => exact a31_); (case aS => exact (below_size a0_)); (case aL => have := LMc8.out; omega); intro v488 w9 ho hb hg hat; rw [← Ny487.out] at ho; have n0_ := kA_ (hb); have n1_ := kA_ (ho); clear HB; clear HO_5; have HB := n0_; have HO489 := n1_; clear n0_ n1_; clear ho hb hg hat))
   go_roundg k1
   case measure => have := HK1.out; omega
   case rel => exact ⟨(y487), (wrap64 (x6_1 + 1)), a4_, H', ⟨by have := HK1.out; omega⟩, ⟨by (with_reducible repeat (first | apply Kd.R_alloc | apply Kd.R_drewN | apply Kd.R_drew)); exact HO489.out⟩, ⟨a2_⟩⟩
def r6_Pick.l0 : Nat → List (S36) → List Int → List (S36) → Int → Option ((List (S36)))
 | 0, _, _, _, _ => none
 | k + 1, x0, x1, x5, x6 => if x6 < (x1.length : Int) then (if 0 ≤ x6 then (if (rd x1 x6) ≥ 0 then (if (rd x1 x6) < (x0.length : Int) then (if 0 ≤ (rd x1 x6) then (if x5.length < 4398046511104 then (r6_Pick.l0 k x0 x1 (x5 ++ [(⟨(rd_T36 x0 (rd x1 x6)).f0, (rd_T36 x0 (rd x1 x6)).f1, (rd_T36 x0 (rd x1 x6)).f2⟩ : S36)]) (wrap64 (x6 + 1))) else (none)) else (none)) else (r6_Pick.l0 k x0 x1 x5 (wrap64 (x6 + 1)))) else (r6_Pick.l0 k x0 x1 x5 (wrap64 (x6 + 1)))) else (none)) else (some x5)
def r6_Pick.f (k : Nat) (l0 : List (S36)) (l1 : List Int) : Option ((List (S36))) := r6_Pick.l0 k l0 l1 ([] : List (S36)) 0
theorem r6_Pick.calls (k : Nat) (A0 : Option Addr) (c0 : Nat) (l0 : List (S36)) (A1 : Option Addr) (c1 : Nat) (l1 : List Int) (r : List (S36)) (w : World) (hr0 : Kd.C k36 w A0 l0.length l0) (hc0 : l0.length ≤ c0) (hr1 : Kd.C (Kd.int .i64) w A1 l1.length l1) (hc1 : l1.length ≤ c1) (h : r6_Pick.f k l0 l1 = some r) :
 Calls Tryz.prog 60 #[.slice A0 l0.length c0, .slice A1 l1.length c1] w fun e w' => ∃ v0_ : Value, e = .returned (v0_) ∧ Kd.R k36 36 w' w.heap.size (fun _ => True) v0_ r ∧ Below w.heap.size w w' := by
 have hu36 := Tryz.underlying36
 have HR0 := kA_ hr0
 have HC0 := kA_ hc0
 clear hr0 hc0
 have HR1 := kA_ hr1
 have HC1 := kA_ hc1
 clear hr1 hc1
 have HB := kA_ (Below.refl w.heap.size w)
 have H : (r6_Pick.l0 k l0 l1 ([] : List (S36)) 0) = some r := h
 clear h
 have H' := kA_ H
 clear H
 go_enter Tryz.func60, Tryz.ntmps60
 go_wp2
 go_loopg [5, 6] k (fun kq v5 v6 w' => ∃ (x5_1 : List (S36)) (x6_1 : Int), v6 = .int .i64 x6_1 ∧ Aside0 (r6_Pick.l0 kq l0 l1 x5_1 x6_1 = some r) ∧ Aside0 (kq ≤ k) ∧ Aside0 (Kd.R k36 36 w' w.heap.size (fun _ => True) v5 x5_1) ∧ Aside0 (Below w.heap.size w w'))
 case atStart => exact ⟨(([] : List (S36))), (0), a4_, H', ⟨Nat.le_refl _⟩, ⟨a32_⟩, ⟨a2_⟩⟩
 case round =>
  clear H'
  try clear c1
  try clear p2
  obtain ⟨x5_1, x6_1, rfl, HA, HK1, HO_5, HB⟩ := hrel
  cases gk with
  | zero => exact absurd HA.out (by simp [r6_Pick.l0])
  | succ k1 =>
   have H := HA.out
   clear HA
   simp only [r6_Pick.l0] at H
   by_cases c3 : x6_1 < (l1.length : Int)
   rotate_left
   · rw [if_neg c3] at H
     have c3b0 : decide (x6_1 < (l1.length : Int)) = false := dF_ c3
     clear c3
     obtain rfl := Option.some.inj H
     go_wp2
     go_ret
     exact ⟨_, a5_, a16_, a2_⟩
   rw [if_pos c3] at H
   have c3b0 : decide (x6_1 < (l1.length : Int)) = true := dT_ c3
   clear c3
   by_cases c4 : 0 ≤ x6_1
   rotate_left
   · rw [if_neg c4] at H
     exact absurd H (by simp)
   rw [if_pos c4] at H
   have c4b0 : decide (0 ≤ x6_1) = true := dT_ c4
   clear c4
   by_cases c5 : (rd l1 x6_1) ≥ 0
   rotate_left
   · rw [if_neg c5] at H
     have c5b0 : decide (0 ≤ (rd l1 x6_1)) = false := dF_ c5
     clear c5
     have H' := kA_ H
     clear H
     have p496 : 0 ≤ (x6_1 : Int) := oT_ (by assumption)
     have q496 : x6_1 < (l1.length : Int) := oT_ (by assumption)
     obtain ⟨ad496, e496, hx496_0⟩ := Kd.at_int HR1.out x6_1 p496 q496
     cases e496
     replace hx496_0 := cB_ HB.out hx496_0
     replace p496 := eq_true p496
     replace q496 := eq_true q496
     go_wp2
     go_roundg k1
     case measure => have := HK1.out; omega
     case rel => exact ⟨(x5_1), (wrap64 (x6_1 + 1)), a4_, H', ⟨by have := HK1.out; omega⟩, ⟨a16_⟩, ⟨a2_⟩⟩
   rw [if_pos c5] at H
   have c5b0 : decide (0 ≤ (rd l1 x6_1)) = true := dT_ c5
   clear c5
   by_cases c6 : (rd l1 x6_1) < (l0.length : Int)
   rotate_left
   · rw [if_neg c6] at H
     have c6b0 : decide ((rd l1 x6_1) < (l0.length : Int)) = false := dF_ c6
     clear c6
     have H' := kA_ H
     clear H
     have p496 : 0 ≤ (x6_1 : Int) := oT_ (by assumption)
     have q496 : x6_1 < (l1.length : Int) := oT_ (by assumption)
     obtain ⟨ad496, e496, hx496_0⟩ := Kd.at_int HR1.out x6_1 p496 q496
     cases e496
     replace hx496_0 := cB_ HB.out hx496_0
     replace p496 := eq_true p496
     replace q496 := eq_true q496
     have p497 : 0 ≤ (x6_1 : Int) := oT_ (by assumption)
     have q497 : x6_1 < (l1.length : Int) := oT_ (by assumption)
     obtain ⟨ad497, e497, hx497_0⟩ := Kd.at_int HR1.out x6_1 p497 q497
     obtain rfl : ad496 = ad497 := (by injection e497)
     replace hx497_0 := cB_ HB.out hx497_0
     replace p497 := eq_true p497
     replace q497 := eq_true q497
     go_wp2
     go_roundg k1
     case measure => have := HK1.out; omega
     case rel => exact ⟨(x5_1), (wrap64 (x6_1 + 1)), a4_, H', ⟨by have := HK1.out; omega⟩, ⟨a16_⟩, ⟨a2_⟩⟩
   rw [if_pos c6] at H
   have c6b0 : decide ((rd l1 x6_1) < (l0.length : Int)) = true := dT_ c6
   clear c6
   by_cases c7 : 0 ≤ (rd l1 x6_1)
   rotate_left
   · rw [if_neg c7] at H
     exact absurd H (by simp)
   rw [if_pos c7] at H
   have c7b0 : decide (0 ≤ (rd l1 x6_1)) = true := dT_ c7
   clear c7
   by_cases c8 : x5_1.length < 4398046511104
   rotate_left
   · rw [if_neg c8] at H
     exact absurd H (by simp)
   rw [if_pos c8] at H
   have LMc8 := kA_ c8
   clear c8
   obtain ⟨y500, hy500⟩ : ∃ y_ : List (S36), y_ = (x5_1 ++ [(⟨(rd_T36 l0 (rd l1 x6_1)).f0, (rd_T36 l0 (rd l1 x6_1)).f1, (rd_T36 l0 (rd l1 x6_1)).f2⟩ : S36)]) := ⟨_, rfl⟩
   replace H : (r6_Pick.l0 k1 l0 l1 y500 (wrap64 (x6_1 + 1))) = some r := by first | (rw [hy500]; with_reducible exact H) | (have H2_ := (Option.bind_some _ _).symm.trans H; rw [hy500]; with_reducible exact H2_) | (have H2_ := (Option.bind_some _ _).symm.trans H; with_reducible exact H2_) | with_reducible exact H | (rw [hy500]; exact H) | exact H
   have Ny500 := kA_ hy500
   clear hy500
   have H' := kA_ H
   clear H
   have p496 : 0 ≤ (x6_1 : Int) := oT_ (by assumption)
   have q496 : x6_1 < (l1.length : Int) := oT_ (by assumption)
   obtain ⟨ad496, e496, hx496_0⟩ := Kd.at_int HR1.out x6_1 p496 q496
   cases e496
   replace hx496_0 := cB_ HB.out hx496_0
   replace p496 := eq_true p496
   replace q496 := eq_true q496
   have p497 : 0 ≤ (x6_1 : Int) := oT_ (by assumption)
   have q497 : x6_1 < (l1.length : Int) := oT_ (by assumption)
   obtain ⟨ad497, e497, hx497_0⟩ := Kd.at_int HR1.out x6_1 p497 q497
   obtain rfl : ad496 = ad497 := (by injection e497)
   replace hx497_0 := cB_ HB.out hx497_0
   replace p497 := eq_true p497
   replace q497 := eq_true q497
   have p498 : 0 ≤ (x6_1 : Int) := oT_ (by assumption)
   have q498 : x6_1 < (l1.length : Int) := oT_ (by assumption)
   obtain ⟨ad498, e498, hx498_0⟩ := Kd.at_int HR1.out x6_1 p498 q498
   obtain rfl : ad496 = ad498 := (by injection e498)
   replace hx498_0 := cB_ HB.out hx498_0
   replace p498 := eq_true p498
   replace q498 := eq_true q498
   have p499 : 0 ≤ ((rd l1 x6_1) : Int) := oT_ (by assumption)
   have q499 : (rd l1 x6_1) < (l0.length : Int) := oT_ (by assumption)
   obtain ⟨ad499, e499, hx499_0, hx499_1, hx499_2⟩ := at_T36 HR0.out (rd l1 x6_1) p499 q499
   cases e499
   replace hx499_0 := cB_ HB.out hx499_0
   replace hx499_1 := cB_ HB.out hx499_1
   replace hx499_2 := cB_ HB.out hx499_2
   replace p499 := eq_true p499
   replace q499 := eq_true q499
   go_wp2_with (first | ((with_reducible refine gate_builtin (b := .append) (xs := #[.tmp 27, .tmp 35]) rfl ?_); (try (refine gate_guard (by rfl) ?_; dsimp only)); at_builtin; refine Kd.R_append k36 (w0 := w) w.heap.size rfl (.tmp 27) (.tmp 35) 53 36 (.agg #[(.int .u8 0), (.int .i64 0), (.string ⟨#[]⟩)]) 32 rfl Tryz.underlying53 info36 rfl (by decide) (by omega) u5 x5_1 (⟨(rd_T36 l0 (rd l1 x6_1)).f0, (rd_T36 l0 (rd l1 x6_1)).f1, (rd_T36 l0 (rd l1 x6_1)).f2⟩ : S36) [.int .u8 ((rd_T36 l0 (rd l1 x6_1)).f0), .int .i64 ((rd_T36 l0 (rd l1 x6_1)).f1), .string ((rd_T36 l0 (rd l1 x6_1)).f2)] (fun _ => True) (fun _ => False) rfl rfl ?aP (fun _ hk => hk.elim) ?aF ?aO ?aB ?aS ?aL ?_; (case aP => exact k36_mkM _ _ _ (⟨(rd_T36 l0 (rd l1 x6_1)).f0, (rd_T36 l0 (rd l1 x6_1)).f1, (rd_T36 l0 (rd l1 x6_1)).f2⟩ : S36)); (case aB => exact a0_); (case aF => exact (fun _ _ => trivial)); (case aO => exact a31_); (case aS => exact (below_size a0_)); (case aL => have := LMc8.out; omega); intro v501 w9 ho hb hg hat; rw [← Ny500.out] at ho; have n0_ := kA_ (hb); have n1_ := kA_ (ho); clear HB; clear HO_5; have HB := n0_; have HO502 := n1_; clear n0_ n1_; clear ho hb hg hat))
   go_roundg k1
   case measure => have := HK1.out; omega
   case rel => exact ⟨(y500), (wrap64 (x6_1 + 1)), a4_, H', ⟨by have := HK1.out; omega⟩, ⟨by (with_reducible repeat (first | apply Kd.R_alloc | apply Kd.R_drewN | apply Kd.R_drew)); exact HO502.out⟩, ⟨a2_⟩⟩
def r6_keysOf.l0 : Nat → List (List (S36)) → List Int → List (List (S36)) → Int → Option ((List (List (S36))))
 | 0, _, _, _, _ => none
 | k + 1, x0, x1, x5, x6 => if x6 < (x0.length : Int) then (if 0 ≤ x6 then ((r6_Pick.f k (rd_L4 x0 x6) x1).bind fun t510 => ((r6_Count.f k x5 t510).bind fun t513 => (if t513 = 0 then (if x5.length < 5864062014805 then (r6_keysOf.l0 k x0 x1 (x5 ++ [t510]) (wrap64 (x6 + 1))) else (none)) else (r6_keysOf.l0 k x0 x1 x5 (wrap64 (x6 + 1)))))) else (none)) else ((r6_full.f k x5 ([] : List (S64))).bind fun t506 => (some t506))
def r6_keysOf.f (k : Nat) (l0 : List (List (S36))) (l1 : List Int) : Option ((List (List (S36)))) := if (l1.length : Int) = 0 then (some (([[]] : List (List (S36))))) else (r6_keysOf.l0 k l0 l1 ([] : List (List (S36))) 0)
theorem r6_keysOf.calls (k : Nat) (A0 : Option Addr) (c0 : Nat) (l0 : List (List (S36))) (A1 : Option Addr) (c1 : Nat) (l1 : List Int) (r : List (List (S36))) (w : World) (hr0 : Kd.C (Kd.slice 36 k36) w A0 l0.length l0) (hc0 : l0.length ≤ c0) (hr1 : Kd.C (Kd.int .i64) w A1 l1.length l1) (hc1 : l1.length ≤ c1) (h : r6_keysOf.f k l0 l1 = some r) :
 Calls Tryz.prog 59 #[.slice A0 l0.length c0, .slice A1 l1.length c1] w fun e w' => ∃ v0_ : Value, e = .returned (v0_) ∧ Kd.V (Kd.slice 36 k36) 53 w' w.heap.size (fun k_ => (w.heap.size ≤ k_)) v0_ r ∧ Below w.heap.size w w' := by
 have HR0 := kA_ hr0
 have HC0 := kA_ hc0
 clear hr0 hc0
 have HR1 := kA_ hr1
 have HC1 := kA_ hc1
 clear hr1 hc1
 have HB := kA_ (Below.refl w.heap.size w)
 have H : (if (l1.length : Int) = 0 then (some (([[]] : List (List (S36))))) else (r6_keysOf.l0 k l0 l1 ([] : List (List (S36))) 0)) = some r := h
 clear h
 by_cases c3 : (l1.length : Int) = 0
 · rw [if_pos c3] at H
   have c3b0 : ((l1.length : Int) == 0) = true := beq_iff_eq.mpr c3
   have c3b1 : ((l1.length : Int) != 0) = false := bne_eq_false_iff_eq.mpr c3
   clear c3
   obtain ⟨y503, hy503⟩ : ∃ y_ : List (List (S36)), y_ = (([[]] : List (List (S36)))) := ⟨_, rfl⟩
   replace H : (some y503) = some r := by first | (rw [hy503]; with_reducible exact H) | (have H2_ := (Option.bind_some _ _).symm.trans H; rw [hy503]; with_reducible exact H2_) | (have H2_ := (Option.bind_some _ _).symm.trans H; with_reducible exact H2_) | with_reducible exact H | (rw [hy503]; exact H) | exact H
   have Ny503 := kA_ hy503
   clear hy503
   obtain rfl := Option.some.inj H
   go_enter Tryz.func59, Tryz.ntmps59
   go_wp2_with (first | ((with_reducible refine gate_dst (N := 11) rfl ?_); refine Kd.S_lit (Kd.slice 36 k36) _ 53 ?hg (N := 11) ?hd (xs := ([[]] : List (List (S36)))) (inner := [.slice none 0 0]) (ok := fun _ => True) (okp := fun _ => True) ?hr ?hp (fun _ hk => hk) trivial (Below.refl _ _) (Nat.le_refl _) (by simp) ?_; (case hd => rfl); (case hg => rfl); (case hr => first | (go_simp; done) | (go_simp; rfl)); (case hp => exact (Reps.one (show Kd.M (Kd.slice 36 k36) _ _ _ [] [.slice none 0 0] from ⟨_, rfl, Kd.R_nil _ _ _ _ _⟩) (Reps.none _ _))); intro v504 w4 ho5 hb hg_ hnew_; clear hg_ hnew_; (first | rw [← Ny503.out] at ho5 | (simp only [Int.reduceToNat] at ho5; rw [← Ny503.out] at ho5)); have n0_ := kA_ (Kd.S_lower (Kd.S_newM (M := fun k_ => (w.heap.size ≤ k_)) ho5 (below_size a0_) (fun k_ h_ => h_)) (below_size a0_)); have n1_ := kA_ (below_step a0_ hb); clear HB; have HO505 := n0_; have HB := n1_; clear n0_ n1_; clear hb ho5))
   go_ret
   exact ⟨_, a5_, Kd.S_V (by (with_reducible repeat (first | apply Kd.S_alloc | apply Kd.S_drewN | apply Kd.S_drew)); exact Kd.S_mono HO505.out (fun _ hk => hk.1)), a2_⟩
 rw [if_neg c3] at H
 have c3b0 : ((l1.length : Int) == 0) = false := beq_eq_false_iff_ne.mpr c3
 have c3b1 : ((l1.length : Int) != 0) = true := bne_iff_ne.mpr c3
 have c3b2 : ¬ (l1 = []) := fun h_ => c3 (by rw [h_]; rfl)
 have H' := kA_ H
 clear H
 go_enter Tryz.func59, Tryz.ntmps59
 go_wp2
 go_loopg [5, 6] k (fun kq v5 v6 w' => ∃ (x5_1 : List (List (S36))) (x6_1 : Int), v6 = .int .i64 x6_1 ∧ Aside0 (r6_keysOf.l0 kq l0 l1 x5_1 x6_1 = some r) ∧ Aside0 (kq ≤ k) ∧ Aside0 (Kd.S (Kd.slice 36 k36) 53 w' w.heap.size (fun k_ => (w.heap.size ≤ k_)) v5 x5_1) ∧ Aside0 (Below w.heap.size w w'))
 case atStart => exact ⟨(([] : List (List (S36)))), (0), a4_, H', ⟨Nat.le_refl _⟩, ⟨a88_⟩, ⟨a2_⟩⟩
 case round =>
  clear H'
  try clear c1
  try clear p2
  try clear c3
  try clear c3b0
  try clear c3b1
  try clear c3b2
  try clear c5
  obtain ⟨x5_1, x6_1, rfl, HA, HK1, HO_5, HB⟩ := hrel
  cases gk with
  | zero => exact absurd HA.out (by simp [r6_keysOf.l0])
  | succ k1 =>
   have H := HA.out
   clear HA
   simp only [r6_keysOf.l0] at H
   by_cases c6 : x6_1 < (l0.length : Int)
   rotate_left
   · rw [if_neg c6] at H
     have c6b0 : decide (x6_1 < (l0.length : Int)) = false := dF_ c6
     clear c6
     replace H := Option.bind_eq_some_iff.mp H
     obtain ⟨t506, A210, H⟩ := H
     replace H : (some t506) = some r := H
     have A21 := kA_ A210
     clear A210
     obtain rfl := Option.some.inj H
     obtain ⟨Ao22, co22, eo22⟩ := Kd.S_slice HO_5.out
     subst eo22
     go_wp2_with (first | ((with_reducible refine gate_callee (f := 67) rfl ?_); refine goesL_ (some 33) rfl rfl Tryz.func67 a3_ rfl #[.slice Ao22 x5_1.length co22, .slice none 0 0] rfl a1_ ?_; (refine (r6_full.calls k1 _ _ x5_1 _ _ ([] : List (S64)) t506 _ ?side1 ?side2 ?side3 ?side4 A21.out).mono ?_); (case side1 => repeat (first | exact (Kd.S_reads' HO_5.out).2.2 | (with_reducible refine Kd.cA_ ?_ _) | (with_reducible refine Kd.cN_ ?_ _) | (with_reducible refine Kd.cD_ ?_))); (case side2 => exact (Kd.S_reads' HO_5.out).2.1); (case side3 => exact Kd.C_nil _ _); (case side4 => exact Nat.le_refl _); rintro e w23 ⟨v507, rfl, ho0, hb⟩; refine ⟨_, rfl, ?_⟩; have n0_ := kA_ (Kd.S_below a46_ hb); have n1_ := kA_ (Kd.V_lower (Kd.V_mono (ok' := fun k_ => (w.heap.size ≤ k_) ∧ some k_ ≠ (.slice Ao22 x5_1.length co22 : Value).ownBlock) ho0 (fun k_ hk_ => ⟨(Nat.le_trans (below_size a0_) hk_), (Kd.fresh' (Kd.S_lt a46_) k_ hk_)⟩)) (below_size a0_)); have n2_ := kA_ (below_step a0_ hb); clear HO_5; clear HB; have HO_5 := n0_; have HO508 := n1_; have HB := n2_; clear n0_ n1_ n2_; (try clear hb); (try clear hb2); (try clear hk); (try clear hi); (try clear ho0)))
     go_ret
     exact ⟨_, a5_, by (with_reducible repeat (first | apply Kd.vA_ | apply Kd.vN_ | apply Kd.vD_)); exact Kd.V_mono HO508.out (fun _ hk => hk.1), a2_⟩
   rw [if_pos c6] at H
   have c6b0 : decide (x6_1 < (l0.length : Int)) = true := dT_ c6
   clear c6
   by_cases c7 : 0 ≤ x6_1
   rotate_left
   · rw [if_neg c7] at H
     exact absurd H (by simp)
   rw [if_pos c7] at H
   have c7b0 : decide (0 ≤ x6_1) = true := dT_ c7
   clear c7
   replace H := Option.bind_eq_some_iff.mp H
   obtain ⟨t510, A80, H⟩ := H
   replace H : ((r6_Count.f k1 x5_1 t510).bind fun t513 => (if t513 = 0 then (if x5_1.length < 5864062014805 then (r6_keysOf.l0 k1 l0 l1 (x5_1 ++ [t510]) (wrap64 (x6_1 + 1))) else (none)) else (r6_keysOf.l0 k1 l0 l1 x5_1 (wrap64 (x6_1 + 1))))) = some r := H
   have A8 := kA_ A80
   clear A80
   replace H := Option.bind_eq_some_iff.mp H
   obtain ⟨t513, A90, H⟩ := H
   replace H : (if t513 = 0 then (if x5_1.length < 5864062014805 then (r6_keysOf.l0 k1 l0 l1 (x5_1 ++ [t510]) (wrap64 (x6_1 + 1))) else (none)) else (r6_keysOf.l0 k1 l0 l1 x5_1 (wrap64 (x6_1 + 1)))) = some r := H
   have A9 := kA_ A90
   clear A90
   by_cases c10 : t513 = 0
   rotate_left
   · rw [if_neg c10] at H
     have c10b0 : (t513 == 0) = false := beq_eq_false_iff_ne.mpr c10
     have c10b1 : (t513 != 0) = true := bne_iff_ne.mpr c10
     have H' := kA_ H
     clear H
     have p509 : 0 ≤ (x6_1 : Int) := oT_ (by assumption)
     have q509 : x6_1 < (l0.length : Int) := oT_ (by assumption)
     obtain ⟨ad509, A509_0, c509_0, e509, hx509_0, hl509_0, hi509_0⟩ := at_L4 HR0.out x6_1 p509 q509
     cases e509
     replace hx509_0 := cB_ HB.out hx509_0
     have HR509_0 := kA_ hi509_0
     have HC509_0 := kA_ hl509_0
     clear hi509_0 hl509_0
     replace p509 := eq_true p509
     replace q509 := eq_true q509
     go_wp2_with (first | ((with_reducible refine gate_callee (f := 60) rfl ?_); refine goesL_ (some 23) rfl rfl Tryz.func60 a3_ rfl #[.slice A509_0 (rd_L4 l0 x6_1).length c509_0, .slice A1 l1.length c1] rfl a1_ ?_; (with_reducible refine (r6_Pick.calls k1 _ _ (rd_L4 l0 x6_1) _ _ l1 t510 _ ?side1 ?side2 ?side3 ?side4 A8.out).mono ?_); (case side1 => repeat (first | exact (Kd.C_below HR509_0.out HB.out) | (with_reducible refine Kd.cA_ ?_ _) | (with_reducible refine Kd.cN_ ?_ _) | (with_reducible refine Kd.cD_ ?_))); (case side2 => exact HC509_0.out); (case side3 => repeat (first | exact (Kd.C_below HR1.out HB.out) | (with_reducible refine Kd.cA_ ?_ _) | (with_reducible refine Kd.cN_ ?_ _) | (with_reducible refine Kd.cD_ ?_))); (case side4 => exact HC1.out); rintro e w17 ⟨v511, rfl, ho0, hb⟩; refine ⟨_, rfl, ?_⟩; have n0_ := kA_ (Kd.S_elder' a46_ (Kd.R_base ho0) hb); have n1_ := kA_ (Kd.R_lower (Kd.R_newM (M := fun k_ => (w.heap.size ≤ k_)) ho0 (below_size a0_) (fun k_ h_ => h_)) (below_size a0_)); have n2_ := kA_ (below_step a0_ hb); clear HO_5; clear HB; have HO_5 := n0_; have HO512 := n1_; have HB := n2_; clear n0_ n1_ n2_; (try clear hb); (try clear hb2); (try clear hk); (try clear hi); (try clear ho0); obtain ⟨Ao18, co18, eo18⟩ := Kd.S_slice HO_5.out; subst eo18; obtain ⟨Ao19, co19, eo19⟩ := Kd.R_slice HO512.out; subst eo19) | ((with_reducible refine gate_callee (f := 44) rfl ?_); refine goesL_ (some 26) rfl rfl Tryz.func44 a3_ rfl #[.slice Ao18 x5_1.length co18, .slice Ao19 t510.length co19] rfl a1_ ?_; (with_reducible refine (r6_Count.calls k1 _ _ x5_1 _ _ t510 t513 _ ?side1 ?side2 ?side3 ?side4 A9.out).mono ?_); (case side1 => repeat (first | exact (Kd.S_reads' HO_5.out).2.2 | (with_reducible refine Kd.cA_ ?_ _) | (with_reducible refine Kd.cN_ ?_ _) | (with_reducible refine Kd.cD_ ?_))); (case side2 => exact (Kd.S_reads' HO_5.out).2.1); (case side3 => repeat (first | exact (Kd.R_reads' HO512.out).2.2 | (with_reducible refine Kd.cA_ ?_ _) | (with_reducible refine Kd.cN_ ?_ _) | (with_reducible refine Kd.cD_ ?_))); (case side4 => exact (Kd.R_reads' HO512.out).2.1); rintro e w20 ⟨rfl, hb⟩; refine ⟨_, rfl, ?_⟩; have n0_ := kA_ (Kd.S_below a46_ hb); have n1_ := kA_ (Kd.R_below (by (with_reducible repeat (first | apply Kd.R_alloc | apply Kd.R_drewN | apply Kd.R_drew)); exact HO512.out) hb); have n2_ := kA_ (below_step a0_ hb); clear HO_5; clear HO512; clear HB; have HO_5 := n0_; have HO512 := n1_; have HB := n2_; clear n0_ n1_ n2_; (try clear hb); (try clear hb2); (try clear hk); (try clear hi)))
     go_roundg k1
     case measure => have := HK1.out; omega
     case rel => exact ⟨(x5_1), (wrap64 (x6_1 + 1)), a4_, H', ⟨by have := HK1.out; omega⟩, ⟨by (with_reducible repeat (first | apply Kd.S_alloc | apply Kd.S_drewN | apply Kd.S_drew)); exact Kd.S_mono HO_5.out (fun _ hk => hk.1)⟩, ⟨a2_⟩⟩
   rw [if_pos c10] at H
   have c10b0 : (t513 == 0) = true := beq_iff_eq.mpr c10
   have c10b1 : (t513 != 0) = false := bne_eq_false_iff_eq.mpr c10
   clear c10
   by_cases c11 : x5_1.length < 5864062014805
   rotate_left
   · rw [if_neg c11] at H
     exact absurd H (by simp)
   rw [if_pos c11] at H
   have LMc11 := kA_ c11
   clear c11
   obtain ⟨y514, hy514⟩ : ∃ y_ : List (List (S36)), y_ = (x5_1 ++ [t510]) := ⟨_, rfl⟩
   replace H : (r6_keysOf.l0 k1 l0 l1 y514 (wrap64 (x6_1 + 1))) = some r := by first | (rw [hy514]; with_reducible exact H) | (have H2_ := (Option.bind_some _ _).symm.trans H; rw [hy514]; with_reducible exact H2_) | (have H2_ := (Option.bind_some _ _).symm.trans H; with_reducible exact H2_) | with_reducible exact H | (rw [hy514]; exact H) | exact H
   have Ny514 := kA_ hy514
   clear hy514
   have H' := kA_ H
   clear H
   have p509 : 0 ≤ (x6_1 : Int) := oT_ (by assumption)
   have q509 : x6_1 < (l0.length : Int) := oT_ (by assumption)
   obtain ⟨ad509, A509_0, c509_0, e509, hx509_0, hl509_0, hi509_0⟩ := at_L4 HR0.out x6_1 p509 q509
   cases e509
   replace hx509_0 := cB_ HB.out hx509_0
   have HR509_0 := kA_ hi509_0
   have HC509_0 := kA_ hl509_0
   clear hi509_0 hl509_0
   replace p509 := eq_true p509
   replace q509 := eq_true q509
   go_wp2_with (first | ((with_reducible refine gate_callee (f := 60) rfl ?_); refine goesL_ (some 23) rfl rfl Tryz.func60 a3_ rfl #[.slice A509_0 (rd_L4 l0 x6_1).length c509_0, .slice A1 l1.length c1] rfl a1_ ?_; (with_reducible refine (r6_Pick.calls k1 _ _ (rd_L4 l0 x6_1) _ _ l1 t510 _ ?side1 ?side2 ?side3 ?side4 A8.out).mono ?_); (case side1 => repeat (first | exact (Kd.C_below HR509_0.out HB.out) | (with_reducible refine Kd.cA_ ?_ _) | (with_reducible refine Kd.cN_ ?_ _) | (with_reducible refine Kd.cD_ ?_))); (case side2 => exact HC509_0.out); (case side3 => repeat (first | exact (Kd.C_below HR1.out HB.out) | (with_reducible refine Kd.cA_ ?_ _) | (with_reducible refine Kd.cN_ ?_ _) | (with_reducible refine Kd.cD_ ?_))); (case side4 => exact HC1.out); rintro e w12 ⟨v511, rfl, ho0, hb⟩; refine ⟨_, rfl, ?_⟩; have n0_ := kA_ (Kd.S_elder' a46_ (Kd.R_base ho0) hb); have n1_ := kA_ (Kd.R_lower (Kd.R_newM (M := fun k_ => (w.heap.size ≤ k_)) ho0 (below_size a0_) (fun k_ h_ => h_)) (below_size a0_)); have n2_ := kA_ (below_step a0_ hb); clear HO_5; clear HB; have HO_5 := n0_; have HO512 := n1_; have HB := n2_; clear n0_ n1_ n2_; (try clear hb); (try clear hb2); (try clear hk); (try clear hi); (try clear ho0); obtain ⟨Ao13, co13, eo13⟩ := Kd.S_slice HO_5.out; subst eo13; obtain ⟨Ao14, co14, eo14⟩ := Kd.R_slice HO512.out; subst eo14) | ((with_reducible refine gate_callee (f := 44) rfl ?_); refine goesL_ (some 26) rfl rfl Tryz.func44 a3_ rfl #[.slice Ao13 x5_1.length co13, .slice Ao14 t510.length co14] rfl a1_ ?_; (with_reducible refine (r6_Count.calls k1 _ _ x5_1 _ _ t510 t513 _ ?side1 ?side2 ?side3 ?side4 A9.out).mono ?_); (case side1 => repeat (first | exact (Kd.S_reads' HO_5.out).2.2 | (with_reducible refine Kd.cA_ ?_ _) | (with_reducible refine Kd.cN_ ?_ _) | (with_reducible refine Kd.cD_ ?_))); (case side2 => exact (Kd.S_reads' HO_5.out).2.1); (case side3 => repeat (first | exact (Kd.R_reads' HO512.out).2.2 | (with_reducible refine Kd.cA_ ?_ _) | (with_reducible refine Kd.cN_ ?_ _) | (with_reducible refine Kd.cD_ ?_))); (case side4 => exact (Kd.R_reads' HO512.out).2.1); rintro e w15 ⟨rfl, hb⟩; refine ⟨_, rfl, ?_⟩; have n0_ := kA_ (Kd.S_below a46_ hb); have n1_ := kA_ (Kd.R_below (by (with_reducible repeat (first | apply Kd.R_alloc | apply Kd.R_drewN | apply Kd.R_drew)); exact HO512.out) hb); have n2_ := kA_ (below_step a0_ hb); clear HO_5; clear HO512; clear HB; have HO_5 := n0_; have HO512 := n1_; have HB := n2_; clear n0_ n1_ n2_; (try clear hb); (try clear hb2); (try clear hk); (try clear hi)) | ((with_reducible refine gate_builtin (b := .append) (xs := #[.tmp 28, .tmp 30]) rfl ?_); at_builtin; refine Kd.S_append (Kd.slice 36 k36) (w0 := w) w.heap.size rfl (.tmp 28) (.tmp 30) 22 53 (.slice none 0 0) 24 rfl Tryz.underlying22 info53 rfl (by decide) (by omega) (.slice Ao13 x5_1.length co13) x5_1 t510 [.slice Ao14 t510.length co14] (fun k_ => (w.heap.size ≤ k_)) (fun k_ => some k_ = (.slice Ao14 t510.length co14 : Value).ownBlock) rfl rfl ?aP (fun k_ hk_ => ((Kd.R_mono (ok' := fun k_ => ((fun k_ => (w.heap.size ≤ k_))) k_ ∧ some k_ ≠ (.slice Ao13 x5_1.length co13 : Value).ownBlock) (Kd.R_apart' (HO512.out) (Kd.S_typed HO_5.out) (by decide)) (fun k_ hk => ⟨hk.1.1, hk.2⟩))).1 k_ hk_.symm) ?aF ?aO ?aB ?aS ?aL ?_; (case aP => exact Kd.M_row (Kd.R_mono (Kd.R_tight rfl (Kd.R_mono (ok' := fun k_ => ((fun k_ => (w.heap.size ≤ k_))) k_ ∧ some k_ ≠ (.slice Ao13 x5_1.length co13 : Value).ownBlock) (Kd.R_apart' (HO512.out) (Kd.S_typed HO_5.out) (by decide)) (fun k_ hk => ⟨hk.1.1, hk.2⟩))) (fun _ h_ => h_))); (case aB => exact a0_); (case aF => exact (fun k_ hk => (Nat.le_trans (below_size a0_) hk))); (case aO => exact (by (with_reducible repeat (first | apply Kd.S_alloc | apply Kd.S_drewN | apply Kd.S_drew)); exact Kd.S_mono HO_5.out (fun k_ hk => ⟨hk.1, fun e_ => hk.2 e_⟩))); (case aS => exact (below_size a0_)); (case aL => have := LMc11.out; omega); intro v515 w16 ho hb hg hat; rw [← Ny514.out] at ho; have n0_ := kA_ (hb); have n1_ := kA_ (ho); clear HB; clear HO_5; clear HO512; have HB := n0_; have HO516 := n1_; clear n0_ n1_; clear ho hb hg hat))
   go_roundg k1
   case measure => have := HK1.out; omega
   case rel => exact ⟨(y514), (wrap64 (x6_1 + 1)), a4_, H', ⟨by have := HK1.out; omega⟩, ⟨by (with_reducible repeat (first | apply Kd.S_alloc | apply Kd.S_drewN | apply Kd.S_drew)); exact HO516.out⟩, ⟨a2_⟩⟩
end
theorem rg_nums (i n : Nat) (hi : i < n) (hn : n ≤ 1099511627776) : (i : Int) < n ∧ 0 ≤ (i : Int) ∧ i < 4398046511104 ∧ i < 5864062014805 ∧ wrap64 ((i : Int) + 1) = ((i + 1 : Nat) : Int) := by unfold wrap64; omega
theorem rg_end (n : Nat) : ¬ (n : Int) < (n : Int) := by omega
theorem rd_out {row : List V} {n : Int} (h0 : 0 ≤ n) (h1 : ¬ n < (row.length : Int)) : rd_T36 row n = ⟨0, 0, ⟨#[]⟩⟩ := by
 unfold rd_T36
 rw [List.getD_eq_getElem?_getD, List.getElem?_eq_none (by omega)]
 rfl
theorem rcolumn_l0 (l : List (List V)) (n : Int) (h0 : 0 ≤ n) (hn : l.length ≤ 1099511627776) : ∀ (d i : Nat), i + d = l.length → Ev (fun k => r6_column.l0 k l n (columnR (l.take i) n) (i : Int)) (columnR l n)
 | 0, i, h => by
  have hi : i = l.length := by omega
  subst hi
  rw [List.take_length]
  refine Ev.step (f := fun _ => some (columnR l n)) (fun k => ?_) (Ev.now _)
  rw [r6_column.l0, if_neg (rg_end _)]
 | d + 1, i, h => by
  have hi : i < l.length := by omega
  have ih := rcolumn_l0 l n h0 hn d (i + 1) (by omega)
  obtain ⟨c1, c2, c3, _, c4⟩ := rg_nums i l.length hi hn
  have q1 : (columnR (l.take i) n).length < 4398046511104 := by rw [columnR, List.length_map]; exact Nat.lt_of_le_of_lt (List.length_take_le _ _) c3
  have e : columnR (l.take (i + 1)) n = columnR (l.take i) n ++ [rd_T36 l[i] n] := by
   rw [List.take_succ_eq_append_getElem hi]
   unfold columnR
   rw [List.map_append]
   rfl
  rw [e] at ih
  refine Ev.step (f := fun k => r6_column.l0 k l n (columnR (l.take i) n ++ [rd_T36 l[i] n]) ((i + 1 : Nat) : Int)) (fun k => ?_) ih
  rw [r6_column.l0, if_pos c1, if_pos h0, if_pos c2, rdL_at hi, c4]
  by_cases hr : n < ((l[i]).length : Int)
  · rw [if_pos hr, if_pos h0, if_pos q1]
  rw [if_neg hr, if_pos q1, rd_out h0 hr]
theorem rcolumn_ev (l : List (List V)) (n : Int) (h0 : 0 ≤ n) (hn : l.length ≤ 1099511627776) : Ev (fun k => r6_column.f k l n) (columnR l n) := rcolumn_l0 l n h0 hn l.length 0 (by omega)
theorem hasB_nonneg {l : List (List V)} {n : Int} (h : hasB l n = true) : 0 ≤ n := by
 unfold hasB at h
 cases l with
 | nil => exact (of_decide_eq_true h).1
 | cons r rs => exact (of_decide_eq_true h).1
theorem rpick_l0 (row : List V) (cols : List Int) (hc : cols.length ≤ 1099511627776) (hr : ∀ n ∈ cols, 0 ≤ n ∧ n < (row.length : Int)) : ∀ (d i : Nat), i + d = cols.length → Ev (fun k => r6_Pick.l0 k row cols (keyOf (cols.take i) row) (i : Int)) (keyOf cols row)
 | 0, i, h => by
  have hi : i = cols.length := by omega
  subst hi
  rw [List.take_length]
  refine Ev.step (f := fun _ => some (keyOf cols row)) (fun k => ?_) (Ev.now _)
  rw [r6_Pick.l0, if_neg (rg_end _)]
 | d + 1, i, h => by
  have hi : i < cols.length := by omega
  have ih := rpick_l0 row cols hc hr d (i + 1) (by omega)
  obtain ⟨c1, c2, c3, _, c4⟩ := rg_nums i cols.length hi hc
  obtain ⟨q0, q1⟩ := hr cols[i] (List.getElem_mem hi)
  have q2 : (keyOf (cols.take i) row).length < 4398046511104 := by rw [keyOf, List.length_map]; exact Nat.lt_of_le_of_lt (List.length_take_le _ _) c3
  have e : keyOf (cols.take (i + 1)) row = keyOf (cols.take i) row ++ [rd_T36 row cols[i]] := by
   rw [List.take_succ_eq_append_getElem hi]
   unfold keyOf
   rw [List.map_append]
   rfl
  rw [e] at ih
  refine Ev.step (fun k => ?_) ih
  rw [r6_Pick.l0, if_pos c1, if_pos c2, rd_at hi, if_pos q0, if_pos q1, if_pos q0, if_pos q2, c4]
theorem rpick_ev {row : List V} {cols : List Int} (hc : cols.length ≤ 1099511627776) (hr : ∀ n ∈ cols, 0 ≤ n ∧ n < (row.length : Int)) : Ev (fun k => r6_Pick.f k row cols) (keyOf cols row) := rpick_l0 row cols hc hr cols.length 0 (by omega)
theorem rkeys_l0 (l : List (List V)) (cols : List Int) (hn : l.length ≤ 1099511627776) (hc : cols.length ≤ 1099511627776) (hr : ∀ row ∈ l, ∀ n ∈ cols, 0 ≤ n ∧ n < (row.length : Int)) (hk : ∀ row ∈ l, RowOk (keyOf cols row)) (hv : ∀ row ∈ l, ∀ v ∈ keyOf cols row, validV v = true) :
 ∀ (d i : Nat) (acc : List (List V)), i + d = l.length → acc.length ≤ i → (∀ r ∈ acc, ∃ row ∈ l, keyOf cols row = r) → Ev (fun k => r6_keysOf.l0 k l cols acc (i : Int)) (sortR [] (acc ++ distR (acc.map nameOf) ((l.drop i).map (keyOf cols))))
 | 0, i, acc, h, ha, hm => by
  have hi : i = l.length := by omega
  subst hi
  rw [List.drop_length, List.map_nil, distR, List.append_nil]
  refine Ev.step (f := fun k => (r6_full.f k acc ([] : List KeyT)).bind fun t => some t) (fun k => ?_) (Ev.bind (full_ev acc [] (fun row hrow => ?_) (by omega) (by simp)) (Ev.now _))
  · rw [r6_keysOf.l0, if_neg (rg_end _)]
  obtain ⟨r, hr0, rfl⟩ := hm row hrow
  exact rowGood_nil (hv r hr0) (hk r hr0).2.2
 | d + 1, i, acc, h, ha, hm => by
  have hi : i < l.length := by omega
  obtain ⟨c1, c2, _, c3, c4⟩ := rg_nums i l.length hi hn
  have hmem : l[i] ∈ l := List.getElem_mem hi
  have hA : RowsV acc := ⟨fun r hr0 => by
   obtain ⟨row, h1, rfl⟩ := hm r hr0
   exact ⟨(hk row h1).1, (hk row h1).2.2⟩, by omega⟩
  have q1 : acc.length < 5864062014805 := Nat.lt_of_le_of_lt ha c3
  refine Ev.step (f := fun k => (r6_Pick.f k l[i] cols).bind fun t => (r6_Count.f k acc t).bind fun u => if u = 0 then r6_keysOf.l0 k l cols (acc ++ [t]) ((i + 1 : Nat) : Int) else r6_keysOf.l0 k l cols acc ((i + 1 : Nat) : Int)) (fun k => ?_) (Ev.bind (rpick_ev hc (hr l[i] hmem)) (Ev.bind (count_ev acc (keyOf cols l[i]) hA) ?_))
  · rw [r6_keysOf.l0, if_pos c1, if_pos c2, rdL_at hi, c4]
    simp only [if_pos q1]
  rw [drop_cons l i hi, List.map_cons, distR]
  by_cases c : keyOf cols l[i] ∈ acc
  · have hin : nameOf (keyOf cols l[i]) ∈ acc.map nameOf := List.mem_map_of_mem c
    have ho : ¬ (occ acc (keyOf cols l[i]) : Int) = 0 := by have := occ_mem.2 c; omega
    rw [if_pos hin]
    exact Ev.congr (fun k => by rw [if_neg ho]) (rkeys_l0 l cols hn hc hr hk hv d (i + 1) acc (by omega) (by omega) hm)
  have hin : ¬ nameOf (keyOf cols l[i]) ∈ acc.map nameOf := fun e => by
   obtain ⟨r, h1, h2⟩ := List.mem_map.1 e
   exact c (name_inj h2 ▸ h1)
  have ho : (occ acc (keyOf cols l[i]) : Int) = 0 := by
   have : ¬ 1 ≤ occ acc (keyOf cols l[i]) := fun e => c (occ_mem.1 e)
   omega
  rw [if_neg hin]
  have ih := rkeys_l0 l cols hn hc hr hk hv d (i + 1) (acc ++ [keyOf cols l[i]]) (by omega) a82_ (fun r hr0 => by
   rcases List.mem_append.1 hr0 with h1 | h1
   · exact hm r h1
   exact ⟨l[i], hmem, (List.mem_singleton.1 h1).symm⟩)
  rw [List.map_append, List.append_assoc, distR_seen _ (acc.map nameOf ++ [keyOf cols l[i]].map nameOf) (nameOf (keyOf cols l[i]) :: acc.map nameOf) (fun x => by
   simp only [List.mem_append, List.map_cons, List.map_nil, List.mem_singleton, List.mem_cons, List.not_mem_nil, or_false]
   exact Or.comm)] at ih
  exact Ev.congr (fun k => by rw [if_pos ho]) ih
theorem rkeys_ev {l : List (List V)} {cols : List Int} {aggs : List AggT} (hok : GroupOk l cols aggs) (hv : validB l = true) (hh : ∀ n ∈ cols, hasB l n = true) : Ev (fun k => r6_keysOf.f k l cols) (keysR cols l) := by
 unfold r6_keysOf.f keysR
 by_cases h0 : cols = []
 · subst h0
   exact Ev.now _
 rw [if_neg h0]
 have hlen : ¬ (cols.length : Int) = 0 := by have := List.length_pos_iff.2 h0; omega
 refine Ev.congr (fun k => by rw [if_neg hlen]) ?_
 have := rkeys_l0 l cols hok.rows.2 hok.cn (has_cols hv hh) hok.keys (key_valid hv hh) l.length 0 [] (by omega) (by simp) (by simp)
 rw [List.drop_zero, List.nil_append] at this
 exact this
end Go.Proofs.YtecgkcgfeghhgaaGreatDoor.PAll
