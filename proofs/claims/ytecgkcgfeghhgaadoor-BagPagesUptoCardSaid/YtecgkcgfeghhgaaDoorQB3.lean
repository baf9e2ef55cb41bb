/- What the last of these texts proves is told there. Joined by a program of this session out of its texts. -/
import Derived.Test.YtecgkcgfeghhgaaDoorQB2
import Derived.Shelf.SlSortCmp.NoneTotal
import Derived.Ground.SlsfProg
import Derived.Ground.NamesProg
import Derived.Shelf.Spec.SlicesGrow
import Derived.Ground.Names8Prog
import Derived.WalkMore
import Derived.OwnWalk
import Derived.Deep.RegionHeld3
set_option linter.unusedVariables false
set_option linter.unusedSimpArgs false
namespace Go.Proofs.YtecgkcgfeghhgaaDoor.PAll
open Go.RowKit Go.Proofs.YtecgkcgfeghhgaaDoorW.PrintWords Go.Proofs.YtecgkcgfeghhgaaDoorW.PrintLast Go.Proofs.YtecgkcgfeghhgaaDoorW.PrintMore
open Go.Shelf Go.Lib
structure RowGood (ks : List KeyT) (l : List V) : Prop where
  valid : ∀ v ∈ l, validV v = true
  keys : KeysIn ks l.length
  len : l.length ≤ 1099511627776
structure RowIn (W : World) (base g : Nat) (ks : List KeyT) where
  v : Value
  l : List V
  rep : Kd.R kV 27 W base (fun k => k ≠ g) v l
  good : RowGood ks l
theorem sortWorld_blk {α : Type} [Inhabited α] (enc : α → Value) (w : World) (blk off m : Nat) (dk : Array α) (os : Array Obj) (k : Nat) (h1 : k ≠ blk) (h2 : k < w.heap.size) : (sortWorld enc w blk off m dk os).heap[k]? = w.heap[k]? := by
  unfold sortWorld Sort.grow Sort.putRow Sort.mapBlock
  show ((Array.modify _ blk _) ++ os)[k]? = _
  rw [Array.getElem?_append_left (by simpa using h2), Array.getElem?_modify, if_neg (Ne.symm h1)]
  rfl
theorem sortWorld_below {α : Type} [Inhabited α] (enc : α → Value) (w : World) (base blk off m : Nat) (dk : Array α) (os : Array Obj) (hb : base ≤ blk) (hw : base ≤ w.heap.size) : Below base w (sortWorld enc w blk off m dk os) := by
  refine ⟨rfl, rfl, rfl, ?_, fun k hk => ?_⟩
  · unfold sortWorld
    rw [Sort.size_grow, Sort.size_putRow]
    exact Nat.le_add_right _ _
  · exact sortWorld_blk enc w blk off m dk os k (by omega) (by omega)
theorem R_rowsIn {ks : List KeyT} {W : World} {base g cap : Nat} {l : List (List V)} (hR : Kd.R kRow 58 W base (fun _ => True) (.slice (some ⟨g, 0, none⟩) l.length cap) l) (hG : ∀ row ∈ l, RowGood ks row) :
    ∃ d : List (RowIn W base g ks), d.map (·.l) = l ∧ W.ownsRow base 58 1 (.slice (some ⟨g, 0, none⟩) l.length cap) l.length (d.map (·.v)) := by
  obtain ⟨_, inner, ho, hr⟩ := hR
  have hil : inner.length = l.length := by have := hr.1; change inner.length = l.length * 1 at this; omega
  have key : ∀ (m : Nat), m ≤ l.length → ∃ d : List (RowIn W base g ks), d.map (·.l) = l.take m ∧ d.map (·.v) = inner.take m := by
    intro m
    induction m with
    | zero => exact fun _ => ⟨[], by simp, by simp⟩
    | succ m ih =>
      intro hm
      obtain ⟨d, h1, h2⟩ := ih (by omega)
      have hml : m < l.length := by omega
      have hp := hr.2 m l[m] (List.getElem?_eq_getElem hml)
      obtain ⟨v, hv, hR⟩ := hp
      have hv : inner[m]'(by omega) = v := by
        change (inner.drop (m * 1)).take 1 = [v] at hv
        rw [Nat.mul_one, List.drop_eq_getElem_cons (by omega), List.take_succ_cons, List.take_zero] at hv
        injection hv
      refine ⟨d ++ [⟨v, l[m], Kd.R_mono hR (fun k hk e => hk.2 (by rw [e]; rfl)), hG _ (List.getElem_mem hml)⟩], ?_, ?_⟩
      · rw [List.map_append, h1, take_snoc _ _ hml]; rfl
      · rw [List.map_append, h2, take_snoc _ _ (by omega), hv]; rfl
  obtain ⟨d, h1, h2⟩ := key l.length (Nat.le_refl _)
  rw [List.take_length] at h1
  rw [List.take_of_length_le (by omega)] at h2
  exact ⟨d, h1, by rw [h2]; exact ho⟩
theorem R_ofRowsIn {ks : List KeyT} {W w1 : World} {base g cap : Nat} {d : List (RowIn W base g ks)} (ho : w1.ownsRow base 58 1 (.slice (some ⟨g, 0, none⟩) d.length cap) d.length (d.map (·.v))) (hm : ∀ k, k ≠ g → k < W.heap.size → w1.heap[k]? = W.heap[k]?) :
    Kd.R kRow 58 w1 base (fun _ => True) (.slice (some ⟨g, 0, none⟩) (d.map (·.l)).length cap) (d.map (·.l)) := by
  refine ⟨fun _ _ => trivial, d.map (·.v), ?_, ?_, ?_⟩
  · rw [List.length_map]; exact ho
  · rw [List.length_map, List.length_map]; exact (Nat.mul_one _).symm
  · intro j p hj
    rw [List.getElem?_map] at hj
    obtain ⟨r, hr, rfl⟩ := Option.map_eq_some_iff.1 hj
    obtain ⟨hjl, hr⟩ := List.getElem?_eq_some_iff.1 hr
    refine ⟨r.v, ?_, ?_⟩
    · change ((d.map (·.v)).drop (j * 1)).take 1 = [r.v]
      rw [Nat.mul_one, List.drop_eq_getElem_cons (by simpa using hjl), List.take_succ_cons, List.take_zero]
      simp [hr]
    · exact Kd.R_mono (Kd.R_step r.rep hm) (fun k hk => ⟨trivial, fun e => hk (by injection e)⟩)
theorem take_putV {α : Type} [Inhabited α] (enc : α → Value) (cur : Array Value) (d : Array α) (h : d.size ≤ cur.size) : (Sort.putCells enc 0 d cur).toList.take d.size = d.toList.map enc := by
  apply List.ext_getElem?
  intro j
  by_cases hj : j < d.size
  · rw [List.getElem?_take_of_lt hj, Array.getElem?_toList]
    simp [Sort.putCells, hj, show j < cur.size by omega]
  · rw [List.getElem?_take_eq_none (by omega), List.getElem?_eq_none (by simp; omega)]
set_option maxHeartbeats 4000000 in
set_option maxRecDepth 100000 in
theorem sortFunc_calls (ks : List KeyT) (AK : Option Addr) (cK : Nat) (bb kb g cap : Nat) (l : List (List V)) (w W : World) (hR : Kd.R kRow 58 W w.heap.size (fun _ => True) (.slice (some ⟨g, 0, none⟩) l.length cap) l) (hB : Below w.heap.size w W)
    (hby : W.cell? ⟨bb, 0, none⟩ = some (.func (.func 58) #[] #[.pointer (some ⟨kb, 0, none⟩)])) (hcell : W.cell? ⟨kb, 0, none⟩ = some (.slice AK ks.length cK)) (hbb : bb ≠ g) (hkb : kb ≠ g) (hks : Kd.C kKey w AK ks.length ks) (hkn : ks.length ≤ 1099511627776)
    (hG : ∀ row ∈ l, RowGood ks row) (hn : l.length ≤ 1099511627776) (h0 : 0 < l.length) :
    Calls Tryd.prog 50 #[.slice (some ⟨g, 0, none⟩) l.length cap, .func (.func 51) #[] #[.pointer (some ⟨bb, 0, none⟩)]] W fun e w' => e = .returned (.tuple #[]) ∧ Kd.R kRow 58 w' w.heap.size (fun _ => True) (.slice (some ⟨g, 0, none⟩) l.length cap) (sortR ks l) ∧ Below w.heap.size w w' := by
  obtain ⟨dl, hd1, hd2⟩ := R_rowsIn (ks := ks) hR hG
  have hdl : dl.length = l.length := by rw [← hd1, List.length_map]
  haveI : Inhabited (RowIn W w.heap.size g ks) := ⟨dl[0]'(by omega)⟩
  have hg : w.heap.size ≤ g ∧ g < W.heap.size := hd2.lt g rfl
  have h1 : OneCell (fun r : RowIn W w.heap.size g ks => r.v) := fun r => by
    obtain ⟨A, c, e⟩ := Kd.R_slice r.rep
    show r.v.oneCell' = true
    rw [e]; rfl
  have hO : Sort.SWO (ltOf (fun x y : RowIn W w.heap.size g ks => cmpFull ks x.l y.l)) := by
    have H := cmpFull_ord ks
    refine ⟨fun x => ?_, fun x y z h1 h2 => ?_, fun x y z h1 h2 => ?_⟩
    · have := H.flip x.l x.l
      simp only [ltOf, decide_eq_false_iff_not]; omega
    · simp only [ltOf, decide_eq_true_eq] at h1 h2 ⊢
      have e1 := H.flip x.l y.l
      have e2 := H.flip y.l z.l
      have e3 := H.flip x.l z.l
      have t1 := H.trans x.l y.l z.l (by omega) (by omega)
      by_cases h : cmpFull ks x.l z.l = 0
      · have t2 := H.trans z.l x.l y.l (by omega) (by omega)
        omega
      · omega
    · simp only [ltOf, decide_eq_false_iff_not] at h1 h2 ⊢
      have e1 := H.flip x.l y.l
      have e2 := H.flip y.l z.l
      have e3 := H.flip x.l z.l
      have t1 := H.trans z.l y.l x.l (by omega) (by omega)
      omega
  have eg : ∀ args w, (callFunc 51 args).run Tryd.prog w = .ok (.enter 51 args) w := enters_of Tryd.func51 (by kernel_rfl) rfl
  have hH : Sort.Holds (fun r : RowIn W w.heap.size g ks => r.v) W g 0 dl.toArray := by
    intro j hj
    have hj : j < dl.length := by simpa using hj
    have h := own_at_of (enc := id) (d := (default : Value)) (xs := dl.map (·.v)) (by simpa [encs] using hd2) (j : Int) (by omega) (by omega)
    rw [Int.toNat_natCast] at h
    rw [Nat.zero_add]
    refine ⟨h.1.trans ?_, h.2⟩
    simp [rdOf, hj]
  have hcmp : CmpLays1 Tryd.prog 51 #[.pointer (some ⟨bb, 0, none⟩)] (fun r : RowIn W w.heap.size g ks => r.v) (fun x y => cmpFull ks x.l y.l) g 0 dl.toArray.size W := by
    intro m os dk hs x y
    have hbl := sortWorld_below (fun r : RowIn W w.heap.size g ks => r.v) W w.heap.size g 0 m dk os hg.1 hB.size
    have hbk := fun k h1 h2 => sortWorld_blk (fun r : RowIn W w.heap.size g ks => r.v) W g 0 m dk os k h1 h2
    obtain ⟨W3, hW3⟩ : ∃ W3, W3 = sortWorld (fun r : RowIn W w.heap.size g ks => r.v) W g 0 m dk os := ⟨_, rfl⟩
    rw [← hW3] at hbl hbk ⊢
    have hx := Kd.R_step (w1 := W3) x.rep hbk
    have hy := Kd.R_step (w1 := W3) y.rep hbk
    obtain ⟨Ax, cx, ex, _, hxc⟩ := Kd.R_reads hx
    obtain ⟨Ay, cy, ey, _, hyc⟩ := Kd.R_reads hy
    have hc1 : ∀ b, b ≠ g → ∀ u, W.cell? ⟨b, 0, none⟩ = some u → W3.cell? ⟨b, 0, none⟩ = some u := fun b hb u hu => by
      have hlt := World.block_lt_of_cell? W _ hu
      rw [← hu]
      simp only [World.cell?, hbk b hb hlt]
    have h := arranged1_calls Ax cx x.l Ay cy y.l bb kb AK cK ks W3 hxc hyc (hc1 bb hbb _ hby) (hc1 kb hkb _ hcell) (Kd.C_below hks (hB.trans hbl)) x.good.keys y.good.keys (fun v hv => valid_kind (x.good.valid v hv)) hkn x.good.len y.good.len
    show Calls _ _ #[x.v, y.v, .pointer (some ⟨bb, 0, none⟩)] _ _
    rw [ex, ey]
    refine h.mono ?_
    rintro e w' ⟨he, q, os', hw'⟩
    exact ⟨he, q, os', hw'⟩
  have hcon := Any.slices_SortFunc sortRows (fun r : RowIn W w.heap.size g ks => r.v) h1 (fun x y => cmpFull ks x.l y.l) hO 51 #[.pointer (some ⟨bb, 0, none⟩)] g 0 cap dl.toArray W eg hcmp hH hg.2 (by simp; omega)
  have hsz : dl.toArray.size = l.length := by simp [hdl]
  rw [hsz] at hcon
  change Calls Tryd.prog 50 _ _ _ at hcon
  refine hcon.mono ?_
  rintro e w' ⟨rfl, d', n, os, hp, hs, rfl⟩
  have hbl := sortWorld_below (fun r : RowIn W w.heap.size g ks => r.v) W w.heap.size g 0 n d' os hg.1 hB.size
  have hbk := fun k h1 h2 => sortWorld_blk (fun r : RowIn W w.heap.size g ks => r.v) W g 0 n d' os k h1 h2
  refine ⟨rfl, ?_, hB.trans hbl⟩
  obtain ⟨hp1, _, hp2⟩ := hp
  have hd's : d'.size = l.length := by rw [hp1, hsz]
  have hperm : d'.toList.Perm dl := by
    rw [show l.length = d'.size from hd's.symm] at hp2
    rw [show dl.toArray.extract 0 d'.size = dl.toArray by rw [hp1]; exact Array.extract_size, Array.extract_size] at hp2
    simpa using hp2
  have hpl : (d'.toList.map (·.l)).Perm l := by rw [← hd1]; exact hperm.map _
  have hres : d'.toList.map (·.l) = sortR ks l := by
    refine sortR_unique (fun row hrow => (hG row hrow).valid) hpl ?_
    rw [List.pairwise_map, List.pairwise_iff_getElem]
    intro i j hi hj hij
    have h := hs i j (Nat.zero_le _) hij (by rw [← hd's]; simpa using hj)
    simp only [ltOf, decide_eq_false_iff_not] at h
    have hi : i < d'.size := by simpa using hi
    have hj : j < d'.size := by simpa using hj
    rw [getElem!_pos d' i hi, getElem!_pos d' j hj] at h
    have e := (cmpFull_ord ks).flip d'[i].l d'[j].l
    simp only [Array.getElem_toList]
    omega
  rw [← hres]
  have hl2 : l.length = (d'.toList.map (·.l)).length := by simp [hd's]
  have ho : (sortWorld (fun r : RowIn W w.heap.size g ks => r.v) W g 0 n d' os).ownsRow w.heap.size 58 1 (.slice (some ⟨g, 0, none⟩) d'.toList.length cap) d'.toList.length (d'.toList.map (·.v)) := by
    rcases hd2.2 with ⟨h, _⟩ | ⟨g', cap', cur, he, hb1, hblk, hc1, hc2, hc3, hc4⟩
    · cases h
    · injection he with he1 he2 he3
      injection he1 with he1
      injection he1 with he1
      subst he1 he3
      refine ⟨by simp, .inr ⟨g, cap, Sort.putCells (fun r : RowIn W w.heap.size g ks => r.v) 0 d' cur, rfl, hb1, ?_, ?_, hc2, ?_, ?_⟩⟩
      · unfold sortWorld Sort.grow Sort.putRow Sort.mapBlock
        show ((Array.modify _ g _) ++ os)[g]? = _
        rw [Array.getElem?_append_left (by simpa using hg.2), Array.getElem?_modify, if_pos rfl]
        change Option.map _ (W.heap[g]?) = _
        rw [hblk]
        rfl
      · simp [hd's]; omega
      · simp [Sort.putCells, hc3]
      · rw [Nat.mul_one, Array.length_toList]
        exact take_putV _ cur d' (by omega)
  have hfin := R_ofRowsIn ho hbk
  rw [hl2]
  exact hfin
theorem sortFunc_all (ks : List KeyT) (AK : Option Addr) (cK : Nat) (bb kb g cap : Nat) (l : List (List V)) (w W : World) (hR : Kd.R kRow 58 W w.heap.size (fun _ => True) (.slice (some ⟨g, 0, none⟩) l.length cap) l) (hB : Below w.heap.size w W)
    (hby : W.cell? ⟨bb, 0, none⟩ = some (.func (.func 58) #[] #[.pointer (some ⟨kb, 0, none⟩)])) (hcell : W.cell? ⟨kb, 0, none⟩ = some (.slice AK ks.length cK)) (hbb : bb ≠ g) (hkb : kb ≠ g) (hks : Kd.C kKey w AK ks.length ks) (hkn : ks.length ≤ 1099511627776)
    (hG : ∀ row ∈ l, RowGood ks row) (hn : l.length ≤ 1099511627776) :
    Calls Tryd.prog 50 #[.slice (some ⟨g, 0, none⟩) l.length cap, .func (.func 51) #[] #[.pointer (some ⟨bb, 0, none⟩)]] W fun e w' => e = .returned (.tuple #[]) ∧ Kd.R kRow 58 w' w.heap.size (fun _ => True) (.slice (some ⟨g, 0, none⟩) l.length cap) (sortR ks l) ∧ Below w.heap.size w w' := by
  cases l with
  | cons r rs => exact sortFunc_calls ks AK cK bb kb g cap (r :: rs) w W hR hB hby hcell hbb hkb hks hkn hG hn (by simp)
  | nil =>
    haveI : Inhabited Value := ⟨.bool true⟩
    have h := AnyF.slices_SortFunc_none { sortRows with } (some ⟨g, 0, none⟩) cap (.func (.func 51) #[] #[.pointer (some ⟨bb, 0, none⟩)]) W
    change Calls Tryd.prog 50 _ _ _ at h
    refine h.mono ?_
    rintro e w' ⟨rfl, rfl⟩
    have e0 : sortR ks [] = [] := by simp [sortR]
    rw [e0]
    exact ⟨rfl, hR, hB⟩
end Go.Proofs.YtecgkcgfeghhgaaDoor.PAll
set_option linter.unusedVariables false
set_option linter.unusedSimpArgs false
namespace Go.Proofs.YtecgkcgfeghhgaaDoor.PAll
open Go.RowKit Go.Proofs.YtecgkcgfeghhgaaDoorW.PrintWords Go.Proofs.YtecgkcgfeghhgaaDoorW.PrintLast Go.Proofs.YtecgkcgfeghhgaaDoorW.PrintMore
set_option maxHeartbeats 4000000 in
set_option maxRecDepth 100000 in
theorem order_calls (A1 : Option Addr) (n c1 : Nat) (w : World) :
    Calls Tryd.prog 49 #[.slice A1 n c1] w fun e w' => e = .returned (.func (.func 58) #[] #[.pointer (some ⟨w.heap.size, 0, none⟩)]) ∧ ∃ t, w' = w.alloc (.cells #[.slice A1 n c1] t) := by
  go_enter Tryd.func49, Tryd.ntmps49
  go_wp2
  go_ret
  exact ⟨rfl, _, rfl⟩
theorem rowStep_valid : ∀ (ks : List Int) (r : List V) (ks' : List Int), rowStep ks r = some ks' → ∀ v ∈ r, validV v = true
  | [], [], _, _ => by simp
  | [], _ :: _, _, h => by simp [rowStep] at h
  | _ :: _, [], _, h => by simp [rowStep] at h
  | k :: ks, v :: vs, ks', h => by
    simp only [rowStep] at h
    split at h
    · rename_i hv
      cases hr : rowStep ks vs with
      | none => simp [hr] at h
      | some t =>
        intro u hu
        rcases List.mem_cons.1 hu with rfl | hu
        · exact hv.1
        · exact rowStep_valid ks vs t hr u hu
    · cases h
theorem validFrom_valid : ∀ (l : List (List V)) (ks : List Int), validFrom ks l = true → ∀ r ∈ l, (∀ v ∈ r, validV v = true) ∧ r.length = ks.length
  | [], _, _ => by simp
  | r :: rs, ks, h => by
    simp only [validFrom] at h
    cases hr : rowStep ks r with
    | none => simp [hr] at h
    | some t =>
      rw [hr] at h
      intro u hu
      have hl := rowStep_len ks r t hr
      rcases List.mem_cons.1 hu with rfl | hu
      · exact ⟨rowStep_valid ks u t hr, hl.2⟩
      · have := validFrom_valid rs t h u hu
        exact ⟨this.1, this.2.trans hl.1⟩
theorem validB_valid {l : List (List V)} (h : validB l = true) : ∀ r ∈ l, ∀ v ∈ r, validV v = true := by
  cases l with
  | nil => simp
  | cons r rs => exact fun u hu => (validFrom_valid (r :: rs) _ h u hu).1
theorem validB_len {r : List V} {rs : List (List V)} (h : validB (r :: rs) = true) : ∀ u ∈ r :: rs, u.length = r.length := fun u hu => by
  have := (validFrom_valid (r :: rs) _ h u hu).2
  simpa using this
theorem made_form {α : Type} {d : Kd α} {e base N : Nat} {ok : Nat → Prop} {W : World} {v : Value} {xs : List α} (h : d.R e W base ok v xs) (hn : ∃ b, v.ownBlock = some b ∧ N ≤ b) : ∃ g cap, v = .slice (some ⟨g, 0, none⟩) xs.length cap ∧ N ≤ g ∧ g < W.heap.size := by
  obtain ⟨b, hb, hN⟩ := hn
  obtain ⟨_, inner, ho, _⟩ := h
  have hlt := own_lt ho b hb
  rcases ho.2 with ⟨rfl, _⟩ | ⟨g, cap, cur, rfl, hg, hh, r⟩
  · simp [Value.ownBlock] at hb
  · have : g = b := by simpa [Value.ownBlock] using hb
    subst this
    exact ⟨g, cap, rfl, hN, hlt⟩
open Classical in
noncomputable def bag_arranged.f (l0 : List (List V)) (ks : List KeyT) : Option (List (List V)) := if RowsV l0 ∧ validB l0 = true ∧ (∀ row ∈ l0, KeysIn ks row.length) ∧ ks.length ≤ 1099511627776 then some (sortR ks l0) else none
set_option maxHeartbeats 8000000 in
set_option maxRecDepth 100000 in
theorem arranged_calls (A0 : Option Addr) (c0 : Nat) (l0 : List (List V)) (A1 : Option Addr) (c1 : Nat) (l1 : List KeyT) (w : World) (hr0 : Kd.C kRow w A0 l0.length l0) (hr1 : Kd.C kKey w A1 l1.length l1) (hG : ∀ row ∈ l0, RowGood l1 row) (hn0 : l0.length ≤ 1099511627776) (hn1 : l1.length ≤ 1099511627776) :
    Calls Tryd.prog 34 #[.slice A0 l0.length c0, .slice A1 l1.length c1] w fun e w' => ∃ v, e = .returned v ∧ Kd.R kRow 58 w' w.heap.size (fun _ => True) v (sortR l1 l0) ∧ Below w.heap.size w w' := by
  have HR0 := Aside0.mk hr0
  have HR1 := Aside0.mk hr1
  have HG := Aside0.mk hG
  have HN0 := Aside0.mk hn0
  have HN1 := Aside0.mk hn1
  clear hr0 hr1 hG hn0 hn1
  go_enter Tryd.func34, Tryd.ntmps34
  go_wp2_with (first | ((with_reducible refine gate_dst (N := 11) rfl ?_); refine Kd.R_make kRow (w0 := w) w.heap.size 58 rfl (N := 11) rfl _ _ _ rfl (l0.length : Int) rfl rfl (by kernel_rfl) (.slice none 0 0) 24 infoRow rfl (by decide) (by decide) [] (ok := fun _ => True) (okp := fun _ => True) ⟨_, rfl, Kd.R_nil _ _ _ _ _⟩ (fun _ hk => hk) trivial (by omega) (by have := HN0.out; omega) (Below.refl _ _) (Nat.le_refl _) ?_; intro v1 w1 hR hb hg hnew; obtain ⟨g, cap, e1, hg1, hg2⟩ := made_form hR hnew; subst e1; have HO := Aside0.mk hR; have HB := Aside0.mk hb; have HGE := Aside0.mk hg1; have HGL := Aside0.mk hg2; clear hR hb hg hnew hg1 hg2))
  rw [Int.toNat_natCast, List.length_replicate] at HO
  clear HGL
  go_loopg [14] l0.length (fun kq v14 W => ∃ x : Int, v14 = .int .i64 x ∧ Aside0 (0 ≤ x ∧ x ≤ l0.length ∧ (kq : Int) = l0.length - x) ∧ Aside0 (Kd.R kRow 58 W w.heap.size (fun _ => True) (.slice (some ⟨g, 0, none⟩) l0.length cap) (l0.take x.toNat ++ List.replicate (l0.length - x.toNat) [])) ∧ Aside0 (Below w.heap.size w W))
  case atStart => exact ⟨0, rfl, ⟨by omega⟩, ⟨by simpa using HO.out⟩, HB⟩
  case round =>
    clear HO HB
    obtain ⟨x, rfl, HX, HO, HB⟩ := hrel
    obtain ⟨hx0, hx1, hkq⟩ := HX.out
    by_cases hlt : x < (l0.length : Int)
    · have c1' : decide (x < (l0.length : Int)) = true := decide_eq_true hlt
      have c2 : decide (0 ≤ x) = true := decide_eq_true hx0
      obtain ⟨ad, Ar, cr, e, hx_0, hlc, hrow⟩ := at_L4 HR0.out x hx0 hlt
      cases e
      replace hx_0 := (HB.out.cell (World.block_lt_of_cell? w _ hx_0)).trans hx_0
      have hi : x.toNat < l0.length := by omega
      have hrd : rd_L4 l0 x = l0[x.toNat] := by simp [rd_L4, List.getElem?_eq_getElem hi]
      have HROW := Aside0.mk hrow
      have HLN := Aside0.mk (HG.out l0[x.toNat] (List.getElem_mem hi)).len
      rw [← hrd] at HLN
      obtain ⟨row, hrw⟩ : ∃ row, row = rd_L4 l0 x := ⟨_, rfl⟩
      have HRD : Aside0 (l0[x.toNat]? = some row) := ⟨by rw [hrw, hrd]; exact List.getElem?_eq_getElem hi⟩
      rw [← hrw] at hx_0 hlc HROW HLN
      have HLT := Aside0.mk hlt
      have HKQ := Aside0.mk hkq
      have HHI := Aside0.mk hi
      have HX0 := Aside0.mk hx0
      have HWR : Aside0 (wrap64 (x + 1) = x + 1) := ⟨by have := HN0.out; unfold wrap64; omega⟩
      clear hlc hrow hrd hrw hkq hi hx1
      go_wp2_with fail
      refine (clone_calls Ar cr row _ (Kd.C_below HROW.out HB.out) HLN.out).mono ?_
      rintro e w2 ⟨vv, rfl, hRv, hbv⟩
      obtain ⟨Av, cv, ev⟩ := Kd.R_slice hRv
      subst ev
      have hgw : g < wr.heap.size := Kd.R_lt HO.out g rfl
      have HB2 := Aside0.mk (below_step HB.out hbv)
      have HO2 := Aside0.mk (Kd.R_below HO.out hbv)
      have HRV := Aside0.mk (Kd.R_mono (Kd.R_lower (Kd.R_bound hRv) HB.out.size) (ok' := fun k => k ≠ g) (fun k hk e => by have := hk.2.1; omega))
      clear hRv hbv
      obtain ⟨cc, hcl, _, hcc, hfr⟩ := Kd.R_elem HO2.out ([] : List V) x HX0.out HLT.out
      obtain ⟨u0, rfl⟩ : ∃ u0, cc = [u0] := List.length_eq_one_iff.1 hcl
      have F0 : w2.cell? ⟨g, x.toNat, none⟩ = some u0 := by
        have h := hcc 0 u0 rfl
        change w2.cell? ⟨g, x.toNat * 1 + 0, none⟩ = some u0 at h
        rwa [Nat.mul_one, Nat.add_zero] at h
      have F1 : w2.frozen? ⟨g, x.toNat, none⟩ = false := by
        have h := hfr 0
        change w2.frozen? ⟨g, x.toNat * 1 + 0, none⟩ = false at h
        rwa [Nat.mul_one, Nat.add_zero] at h
      obtain ⟨hO3, hG3⟩ := Kd.R_seg (j := 0) (seg := [Value.slice Av row.length cv]) (x' := row) HO2.out x HX0.out HLT.out hcl hcc (Nat.le_refl 1) (okp := fun k => k ≠ g) ⟨_, rfl, HRV.out⟩ (fun k hk => ⟨trivial, hk⟩)
      have e3 : w2.setCells g (x.toNat * kRow.sz + 0) [Value.slice Av row.length cv] = w2.setCell ⟨g, x.toNat, none⟩ (Value.slice Av row.length cv) := by
        change w2.setCells g (x.toNat * 1 + 0) _ = _
        rw [Nat.mul_one, Nat.add_zero]
        rfl
      rw [e3] at hO3 hG3
      have HO3 := Aside0.mk hO3
      have HB3 : Aside0 (Below w.heap.size w (w2.setCell ⟨g, x.toNat, none⟩ (Value.slice Av row.length cv))) := ⟨HB2.out.setCell HGE.out _⟩
      clear hcl hcc hfr hO3 hG3 e3
      have HXX : Aside0 ((l0.take x.toNat ++ List.replicate (l0.length - x.toNat) []).set x.toNat row = l0.take (x + 1).toNat ++ List.replicate (l0.length - (x + 1).toNat) []) := ⟨by
        have hi := HHI.out
        have e1 : (x + 1).toNat = x.toNat + 1 := by have := HX0.out; omega
        have e2 : l0.length - x.toNat = (l0.length - (x.toNat + 1)) + 1 := by omega
        have e3 : l0[x.toNat] = row := by
          have := HRD.out
          rw [List.getElem?_eq_getElem hi] at this
          exact Option.some.inj this
        rw [e1, e2, List.replicate_succ, take_snoc _ _ hi, List.set_append_right _ _ (by rw [List.length_take]; omega), List.length_take, Nat.min_eq_left (by omega), Nat.sub_self, List.set_cons_zero, e3]
        simp⟩
      go_wp2
      have hlt := HLT.out
      have hk := HKQ.out
      cases gk with
      | zero => omega
      | succ k1 =>
        go_roundg k1
        case measure => omega
        case rel => exact ⟨x + 1, by rw [HWR.out], ⟨by omega⟩, ⟨by rw [← HXX.out]; exact HO3.out⟩, HB3⟩
    · have c1' : decide (x < (l0.length : Int)) = false := decide_eq_false hlt
      have hxn : x.toNat = l0.length := by omega
      have HO2 : Aside0 (Kd.R kRow 58 wr w.heap.size (fun _ => True) (.slice (some ⟨g, 0, none⟩) l0.length cap) l0) := ⟨by
        have h := HO.out
        rw [hxn, List.take_length, Nat.sub_self, List.replicate_zero, List.append_nil] at h
        exact h⟩
      clear hlt hxn hkq hx0 hx1
      go_wp2_with fail
      refine (order_calls A1 l1.length c1 wr).mono ?_
      rintro e w2 ⟨rfl, t2, hw2⟩
      have HW2 := Aside0.mk hw2
      clear hw2
      have hst : ∀ (a : Addr) (m : Mode) (W : World), Sem.run Tryd.prog (store a (.func (.func 58) #[] #[.pointer (some ⟨wr.heap.size, 0, none⟩)]) m) W = stored Tryd.prog W a (.func (.func 58) #[] #[.pointer (some ⟨wr.heap.size, 0, none⟩)]) m := fun a m W => run_store _ W a _ m rfl
      go_wp2_with fail
      have hB2 : Below w.heap.size w w2 := by rw [HW2.out]; exact HB.out.alloc HB.out.size _
      have hgw : g < wr.heap.size := Kd.R_lt HO2.out g rfl
      have hw2s : w2.heap.size = wr.heap.size + 1 := by rw [HW2.out]; simp
      have D0 : w2.cell? ⟨wr.heap.size, 0, none⟩ = some (.slice A1 l1.length c1) := by rw [HW2.out]; exact (blk_cell (heap_alloc_new _ _) 0).trans rfl
      refine (sortFunc_all l1 A1 c1 w2.heap.size wr.heap.size g cap l0 w _ (Kd.R_alloc (by rw [HW2.out]; exact Kd.R_alloc HO2.out _) _) (hB2.alloc hB2.size _) ((blk_cell (heap_alloc_new _ _) 0).trans rfl) ((Below.refl w2.heap.size w2).alloc (Nat.le_refl _) _ |>.cell (World.block_lt_of_cell? w2 _ D0) |>.trans D0) (by omega) (by omega) HR1.out HN1.out HG.out HN0.out).mono ?_
      rintro e w3 ⟨rfl, hR3, hB3⟩
      have HR3 := Aside0.mk hR3
      have HB3 := Aside0.mk hB3
      clear hR3 hB3 hB2 hgw hw2s D0
      go_wp2
      go_ret
      refine ⟨_, rfl, ?_, HB3.out⟩
      exact HR3.out
open Classical in
theorem bag_arranged.calls (A0 : Option Addr) (c0 : Nat) (l0 : List (List V)) (A1 : Option Addr) (c1 : Nat) (l1 : List KeyT) (r : List (List V)) (w : World) (hr0 : Kd.C kRow w A0 l0.length l0) (hc0 : l0.length ≤ c0) (hr1 : Kd.C kKey w A1 l1.length l1) (hc1 : l1.length ≤ c1) (h : bag_arranged.f l0 l1 = some r) :
    Calls Tryd.prog 34 #[.slice A0 l0.length c0, .slice A1 l1.length c1] w fun e w' => ∃ v0_ : Value, e = .returned v0_ ∧ Kd.V kRow 58 w' w.heap.size (fun k_ => (w.heap.size ≤ k_)) v0_ r ∧ Below w.heap.size w w' := by
  unfold bag_arranged.f at h
  split at h
  · rename_i hc
    obtain ⟨h1, h2, h3, h4⟩ := hc
    obtain rfl := Option.some.inj h
    refine (arranged_calls A0 c0 l0 A1 c1 l1 w hr0 hr1 (fun row hrow => ⟨validB_valid h2 row hrow, h3 row hrow, (h1.1 row hrow).2⟩) h1.2 h4).mono ?_
    rintro e w' ⟨v, rfl, hR, hB⟩
    exact ⟨v, rfl, Kd.R_V (Kd.R_mono (Kd.R_bound hR) (fun k hk => hk.2.1)), hB⟩
  · cases h
end Go.Proofs.YtecgkcgfeghhgaaDoor.PAll
set_option linter.unusedVariables false
set_option linter.unusedSimpArgs false
namespace Go.Proofs.YtecgkcgfeghhgaaDoor.PAll
open Go.RowKit Go.Proofs.YtecgkcgfeghhgaaDoorW.PrintWords Go.Proofs.YtecgkcgfeghhgaaDoorW.PrintLast Go.Proofs.YtecgkcgfeghhgaaDoorW.PrintMore
open Go.Shelf Go.Lib
structure Rel1 where
  r : List V → List Value → Prop
  len : ∀ {x cs}, r x cs → cs.length = 1
  one : ∀ {x cs}, r x cs → ∀ u ∈ cs, u.oneCell' = true
def Rel1.kd (R : Rel1) : Kd (List V) where
  sz := 1
  E := []
  K := fun _ x cs => R.r x cs
  M := fun _ _ _ x cs => R.r x cs
  K_len := R.len
  K_one := R.one
  K_below := fun _ h => h
  K_of_M := fun h => h
  M_mono := fun _ h => h
  M_bound := fun h => h
  M_move := fun _ h => h
  M_lower := fun _ h => h
def relK (w : World) : Rel1 := ⟨fun x cs => kRow.K w x cs, fun h => kRow.K_len h, fun h => kRow.K_one h⟩
def relM (w : World) (base : Nat) : Rel1 := ⟨fun x cs => kRow.M w base (fun k => k < w.heap.size) x cs, fun h => kRow.K_len (kRow.K_of_M h), fun h => kRow.K_one (kRow.K_of_M h)⟩
theorem relK_C {w W : World} {A : Option Addr} {n : Nat} {xs : List (List V)} (h : (relK w).kd.C W A n xs) (hb : Below w.heap.size w W) : kRow.C W A n xs :=
  ReadsRow.imp_ h (Below.refl _ _) (fun _ _ hp => kRow.K_below hb hp)
theorem C_relK {w : World} {A : Option Addr} {n : Nat} {xs : List (List V)} (h : kRow.C w A n xs) : (relK w).kd.C w A n xs := h
theorem C_relM {w : World} {base : Nat} {e : Nat} {A : Option Addr} {n c : Nat} {xs : List (List V)} (h : kRow.R e w base (fun _ => True) (.slice A n c) xs) : (relM w base).kd.C w A n xs := by
  obtain ⟨A', c', he, hl, hr⟩ := OwnRow.reads h.2
  injection he with h1 h2 h3
  subst h1 h2 h3
  exact ReadsRow.imp_ hr (Below.refl _ _) (fun _ _ hp => kRow.M_mono (fun k hk => hk.2.2.1) (kRow.M_bound hp))
theorem R_relM {w W : World} {base b e : Nat} {v : Value} {xs : List (List V)} (h : (relM w base).kd.R e W b (fun _ => True) v xs) (hb : Below w.heap.size w W) (hbb : base ≤ b) (hwb : w.heap.size ≤ b) : kRow.R e W base (fun _ => True) v xs := by
  obtain ⟨h0, inner, ho, hr⟩ := h
  refine ⟨fun _ _ => trivial, inner, own_weaken ho hbb, ?_⟩
  exact hr.imp_ (fun _ _ hp => kRow.M_mono (fun k hk => ⟨trivial, fun e => by have := own_base ho k e.symm; omega⟩) (Kd.M_step hp (fun k hk _ => hb.block k hk)))
set_option maxHeartbeats 4000000 in
set_option maxRecDepth 100000 in
theorem cloneRows_calls (Rr : Rel1) (A0 : Option Addr) (n c0 : Nat) (l0 : List (List V)) (w : World) (hr0 : Rr.kd.C w A0 n l0) (hn : l0.length ≤ 2199023255552) :
    Calls Tryd.prog 36 #[.slice A0 n c0] w fun e w' => ∃ v : Value, e = .returned v ∧ Rr.kd.R 58 w' w.heap.size (fun _ => True) v l0 ∧ Below w.heap.size w w' := by
  have qT : ∀ (w : World) (a : Option Addr) (n c n' c' : Nat), (binOp .eql 37 (.slice a n c) (.slice none n' c')).run Tryd.prog w = .ok (.bool a.isNone) w := fun w a n c n' c' => Lib.run_eql_slice_nil w _ _ a n c n' c' Tryd.underlying37
  have hln : l0.length = n := hr0.1
  subst hln
  have HR0 := Aside0.mk hr0
  have HN := Aside0.mk hn
  clear hr0 hn
  cases A0 with
  | none =>
    have hl : l0 = [] := by
      rcases Nat.eq_zero_or_pos l0.length with h | h
      · exact List.eq_nil_of_length_eq_zero h
      · obtain ⟨ad, h2, _⟩ := HR0.out.2.2 h
        cases h2
    have HL := Aside0.mk hl
    clear hl
    go_enter Tryd.func36, Tryd.ntmps36
    go_wp2
    go_ret
    refine ⟨_, rfl, ?_, Below.refl _ _⟩
    rw [HL.out]
    exact Kd.R_nil _ _ _ _ _
  | some ad =>
    go_enter Tryd.func36, Tryd.ntmps36
    have HO : Aside0 (Kd.R Rr.kd 58 (w.alloc (.cells #[] 58)) w.heap.size (fun _ => True) (.slice (some ⟨w.heap.size, 0, none⟩) 0 0) []) := ⟨R_empty Rr.kd 58 w⟩
    have HB := Aside0.mk ((Below.refl w.heap.size w).alloc (Nat.le_refl _) (.cells #[] 58))
    have HR1 := Aside0.mk (Kd.C_below HR0.out HB.out)
    go_wp2_with (at_builtin; refine Kd.R_append_rows Rr.kd (w0 := w) w.heap.size rfl (.tmp 5) (.tmp 6) 37 58 (.slice none 0 0) 24 rfl Tryd.underlying37 infoRow rfl (Nat.le_refl 1) (by decide) _ [] l0 (some ad) l0.length c0 (fun _ => True) (fun _ => False) rfl rfl HO.out HR1.out (fun x cs h => h) (fun _ h => h.elim) (fun _ _ => trivial) HB.out HB.out.size (by have := HN.out; simp; omega) ?_; intro v1 w1 hR hb hg hat; have HO1 := Aside0.mk hR; have HB1 := Aside0.mk hb; clear hR hb hg hat)
    go_wp2
    go_ret
    exact ⟨_, rfl, HO1.out, HB1.out⟩
theorem growRows_calls (Rr : Rel1) (n : Nat) (w : World) (hn : n ≤ 2199023255552) :
    Calls Tryd.prog 63 #[.slice none 0 0, .int .i64 n] w fun e w' => ∃ v : Value, e = .returned v ∧ Rr.kd.R 58 w' w.heap.size (fun _ => True) v [] ∧ Below w.heap.size w w' := by
  rcases Nat.eq_zero_or_pos n with h | h
  · subst h
    have h := Any8.slices_Grow_room growRows none 0 0 0 w (Nat.le_refl _) (by omega) (by omega) (Nat.le_refl _)
    change Calls Tryd.prog 63 _ _ _ at h
    refine h.mono ?_
    rintro e w' ⟨rfl, rfl⟩
    exact ⟨_, rfl, Kd.R_nil _ _ _ _ _, Below.refl _ _⟩
  · obtain ⟨i0, hi, hzz⟩ := Option.map_eq_some_iff.1 infoRow
    simp only [Prod.mk.injEq] at hzz
    obtain ⟨hz0, hz1, hz2⟩ := hzz
    have h := Any8.slices_Grow_grow growRows i0 (.slice none 0 0) hi hz0 (by omega) none 0 0 n [] w (Nat.le_refl _) (by omega) (by rw [hz2]; omega) (by omega) (by simp) (fun _ => rfl) (fun a h => by cases h)
    change Calls Tryd.prog 63 _ _ _ at h
    refine h.mono ?_
    rintro e w' ⟨rfl, rfl⟩
    obtain ⟨G, hG⟩ : ∃ G, G = grownCap w (0 + n) 0 58 := ⟨_, rfl⟩
    have hGn : 0 + n ≤ G := by rw [hG]; exact grownCap_ge w _ _ _
    have hG63 : G ≤ maxLen := by
      rw [hG]
      exact grownCap_le_maxLen w (0 + n) 0 58 (by unfold maxLen; omega)
    refine ⟨_, rfl, ⟨fun _ _ => trivial, [], ?_, Reps.none _ _⟩, ((Below.refl w.heap.size w).drew).alloc (Nat.le_refl _) _⟩
    have h := World.ownsRow_made (base := w.heap.size) (e := 58) (size := 1) w.drew (([] : List Value).toArray ++ Builtin.zeroCells (Value.slice none 0 0).cells (0 + n - 0) ++ Builtin.zeroCells (Value.slice none 0 0).cells (G - (0 + n))) G (Nat.le_refl _) hG63 (by
      simp [Builtin.zeroCells, Value.cells]
      omega)
    rw [hG] at h
    exact h
end Go.Proofs.YtecgkcgfeghhgaaDoor.PAll
set_option linter.unusedVariables false
set_option linter.unusedSimpArgs false
namespace Go.Proofs.YtecgkcgfeghhgaaDoor.PAll
open Go.RowKit Go.Proofs.YtecgkcgfeghhgaaDoorW.PrintWords Go.Proofs.YtecgkcgfeghhgaaDoorW.PrintLast Go.Proofs.YtecgkcgfeghhgaaDoorW.PrintMore
set_option maxHeartbeats 8000000 in
set_option maxRecDepth 100000 in
theorem concat_calls (Rr : Rel1) (b : Nat) (A0 : Option Addr) (c0 : Nat) (l0 : List (List V)) (A1 : Option Addr) (c1 : Nat) (l1 : List (List V)) (w : World) (hr0 : Rr.kd.C w A0 l0.length l0) (hr1 : Rr.kd.C w A1 l1.length l1) (h0 : w.cell? ⟨b, 0, none⟩ = some (.slice A0 l0.length c0)) (h1 : w.cell? ⟨b, 1, none⟩ = some (.slice A1 l1.length c1)) (hn0 : l0.length ≤ 1099511627776) (hn1 : l1.length ≤ 1099511627776) :
    Calls Tryd.prog 53 #[.slice (some ⟨b, 0, none⟩) 2 2] w fun e w' => ∃ v : Value, e = .returned v ∧ Rr.kd.R 58 w' w.heap.size (fun _ => True) v (l0 ++ l1) ∧ Below w.heap.size w w' := by
  have HR0 := Aside0.mk hr0
  have HR1 := Aside0.mk hr1
  have H0 := Aside0.mk h0
  have H1 := Aside0.mk h1
  have HN0 := Aside0.mk hn0
  have HN1 := Aside0.mk hn1
  clear hr0 hr1 h0 h1 hn0 hn1
  go_enter Tryd.func53, Tryd.ntmps53
  go_wp2
  go_loopg [11, 3] 2 (fun kq v11 v3 W => ∃ x s : Int, v11 = .int .i64 x ∧ v3 = .int .i64 s ∧ Aside0 ((kq : Int) = 2 - x ∧ (x = 0 ∧ s = 0 ∨ x = 1 ∧ s = l0.length ∨ x = 2 ∧ s = (l0.length + l1.length : Nat))) ∧ Aside0 (W = w))
  case atStart => exact ⟨0, 0, rfl, rfl, ⟨by omega⟩, ⟨rfl⟩⟩
  case round =>
    obtain ⟨x, s, rfl, rfl, HX, HW⟩ := hrel
    obtain ⟨hk, hx⟩ := HX.out
    have hn0 := HN0.out
    have hn1 := HN1.out
    by_cases hlt : x < 2
    · obtain ⟨A, n, c, hcell, hnx, hnn⟩ : ∃ A n c, wr.cell? ⟨b, x.toNat, none⟩ = some (.slice A n c) ∧ (x + 1 = 1 ∧ s + n = l0.length ∨ x + 1 = 2 ∧ s + n = (l0.length + l1.length : Nat)) ∧ 0 ≤ s ∧ s + n ≤ 4398046511104 := by
        rcases hx with ⟨rfl, rfl⟩ | ⟨rfl, rfl⟩ | ⟨rfl, rfl⟩
        · exact ⟨A0, l0.length, c0, by rw [HW.out]; exact H0.out, by omega, by omega⟩
        · exact ⟨A1, l1.length, c1, by rw [HW.out]; exact H1.out, by omega, by omega⟩
        · omega
      have HNX := Aside0.mk hnx
      have HNN := Aside0.mk hnn
      have HK := Aside0.mk hk
      have c1' : decide (x < 2) = true := decide_eq_true hlt
      have hx0 : 0 ≤ x := by omega
      have HWR : Aside0 (wrap64 (s + n) = s + n) := ⟨by unfold wrap64; omega⟩
      have c3 : decide (wrap64 (s + n) < 0) = false := decide_eq_false (by rw [HWR.out]; omega)
      have HWX : Aside0 (wrap64 (x + 1) = x + 1) := ⟨by unfold wrap64; omega⟩
      clear hnx hnn hk hx hn0 hn1
      go_wp2
      have hk := HK.out
      cases gk with
      | zero => omega
      | succ k1 =>
        go_roundg k1
        case measure => omega
        case rel => exact ⟨x + 1, s + n, by first | rfl | rw [HWX.out], by first | rfl | rw [HWR.out], ⟨by have := HNX.out; omega⟩, HW⟩
    · have hs : s = (l0.length + l1.length : Nat) := by omega
      subst hs
      have c1' : decide (x < 2) = false := decide_eq_false hlt
      have hW := HW.out.symm
      subst hW
      clear HW hx hk hlt hn0 hn1 HX
      go_wp2_with fail
      refine (growRows_calls Rr (l0.length + l1.length) w (by have := HN0.out; have := HN1.out; omega)).mono ?_
      rintro e w1 ⟨v1, rfl, hR1, hB1⟩
      have HR2 := Aside0.mk hR1
      have HB1 := Aside0.mk hB1
      clear hR1 hB1
      go_wp2
      go_loopg [27, 6] 2 (fun kq v27 v6 W => ∃ x : Int, v27 = .int .i64 x ∧ Aside0 ((kq : Int) = 2 - x ∧ 0 ≤ x) ∧ Aside0 (Rr.kd.R 58 W w.heap.size (fun _ => True) v6 (if x = 0 then [] else if x = 1 then l0 else l0 ++ l1)) ∧ Aside0 (Below w.heap.size w W))
      case atStart => exact ⟨0, rfl, ⟨by omega⟩, ⟨by rw [if_pos rfl]; exact HR2.out⟩, HB1⟩
      case round =>
        clear HR2 HB1
        obtain ⟨x, rfl, HX, HO, HB⟩ := hrel
        obtain ⟨hk, hx⟩ := HX.out
        have hn0 := HN0.out
        have hn1 := HN1.out
        by_cases hlt : x < 2
        · obtain ⟨A, n, c, ls, hcell, hC, hls, hnx⟩ : ∃ A n c ls, wr.cell? ⟨b, x.toNat, none⟩ = some (.slice A n c) ∧ Rr.kd.C wr A n ls ∧ (n ≤ 1099511627776 ∧ (if x = 0 then [] else if x = 1 then l0 else l0 ++ l1).length ≤ 1099511627776) ∧ (if x = 0 then [] else if x = 1 then l0 else l0 ++ l1) ++ ls = (if x + 1 = 0 then [] else if x + 1 = 1 then l0 else l0 ++ l1) := by
            by_cases h0 : x = 0
            · subst h0
              exact ⟨A0, l0.length, c0, l0, (HB.out.cell (World.block_lt_of_cell? w _ H0.out)).trans H0.out, Kd.C_below HR0.out HB.out, by simp; omega, by simp⟩
            · have h1 : x = 1 := by omega
              subst h1
              exact ⟨A1, l1.length, c1, l1, (HB.out.cell (World.block_lt_of_cell? w _ H1.out)).trans H1.out, Kd.C_below HR1.out HB.out, by simp; omega, by simp⟩
          obtain ⟨cur, hcur⟩ : ∃ cur, cur = (if x = 0 then [] else if x = 1 then l0 else l0 ++ l1) := ⟨_, rfl⟩
          rw [← hcur] at HO hls hnx
          have HLS := Aside0.mk hls
          have HNX := Aside0.mk hnx
          have HC := Aside0.mk hC
          have HK := Aside0.mk hk
          have c1' : decide (x < 2) = true := decide_eq_true hlt
          have HWX : Aside0 (wrap64 (x + 1) = x + 1) := ⟨by unfold wrap64; omega⟩
          clear hls hnx hk hn0 hn1 hC hcur
          go_wp2_with (at_builtin; refine Kd.R_append_rows Rr.kd (w0 := w) w.heap.size rfl (.tmp 31) (.tmp 32) 37 58 (.slice none 0 0) 24 rfl Tryd.underlying37 infoRow rfl (Nat.le_refl 1) (by decide) _ cur ls A n c (fun _ => True) (fun _ => False) rfl rfl HO.out HC.out (fun x cs h => h) (fun _ h => h.elim) (fun _ _ => trivial) HB.out HB.out.size (by have := HLS.out; omega) ?_; intro v1 w1 hR hb hg hat; have HO1 := Aside0.mk hR; have HB1 := Aside0.mk hb; clear hR hb hg hat)
          have hk := HK.out
          cases gk with
          | zero => omega
          | succ k1 =>
            go_roundg k1
            case measure => omega
            case rel => exact ⟨x + 1, by first | rfl | rw [HWX.out], ⟨by omega⟩, ⟨by rw [← HNX.out]; exact HO1.out⟩, HB1⟩
        · have c1' : decide (x < 2) = false := decide_eq_false hlt
          go_wp2
          go_ret
          refine ⟨_, rfl, ?_, HB.out⟩
          have h := HO.out
          rw [if_neg (by omega), if_neg (by omega)] at h
          exact h
set_option maxHeartbeats 4000000 in
set_option maxRecDepth 100000 in
theorem both_calls (A0 : Option Addr) (c0 : Nat) (l0 : List (List V)) (A1 : Option Addr) (c1 : Nat) (l1 : List (List V)) (l : List (List V)) (hl : l = l0 ++ l1) (w : World) (hr0 : Kd.C kRow w A0 l0.length l0) (hr1 : Kd.C kRow w A1 l1.length l1) (hv : RowsV l) :
    Calls Tryd.prog 38 #[.slice A0 l0.length c0, .slice A1 l1.length c1] w fun e w' => ∃ v : Value, e = .returned (.tuple #[v, .bool (validB l)]) ∧ (relK w).kd.R 58 w' w.heap.size (fun _ => True) v l ∧ Below w.heap.size w w' := by
  obtain ⟨k, hk⟩ := (valid_ev l hv).rounds
  have hlen := hv.2
  rw [hl, List.length_append] at hlen
  have HLL := Aside0.mk hl
  have HK := Aside0.mk hk
  have HL := Aside0.mk hlen
  have HR0 := Aside0.mk hr0
  have HR1 := Aside0.mk hr1
  clear hk hr0 hr1 hv hlen hl
  go_enter Tryd.func38, Tryd.ntmps38
  go_wp2_with fail
  have B1 : Below w.heap.size w (w.alloc (.cells #[.slice A0 l0.length c0, .slice A1 l1.length c1] 37)) := (Below.refl w.heap.size w).alloc (Nat.le_refl _) _
  refine (concat_calls (relK w) w.heap.size A0 c0 l0 A1 c1 l1 _ (Kd.C_below (C_relK HR0.out) B1) (Kd.C_below (C_relK HR1.out) B1) ((blk_cell (heap_alloc_new _ _) 0).trans rfl) ((blk_cell (heap_alloc_new _ _) 1).trans rfl) (by have := HL.out; omega) (by have := HL.out; omega)).mono ?_
  rintro e w1 ⟨v1, rfl, hR1, hb1⟩
  rw [← HLL.out] at hR1
  have HO := Aside0.mk (Kd.R_lower hR1 B1.size)
  have HB := Aside0.mk (B1.trans (hb1.mono B1.size))
  clear hR1 hb1 B1
  obtain ⟨Av, cv, ev, hlc, hC⟩ := Kd.R_reads HO.out
  subst ev
  have HC := Aside0.mk (relK_C hC HB.out)
  have HLC := Aside0.mk hlc
  clear hC hlc
  go_wp2_with fail
  refine (bag_Valid.calls k _ _ l (validB l) _ HC.out HLC.out HK.out).mono ?_
  rintro e w2 ⟨rfl, hb2⟩
  have HO2 := Aside0.mk (Kd.R_below HO.out hb2)
  have HB2 := Aside0.mk (HB.out.trans (hb2.mono HB.out.size))
  clear hb2
  go_wp2
  go_ret2
  exact ⟨_, rfl, HO2.out, HB2.out⟩
open Classical in
noncomputable def bag_Union.f (l0 l1 : List (List V)) : Option (List (List V) × Int) := if RowsV (l0 ++ l1) then some (if validB (l0 ++ l1) = true then (sortR [] (l0 ++ l1), 0) else ([], 1)) else none
set_option maxHeartbeats 4000000 in
set_option maxRecDepth 100000 in
theorem bag_Union.calls (A0 : Option Addr) (c0 : Nat) (l0 : List (List V)) (A1 : Option Addr) (c1 : Nat) (l1 : List (List V)) (r1 : List (List V)) (r2 : Int) (w : World) (hr0 : Kd.C kRow w A0 l0.length l0) (hc0 : l0.length ≤ c0) (hr1 : Kd.C kRow w A1 l1.length l1) (hc1 : l1.length ≤ c1) (h : bag_Union.f l0 l1 = some (r1, r2)) :
    Calls Tryd.prog 23 #[.slice A0 l0.length c0, .slice A1 l1.length c1] w fun e w' => ∃ v0_ : Value, e = .returned (.tuple #[v0_, .int .i64 r2]) ∧ Kd.V kRow 58 w' w.heap.size (fun k_ => (w.heap.size ≤ k_)) v0_ r1 ∧ Below w.heap.size w w' := by
  unfold bag_Union.f at h
  split at h
  case isFalse => cases h
  rename_i hv
  have H := Aside0.mk (Option.some.inj h)
  have HV := Aside0.mk hv
  have HBo := Aside0.mk (both_calls A0 c0 l0 A1 c1 l1 _ rfl w hr0 hr1 hv)
  clear h hv hr0 hr1 hc0 hc1
  obtain ⟨l, hl⟩ : ∃ l, l = l0 ++ l1 := ⟨_, rfl⟩
  rw [← hl] at H HV HBo
  clear hl
  cases hq : validB l with
  | true =>
    have HQ := Aside0.mk hq
    rw [hq, if_pos rfl] at H
    rw [hq] at HBo
    clear hq
    go_enter Tryd.func23, Tryd.ntmps23
    go_wp2_with fail
    refine HBo.out.mono ?_
    rintro e w1 ⟨v1, rfl, hR1, hb1⟩
    have HB := Aside0.mk hb1
    obtain ⟨Av, cv, ev, hlc, hC⟩ := Kd.R_reads hR1
    subst ev
    have HC := Aside0.mk (relK_C hC hb1)
    clear hC hlc hR1 hb1
    go_wp2_with fail
    refine (arranged_calls Av cv l none 0 [] w1 HC.out (Kd.C_nil _ _) (fun row hrow => ⟨validB_valid HQ.out row hrow, (by intro k hk; cases hk), (HV.out.1 row hrow).2⟩) HV.out.2 (by simp)).mono ?_
    rintro e w2 ⟨v2, rfl, hR2, hb2⟩
    have HR2 := Aside0.mk hR2
    have HB2 := Aside0.mk (HB.out.trans (hb2.mono HB.out.size))
    have HS := Aside0.mk HB.out.size
    clear hR2 hb2
    go_wp2
    go_ret2
    obtain ⟨e1, e2⟩ := Prod.mk.inj H.out
    refine ⟨v2, by rw [← e2]; rfl, ?_, HB2.out⟩
    rw [← e1]
    exact Kd.R_V (base' := w.heap.size) (Kd.R_mono (Kd.R_bound HR2.out) (fun k hk => Nat.le_trans HS.out hk.2.1))
  | false =>
    rw [hq, if_neg (by simp)] at H
    rw [hq] at HBo
    clear hq
    go_enter Tryd.func23, Tryd.ntmps23
    go_wp2_with fail
    refine HBo.out.mono ?_
    rintro e w1 ⟨v1, rfl, hR1, hb1⟩
    have HB := Aside0.mk hb1
    clear hR1 hb1
    go_wp2
    go_ret2
    obtain ⟨e1, e2⟩ := Prod.mk.inj H.out
    refine ⟨.slice none 0 0, by rw [← e2]; rfl, ?_, HB.out⟩
    rw [← e1]
    exact Kd.V_nil _ _ _ _ _
end Go.Proofs.YtecgkcgfeghhgaaDoor.PAll
set_option linter.unusedVariables false
set_option linter.unusedSimpArgs false
namespace Go.Proofs.YtecgkcgfeghhgaaDoor.PAll
open Go.RowKit Go.Proofs.YtecgkcgfeghhgaaDoorW.PrintWords Go.Proofs.YtecgkcgfeghhgaaDoorW.PrintLast Go.Proofs.YtecgkcgfeghhgaaDoorW.PrintMore
open Classical in
noncomputable def distR : List ByteArray → List (List V) → List (List V)
  | _, [] => []
  | seen, r :: rs => if nameOf r ∈ seen then distR seen rs else r :: distR (nameOf r :: seen) rs
theorem distR_mem : ∀ (l : List (List V)) (seen : List ByteArray) (r : List V), r ∈ distR seen l → r ∈ l
  | [], _, _, h => by simp [distR] at h
  | a :: l, seen, r, h => by
    simp only [distR] at h
    split at h
    · exact List.mem_cons_of_mem _ (distR_mem l seen r h)
    · rcases List.mem_cons.1 h with rfl | h
      · exact List.mem_cons_self
      · exact List.mem_cons_of_mem _ (distR_mem l _ r h)
theorem distR_len : ∀ (l : List (List V)) (seen : List ByteArray), (distR seen l).length ≤ l.length
  | [], _ => by simp [distR]
  | a :: l, seen => by
    simp only [distR]
    split
    · have := distR_len l seen; simp; omega
    · have := distR_len l (nameOf a :: seen); simp; omega
theorem get_bool {kv : List (ByteArray × Bool)} {s : ByteArray} {c : Bool} (h : (KV.get kv s).getD false = c) : ((KV.get kv s).map Value.bool).getD (.bool false) = .bool c := by
  subst h
  cases KV.get kv s <;> rfl
theorem zeroBool (w : World) : (zeroValue 4).run Tryd.prog w = .ok (.bool false) w := by kernel_rfl
open Classical in
noncomputable def bag_Distinct.f (l0 : List (List V)) : Option (List (List V) × Int) := if RowsOk l0 then some (if validB l0 = true then (sortR [] (distR [] l0), 0) else ([], 1)) else none
open Classical in
set_option maxHeartbeats 8000000 in
set_option maxRecDepth 100000 in
theorem bag_Distinct.calls (A0 : Option Addr) (c0 : Nat) (l0 : List (List V)) (r1 : List (List V)) (r2 : Int) (w : World) (hr0 : Kd.C kRow w A0 l0.length l0) (hc0 : l0.length ≤ c0) (hT : LaidT w) (h : bag_Distinct.f l0 = some (r1, r2)) :
    Calls Tryd.prog 25 #[.slice A0 l0.length c0] w fun e w' => ∃ v0_ : Value, e = .returned (.tuple #[v0_, .int .i64 r2]) ∧ Kd.V kRow 58 w' w.heap.size (fun k_ => (w.heap.size ≤ k_)) v0_ r1 ∧ Below w.heap.size w w' := by
  unfold bag_Distinct.f at h
  split at h
  case isFalse => cases h
  rename_i hok
  obtain ⟨k, hk⟩ := (valid_ev l0 hok.v).rounds
  have hmm : ∀ (n : Int) (w : World), (Instr.makeMap 68 (some (.int .i64 n))).run Tryd.prog w = .ok (.map (some w.heap.size)) (w.alloc (.map #[] 0)) := fun _ _ => by kernel_rfl
  have H := Aside0.mk (Option.some.inj h)
  have HOK := Aside0.mk hok
  have HK := Aside0.mk hk
  have HT := Aside0.mk hT
  have HR0 := Aside0.mk hr0
  have HC0 := Aside0.mk hc0
  clear h hok hk hT hr0 hc0
  cases hq : validB l0 with
  | false =>
    rw [hq, if_neg (by simp)] at H
    rw [hq] at HK
    clear hq
    go_enter Tryd.func25, Tryd.ntmps25
    go_wp2_with fail
    go_step3
    go_wp2_with fail
    refine (bag_Valid.calls k _ _ l0 false _ HR0.out HC0.out HK.out).mono ?_
    rintro e w1 ⟨rfl, hb1⟩
    have HB := Aside0.mk hb1
    clear hb1
    go_wp2
    rw [Exit.noGoto_ret]
    go_ret2
    obtain ⟨e1, e2⟩ := Prod.mk.inj H.out
    refine ⟨.slice none 0 0, by rw [← e2]; rfl, ?_, HB.out⟩
    rw [← e1]
    exact Kd.V_nil _ _ _ _ _
  | true =>
    rw [hq, if_pos rfl] at H
    have HV := Aside0.mk hq
    rw [hq] at HK
    clear hq
    go_enter Tryd.func25, Tryd.ntmps25
    go_wp2_with fail
    go_step3
    go_wp2_with fail
    refine (bag_Valid.calls k _ _ l0 true _ HR0.out HC0.out HK.out).mono ?_
    rintro e w1 ⟨rfl, hb1⟩
    have B1 := Aside0.mk hb1
    clear hb1
    go_wp2
    go_step3
    go_wp2
    clear hmm
    have M0 : Aside0 (∃ kv : List (ByteArray × Bool), KV.Is (w1.alloc (.map #[] 0)) w1.heap.size Value.bool kv ∧ ∀ s, (KV.get kv s).getD false = decide (s ∈ ([] : List ByteArray))) := ⟨⟨[], KV.Is.made w1 _, fun s => by simp [KV.get]⟩⟩
    have HMB := Aside0.mk B1.out.size
    have B2 := Aside0.mk (B1.out.alloc B1.out.size (.map #[] 0))
    have HMS : Aside0 (w1.heap.size < (w1.alloc (.map #[] 0)).heap.size) := ⟨by simp⟩
    obtain ⟨m, hm⟩ : ∃ m, m = w1.heap.size := ⟨_, rfl⟩
    rw [← hm] at M0 HMB
    simp only [← hm]
    clear hm HMS
    go_loopg [17, 5] l0.length (fun kq v17 v5 W => ∃ (x : Int) (seen : List ByteArray) (cur : List (List V)), v17 = .int .i64 x ∧ Aside0 (0 ≤ x ∧ x ≤ l0.length ∧ (kq : Int) = l0.length - x) ∧ Aside0 (∃ kv : List (ByteArray × Bool), KV.Is W m Value.bool kv ∧ ∀ s, (KV.get kv s).getD false = decide (s ∈ seen)) ∧ Aside0 ((relK w).kd.R 58 W w.heap.size (fun k => k ≠ m) v5 cur) ∧ Aside0 (cur ++ distR seen (l0.drop x.toNat) = distR [] l0 ∧ cur.length ≤ x) ∧ Aside0 (Below w.heap.size w W))
    case atStart => exact ⟨0, [], [], rfl, ⟨by omega⟩, M0, ⟨Kd.R_nil _ _ _ _ _⟩, ⟨by simp⟩, B2⟩
    case round =>
      clear M0 B1 B2
      obtain ⟨x, seen, cur, rfl, HX, HM, HO, HD, HB⟩ := hrel
      obtain ⟨hx0, hx1, hkq⟩ := HX.out
      by_cases hlt : x < (l0.length : Int)
      · have c1 : decide (x < (l0.length : Int)) = true := decide_eq_true hlt
        have c2 : decide (0 ≤ x) = true := decide_eq_true hx0
        obtain ⟨ad, A1, c1', e, hx_0, hl_0, hi_0⟩ := at_L4 HR0.out x hx0 hlt
        cases e
        replace hx_0 := (HB.out.cell (World.block_lt_of_cell? w _ hx_0)).trans hx_0
        have hi : x.toNat < l0.length := by omega
        have hrd : rd_L4 l0 x = l0[x.toNat] := by simp [rd_L4, List.getElem?_eq_getElem hi]
        have hok := HOK.out.1 (rd_L4 l0 x) (by rw [hrd]; exact List.getElem_mem hi)
        have hst := HD.out.1
        rw [drop_cons l0 x.toNat hi, ← hrd] at hst
        obtain ⟨r, hr⟩ : ∃ r, r = rd_L4 l0 x := ⟨_, rfl⟩
        rw [← hr] at hx_0 hl_0 hi_0 hok hst
        have HI0 := Aside0.mk hi_0
        have HL0 := Aside0.mk hl_0
        have HOK1 := Aside0.mk hok
        have HST := Aside0.mk hst
        have HLT := Aside0.mk hlt
        have HX0 := Aside0.mk hx0
        have HWR : Aside0 (wrap64 (x + 1) = x + 1) := ⟨by have := HOK.out.2; unfold wrap64; omega⟩
        clear hi_0 hl_0 hok hst hrd hr hkq hi
        go_wp2_with fail
        refine (name_calls _ _ r wr (HT.out.below HB.out) (Kd.C_below HI0.out HB.out) HL0.out HOK1.out.1 HOK1.out.2.1 HOK1.out.2.2).mono ?_
        rintro e w2 ⟨rfl, hb1⟩
        obtain ⟨kv, hkv⟩ := HM.out
        have HKV : Aside0 (KV.Is w2 m Value.bool kv) := ⟨hkv.1.below hb1⟩
        have HSE := Aside0.mk hkv.2
        have HB1 := Aside0.mk (HB.out.trans (hb1.mono HB.out.size))
        have HO1 := Aside0.mk (Kd.R_below HO.out hb1)
        clear hb1 hkv
        have hc : Aside0 ((KV.get kv (nameOf r)).getD false = decide (nameOf r ∈ seen)) := ⟨HSE.out _⟩
        by_cases hz : nameOf r ∈ seen
        · rw [decide_eq_true hz] at hc
          have HZ := Aside0.mk hz
          clear hz
          go_wp2_with (at_lookup; refine KV.law_lookup _ rfl _ _ 68 rfl 9 4 Tryd.underlying9 Tryd.underlying68 (.bool false) (zeroBool _) m Value.bool kv rfl HKV.out (nameOf r) rfl (.bool true) (get_bool hc.out) ?_)
          have hlt := HLT.out
          have hk := HX.out.2.2
          have hx0 := HX0.out
          have hd := HD.out.2
          cases gk with
          | zero => omega
          | succ k1 =>
            go_roundg k1
            case measure => omega
            case rel =>
              refine ⟨x + 1, seen, cur, by rw [HWR.out], ⟨by omega⟩, ⟨kv, HKV.out, HSE.out⟩, HO1, ⟨?_, by omega⟩, HB1⟩
              have := HST.out
              rw [distR, if_pos HZ.out] at this
              rw [show (x + 1).toNat = x.toNat + 1 by omega]
              exact this
        · rw [decide_eq_false hz] at hc
          have HZ := Aside0.mk hz
          clear hz
          have hcl : Aside0 ((cur.length + 1) * 24 ≤ 140737488355328) := ⟨by have := HD.out.2; have := HOK.out.2; omega⟩
          have hM : Aside0 ((relK w).kd.M w2 w.heap.size (fun _ => False) r [.slice A1 r.length c1']) := ⟨⟨A1, c1', rfl, HL0.out, HI0.out⟩⟩
          go_wp2_with (first
            | (at_lookup; refine KV.law_lookup _ rfl _ _ 68 rfl 9 4 Tryd.underlying9 Tryd.underlying68 (.bool false) (zeroBool _) m Value.bool kv rfl HKV.out (nameOf r) rfl (.bool false) (get_bool hc.out) ?_)
            | (at_mapUpdate; refine KV.law_update _ rfl _ _ _ 68 rfl 9 4 Tryd.underlying9 Tryd.underlying68 m Value.bool kv rfl HKV.out (nameOf r) rfl true rfl ?_; intro w3 hM2 hg2; have HM2 := Aside0.mk hM2; have HB3 := Aside0.mk (HB1.out.grown hg2 HB1.out.size (fun k hk => by cases hk; exact HMB.out)); have HO3 := Aside0.mk (Kd.R_grown HO1.out hg2 (fun k hk e => hk (by injection e))); clear hM2 hg2)
            | (at_builtin; refine Kd.R_append (relK w).kd (w0 := w) w.heap.size rfl (.tmp 28) (.tmp 30) 37 58 (.slice none 0 0) 24 rfl Tryd.underlying37 infoRow rfl (Nat.le_refl 1) (by decide) _ cur r [.slice A1 r.length c1'] (fun k => k ≠ m) (fun _ => False) rfl rfl hM.out (fun _ h => h.elim) (fun k hk e => by have := HM2.out.lt; omega) HO3.out HB3.out HB3.out.size hcl.out ?_; intro v4 w4 hR4 hb4 hg4 hat4; have HO4 := Aside0.mk hR4; have HB4 := Aside0.mk hb4; have HM4 := Aside0.mk (HM2.out.grown hg4 (fun e => HO3.out.1 m e.symm rfl)); clear hR4 hb4 hg4 hat4))
          have hlt := HLT.out
          have hk := HX.out.2.2
          have hx0 := HX0.out
          have hd := HD.out.2
          cases gk with
          | zero => omega
          | succ k1 =>
            go_roundg k1
            case measure => omega
            case rel =>
              refine ⟨x + 1, nameOf r :: seen, cur ++ [r], by rw [HWR.out], ⟨by omega⟩, ⟨_, HM4.out, fun s => ?_⟩, HO4, ⟨?_, by simp; omega⟩, HB4⟩
              · by_cases h : s = nameOf r
                · subst h; simp [KV.get_put_same]
                · rw [KV.get_put_other _ h, HSE.out]
                  simp [h]
              · have := HST.out
                rw [distR, if_neg HZ.out] at this
                rw [show (x + 1).toNat = x.toNat + 1 by omega]
                simpa using this
      · have c1 : decide (x < (l0.length : Int)) = false := decide_eq_false hlt
        have hcur : cur = distR [] l0 := by
          have := HD.out.1
          rw [List.drop_eq_nil_of_le (by omega), distR, List.append_nil] at this
          exact this
        subst hcur
        have HLN : Aside0 ((distR [] l0).length ≤ 1099511627776) := ⟨Nat.le_trans (distR_len l0 []) HOK.out.2⟩
        have HGD : Aside0 (∀ row ∈ distR [] l0, RowGood [] row) := ⟨fun row hrow => ⟨validB_valid HV.out row (distR_mem l0 [] row hrow), (by intro k hk; cases hk), (HOK.out.1 row (distR_mem l0 [] row hrow)).2.2⟩⟩
        obtain ⟨ds, hds⟩ : ∃ ds, ds = distR [] l0 := ⟨_, rfl⟩
        rw [← hds] at HLN HGD H HO
        clear HX HD hx0 hx1 hlt hkq hds
        obtain ⟨Av, cv, ev, hlc, hC⟩ := Kd.R_reads HO.out
        subst ev
        have HC := Aside0.mk (relK_C hC HB.out)
        clear hC hlc
        go_wp2_with fail
        refine (arranged_calls Av cv ds none 0 [] wr HC.out (Kd.C_nil _ _) HGD.out HLN.out (by simp)).mono ?_
        rintro e w2 ⟨v2, rfl, hR2, hb2⟩
        have HR2 := Aside0.mk hR2
        have HB2 := Aside0.mk (HB.out.trans (hb2.mono HB.out.size))
        have HS := Aside0.mk HB.out.size
        clear hR2 hb2
        go_wp2
        rw [Exit.noGoto_ret]
        go_ret2
        obtain ⟨e1, e2⟩ := Prod.mk.inj H.out
        refine ⟨v2, by rw [← e2]; rfl, ?_, HB2.out⟩
        rw [← e1]
        exact Kd.R_V (base' := w.heap.size) (Kd.R_mono (Kd.R_bound HR2.out) (fun k hk => Nat.le_trans HS.out hk.2.1))
end Go.Proofs.YtecgkcgfeghhgaaDoor.PAll
set_option linter.unusedVariables false
set_option linter.unusedSimpArgs false
namespace Go.Proofs.YtecgkcgfeghhgaaDoor.PAll
open Go.RowKit Go.Proofs.YtecgkcgfeghhgaaDoorW.PrintWords Go.Proofs.YtecgkcgfeghhgaaDoorW.PrintLast Go.Proofs.YtecgkcgfeghhgaaDoorW.PrintMore
structure Gath where
  σ : Type
  T : TypeId
  S : TypeId
  take : Nat
  done : Nat
  cells : σ → Array Value
  init : σ
  step : σ → V → σ
  out : σ → Int × Int × ByteArray × Int
  good : V → Prop
  inv : σ → Prop
  inv0 : inv init
  step_inv : ∀ s v, inv s → good v → inv (step s v)
  hmt : ∀ (a : Addr) (w : World), (method 285 T (.pointer (some a)) "jointer/bag.take").run Tryd.prog w = .ok (take, .pointer (some a)) w
  hmd : ∀ (a : Addr) (w : World), (method 285 T (.pointer (some a)) "jointer/bag.done").run Tryd.prog w = .ok (done, .pointer (some a)) w
  het : ∀ args w, (callFunc take args).run Tryd.prog w = .ok (.enter take args) w
  hed : ∀ args w, (callFunc done args).run Tryd.prog w = .ok (.enter done args) w
  htake : ∀ b s v w, inv s → good v → w.heap[b]? = some (.cells (cells s) S (0, 0)) → Calls Tryd.prog take #[.pointer (some ⟨b, 0, none⟩), .agg #[.int .u8 v.f0, .int .i64 v.f1, .string v.f2]] w fun e w' => e = .returned (.tuple #[]) ∧ w'.heap[b]? = some (.cells (cells (step s v)) S (0, 0)) ∧ w.grownBy w' (some b)
  hdone : ∀ b s w, inv s → w.heap[b]? = some (.cells (cells s) S (0, 0)) → Calls Tryd.prog done #[.pointer (some ⟨b, 0, none⟩)] w fun e w' => e = .returned (.agg #[.int .u8 (out s).1, .int .i64 (out s).2.1, .string (out s).2.2.1, .int .i64 (out s).2.2.2]) ∧ Below w.heap.size w w'
open Classical in
theorem seen_put {kv : List (ByteArray × Bool)} {seen : List ByteArray} (h : ∀ s, (KV.get kv s).getD false = decide (s ∈ seen)) (x : ByteArray) : ∀ t, (KV.get (KV.put kv x true) t).getD false = decide (t ∈ x :: seen) := fun t => by
  by_cases ht : t = x
  · subst ht; simp [KV.get_put_same]
  · rw [KV.get_put_other _ ht, h]; simp [ht]
theorem one_CV (W : World) (v : V) (t : TypeId) : Kd.C kV (W.alloc (.cells #[.int .u8 v.f0, .int .i64 v.f1, .string v.f2] t)) (some ⟨W.heap.size, 0, none⟩) [v].length [v] := by
  refine ⟨rfl, by simp, fun _ => ⟨⟨W.heap.size, 0, none⟩, rfl, fun j p hj => ?_⟩⟩
  cases j with
  | succ j => simp at hj
  | zero =>
    obtain rfl : v = p := by simpa using hj
    refine ⟨[.int .u8 v.f0, .int .i64 v.f1, .string v.f2], rfl, kV.K_of_M (base := 0) (ok := fun _ => True) (k27_mkM _ _ _ v), fun i u hi => ?_⟩
    have h := blk_cell (heap_alloc_new W (.cells #[.int .u8 v.f0, .int .i64 v.f1, .string v.f2] t)) i
    rw [add_plain, Nat.zero_mul, Nat.zero_add]
    refine h.trans ?_
    simpa using hi
open Classical in
noncomputable def pickV (fn : Int) (d : Bool) : List ByteArray → List V → List V
  | _, [] => []
  | seen, v :: vs => if fn ≠ 0 ∧ v.f0 = 0 then pickV fn d seen vs else if d = true then (if nameOf [v] ∈ seen then pickV fn d seen vs else v :: pickV fn d (nameOf [v] :: seen) vs) else v :: pickV fn d seen vs
open Classical in
set_option maxHeartbeats 2000000 in
set_option maxRecDepth 100000 in
theorem aggregate_walk (G : Gath) (k : Nat) (fn : Int) (d : Bool) (A2 : Option Addr) (c2 : Nat) (l : List V) (w : World) (hT : LaidT w) (hr : Kd.C kV w A2 l.length l) (hc : l.length ≤ c2) (hok : ∀ v ∈ l, RowOk [v]) (hn : l.length ≤ 1099511627776)
    (hall : bag_allowed.f k fn d l = some true) (hgood : ∀ v ∈ pickV fn d [] l, G.good v)
    (hgath : ∀ w, Calls Tryd.prog 28 #[.int .u8 fn] w fun e w' => e = .returned (.iface G.T (.pointer (some ⟨w.heap.size, 0, none⟩))) ∧ w' = w.alloc (.cells (G.cells G.init) G.S)) :
    Calls Tryd.prog 13 #[.int .u8 fn, .bool d, .slice A2 l.length c2] w fun e w' => e = .returned (.agg #[.int .u8 (G.out ((pickV fn d [] l).foldl G.step G.init)).1, .int .i64 (G.out ((pickV fn d [] l).foldl G.step G.init)).2.1, .string (G.out ((pickV fn d [] l).foldl G.step G.init)).2.2.1, .int .i64 (G.out ((pickV fn d [] l).foldl G.step G.init)).2.2.2]) ∧ Below w.heap.size w w' := by
  have HT := Aside0.mk hT
  have HR := Aside0.mk hr
  have HC := Aside0.mk hc
  have HOK := Aside0.mk hok
  have HN := Aside0.mk hn
  have HA := Aside0.mk hall
  have HG := Aside0.mk hgood
  have HGA := Aside0.mk hgath
  clear hT hr hc hok hn hall hgood hgath
  have hmm : ∀ (w : World), (Instr.makeMap 68 none).run Tryd.prog w = .ok (.map (some w.heap.size)) (w.alloc (.map #[] 0)) := fun _ => by kernel_rfl
  go_enter Tryd.func13, Tryd.ntmps13
  go_wp2_with (first | ((with_reducible refine gate_dst (N := 6) rfl ?_); refine box_event ?hg (N := 6) ?hd (cs := #[.int .u8 0, .int .i64 0, .string (⟨#[]⟩ : ByteArray), .int .i64 0]) (t := 31) ?hr ?_; (case hd => rfl); (case hg => rfl); (case hr => first | (go_simp; done) | (go_simp; rfl)); intro q hq W hN hb1; have HB1 := Aside0.mk hb1; have HQ := Aside0.mk hq; have HN0 := Aside0.mk hN; clear hb1 hq hN))
  refine (bag_allowed.calls k fn d A2 c2 l true W (Kd.C_below HR.out HB1.out) HC.out HA.out).mono ?_
  rintro e W1 ⟨rfl, hb2⟩
  have HN1 := Aside0.mk ((hb2.block q (blk_lt HN0.out)).trans HN0.out)
  have HB2 := Aside0.mk (HB1.out.trans (hb2.mono HB1.out.size))
  clear hb2 HN0 HB1
  go_wp2_with fail
  refine (HGA.out W1).mono ?_
  rintro e W2 ⟨rfl, hW2⟩
  have HG0 : Aside0 (W2.heap[W1.heap.size]? = some (.cells (G.cells G.init) G.S (0, 0))) := ⟨by rw [hW2]; exact heap_alloc_new _ _⟩
  have HN2 : Aside0 (W2.heap[q]? = some (.cells #[.int .u8 0, .int .i64 0, .string ⟨#[]⟩, .int .i64 0] 31 (0, 0))) := ⟨by rw [hW2]; exact (Below.heap_alloc W1 _ q (blk_lt HN1.out)).trans HN1.out⟩
  have HB3 : Aside0 (Below w.heap.size w W2) := ⟨by rw [hW2]; exact HB2.out.alloc HB2.out.size _⟩
  have HGE : Aside0 (w.heap.size ≤ W1.heap.size) := ⟨HB2.out.size⟩
  have HNE : Aside0 (q ≠ W1.heap.size) := ⟨fun e => by have := blk_lt HN1.out; omega⟩
  obtain ⟨g, hg⟩ : ∃ g, g = W1.heap.size := ⟨_, rfl⟩
  rw [← hg] at HG0 HGE HNE
  rw [← hg]
  clear hW2 HN1 HB2 hg
  go_wp2
  clear hmm
  have M0 : Aside0 (∃ kv : List (ByteArray × Bool), KV.Is (W2.alloc (.map #[] 0)) W2.heap.size Value.bool kv ∧ ∀ s, (KV.get kv s).getD false = decide (s ∈ ([] : List ByteArray))) := ⟨⟨[], KV.Is.made W2 _, fun s => by simp [KV.get]⟩⟩
  have HMG : Aside0 (W2.heap.size ≠ g ∧ q ≠ W2.heap.size ∧ w.heap.size ≤ W2.heap.size) := ⟨fun e => by have := blk_lt HG0.out; omega, fun e => by have := blk_lt HN2.out; omega, HB3.out.size⟩
  have HG1 : Aside0 ((W2.alloc (.map #[] 0)).heap[g]? = some (.cells (G.cells G.init) G.S (0, 0))) := ⟨(Below.heap_alloc W2 _ g (blk_lt HG0.out)).trans HG0.out⟩
  have HN3 : Aside0 ((W2.alloc (.map #[] 0)).heap[q]? = some (.cells #[.int .u8 0, .int .i64 0, .string ⟨#[]⟩, .int .i64 0] 31 (0, 0))) := ⟨(Below.heap_alloc W2 _ q (blk_lt HN2.out)).trans HN2.out⟩
  have HB4 : Aside0 (Below w.heap.size w (W2.alloc (.map #[] 0))) := ⟨HB3.out.alloc HB3.out.size _⟩
  obtain ⟨m, hm⟩ : ∃ m, m = W2.heap.size := ⟨_, rfl⟩
  rw [← hm] at M0 HMG
  simp only [← hm]
  clear hm HG0 HN2 HB3
  go_loopg [23] l.length (fun kq v23 W => ∃ (x : Int) (seen : List ByteArray) (s : G.σ), v23 = .int .i64 x ∧ Aside0 (0 ≤ x ∧ x ≤ l.length ∧ (kq : Int) = l.length - x) ∧ Aside0 (∃ kv : List (ByteArray × Bool), KV.Is W m Value.bool kv ∧ ∀ s, (KV.get kv s).getD false = decide (s ∈ seen)) ∧ Aside0 (W.heap[g]? = some (.cells (G.cells s) G.S (0, 0))) ∧ Aside0 (G.inv s) ∧ Aside0 (W.heap[q]? = some (.cells #[.int .u8 0, .int .i64 0, .string ⟨#[]⟩, .int .i64 0] 31 (0, 0))) ∧ Aside0 ((pickV fn d seen (l.drop x.toNat)).foldl G.step s = (pickV fn d [] l).foldl G.step G.init ∧ ∀ v ∈ pickV fn d seen (l.drop x.toNat), G.good v) ∧ Aside0 (Below w.heap.size w W))
  case atStart => exact ⟨0, [], G.init, rfl, ⟨by omega⟩, M0, HG1, ⟨G.inv0⟩, HN3, ⟨rfl, HG.out⟩, HB4⟩
  case round =>
    clear M0 HG1 HN3 HB4 HG
    obtain ⟨x, seen, s, rfl, HX, HM, HS, HI, HQN, HD, HB⟩ := hrel
    obtain ⟨hx0, hx1, hkq⟩ := HX.out
    by_cases hlt : x < (l.length : Int)
    · have c1 : decide (x < (l.length : Int)) = true := decide_eq_true hlt
      have c2 : decide (0 ≤ x) = true := decide_eq_true hx0
      obtain ⟨ad, e, hx_0, hx_1, hx_2⟩ := at_T27 HR.out x hx0 hlt
      cases e
      replace hx_0 := (HB.out.cell (World.block_lt_of_cell? w _ hx_0)).trans hx_0
      replace hx_1 := (HB.out.cell (World.block_lt_of_cell? w _ hx_1)).trans hx_1
      replace hx_2 := (HB.out.cell (World.block_lt_of_cell? w _ hx_2)).trans hx_2
      have hi : x.toNat < l.length := by omega
      have hrd : rd_T27 l x = l[x.toNat] := by simp [rd_T27, List.getElem?_eq_getElem hi]
      have hok := HOK.out (rd_T27 l x) (by rw [hrd]; exact List.getElem_mem hi)
      have hd := HD.out
      rw [drop_cons l x.toNat hi, ← hrd] at hd
      obtain ⟨v, hv⟩ : ∃ v, v = rd_T27 l x := ⟨_, rfl⟩
      rw [← hv] at hx_0 hx_1 hx_2 hok hd
      have HDV := Aside0.mk hd
      have HOKV := Aside0.mk hok
      have HLT := Aside0.mk hlt
      have HX0 := Aside0.mk hx0
      have HWR : Aside0 (wrap64 (x + 1) = x + 1) := ⟨by have := HN.out; unfold wrap64; omega⟩
      clear hd hok hrd hv hkq hi
      by_cases hsk : fn ≠ 0 ∧ v.f0 = 0
      · have z1 : (fn != 0) = true := by simpa using hsk.1
        have z2 : (v.f0 == 0) = true := by simpa using hsk.2
        have HSK := Aside0.mk hsk
        clear hsk
        go_wp2
        have hlt := HLT.out
        have hk := HX.out.2.2
        have hx0 := HX0.out
        cases gk with
        | zero => omega
        | succ k1 =>
          go_roundg k1
          case measure => omega
          case rel =>
            obtain ⟨kv, hkv1, hkv2⟩ := HM.out
            have hd := HDV.out
            rw [pickV, if_pos HSK.out] at hd
            rw [← show (x + 1).toNat = x.toNat + 1 by omega] at hd
            exact ⟨x + 1, seen, s, by rw [HWR.out], ⟨by omega⟩, ⟨kv, hkv1.below ((Below.refl _ wr).alloc (Nat.le_refl _) _), hkv2⟩, ⟨(Below.heap_alloc wr _ g (blk_lt HS.out)).trans HS.out⟩, HI, ⟨(Below.heap_alloc wr _ q (blk_lt HQN.out)).trans HQN.out⟩, ⟨hd⟩, ⟨HB.out.alloc HB.out.size _⟩⟩
      · by_cases hf : fn = 0
        · have z1 : (fn != 0) = false := by simp [hf]
          have HSK := Aside0.mk hsk
          clear hsk hf
          cases d with
          | false =>
            have hmt := G.hmt
            have het := G.het
            obtain ⟨kv, hkv1, hkv2⟩ := HM.out
            have HK1 := Aside0.mk hkv1
            have HK2 := Aside0.mk hkv2
            have HGD : Aside0 (G.good v) := ⟨by
              have hd := HDV.out.2
              rw [pickV, if_neg HSK.out, if_neg (by simp)] at hd
              exact hd v List.mem_cons_self⟩
            clear hkv1 hkv2
            go_wp2_with fail
            refine (G.htake g s v _ HI.out HGD.out ((Below.heap_alloc wr _ g (blk_lt HS.out)).trans HS.out)).mono ?_
            rintro e w5 ⟨rfl, hcell, hgr⟩
            have HS5 := Aside0.mk hcell
            have HQ5 := Aside0.mk ((hgr.block q (blk_lt ((Below.heap_alloc wr _ q (blk_lt HQN.out)).trans HQN.out)) (fun e => HNE.out (by injection e))).trans ((Below.heap_alloc wr _ q (blk_lt HQN.out)).trans HQN.out))
            have HM5 : Aside0 (KV.Is w5 m Value.bool kv) := ⟨KV.Is.grown (HK1.out.below ((Below.refl _ wr).alloc (Nat.le_refl _) _)) hgr (fun e => HMG.out.1 (by injection e))⟩
            have HB5 : Aside0 (Below w.heap.size w w5) := ⟨((HB.out.alloc HB.out.size (.cells #[.int .u8 v.f0, .int .i64 v.f1, .string v.f2] 27))).grown hgr ((HB.out.alloc HB.out.size (.cells #[.int .u8 v.f0, .int .i64 v.f1, .string v.f2] 27))).size (fun k hk => by cases hk; exact HGE.out)⟩
            have HI5 := Aside0.mk (G.step_inv s v HI.out HGD.out)
            clear hcell hgr hmt het
            go_wp2
            have hlt := HLT.out
            have hk := HX.out.2.2
            have hx0 := HX0.out
            cases gk with
            | zero => omega
            | succ k1 =>
              go_roundg k1
              case measure => omega
              case rel =>
                have hd := HDV.out
                rw [pickV, if_neg HSK.out, if_neg (by simp)] at hd
                rw [← show (x + 1).toNat = x.toNat + 1 by omega] at hd
                exact ⟨x + 1, seen, G.step s v, by rw [HWR.out], ⟨by omega⟩, ⟨kv, HM5.out, HK2.out⟩, HS5, HI5, HQ5, ⟨hd.1, fun u hu => hd.2 u (List.mem_cons_of_mem _ hu)⟩, HB5⟩
          | true =>
            obtain ⟨kv, hkv1, hkv2⟩ := HM.out
            have HK1 := Aside0.mk hkv1
            have HK2 := Aside0.mk hkv2
            have HWB : Aside0 (m < wr.heap.size) := ⟨hkv1.lt⟩
            have HB2 : Aside0 (Below w.heap.size w ((wr.alloc (.cells #[.int .u8 v.f0, .int .i64 v.f1, .string v.f2] 27)).alloc (.cells #[.int .u8 v.f0, .int .i64 v.f1, .string v.f2] 27))) := ⟨(HB.out.alloc HB.out.size _).alloc (Nat.le_trans HB.out.size (by simp)) _⟩
            have HBW : Aside0 (Below wr.heap.size wr ((wr.alloc (.cells #[.int .u8 v.f0, .int .i64 v.f1, .string v.f2] 27)).alloc (.cells #[.int .u8 v.f0, .int .i64 v.f1, .string v.f2] 27))) := ⟨((Below.refl _ wr).alloc (Nat.le_refl _) _).alloc (by simp) _⟩
            have HBX : Aside0 (((wr.alloc (.cells #[.int .u8 v.f0, .int .i64 v.f1, .string v.f2] 27)).alloc (.cells #[.int .u8 v.f0, .int .i64 v.f1, .string v.f2] 27)).heap[wr.heap.size]? = some (.cells #[.int .u8 v.f0, .int .i64 v.f1, .string v.f2] 27 (0, 0))) := ⟨(Below.heap_alloc (wr.alloc (.cells #[.int .u8 v.f0, .int .i64 v.f1, .string v.f2] 27)) _ _ (by simp)).trans (heap_alloc_new _ _)⟩
            clear hkv1 hkv2
            go_wp2_with fail
            have hCV := one_CV (wr.alloc (.cells #[.int .u8 v.f0, .int .i64 v.f1, .string v.f2] 27)) v 27
            rw [show (wr.alloc (.cells #[.int .u8 v.f0, .int .i64 v.f1, .string v.f2] 27)).heap.size = wr.heap.size + 1 by simp] at hCV
            have hcall := name_calls (some ⟨wr.heap.size + 1, 0, none⟩) 1 [v] _ (HT.out.below HB2.out) hCV (by simp) HOKV.out.1 HOKV.out.2.1 HOKV.out.2.2
            clear hCV
            refine hcall.mono ?_
            clear hcall
            rintro e w4 ⟨rfl, hb4⟩
            have HBW4 := Aside0.mk (HBW.out.trans (hb4.mono HBW.out.size))
            have HB4 := Aside0.mk (HB2.out.trans (hb4.mono HB2.out.size))
            have hX4 := (hb4.block _ (blk_lt HBX.out)).trans HBX.out
            have HX4 := Aside0.mk hX4
            have HK4 := Aside0.mk (HK1.out.below HBW4.out)
            have HS4 := Aside0.mk ((HBW4.out.block g (blk_lt HS.out)).trans HS.out)
            have HQ4 := Aside0.mk ((HBW4.out.block q (blk_lt HQN.out)).trans HQN.out)
            have hc : Aside0 ((KV.get kv (nameOf [v])).getD false = decide (nameOf [v] ∈ seen)) := ⟨HK2.out _⟩
            clear hb4 HBX HBW HB2
            by_cases hz : nameOf [v] ∈ seen
            · rw [decide_eq_true hz] at hc
              have HZ := Aside0.mk hz
              clear hz hX4
              go_wp2_with (at_lookup; refine KV.law_lookup _ rfl _ _ 68 rfl 9 4 Tryd.underlying9 Tryd.underlying68 (.bool false) (zeroBool _) m Value.bool kv rfl HK4.out (nameOf [v]) rfl (.bool true) (get_bool hc.out) ?_)
              have hlt := HLT.out
              have hk := HX.out.2.2
              have hx0 := HX0.out
              cases gk with
              | zero => omega
              | succ k1 =>
                go_roundg k1
                case measure => omega
                case rel =>
                  have hd := HDV.out
                  rw [pickV, if_neg HSK.out, if_pos rfl, if_pos HZ.out] at hd
                  rw [← show (x + 1).toNat = x.toNat + 1 by omega] at hd
                  exact ⟨x + 1, seen, s, by rw [HWR.out], ⟨by omega⟩, ⟨kv, HK4.out, HK2.out⟩, HS4, HI, HQ4, ⟨hd⟩, HB4⟩
            · rw [decide_eq_false hz] at hc
              have HZ := Aside0.mk hz
              have HGD : Aside0 (G.good v) := ⟨by
                have hd := HDV.out.2
                rw [pickV, if_neg HSK.out, if_pos rfl, if_neg hz] at hd
                exact hd v List.mem_cons_self⟩
              have hmt := G.hmt
              have het := G.het
              clear hz hX4
              go_wp2_with (first
                | (at_lookup; refine KV.law_lookup _ rfl _ _ 68 rfl 9 4 Tryd.underlying9 Tryd.underlying68 (.bool false) (zeroBool _) m Value.bool kv rfl HK4.out (nameOf [v]) rfl (.bool false) (get_bool hc.out) ?_)
                | (at_mapUpdate; refine KV.law_update _ rfl _ _ _ 68 rfl 9 4 Tryd.underlying9 Tryd.underlying68 m Value.bool kv rfl HK4.out (nameOf [v]) rfl true rfl ?_; intro w6 hM6 hg6; have hX6 := (hg6.block _ (blk_lt HX4.out) (fun e => by have := HWB.out; injection e; omega)).trans HX4.out; have HM6 := Aside0.mk hM6; have HB6 := Aside0.mk (HB4.out.grown hg6 HB4.out.size (fun k hk => by cases hk; exact HMG.out.2.2)); have HS6 := Aside0.mk ((hg6.block g (blk_lt HS4.out) (fun e => HMG.out.1 (by injection e with e; exact e.symm))).trans HS4.out); have HQ6 := Aside0.mk ((hg6.block q (blk_lt HQ4.out) (fun e => HMG.out.2.1 (by injection e))).trans HQ4.out); have X0 : w6.cell? ⟨wr.heap.size, 0, none⟩ = some (.int .u8 v.f0) := (blk_cell hX6 0).trans rfl; have X1 : w6.cell? ⟨wr.heap.size, 1, none⟩ = some (.int .i64 v.f1) := (blk_cell hX6 1).trans rfl; have X2 : w6.cell? ⟨wr.heap.size, 2, none⟩ = some (.string v.f2) := (blk_cell hX6 2).trans rfl; clear hM6 hg6 hX6))
              refine (G.htake g s v _ HI.out HGD.out HS6.out).mono ?_
              rintro e w5 ⟨rfl, hcell, hgr⟩
              have HS5 := Aside0.mk hcell
              have HQ5 := Aside0.mk ((hgr.block q (blk_lt HQ6.out) (fun e => HNE.out (by injection e))).trans HQ6.out)
              have HM5 : Aside0 (KV.Is w5 m Value.bool (KV.put kv (nameOf [v]) true)) := ⟨KV.Is.grown HM6.out hgr (fun e => HMG.out.1 (by injection e))⟩
              have HB5 : Aside0 (Below w.heap.size w w5) := ⟨(HB6.out).grown hgr (HB6.out).size (fun k hk => by cases hk; exact HGE.out)⟩
              have HI5 := Aside0.mk (G.step_inv s v HI.out HGD.out)
              clear hcell hgr hmt het
              go_wp2
              have hlt := HLT.out
              have hk := HX.out.2.2
              have hx0 := HX0.out
              cases gk with
              | zero => omega
              | succ k1 =>
                go_roundg k1
                case measure => omega
                case rel =>
                  have hd := HDV.out
                  rw [pickV, if_neg HSK.out, if_pos rfl, if_neg HZ.out] at hd
                  rw [← show (x + 1).toNat = x.toNat + 1 by omega] at hd
                  exact ⟨x + 1, nameOf [v] :: seen, G.step s v, by rw [HWR.out], ⟨by omega⟩, ⟨(KV.put kv (nameOf [v]) true), HM5.out, seen_put HK2.out _⟩, HS5, HI5, HQ5, ⟨hd.1, fun u hu => hd.2 u (List.mem_cons_of_mem _ hu)⟩, HB5⟩
        · have z1 : (fn != 0) = true := by simpa using hf
          have z2 : (v.f0 == 0) = false := by
            have : v.f0 ≠ 0 := fun e => hsk ⟨hf, e⟩
            simpa using this
          have HSK := Aside0.mk hsk
          clear hsk hf
          cases d with
          | false =>
            have hmt := G.hmt
            have het := G.het
            obtain ⟨kv, hkv1, hkv2⟩ := HM.out
            have HK1 := Aside0.mk hkv1
            have HK2 := Aside0.mk hkv2
            have HGD : Aside0 (G.good v) := ⟨by
              have hd := HDV.out.2
              rw [pickV, if_neg HSK.out, if_neg (by simp)] at hd
              exact hd v List.mem_cons_self⟩
            clear hkv1 hkv2
            go_wp2_with fail
            refine (G.htake g s v _ HI.out HGD.out ((Below.heap_alloc wr _ g (blk_lt HS.out)).trans HS.out)).mono ?_
            rintro e w5 ⟨rfl, hcell, hgr⟩
            have HS5 := Aside0.mk hcell
            have HQ5 := Aside0.mk ((hgr.block q (blk_lt ((Below.heap_alloc wr _ q (blk_lt HQN.out)).trans HQN.out)) (fun e => HNE.out (by injection e))).trans ((Below.heap_alloc wr _ q (blk_lt HQN.out)).trans HQN.out))
            have HM5 : Aside0 (KV.Is w5 m Value.bool kv) := ⟨KV.Is.grown (HK1.out.below ((Below.refl _ wr).alloc (Nat.le_refl _) _)) hgr (fun e => HMG.out.1 (by injection e))⟩
            have HB5 : Aside0 (Below w.heap.size w w5) := ⟨((HB.out.alloc HB.out.size (.cells #[.int .u8 v.f0, .int .i64 v.f1, .string v.f2] 27))).grown hgr ((HB.out.alloc HB.out.size (.cells #[.int .u8 v.f0, .int .i64 v.f1, .string v.f2] 27))).size (fun k hk => by cases hk; exact HGE.out)⟩
            have HI5 := Aside0.mk (G.step_inv s v HI.out HGD.out)
            clear hcell hgr hmt het
            go_wp2
            have hlt := HLT.out
            have hk := HX.out.2.2
            have hx0 := HX0.out
            cases gk with
            | zero => omega
            | succ k1 =>
              go_roundg k1
              case measure => omega
              case rel =>
                have hd := HDV.out
                rw [pickV, if_neg HSK.out, if_neg (by simp)] at hd
                rw [← show (x + 1).toNat = x.toNat + 1 by omega] at hd
                exact ⟨x + 1, seen, G.step s v, by rw [HWR.out], ⟨by omega⟩, ⟨kv, HM5.out, HK2.out⟩, HS5, HI5, HQ5, ⟨hd.1, fun u hu => hd.2 u (List.mem_cons_of_mem _ hu)⟩, HB5⟩
          | true =>
            obtain ⟨kv, hkv1, hkv2⟩ := HM.out
            have HK1 := Aside0.mk hkv1
            have HK2 := Aside0.mk hkv2
            have HWB : Aside0 (m < wr.heap.size) := ⟨hkv1.lt⟩
            have HB2 : Aside0 (Below w.heap.size w ((wr.alloc (.cells #[.int .u8 v.f0, .int .i64 v.f1, .string v.f2] 27)).alloc (.cells #[.int .u8 v.f0, .int .i64 v.f1, .string v.f2] 27))) := ⟨(HB.out.alloc HB.out.size _).alloc (Nat.le_trans HB.out.size (by simp)) _⟩
            have HBW : Aside0 (Below wr.heap.size wr ((wr.alloc (.cells #[.int .u8 v.f0, .int .i64 v.f1, .string v.f2] 27)).alloc (.cells #[.int .u8 v.f0, .int .i64 v.f1, .string v.f2] 27))) := ⟨((Below.refl _ wr).alloc (Nat.le_refl _) _).alloc (by simp) _⟩
            have HBX : Aside0 (((wr.alloc (.cells #[.int .u8 v.f0, .int .i64 v.f1, .string v.f2] 27)).alloc (.cells #[.int .u8 v.f0, .int .i64 v.f1, .string v.f2] 27)).heap[wr.heap.size]? = some (.cells #[.int .u8 v.f0, .int .i64 v.f1, .string v.f2] 27 (0, 0))) := ⟨(Below.heap_alloc (wr.alloc (.cells #[.int .u8 v.f0, .int .i64 v.f1, .string v.f2] 27)) _ _ (by simp)).trans (heap_alloc_new _ _)⟩
            clear hkv1 hkv2
            go_wp2_with fail
            have hCV := one_CV (wr.alloc (.cells #[.int .u8 v.f0, .int .i64 v.f1, .string v.f2] 27)) v 27
            rw [show (wr.alloc (.cells #[.int .u8 v.f0, .int .i64 v.f1, .string v.f2] 27)).heap.size = wr.heap.size + 1 by simp] at hCV
            have hcall := name_calls (some ⟨wr.heap.size + 1, 0, none⟩) 1 [v] _ (HT.out.below HB2.out) hCV (by simp) HOKV.out.1 HOKV.out.2.1 HOKV.out.2.2
            clear hCV
            refine hcall.mono ?_
            clear hcall
            rintro e w4 ⟨rfl, hb4⟩
            have HBW4 := Aside0.mk (HBW.out.trans (hb4.mono HBW.out.size))
            have HB4 := Aside0.mk (HB2.out.trans (hb4.mono HB2.out.size))
            have hX4 := (hb4.block _ (blk_lt HBX.out)).trans HBX.out
            have HX4 := Aside0.mk hX4
            have HK4 := Aside0.mk (HK1.out.below HBW4.out)
            have HS4 := Aside0.mk ((HBW4.out.block g (blk_lt HS.out)).trans HS.out)
            have HQ4 := Aside0.mk ((HBW4.out.block q (blk_lt HQN.out)).trans HQN.out)
            have hc : Aside0 ((KV.get kv (nameOf [v])).getD false = decide (nameOf [v] ∈ seen)) := ⟨HK2.out _⟩
            clear hb4 HBX HBW HB2
            by_cases hz : nameOf [v] ∈ seen
            · rw [decide_eq_true hz] at hc
              have HZ := Aside0.mk hz
              clear hz hX4
              go_wp2_with (at_lookup; refine KV.law_lookup _ rfl _ _ 68 rfl 9 4 Tryd.underlying9 Tryd.underlying68 (.bool false) (zeroBool _) m Value.bool kv rfl HK4.out (nameOf [v]) rfl (.bool true) (get_bool hc.out) ?_)
              have hlt := HLT.out
              have hk := HX.out.2.2
              have hx0 := HX0.out
              cases gk with
              | zero => omega
              | succ k1 =>
                go_roundg k1
                case measure => omega
                case rel =>
                  have hd := HDV.out
                  rw [pickV, if_neg HSK.out, if_pos rfl, if_pos HZ.out] at hd
                  rw [← show (x + 1).toNat = x.toNat + 1 by omega] at hd
                  exact ⟨x + 1, seen, s, by rw [HWR.out], ⟨by omega⟩, ⟨kv, HK4.out, HK2.out⟩, HS4, HI, HQ4, ⟨hd⟩, HB4⟩
            · rw [decide_eq_false hz] at hc
              have HZ := Aside0.mk hz
              have HGD : Aside0 (G.good v) := ⟨by
                have hd := HDV.out.2
                rw [pickV, if_neg HSK.out, if_pos rfl, if_neg hz] at hd
                exact hd v List.mem_cons_self⟩
              have hmt := G.hmt
              have het := G.het
              clear hz hX4
              go_wp2_with (first
                | (at_lookup; refine KV.law_lookup _ rfl _ _ 68 rfl 9 4 Tryd.underlying9 Tryd.underlying68 (.bool false) (zeroBool _) m Value.bool kv rfl HK4.out (nameOf [v]) rfl (.bool false) (get_bool hc.out) ?_)
                | (at_mapUpdate; refine KV.law_update _ rfl _ _ _ 68 rfl 9 4 Tryd.underlying9 Tryd.underlying68 m Value.bool kv rfl HK4.out (nameOf [v]) rfl true rfl ?_; intro w6 hM6 hg6; have hX6 := (hg6.block _ (blk_lt HX4.out) (fun e => by have := HWB.out; injection e; omega)).trans HX4.out; have HM6 := Aside0.mk hM6; have HB6 := Aside0.mk (HB4.out.grown hg6 HB4.out.size (fun k hk => by cases hk; exact HMG.out.2.2)); have HS6 := Aside0.mk ((hg6.block g (blk_lt HS4.out) (fun e => HMG.out.1 (by injection e with e; exact e.symm))).trans HS4.out); have HQ6 := Aside0.mk ((hg6.block q (blk_lt HQ4.out) (fun e => HMG.out.2.1 (by injection e))).trans HQ4.out); have X0 : w6.cell? ⟨wr.heap.size, 0, none⟩ = some (.int .u8 v.f0) := (blk_cell hX6 0).trans rfl; have X1 : w6.cell? ⟨wr.heap.size, 1, none⟩ = some (.int .i64 v.f1) := (blk_cell hX6 1).trans rfl; have X2 : w6.cell? ⟨wr.heap.size, 2, none⟩ = some (.string v.f2) := (blk_cell hX6 2).trans rfl; clear hM6 hg6 hX6))
              refine (G.htake g s v _ HI.out HGD.out HS6.out).mono ?_
              rintro e w5 ⟨rfl, hcell, hgr⟩
              have HS5 := Aside0.mk hcell
              have HQ5 := Aside0.mk ((hgr.block q (blk_lt HQ6.out) (fun e => HNE.out (by injection e))).trans HQ6.out)
              have HM5 : Aside0 (KV.Is w5 m Value.bool (KV.put kv (nameOf [v]) true)) := ⟨KV.Is.grown HM6.out hgr (fun e => HMG.out.1 (by injection e))⟩
              have HB5 : Aside0 (Below w.heap.size w w5) := ⟨(HB6.out).grown hgr (HB6.out).size (fun k hk => by cases hk; exact HGE.out)⟩
              have HI5 := Aside0.mk (G.step_inv s v HI.out HGD.out)
              clear hcell hgr hmt het
              go_wp2
              have hlt := HLT.out
              have hk := HX.out.2.2
              have hx0 := HX0.out
              cases gk with
              | zero => omega
              | succ k1 =>
                go_roundg k1
                case measure => omega
                case rel =>
                  have hd := HDV.out
                  rw [pickV, if_neg HSK.out, if_pos rfl, if_neg HZ.out] at hd
                  rw [← show (x + 1).toNat = x.toNat + 1 by omega] at hd
                  exact ⟨x + 1, nameOf [v] :: seen, G.step s v, by rw [HWR.out], ⟨by omega⟩, ⟨(KV.put kv (nameOf [v]) true), HM5.out, seen_put HK2.out _⟩, HS5, HI5, HQ5, ⟨hd.1, fun u hu => hd.2 u (List.mem_cons_of_mem _ hu)⟩, HB5⟩
    · have c1 : decide (x < (l.length : Int)) = false := decide_eq_false hlt
      have hd := HD.out.1
      rw [List.drop_eq_nil_of_le (by omega), pickV, List.foldl_nil] at hd
      subst hd
      have hmd := G.hmd
      have hed := G.hed
      clear hlt hx0 hx1 hkq
      go_wp2_with fail
      refine (G.hdone g _ wr HI.out HS.out).mono ?_
      rintro e w3 ⟨rfl, hb3⟩
      have hN3 := (hb3.block q (blk_lt HQN.out)).trans HQN.out
      have HN3 := Aside0.mk hN3
      have HB3 := Aside0.mk (HB.out.trans (hb3.mono HB.out.size))
      have G0 : w3.cell? ⟨q, 0, none⟩ = some (.int .u8 0) := (blk_cell hN3 0).trans rfl
      have G1 : w3.cell? ⟨q, 1, none⟩ = some (.int .i64 0) := (blk_cell hN3 1).trans rfl
      have G2 : w3.cell? ⟨q, 2, none⟩ = some (.string ⟨#[]⟩) := (blk_cell hN3 2).trans rfl
      have G3 : w3.cell? ⟨q, 3, none⟩ = some (.int .i64 0) := (blk_cell hN3 3).trans rfl
      have F4 : ∀ j, w3.frozen? ⟨q, j, none⟩ = false := fun j => by simp [World.frozen?, hN3]
      clear hb3 hN3 hmd hed
      go_wp2
      refine bodyPost_ret (results_cell_row rfl _ _ q 31 _ (0, 0) _ rfl (out_cells HN3.out _ _ _ _) Tryd.underlying31 rfl (by kernel_rfl)) rfl ?_
      exact ⟨rfl, out_below HB3.out HQ.out _ _ _ _⟩
end Go.Proofs.YtecgkcgfeghhgaaDoor.PAll
namespace Go.Proofs.YtecgkcgfeghhgaaDoor.PAll
open Go.RowKit Go.Proofs.YtecgkcgfeghhgaaDoorW.PrintWords Go.Proofs.YtecgkcgfeghhgaaDoorW.PrintLast Go.Proofs.YtecgkcgfeghhgaaDoorW.PrintMore
attribute [local go_sem] max2_int min2_int max_two min_two max_three min_three max_four min_four
set_option linter.unusedVariables false
set_option linter.unusedSimpArgs false
def bag_columnOf.l0 : Nat → Int → List (S27) → List (List (S27)) → Int → Int → Option ((List (S27)))
 | 0, _, _, _, _, _ => none
 | k + 1, x1, x5, x11, x12, x13 => if x13 < x12 then (if 0 ≤ x13 then (if x13 < (x11.length : Int) then (if x1 < ((rd_L4 x11 x13).length : Int) then (if 0 ≤ x1 then (if x13 < (x5.length : Int) then (bag_columnOf.l0 k x1 (x5.set (x13 : Int).toNat (⟨(rd_T27 (rd_L4 x11 x13) x1).f0, (rd_T27 (rd_L4 x11 x13) x1).f1, (rd_T27 (rd_L4 x11 x13) x1).f2⟩ : S27)) x11 x12 (wrap64 (x13 + 1))) else (none)) else (none)) else (bag_columnOf.l0 k x1 x5 x11 x12 (wrap64 (x13 + 1)))) else (none)) else (none)) else (some x5)
def bag_columnOf.f (k : Nat) (l0 : List (List (S27))) (a1 : Int) : Option ((List (S27))) := if 0 ≤ (l0.length : Int) then (if ((l0.length : Int) : Int).toNat ≤ 8796093022208 then (bag_columnOf.l0 k a1 (List.replicate ((l0.length : Int) : Int).toNat z27) l0 (l0.length : Int) 0) else (none)) else (none)
theorem bag_columnOf.mono_l : ∀ k, (∀ y0 y1 y2 y3 y4, LeO (bag_columnOf.l0 k y0 y1 y2 y3 y4) (bag_columnOf.l0 (k + 1) y0 y1 y2 y3 y4))
 | 0 => fun _ _ _ _ _ r h => by simp [bag_columnOf.l0] at h
 | k + 1 => by
  have ih0 := bag_columnOf.mono_l k
  · intro y0 y1 y2 y3 y4
    unfold bag_columnOf.l0
    repeat' first
    | (with_reducible exact ih0 _ _ _ _ _)
    | (with_reducible exact LeO.refl _)
    | (with_reducible exact LeO.none _)
    | (with_reducible refine LeO.ite ?_ ?_)
    | (with_reducible refine LeO.bind ?_ (fun _ => ?_))
    | exact ih0 _ _ _ _ _
    | exact LeO.none _
    | refine LeO.ite ?_ ?_
    | refine LeO.bind ?_ (fun _ => ?_)
theorem bag_columnOf.mono : ∀ a0 a1 k, LeO (bag_columnOf.f k a0 a1) (bag_columnOf.f (k + 1) a0 a1) := by
 intro a0 a1 k
 have ih0 := bag_columnOf.mono_l k
 unfold bag_columnOf.f
 repeat' first
  | (with_reducible exact ih0 _ _ _ _ _)
  | (with_reducible exact LeO.refl _)
  | (with_reducible exact LeO.none _)
  | (with_reducible refine LeO.ite ?_ ?_)
  | (with_reducible refine LeO.bind ?_ (fun _ => ?_))
  | exact ih0 _ _ _ _ _
  | exact LeO.none _
  | refine LeO.ite ?_ ?_
  | refine LeO.bind ?_ (fun _ => ?_)
set_option maxHeartbeats 8000000 in
set_option maxRecDepth 100000 in
theorem bag_columnOf.calls (k : Nat) (A0 : Option Addr) (c0 : Nat) (l0 : List (List (S27))) (a1 : Int) (r : List (S27)) (w : World) (hr0 : Kd.C (Kd.slice 27 k27) w A0 l0.length l0) (hc0 : l0.length ≤ c0) (h : bag_columnOf.f k l0 a1 = some r) :
 Calls Tryd.prog 31 #[.slice A0 l0.length c0, .int .i64 a1] w fun e w' => ∃ v0_ : Value, e = .returned (v0_) ∧ Kd.R k27 27 w' w.heap.size (fun _ => True) v0_ r ∧ Below w.heap.size w w' := by
 have hu27 := Tryd.underlying27
 have HR0 := Aside0.mk hr0
 have HC0 := Aside0.mk hc0
 clear hr0 hc0
 have HB := Aside0.mk (Below.refl w.heap.size w)
 have H : (if 0 ≤ (l0.length : Int) then (if ((l0.length : Int) : Int).toNat ≤ 8796093022208 then (bag_columnOf.l0 k a1 (List.replicate ((l0.length : Int) : Int).toNat z27) l0 (l0.length : Int) 0) else (none)) else (none)) = some r := h
 clear h
 by_cases c3 : 0 ≤ (l0.length : Int)
 · rw [if_pos c3] at H
   have c3b0 := eq_true c3
   have c3b1 : decide (0 ≤ (l0.length : Int)) = true := decide_eq_true c3
   clear c3
   by_cases c4 : ((l0.length : Int) : Int).toNat ≤ 8796093022208
   · rw [if_pos c4] at H
     have c4b0 := eq_true c4
     have c4b1 : decide (((l0.length : Int) : Int).toNat ≤ 8796093022208) = true := decide_eq_true c4
     clear c4
     obtain ⟨y116, hy116⟩ : ∃ y_ : List (S27), y_ = (List.replicate ((l0.length : Int) : Int).toNat z27) := ⟨_, rfl⟩
     replace H : (bag_columnOf.l0 k a1 y116 l0 (l0.length : Int) 0) = some r := by first | (rw [hy116]; with_reducible exact H) | (have H2_ := (Option.bind_some _ _).symm.trans H; rw [hy116]; with_reducible exact H2_) | (have H2_ := (Option.bind_some _ _).symm.trans H; with_reducible exact H2_) | with_reducible exact H | (rw [hy116]; exact H) | exact H
     have Ny116 := Aside0.mk hy116
     clear hy116
     have H' := Aside0.mk H
     clear H
     go_enter Tryd.func31, Tryd.ntmps31
     go_wp2_with (first | ((with_reducible refine gate_dst (N := 10) rfl ?_); refine Kd.R_make k27 _ 27 rfl (N := 10) rfl 24 _ _ rfl (l0.length : Int) rfl rfl Tryd.underlying24 (.agg #[(.int .u8 0), (.int .i64 0), (.string ⟨#[]⟩)]) 32 info27 rfl (by decide) (by omega) z27 (ok := fun _ => True) (okp := fun _ => True) (k27_mkM _ _ _ z27 ) (fun _ hk => hk) trivial (of_decide_eq_true (by first | (with_reducible assumption) | assumption)) (Nat.le_trans (Nat.mul_le_mul_right _ (of_decide_eq_true (by first | (with_reducible assumption) | assumption) : (l0.length : Int).toNat ≤ 8796093022208)) (by omega)) (Below.refl _ _) (Nat.le_refl _) ?_; intro v117 w5 ho6 hb hg_ hnew_; clear hg_ hnew_; (first | rw [← Ny116.out] at ho6 | (simp only [Int.reduceToNat] at ho6; rw [← Ny116.out] at ho6)); have n0_ := Aside0.mk (Kd.R_lower ho6 (below_size (by repeat (first | (with_reducible first | exact HB.out | apply below_alloc | apply pw_below_drewN | apply below_drew1) | exact HB.out)))); have n1_ := Aside0.mk (below_step (by repeat (first | (with_reducible first | exact HB.out | apply below_alloc | apply pw_below_drewN | apply below_drew1) | exact HB.out)) hb); clear HB; have HO118 := n0_; have HB := n1_; clear n0_ n1_; clear hb ho6))
     go_loopg [13] k (fun kq v13 w' => ∃ (x5_1 : List (S27)) (x13_1 : Int), v13 = .int .i64 x13_1 ∧ Aside0 (bag_columnOf.l0 kq a1 x5_1 l0 (l0.length : Int) x13_1 = some r) ∧ Aside0 (kq ≤ k) ∧ Aside0 (Kd.R k27 27 w' w.heap.size (fun _ => True) v117 x5_1) ∧ Aside0 (Below w.heap.size w w'))
     case atStart => exact ⟨(y116), (0), (by first | rfl | (simp; done) | (simp [*]; done)), H', ⟨Nat.le_refl _⟩, ⟨by (with_reducible repeat (first | apply Kd.R_alloc | apply Kd.R_drewN | apply Kd.R_drew)); exact HO118.out⟩, ⟨by repeat (first | (with_reducible first | exact HB.out | apply below_alloc | apply pw_below_drewN | apply below_drew1) | exact HB.out)⟩⟩
     case round =>
      clear H'
      try clear p2
      try clear c3
      try clear c3b0
      try clear c3b1
      try clear c4
      try clear c4b0
      try clear c4b1
      obtain ⟨x5_1, x13_1, rfl, HA, HK1, HO_5, HB⟩ := hrel
      cases gk with
      | zero => exact absurd HA.out (by simp [bag_columnOf.l0])
      | succ k1 =>
       have H := HA.out
       clear HA
       simp only [bag_columnOf.l0] at H
       by_cases c7 : x13_1 < (l0.length : Int)
       · rw [if_pos c7] at H
         have c7b0 : decide (x13_1 < (l0.length : Int)) = true := decide_eq_true c7
         clear c7
         by_cases c8 : 0 ≤ x13_1
         · rw [if_pos c8] at H
           have c8b0 : decide (0 ≤ x13_1) = true := decide_eq_true c8
           clear c8
           by_cases c9 : x13_1 < (l0.length : Int)
           · rw [if_pos c9] at H
             have c9b0 : decide (x13_1 < (l0.length : Int)) = true := decide_eq_true c9
             clear c9
             by_cases c10 : a1 < ((rd_L4 l0 x13_1).length : Int)
             · rw [if_pos c10] at H
               have c10b0 : decide (a1 < ((rd_L4 l0 x13_1).length : Int)) = true := decide_eq_true c10
               clear c10
               by_cases c11 : 0 ≤ a1
               · rw [if_pos c11] at H
                 have c11b0 : decide (0 ≤ a1) = true := decide_eq_true c11
                 clear c11
                 by_cases c12 : x13_1 < (x5_1.length : Int)
                 · rw [if_pos c12] at H
                   have c12b0 : decide (x13_1 < (x5_1.length : Int)) = true := decide_eq_true c12
                   clear c12
                   obtain ⟨y121, hy121⟩ : ∃ y_ : List (S27), y_ = (x5_1.set (x13_1 : Int).toNat (⟨(rd_T27 (rd_L4 l0 x13_1) a1).f0, (rd_T27 (rd_L4 l0 x13_1) a1).f1, (rd_T27 (rd_L4 l0 x13_1) a1).f2⟩ : S27)) := ⟨_, rfl⟩
                   replace H : (bag_columnOf.l0 k1 a1 y121 l0 (l0.length : Int) (wrap64 (x13_1 + 1))) = some r := by first | (rw [hy121]; with_reducible exact H) | (have H2_ := (Option.bind_some _ _).symm.trans H; rw [hy121]; with_reducible exact H2_) | (have H2_ := (Option.bind_some _ _).symm.trans H; with_reducible exact H2_) | with_reducible exact H | (rw [hy121]; exact H) | exact H
                   have Ny121 := Aside0.mk hy121
                   clear hy121
                   have H' := Aside0.mk H
                   clear H
                   have p119 : 0 ≤ (x13_1 : Int) := of_decide_eq_true (by first | (with_reducible assumption) | assumption)
                   have q119 : x13_1 < (l0.length : Int) := of_decide_eq_true (by first | (with_reducible assumption) | assumption)
                   obtain ⟨ad119, A119_0, c119_0, e119, hx119_0, hl119_0, hi119_0⟩ := at_L4 HR0.out x13_1 p119 q119
                   cases e119
                   replace hx119_0 := (HB.out.cell (World.block_lt_of_cell? w _ hx119_0)).trans hx119_0
                   have HR119_0 := Aside0.mk hi119_0
                   have HC119_0 := Aside0.mk hl119_0
                   clear hi119_0 hl119_0
                   replace p119 := eq_true p119
                   replace q119 := eq_true q119
                   have p120 : 0 ≤ (a1 : Int) := of_decide_eq_true (by first | (with_reducible assumption) | assumption)
                   have q120 : a1 < ((rd_L4 l0 x13_1).length : Int) := of_decide_eq_true (by first | (with_reducible assumption) | assumption)
                   obtain ⟨ad120, e120, hx120_0, hx120_1, hx120_2⟩ := at_T27 HR119_0.out a1 p120 q120
                   cases e120
                   replace hx120_0 := (HB.out.cell (World.block_lt_of_cell? w _ hx120_0)).trans hx120_0
                   replace hx120_1 := (HB.out.cell (World.block_lt_of_cell? w _ hx120_1)).trans hx120_1
                   replace hx120_2 := (HB.out.cell (World.block_lt_of_cell? w _ hx120_2)).trans hx120_2
                   replace p120 := eq_true p120
                   replace q120 := eq_true q120
                   have p13 : 0 ≤ (x13_1 : Int) := of_decide_eq_true (by first | (with_reducible assumption) | assumption)
                   have q13 : (x13_1 : Int) < ((x5_1.length : Int) : Int) := of_decide_eq_true (by first | (with_reducible assumption) | assumption)
                   obtain ⟨go13, co13, eo13, gb13, gl13, cl13, HG13⟩ := Kd.R_form HO_5.out (by omega)
                   (first | cases eo13 | (injection eo13 with ea_ en_ ec_; (first | subst ea_ | (injection ea_ with ea_; subst ea_)); subst ec_; clear en_))
                   have GB13 := Aside0.mk gb13
                   have GG13 := Aside0.mk HG13
                   clear gb13 gl13 HG13
                   obtain ⟨ce13, hcl13, hM13, hcc13, hfr13⟩ := Kd.R_elem HO_5.out z27 (x13_1 : Int) p13 q13
                   obtain rfl := k27_openM hM13
                   have hx13_0 : wr.cell? ⟨go13, (x13_1 : Int).toNat * 3, none⟩ = some (.int .u8 ((rd_T27 x5_1 x13_1).f0)) := hcc13 0 _ rfl
                   have hx13_1 : wr.cell? ⟨go13, (x13_1 : Int).toNat * 3 + 1, none⟩ = some (.int .i64 ((rd_T27 x5_1 x13_1).f1)) := hcc13 1 _ rfl
                   have hx13_2 : wr.cell? ⟨go13, (x13_1 : Int).toNat * 3 + 2, none⟩ = some (.string ((rd_T27 x5_1 x13_1).f2)) := hcc13 2 _ rfl
                   have hf13_0 : wr.frozen? ⟨go13, (x13_1 : Int).toNat * 3, none⟩ = false := hfr13 0
                   have hf13_1 : wr.frozen? ⟨go13, (x13_1 : Int).toNat * 3 + 1, none⟩ = false := hfr13 1
                   have hf13_2 : wr.frozen? ⟨go13, (x13_1 : Int).toNat * 3 + 2, none⟩ = false := hfr13 2
                   clear hcl13 hcc13 hfr13 hM13
                   replace p13 := eq_true p13
                   replace q13 := eq_true q13
                   have HX14 := Aside0.mk (show Kd.R k27 27 wr w.heap.size (fun _ => True) (.slice (some ⟨go13, 0, none⟩) x5_1.length co13) x5_1 from (by (with_reducible repeat (first | apply Kd.R_alloc | apply Kd.R_drewN | apply Kd.R_drew)); exact HO_5.out))
                   obtain ⟨ce14, hcl14, hM14, hcc14, hfr14⟩ := Kd.R_elem HX14.out z27 (x13_1 : Int) (of_decide_eq_true (by first | (with_reducible assumption) | assumption)) (by have h_ : (x13_1 : Int) < ((x5_1.length : Int) : Int) := of_decide_eq_true (by first | (with_reducible assumption) | assumption); first | exact h_ | (have e_ := (Kd.R_reads' HO_5.out).1; omega) | simpa using h_)
                   obtain rfl := k27_openM hM14
                   have HP14 := Kd.R_seg HX14.out (x13_1 : Int) (of_decide_eq_true (by first | (with_reducible assumption) | assumption)) (by have h_ : (x13_1 : Int) < ((x5_1.length : Int) : Int) := of_decide_eq_true (by first | (with_reducible assumption) | assumption); first | exact h_ | (have e_ := (Kd.R_reads' HO_5.out).1; omega) | simpa using h_) (seg := [.int .u8 ((rd_T27 (rd_L4 l0 x13_1) a1).f0), .int .i64 ((rd_T27 (rd_L4 l0 x13_1) a1).f1), .string ((rd_T27 (rd_L4 l0 x13_1) a1).f2)]) (j := 0) hcl14 hcc14 (show 3 ≤ 3 from by decide) (x' := (⟨(rd_T27 (rd_L4 l0 x13_1) a1).f0, (rd_T27 (rd_L4 l0 x13_1) a1).f1, (rd_T27 (rd_L4 l0 x13_1) a1).f2⟩ : S27)) (k27_mkM _ _ _ (⟨(rd_T27 (rd_L4 l0 x13_1) a1).f0, (rd_T27 (rd_L4 l0 x13_1) a1).f1, (rd_T27 (rd_L4 l0 x13_1) a1).f2⟩ : S27) ) (fun _ hk => hk)
                   have hx14_0 := hcc14 0 _ rfl
                   (try simp only [show (k27).sz = 3 from rfl, Nat.mul_one, Nat.add_zero] at hx14_0)
                   have hf14_0 := hfr14 0
                   (try simp only [show (k27).sz = 3 from rfl, Nat.mul_one, Nat.add_zero] at hf14_0)
                   have hx14_1 := hcc14 1 _ rfl
                   (try simp only [show (k27).sz = 3 from rfl, Nat.mul_one, Nat.add_zero] at hx14_1)
                   have hf14_1 := hfr14 1
                   (try simp only [show (k27).sz = 3 from rfl, Nat.mul_one, Nat.add_zero] at hf14_1)
                   have hx14_2 := hcc14 2 _ rfl
                   (try simp only [show (k27).sz = 3 from rfl, Nat.mul_one, Nat.add_zero] at hx14_2)
                   have hf14_2 := hfr14 2
                   (try simp only [show (k27).sz = 3 from rfl, Nat.mul_one, Nat.add_zero] at hf14_2)
                   clear hcl14 hcc14 hfr14 hM14
                   go_wp2_with (first | ((with_reducible refine gate_store (t := 27) (p := 28) rfl ?_); refine store_event (t := 27) (p := 28) (v := ?vo_w15) (w1 := (((wr.setCell ⟨go13, (x13_1 : Int).toNat * 3, none⟩ (.int .u8 ((rd_T27 (rd_L4 l0 x13_1) a1).f0))).setCell ⟨go13, (x13_1 : Int).toNat * 3 + 1, none⟩ (.int .i64 ((rd_T27 (rd_L4 l0 x13_1) a1).f1))).setCell ⟨go13, (x13_1 : Int).toNat * 3 + 2, none⟩ (.string ((rd_T27 (rd_L4 l0 x13_1) a1).f2)))) ?hg ?ho ?hn ?hr ?_; (case ho => rfl); (case hg => rfl); (case hn => rfl); (case hr => first | (go_simp; done) | (go_simp; rfl)); intro w15 hw; have hg : wr.grownBy w15 (some go13) := (by rw [hw]; exact HP14.2); have hp_ : Kd.R k27 27 w15 w.heap.size (fun _ => True) (.slice (some ⟨go13, 0, none⟩) x5_1.length co13) y121 := (by rw [hw, Ny121.out]; exact HP14.1); clear HP14; have n0_ := Aside0.mk (hp_); have n1_ := Aside0.mk ((by rw [hw]; exact below_set (below_set (below_set (HB.out) GB13.out) GB13.out) GB13.out : Below w.heap.size w w15)); clear HO_5; clear HB; have HO_5 := n0_; have HB := n1_; clear n0_ n1_; clear hg hw hp_))
                   go_roundg k1
                   case measure => have := HK1.out; omega
                   case rel => exact ⟨(y121), (wrap64 (x13_1 + 1)), (by first | rfl | (simp; done) | (simp [*]; done)), H', ⟨by have := HK1.out; omega⟩, ⟨by (with_reducible repeat (first | apply Kd.R_alloc | apply Kd.R_drewN | apply Kd.R_drew)); exact HO_5.out⟩, ⟨by repeat (first | (with_reducible first | exact HB.out | apply below_alloc | apply pw_below_drewN | apply below_drew1) | exact HB.out)⟩⟩
                 · rw [if_neg c12] at H
                   exact absurd H (by simp)
               · rw [if_neg c11] at H
                 exact absurd H (by simp)
             · rw [if_neg c10] at H
               have c10b0 : decide (a1 < ((rd_L4 l0 x13_1).length : Int)) = false := decide_eq_false c10
               clear c10
               have H' := Aside0.mk H
               clear H
               have p119 : 0 ≤ (x13_1 : Int) := of_decide_eq_true (by first | (with_reducible assumption) | assumption)
               have q119 : x13_1 < (l0.length : Int) := of_decide_eq_true (by first | (with_reducible assumption) | assumption)
               obtain ⟨ad119, A119_0, c119_0, e119, hx119_0, hl119_0, hi119_0⟩ := at_L4 HR0.out x13_1 p119 q119
               cases e119
               replace hx119_0 := (HB.out.cell (World.block_lt_of_cell? w _ hx119_0)).trans hx119_0
               have HR119_0 := Aside0.mk hi119_0
               have HC119_0 := Aside0.mk hl119_0
               clear hi119_0 hl119_0
               replace p119 := eq_true p119
               replace q119 := eq_true q119
               go_wp2
               go_roundg k1
               case measure => have := HK1.out; omega
               case rel => exact ⟨(x5_1), (wrap64 (x13_1 + 1)), (by first | rfl | (simp; done) | (simp [*]; done)), H', ⟨by have := HK1.out; omega⟩, ⟨by (with_reducible repeat (first | apply Kd.R_alloc | apply Kd.R_drewN | apply Kd.R_drew)); exact HO_5.out⟩, ⟨by repeat (first | (with_reducible first | exact HB.out | apply below_alloc | apply pw_below_drewN | apply below_drew1) | exact HB.out)⟩⟩
           · rw [if_neg c9] at H
             exact absurd H (by simp)
         · rw [if_neg c8] at H
           exact absurd H (by simp)
       · rw [if_neg c7] at H
         have c7b0 : decide (x13_1 < (l0.length : Int)) = false := decide_eq_false c7
         clear c7
         obtain rfl := Option.some.inj H
         go_wp2
         go_ret
         exact ⟨_, by first | rfl | (simp [errW_none, errW_some] <;> rfl) | (simp [*, errW_none, errW_some] <;> rfl), by (with_reducible repeat (first | apply Kd.R_alloc | apply Kd.R_drewN | apply Kd.R_drew)); exact HO_5.out, by repeat (first | (with_reducible first | exact HB.out | apply below_alloc | apply pw_below_drewN | apply below_drew1) | exact HB.out)⟩
   · rw [if_neg c4] at H
     exact absurd H (by simp)
 · rw [if_neg c3] at H
   exact absurd H (by simp)
end Go.Proofs.YtecgkcgfeghhgaaDoor.PAll
set_option linter.unusedVariables false
set_option linter.unusedSimpArgs false
namespace Go.Proofs.YtecgkcgfeghhgaaDoor.PAll
open Go.RowKit Go.Proofs.YtecgkcgfeghhgaaDoorW.PrintWords Go.Proofs.YtecgkcgfeghhgaaDoorW.PrintLast Go.Proofs.YtecgkcgfeghhgaaDoorW.PrintMore
def columnR (l : List (List V)) (n : Int) : List V := l.map (fun r => rd_T27 r n)
theorem columnOf_l0 (l : List (List V)) (n : Int) (h0 : 0 ≤ n) (hn : l.length ≤ 1099511627776) : ∀ (d i : Nat) (xs : List V), i + d = l.length → xs = (l.take i).map (fun r => rd_T27 r n) ++ List.replicate d z27 →
    Ev (fun k => bag_columnOf.l0 k n xs l (l.length : Int) (i : Int)) (columnR l n) := by
  intro d
  induction d with
  | zero =>
    intro i xs hi hx
    refine Ev.step (f := fun _ => some (columnR l n)) (fun k => ?_) (Ev.now _)
    simp only [bag_columnOf.l0]
    rw [if_neg (by omega), hx, List.take_of_length_le (by omega)]
    simp [columnR]
  | succ d ih =>
    intro i xs hi hx
    have hlt : i < l.length := by omega
    have hxl : xs.length = l.length := by rw [hx]; simp; omega
    have hset : xs.set i (rd_T27 l[i] n) = (l.take (i + 1)).map (fun r => rd_T27 r n) ++ List.replicate d z27 := by
      rw [hx, List.replicate_succ, take_snoc _ _ hlt, List.set_append_right _ _ (by simp; omega)]
      simp only [List.length_map, List.length_take, Nat.min_eq_left (Nat.le_of_lt hlt), Nat.sub_self, List.set_cons_zero, List.map_append]
      simp
    by_cases c : n < (l[i].length : Int)
    · refine Ev.step (f := fun k => bag_columnOf.l0 k n (xs.set i (rd_T27 l[i] n)) l (l.length : Int) ((i + 1 : Nat) : Int)) (fun k => ?_) (ih (i + 1) _ (by omega) hset)
      simp only [bag_columnOf.l0]
      rw [if_pos (by omega), if_pos (by omega), if_pos (by omega), rdL_at hlt, if_pos c, if_pos h0, if_pos (by omega), w64 _ (by omega) (by omega), Int.toNat_natCast]
      rfl
    · have hz : rd_T27 l[i] n = z27 := by
        unfold rd_T27
        rw [List.getD_eq_getElem?_getD, List.getElem?_eq_none (by omega)]
        rfl
      have hsame : xs.set i (rd_T27 l[i] n) = xs := by
        rw [hz, hx, List.replicate_succ, List.set_append_right _ _ (by simp; omega)]
        simp [Nat.min_eq_left (Nat.le_of_lt hlt)]
      refine Ev.step (f := fun k => bag_columnOf.l0 k n xs l (l.length : Int) ((i + 1 : Nat) : Int)) (fun k => ?_) (ih (i + 1) _ (by omega) (by rw [← hset, hsame]))
      simp only [bag_columnOf.l0]
      rw [if_pos (by omega), if_pos (by omega), if_pos (by omega), rdL_at hlt, if_neg c, w64 _ (by omega) (by omega)]
      rfl
theorem columnOf_ev (l : List (List V)) (n : Int) (h0 : 0 ≤ n) (hn : l.length ≤ 1099511627776) : Ev (fun k => bag_columnOf.f k l n) (columnR l n) := by
  refine Ev.congr (f := fun k => bag_columnOf.l0 k n (List.replicate l.length z27) l (l.length : Int) ((0 : Nat) : Int)) (fun k => ?_) (columnOf_l0 l n h0 hn l.length 0 _ (by omega) (by simp))
  unfold bag_columnOf.f
  rw [if_pos (by omega), Int.toNat_natCast, if_pos (by omega)]
  rfl
def kindFrom : Int → List V → Option Int
  | k, [] => some k
  | k, v :: vs => if validV v = true ∧ (k = 0 ∨ v.f0 = 0 ∨ v.f0 = k) then kindFrom (if v.f0 = 0 then k else v.f0) vs else none
def allowedB (fn : Int) (d : Bool) (vs : List V) : Bool :=
  if fn > 5 ∨ fn = 0 ∧ d = true then false else match kindFrom 0 vs with
    | none => false
    | some k => decide (k = 0 ∨ k = 1 ∨ fn ≠ 2 ∧ fn ≠ 5)
theorem allowed_l0 (fn : Int) (vs : List V) (hv : ∀ v ∈ vs, VOk v) (hn : vs.length ≤ 1099511627776) : ∀ (d i : Nat) (k0 : Int), i + d = vs.length →
    Ev (fun k => bag_allowed.l0 k fn k0 vs (vs.length : Int) (i : Int)) (match kindFrom k0 (vs.drop i) with
    | none => false
    | some k => decide (k = 0 ∨ k = 1 ∨ fn ≠ 2 ∧ fn ≠ 5)) := by
  intro d
  induction d with
  | zero =>
    intro i k0 hi
    rw [List.drop_eq_nil_of_le (by omega)]
    refine Ev.step (f := fun _ => some (decide (k0 = 0 ∨ k0 = 1 ∨ fn ≠ 2 ∧ fn ≠ 5))) (fun k => ?_) (Ev.now _)
    simp only [bag_allowed.l0]
    rw [if_neg (by omega)]
    by_cases c0 : k0 = 0
    · simp [c0]
    · by_cases c1 : k0 = 1
      · simp [c1]
      · by_cases c2 : fn = 2
        · simp [c0, c1, c2]
        · by_cases c3 : fn = 5 <;> simp [c0, c1, c2, c3]
  | succ d ih =>
    intro i k0 hi
    have hlt : i < vs.length := by omega
    rw [drop_cons vs i hlt]
    have hvv := valid_value vs[i] (hv _ (List.getElem_mem hlt))
    have one : ∀ k, bag_allowed.l0 (k + 1) fn k0 vs (vs.length : Int) (i : Int) = if validV vs[i] = true then (if k0 = 0 then bag_allowed.j2 k fn k0 vs (vs.length : Int) (i : Int) false vs[i].f0 vs[i].f1 vs[i].f2 else if vs[i].f0 = 0 then bag_allowed.j2 k fn k0 vs (vs.length : Int) (i : Int) false vs[i].f0 vs[i].f1 vs[i].f2 else bag_allowed.j2 k fn k0 vs (vs.length : Int) (i : Int) (vs[i].f0 != k0) vs[i].f0 vs[i].f1 vs[i].f2) else bag_allowed.j2 k fn k0 vs (vs.length : Int) (i : Int) true vs[i].f0 vs[i].f1 vs[i].f2 := fun k => by
      simp only [bag_allowed.l0]
      rw [if_pos (by omega), if_pos (by omega), if_pos (by omega), rdV_at hlt, hvv]
      simp only [Option.bind_some]
    have bad : Ev (fun k => bag_allowed.j2 k fn k0 vs (vs.length : Int) (i : Int) true vs[i].f0 vs[i].f1 vs[i].f2) false :=
      Ev.step (f := fun _ => some false) (fun k => by simp [bag_allowed.j2]) (Ev.now _)
    have good : ∀ b, Ev (fun k => bag_allowed.l0 k fn (if vs[i].f0 = 0 then k0 else vs[i].f0) vs (vs.length : Int) ((i + 1 : Nat) : Int)) b → Ev (fun k => bag_allowed.j2 k fn k0 vs (vs.length : Int) (i : Int) false vs[i].f0 vs[i].f1 vs[i].f2) b := fun b hb =>
      Ev.step (fun k => by
        simp only [bag_allowed.j2]
        rw [if_neg (by simp), w64 _ (by omega) (by omega)]
        by_cases c : vs[i].f0 = 0
        · rw [if_pos c, if_pos c]; rfl
        · rw [if_neg c, if_neg c]; rfl) hb
    simp only [kindFrom]
    by_cases c0 : validV vs[i] = true
    · by_cases c1 : k0 = 0 ∨ vs[i].f0 = 0 ∨ vs[i].f0 = k0
      · rw [if_pos ⟨c0, c1⟩]
        refine Ev.step (f := fun k => bag_allowed.j2 k fn k0 vs (vs.length : Int) (i : Int) false vs[i].f0 vs[i].f1 vs[i].f2) (fun k => ?_) (good _ (ih (i + 1) _ (by omega)))
        rw [one, if_pos c0]
        by_cases d1 : k0 = 0
        · rw [if_pos d1]
        · rw [if_neg d1]
          by_cases d2 : vs[i].f0 = 0
          · rw [if_pos d2]
          · rw [if_neg d2, show (vs[i].f0 != k0) = false by simp; omega]
      · rw [if_neg (fun h => c1 h.2)]
        refine Ev.step (f := fun k => bag_allowed.j2 k fn k0 vs (vs.length : Int) (i : Int) true vs[i].f0 vs[i].f1 vs[i].f2) (fun k => ?_) bad
        rw [one, if_pos c0, if_neg (by omega), if_neg (by omega), show (vs[i].f0 != k0) = true by simp; omega]
    · rw [if_neg (fun h => c0 h.1)]
      refine Ev.step (f := fun k => bag_allowed.j2 k fn k0 vs (vs.length : Int) (i : Int) true vs[i].f0 vs[i].f1 vs[i].f2) (fun k => ?_) bad
      rw [one, if_neg c0]
theorem allowed_ev (fn : Int) (d : Bool) (vs : List V) (hv : ∀ v ∈ vs, VOk v) (hn : vs.length ≤ 1099511627776) : Ev (fun k => bag_allowed.f k fn d vs) (allowedB fn d vs) := by
  have bad : Ev (fun k => bag_allowed.j0 k fn vs true) false := Ev.step (f := fun _ => some false) (fun k => by simp [bag_allowed.j0]) (Ev.now _)
  have good := allowed_l0 fn vs hv hn vs.length 0 0 (by omega)
  rw [List.drop_zero] at good
  have good2 : Ev (fun k => bag_allowed.j0 k fn vs false) (match kindFrom 0 vs with
    | none => false
    | some k => decide (k = 0 ∨ k = 1 ∨ fn ≠ 2 ∧ fn ≠ 5)) := Ev.step (fun k => by simp only [bag_allowed.j0]; rw [if_neg (by simp)]; rfl) good
  unfold allowedB
  by_cases c0 : fn > 5
  · rw [if_pos (.inl c0)]
    exact Ev.congr (fun k => by unfold bag_allowed.f; rw [if_pos c0]) bad
  · by_cases c1 : fn = 0
    · cases d with
      | true =>
        rw [if_pos (.inr ⟨c1, rfl⟩)]
        exact Ev.congr (fun k => by unfold bag_allowed.f; rw [if_neg c0, if_pos c1]) bad
      | false =>
        rw [if_neg (by simp; omega)]
        exact Ev.congr (fun k => by unfold bag_allowed.f; rw [if_neg c0, if_pos c1]) good2
    · rw [if_neg (by omega)]
      exact Ev.congr (fun k => by unfold bag_allowed.f; rw [if_neg c0, if_neg c1]) good2
theorem rowStep_kind : ∀ (ks : List Int) (r : List V) (ks' : List Int), rowStep ks r = some ks' → ks'.length = ks.length ∧ (∀ j : Nat, ks.getD j 0 ≠ 0 → ks'.getD j 0 = ks.getD j 0) ∧ ∀ (j : Nat) (h : j < r.length), r[j].f0 = 0 ∨ r[j].f0 = ks'.getD j 0
  | [], [], ks', h => by
    simp [rowStep] at h; subst h; simp
  | [], _ :: _, _, h => by simp [rowStep] at h
  | _ :: _, [], _, h => by simp [rowStep] at h
  | k :: ks, v :: vs, ks', h => by
    simp only [rowStep] at h
    split at h
    · rename_i hv
      cases hr : rowStep ks vs with
      | none => simp [hr] at h
      | some t =>
        simp [hr] at h
        subst h
        obtain ⟨i1, i2, i3⟩ := rowStep_kind ks vs t hr
        refine ⟨by simp [i1], fun j hj => ?_, fun j hj => ?_⟩
        · cases j with
          | zero =>
            simp only [List.getD_cons_zero] at hj ⊢
            rw [if_neg hj]
          | succ j =>
            simp only [List.getD_cons_succ] at hj ⊢
            exact i2 j hj
        · cases j with
          | zero =>
            simp only [List.getElem_cons_zero, List.getD_cons_zero]
            split
            · exact .inr rfl
            · omega
          | succ j =>
            simp only [List.getElem_cons_succ, List.getD_cons_succ]
            exact i3 j (by simpa using hj)
    · cases h
theorem validFrom_kind : ∀ (l : List (List V)) (ks : List Int), validFrom ks l = true → ∃ K : List Int, (∀ j : Nat, ks.getD j 0 ≠ 0 → K.getD j 0 = ks.getD j 0) ∧ ∀ r ∈ l, ∀ (j : Nat) (h : j < r.length), r[j].f0 = 0 ∨ r[j].f0 = K.getD j 0
  | [], ks, _ => ⟨ks, fun _ _ => rfl, by simp⟩
  | r :: rs, ks, h => by
    simp only [validFrom] at h
    cases hr : rowStep ks r with
    | none => simp [hr] at h
    | some t =>
      rw [hr] at h
      obtain ⟨i1, i2, i3⟩ := rowStep_kind ks r t hr
      obtain ⟨K, k1, k2⟩ := validFrom_kind rs t h
      refine ⟨K, fun j hj => ?_, fun u hu j hj => ?_⟩
      · rw [← i2 j hj]
        exact k1 j (by rw [i2 j hj]; exact hj)
      · rcases List.mem_cons.1 hu with rfl | hu
        · rcases i3 j hj with h0 | h0
          · exact .inl h0
          · by_cases hz : t.getD j 0 = 0
            · exact .inl (h0.trans hz)
            · exact .inr (by rw [k1 j hz]; exact h0)
        · exact k2 u hu j hj
theorem kindFrom_some (K : Int) : ∀ (vs : List V) (k : Int), (∀ v ∈ vs, validV v = true ∧ (v.f0 = 0 ∨ v.f0 = K)) → (k = 0 ∨ k = K) → ∃ r, kindFrom k vs = some r ∧ (r = 0 ∨ r = K)
  | [], k, _, hk => ⟨k, rfl, hk⟩
  | v :: vs, k, h, hk => by
    have hv := h v List.mem_cons_self
    simp only [kindFrom]
    rw [if_pos ⟨hv.1, by omega⟩]
    exact kindFrom_some K vs _ (fun u hu => h u (List.mem_cons_of_mem _ hu)) (by split <;> omega)
theorem col_kind {l : List (List V)} (hv : validB l = true) (n : Int) : ∃ K : Int, ∀ row ∈ l, validV (rd_T27 row n) = true ∧ ((rd_T27 row n).f0 = 0 ∨ (rd_T27 row n).f0 = K) := by
  have hz : validV z27 = true := by
    unfold validV noText z27
    simp [ByteArray.toList_eq]
  cases l with
  | nil => exact ⟨0, by simp⟩
  | cons r rs =>
    obtain ⟨K, _, hK⟩ := validFrom_kind (r :: rs) _ hv
    refine ⟨K.getD n.toNat 0, fun row hrow => ?_⟩
    by_cases h : n.toNat < row.length
    · have e : rd_T27 row n = row[n.toNat] := by simp [rd_T27, List.getElem?_eq_getElem h]
      rw [e]
      exact ⟨validB_valid hv row hrow _ (List.getElem_mem h), hK row hrow n.toNat h⟩
    · have e : rd_T27 row n = z27 := by
        unfold rd_T27
        rw [List.getD_eq_getElem?_getD, List.getElem?_eq_none (by omega)]
        rfl
      rw [e]
      exact ⟨hz, .inl rfl⟩
theorem col_allowed {l ls : List (List V)} (hv : validB l = true) (hs : ∀ row ∈ ls, row ∈ l) (n : Int) : allowedB 0 false (columnR ls n) = true := by
  obtain ⟨K, hK⟩ := col_kind hv n
  obtain ⟨r, hr, _⟩ := kindFrom_some K (columnR ls n) 0 (fun v hv => by
    obtain ⟨row, hrow, rfl⟩ := List.mem_map.1 hv
    exact hK row (hs row hrow)) (.inl rfl)
  unfold allowedB
  rw [if_neg (by simp), hr]
  simp
theorem pickV_all : ∀ (vs : List V) (seen : List ByteArray), pickV 0 false seen vs = vs
  | [], _ => rfl
  | v :: vs, seen => by
    rw [pickV, if_neg (by simp), if_neg (by simp), pickV_all vs seen]
end Go.Proofs.YtecgkcgfeghhgaaDoor.PAll
set_option linter.unusedVariables false
set_option linter.unusedSimpArgs false
namespace Go.Proofs.YtecgkcgfeghhgaaDoor.PAll
open Go.RowKit Go.Proofs.YtecgkcgfeghhgaaDoorW.PrintWords Go.Proofs.YtecgkcgfeghhgaaDoorW.PrintLast Go.Proofs.YtecgkcgfeghhgaaDoorW.PrintMore
def okInt (v : V) : Prop := -9223372036854775808 ≤ v.f1 ∧ v.f1 ≤ 9223372036854775807
def cStep (n : Int) (_ : V) : Int := wrap64 (n + 1)
def tStep (s : Int × Int × Int) (v : V) : Int × Int × Int := ((s.1 + IntKind.u64.wrap (v.f1 / 9223372036854775808) + (s.2.1 + IntKind.u64.wrap v.f1) / 18446744073709551616) % 18446744073709551616, (s.2.1 + IntKind.u64.wrap v.f1) % 18446744073709551616, IntKind.u64.wrap (s.2.2 + 1))
def countG : Gath where
  σ := Int
  T := 99
  S := 101
  take := 126
  done := 125
  cells := fun n => #[.int .i64 n]
  init := 0
  step := cStep
  out := fun n => (1, n, ⟨#[]⟩, 0)
  good := fun _ => True
  inv := fun _ => True
  inv0 := trivial
  step_inv := fun _ _ _ _ => trivial
  hmt := fun a w => by kernel_rfl
  hmd := fun a w => by kernel_rfl
  het := enters_of Tryd.func126 (by kernel_rfl) rfl
  hed := enters_of Tryd.func125 (by kernel_rfl) rfl
  htake := fun b s v w _ _ hb => counter_take b s v w hb
  hdone := fun b s w _ hb => counter_done b s w hb
def totalG : Gath where
  σ := Int × Int × Int
  T := 89
  S := 92
  take := 116
  done := 115
  cells := fun s => #[.int .u64 s.1, .int .u64 s.2.1, .int .u64 s.2.2]
  init := (0, 0, 0)
  step := tStep
  out := fun s => totalOut s.1 s.2.1 s.2.2
  good := fun _ => True
  inv := fun s => 0 ≤ s.1 ∧ 0 ≤ s.2.1 ∧ s.2.1 < 18446744073709551616
  inv0 := by decide
  step_inv := fun s v _ _ => by
    simp only [tStep]
    omega
  hmt := fun a w => by kernel_rfl
  hmd := fun a w => by kernel_rfl
  het := enters_of Tryd.func116 (by kernel_rfl) rfl
  hed := enters_of Tryd.func115 (by kernel_rfl) rfl
  htake := fun b s v w hi _ hb => total_take b s.1 s.2.1 s.2.2 v w hb hi.1 hi.2.1 hi.2.2
  hdone := fun b s w _ hb => total_done b s.1 s.2.1 s.2.2 w hb _ _ _ _ rfl
theorem count_fold : ∀ (vs : List V) (n : Int), 0 ≤ n → n + vs.length ≤ 1099511627776 → vs.foldl cStep n = n + vs.length
  | [], n, _, _ => by simp
  | v :: vs, n, h0, h1 => by
    have hl : ((v :: vs).length : Int) = vs.length + 1 := by simp
    rw [hl] at h1 ⊢
    rw [List.foldl_cons]
    show vs.foldl cStep (wrap64 (n + 1)) = _
    rw [w64 n h0 (by omega), count_fold vs (n + 1) (by omega) (by omega)]
    omega
def sumV : List V → Int
  | [] => 0
  | v :: vs => v.f1 + sumV vs
theorem sumV_bd : ∀ vs : List V, (∀ v ∈ vs, okInt v) → -9223372036854775808 * (vs.length : Int) ≤ sumV vs ∧ sumV vs ≤ 9223372036854775807 * (vs.length : Int)
  | [], _ => by simp [sumV]
  | v :: vs, h => by
    have h1 := h v List.mem_cons_self
    have h2 := sumV_bd vs (fun u hu => h u (List.mem_cons_of_mem _ hu))
    have hl : ((v :: vs).length : Int) = vs.length + 1 := by simp
    unfold okInt at h1
    simp only [sumV, hl]
    omega
theorem u64w (x : Int) : IntKind.u64.wrap x = x % 18446744073709551616 := by
  simp [IntKind.wrap, IntKind.bits, IntKind.signed]
def stOf (S : Int) (n : Int) : Int × Int × Int := ((S / 18446744073709551616) % 18446744073709551616, S % 18446744073709551616, n)
theorem total_step (S n : Int) (v : V) (hv : okInt v) (h0 : 0 ≤ n) (h1 : n ≤ 1099511627776) : tStep (stOf S n) v = stOf (S + v.f1) (n + 1) := by
  unfold okInt at hv
  unfold stOf tStep
  simp only [u64w]
  refine Prod.ext ?_ (Prod.ext ?_ ?_)
  · show (S / 18446744073709551616 % 18446744073709551616 + v.f1 / 9223372036854775808 % 18446744073709551616 + (S % 18446744073709551616 + v.f1 % 18446744073709551616) / 18446744073709551616) % 18446744073709551616 = (S + v.f1) / 18446744073709551616 % 18446744073709551616
    rcases (by omega : v.f1 < 0 ∨ 0 ≤ v.f1) with h | h
    · have e1 : v.f1 / 9223372036854775808 = -1 := by omega
      rw [e1]
      omega
    · have e1 : v.f1 / 9223372036854775808 = 0 := by omega
      rw [e1]
      omega
  · show (S % 18446744073709551616 + v.f1 % 18446744073709551616) % 18446744073709551616 = (S + v.f1) % 18446744073709551616
    omega
  · show (n + 1) % 18446744073709551616 = n + 1
    omega
theorem total_fold : ∀ (vs : List V) (S n : Int), (∀ v ∈ vs, okInt v) → 0 ≤ n → n + vs.length ≤ 1099511627776 → vs.foldl tStep (stOf S n) = stOf (S + sumV vs) (n + vs.length)
  | [], S, n, _, _, _ => by simp [sumV]
  | v :: vs, S, n, h, h0, h1 => by
    have hl : ((v :: vs).length : Int) = vs.length + 1 := by simp
    rw [hl] at h1 ⊢
    rw [List.foldl_cons, total_step S n v (h v List.mem_cons_self) h0 (by omega), total_fold vs _ _ (fun u hu => h u (List.mem_cons_of_mem _ hu)) (by omega) (by omega)]
    simp only [sumV]
    congr 1 <;> omega
def sumR (vs : List V) : Int × Int × ByteArray × Int :=
  if vs = [] then (0, 0, ⟨#[]⟩, 0) else if -9223372036854775808 ≤ sumV vs ∧ sumV vs ≤ 9223372036854775807 then (1, sumV vs, ⟨#[]⟩, 0) else (0, 0, ⟨#[]⟩, 4)
theorem wrap64_eq (x : Int) (h0 : 0 ≤ x) (h1 : x < 18446744073709551616) : wrap64 x = if x < 9223372036854775808 then x else x - 18446744073709551616 := by
  unfold wrap64
  split <;> omega
theorem total_out (vs : List V) (h : ∀ v ∈ vs, okInt v) (hn : vs.length ≤ 1099511627776) : totalG.out (vs.foldl totalG.step totalG.init) = sumR vs := by
  have e := total_fold vs 0 0 h (by omega) (by omega)
  have e0 : stOf 0 0 = (0, 0, 0) := by decide
  rw [e0] at e
  change (fun s : Int × Int × Int => totalOut s.1 s.2.1 s.2.2) (vs.foldl tStep (0, 0, 0)) = _
  rw [e]
  have hb := sumV_bd vs h
  rw [Int.zero_add, Int.zero_add]
  unfold stOf totalOut sumR
  obtain ⟨S, hS⟩ : ∃ S, S = sumV vs := ⟨_, rfl⟩
  rw [← hS] at hb ⊢
  by_cases c0 : vs = []
  · subst c0
    simp
  · have hp : 0 < vs.length := List.length_pos_iff.2 c0
    rw [if_neg c0]
    dsimp only
    rw [if_neg (by omega)]
    rw [wrap64_eq _ (by omega) (by omega), u64w]
    by_cases c : -9223372036854775808 ≤ S ∧ S ≤ 9223372036854775807
    · rw [if_pos c]
      split
      · rw [if_pos (by omega)]
        congr 2
        omega
      · rw [if_pos (by omega)]
        congr 2
        omega
    · rw [if_neg c]
      split
      · rw [if_neg (by omega)]
      · rw [if_neg (by omega)]
end Go.Proofs.YtecgkcgfeghhgaaDoor.PAll
set_option linter.unusedVariables false
set_option linter.unusedSimpArgs false
namespace Go.Proofs.YtecgkcgfeghhgaaDoor.PAll
open Go.RowKit Go.Proofs.YtecgkcgfeghhgaaDoorW.PrintWords Go.Proofs.YtecgkcgfeghhgaaDoorW.PrintLast Go.Proofs.YtecgkcgfeghhgaaDoorW.PrintMore
set_option maxHeartbeats 4000000 in
set_option maxRecDepth 100000 in
theorem aggregate_bad (k : Nat) (fn : Int) (d : Bool) (A2 : Option Addr) (c2 : Nat) (l : List V) (w : World) (hr : Kd.C kV w A2 l.length l) (hc : l.length ≤ c2) (hall : bag_allowed.f k fn d l = some false) :
    Calls Tryd.prog 13 #[.int .u8 fn, .bool d, .slice A2 l.length c2] w fun e w' => e = .returned (.agg #[.int .u8 0, .int .i64 0, .string ⟨#[]⟩, .int .i64 1]) ∧ Below w.heap.size w w' := by
  have HR := Aside0.mk hr
  have HC := Aside0.mk hc
  have HA := Aside0.mk hall
  clear hr hc hall
  go_enter Tryd.func13, Tryd.ntmps13
  go_wp2_with (first | ((with_reducible refine gate_dst (N := 6) rfl ?_); refine box_event ?hg (N := 6) ?hd (cs := #[.int .u8 0, .int .i64 0, .string (⟨#[]⟩ : ByteArray), .int .i64 0]) (t := 31) ?hr ?_; (case hd => rfl); (case hg => rfl); (case hr => first | (go_simp; done) | (go_simp; rfl)); intro q hq W hN hb1; have HB1 := Aside0.mk hb1; have HQ := Aside0.mk hq; have HN0 := Aside0.mk hN; clear hb1 hq hN))
  refine (bag_allowed.calls k fn d A2 c2 l false W (Kd.C_below HR.out HB1.out) HC.out HA.out).mono ?_
  rintro e w3 ⟨rfl, hb2⟩
  have hN3 := (hb2.block q (blk_lt HN0.out)).trans HN0.out
  have HN3 := Aside0.mk hN3
  have HB3 := Aside0.mk (HB1.out.trans (hb2.mono HB1.out.size))
  have G0 : w3.cell? ⟨q, 0, none⟩ = some (.int .u8 0) := (blk_cell hN3 0).trans rfl
  have G1 : w3.cell? ⟨q, 1, none⟩ = some (.int .i64 0) := (blk_cell hN3 1).trans rfl
  have G2 : w3.cell? ⟨q, 2, none⟩ = some (.string ⟨#[]⟩) := (blk_cell hN3 2).trans rfl
  have G3 : w3.cell? ⟨q, 3, none⟩ = some (.int .i64 0) := (blk_cell hN3 3).trans rfl
  have F4 : ∀ j, w3.frozen? ⟨q, j, none⟩ = false := fun j => by simp [World.frozen?, hN3]
  clear hb2 hN3
  go_wp2
  refine bodyPost_ret (results_cell_row rfl _ _ q 31 _ (0, 0) _ rfl (out_cells HN3.out _ _ _ _) Tryd.underlying31 rfl (by kernel_rfl)) rfl ?_
  exact ⟨rfl, out_below HB3.out HQ.out _ _ _ _⟩
noncomputable def aggR (fn : Int) (d : Bool) (vs : List V) : Int × Int × ByteArray × Int :=
  if allowedB fn d vs = true then (if fn = 2 then sumR (pickV fn d [] vs) else (1, ((pickV fn d [] vs).length : Int), ⟨#[]⟩, 0)) else (0, 0, ⟨#[]⟩, 1)
theorem pickV_sub (fn : Int) (d : Bool) : ∀ (vs : List V) (seen : List ByteArray), (∀ v ∈ pickV fn d seen vs, v ∈ vs) ∧ (pickV fn d seen vs).length ≤ vs.length
  | [], _ => by simp [pickV]
  | v :: vs, seen => by
    have h1 := pickV_sub fn d vs seen
    have h2 := pickV_sub fn d vs (nameOf [v] :: seen)
    have e1 : ∀ seen', (∀ u ∈ pickV fn d seen' vs, u ∈ vs) ∧ (pickV fn d seen' vs).length ≤ vs.length → (∀ u ∈ v :: pickV fn d seen' vs, u ∈ v :: vs) ∧ (v :: pickV fn d seen' vs).length ≤ (v :: vs).length := fun seen' h => ⟨fun u hu => by
      rcases List.mem_cons.1 hu with rfl | hu
      · exact List.mem_cons_self
      · exact List.mem_cons_of_mem _ (h.1 u hu), by simp; exact h.2⟩
    have e2 : (∀ u ∈ pickV fn d seen vs, u ∈ v :: vs) ∧ (pickV fn d seen vs).length ≤ (v :: vs).length := ⟨fun u hu => List.mem_cons_of_mem _ (h1.1 u hu), by simp; omega⟩
    simp only [pickV]
    split
    · exact e2
    · split
      · split
        · exact e2
        · exact e1 _ h2
      · exact e1 _ h1
def AggOk (fn : Int) (vs : List V) : Prop := 0 ≤ fn ∧ (fn ≤ 2 ∨ 5 < fn) ∧ (∀ v ∈ vs, RowOk [v]) ∧ vs.length ≤ 1099511627776
open Classical in
noncomputable def bag_Aggregate.f (fn : Int) (d : Bool) (vs : List V) : Option (Int × Int × ByteArray × Int) := if AggOk fn vs then some (aggR fn d vs) else none
theorem bag_Aggregate.calls (a0 : Int) (a1 : Bool) (A2 : Option Addr) (c2 : Nat) (l2 : List V) (r1 r2 : Int) (r3 : ByteArray) (r4 : Int) (w : World) (hr2 : Kd.C kV w A2 l2.length l2) (hc2 : l2.length ≤ c2) (hT : LaidT w) (h : bag_Aggregate.f a0 a1 l2 = some (r1, r2, r3, r4)) :
    Calls Tryd.prog 13 #[.int .u8 a0, .bool a1, .slice A2 l2.length c2] w fun e w' => e = .returned (.agg #[.int .u8 r1, .int .i64 r2, .string r3, .int .i64 r4]) ∧ Below w.heap.size w w' := by
  unfold bag_Aggregate.f at h
  split at h
  case isFalse => cases h
  rename_i hok
  obtain ⟨hf0, hf1, hok, hn⟩ := hok
  have h := Option.some.inj h
  have hv : ∀ v ∈ l2, VOk v := fun v hv => (hok v hv).1 v (by simp)
  obtain ⟨k, hk⟩ := (allowed_ev a0 a1 l2 hv hn).rounds
  unfold aggR at h
  cases hq : allowedB a0 a1 l2 with
  | false =>
    rw [hq] at hk h
    simp only [Bool.false_eq_true, if_false, Prod.mk.injEq] at h
    obtain ⟨rfl, rfl, rfl, rfl⟩ := h
    exact aggregate_bad k a0 a1 A2 c2 l2 w hr2 hc2 hk
  | true =>
    rw [hq] at hk h
    rw [if_pos rfl] at h
    have hle : a0 ≤ 2 := by
      rcases hf1 with h1 | h1
      · exact h1
      · unfold allowedB at hq
        rw [if_pos (.inl h1)] at hq
        cases hq
    obtain ⟨hsub, hlen⟩ := pickV_sub a0 a1 l2 []
    by_cases h2 : a0 = 2
    · subst h2
      rw [if_pos rfl] at h
      have hc := aggregate_walk totalG k 2 a1 A2 c2 l2 w hT hr2 hc2 hok hn hk (fun _ _ => trivial) (fun w => gath_sum w)
      have e := total_out (pickV 2 a1 [] l2) (fun v hm => by have := hv v (hsub v hm); exact ⟨this.2.2.1, this.2.2.2⟩) (Nat.le_trans hlen hn)
      rw [e, h] at hc
      exact hc
    · rw [if_neg h2] at h
      have hc := aggregate_walk countG k a0 a1 A2 c2 l2 w hT hr2 hc2 hok hn hk (fun _ _ => trivial) (fun w => gath_count a0 (by omega) w)
      have e := count_fold (pickV a0 a1 [] l2) 0 (Int.le_refl _) (by omega)
      change Calls _ _ _ _ fun e w' => e = .returned (.agg #[.int .u8 1, .int .i64 ((pickV a0 a1 [] l2).foldl cStep 0), .string ⟨#[]⟩, .int .i64 0]) ∧ _ at hc
      rw [e, Int.zero_add] at hc
      simp only [Prod.mk.injEq] at h
      obtain ⟨rfl, rfl, rfl, rfl⟩ := h
      exact hc
end Go.Proofs.YtecgkcgfeghhgaaDoor.PAll
set_option linter.unusedVariables false
set_option linter.unusedSimpArgs false
namespace Go.Proofs.YtecgkcgfeghhgaaDoor.PAll
open Go.RowKit Go.Proofs.YtecgkcgfeghhgaaDoorW.PrintWords Go.Proofs.YtecgkcgfeghhgaaDoorW.PrintLast Go.Proofs.YtecgkcgfeghhgaaDoorW.PrintMore
open Classical in
noncomputable def decAt (c : ByteArray → Int) (s : ByteArray) : ByteArray → Int := fun t => if t = s then c s - 1 else c t
noncomputable def splitR : (ByteArray → Int) → List (List V) → List (List V) × List (List V)
  | _, [] => ([], [])
  | c, r :: rs => if 0 < c (nameOf r) then (r :: (splitR (decAt c (nameOf r)) rs).1, (splitR (decAt c (nameOf r)) rs).2) else ((splitR c rs).1, r :: (splitR c rs).2)
theorem splitR_mem : ∀ (l : List (List V)) (c : ByteArray → Int) (r : List V), r ∈ (splitR c l).1 ∨ r ∈ (splitR c l).2 → r ∈ l
  | [], _, _, h => by simp [splitR] at h
  | a :: l, c, r, h => by
    have i1 := splitR_mem l c r
    have i2 := splitR_mem l (decAt c (nameOf a)) r
    simp only [splitR] at h
    split at h
    · simp only [List.mem_cons] at h ⊢
      rcases h with (h | h) | h
      · exact .inl h
      · exact .inr (i2 (.inl h))
      · exact .inr (i2 (.inr h))
    · simp only [List.mem_cons] at h ⊢
      rcases h with h | h | h
      · exact .inr (i1 (.inl h))
      · exact .inl h
      · exact .inr (i1 (.inr h))
theorem splitR_len : ∀ (l : List (List V)) (c : ByteArray → Int), (splitR c l).1.length + (splitR c l).2.length = l.length
  | [], _ => by simp [splitR]
  | a :: l, c => by
    have i1 := splitR_len l c
    have i2 := splitR_len l (decAt c (nameOf a))
    simp only [splitR]
    split <;> simp <;> omega
open Classical in
noncomputable def bag_split.f (l0 l1 : List (List V)) : Option (List (List V) × List (List V) × Int) := if RowsOk (l0 ++ l1) then some (if validB (l0 ++ l1) = true then (sortR [] (splitR (cnt (l1.map nameOf)) l0).1, sortR [] (splitR (cnt (l1.map nameOf)) l0).2, 0) else ([], [], 1)) else none
open Classical in
set_option maxHeartbeats 8000000 in
set_option maxRecDepth 100000 in
theorem bag_split.calls (A0 : Option Addr) (c0 : Nat) (l0 : List (List V)) (A1 : Option Addr) (c1 : Nat) (l1 : List (List V)) (r1 r2 : List (List V)) (r3 : Int) (w : World) (hr0 : Kd.C kRow w A0 l0.length l0) (hc0 : l0.length ≤ c0) (hr1 : Kd.C kRow w A1 l1.length l1) (hc1 : l1.length ≤ c1) (hT : LaidT w) (h : bag_split.f l0 l1 = some (r1, r2, r3)) :
    Calls Tryd.prog 37 #[.slice A0 l0.length c0, .slice A1 l1.length c1] w fun e w' => ∃ v0_ v1_ : Value, e = .returned (.tuple #[v0_, v1_, .int .i64 r3]) ∧ Kd.V kRow 58 w' w.heap.size (fun k_ => (w.heap.size ≤ k_)) v0_ r1 ∧ Kd.V kRow 58 w' w.heap.size (fun k_ => (w.heap.size ≤ k_)) v1_ r2 ∧ Below w.heap.size w w' := by
  unfold bag_split.f at h
  split at h
  case isFalse => cases h
  rename_i hok
  have hok0 : RowsOk l0 := ⟨fun r hr => hok.1 r (List.mem_append_left _ hr), by have := hok.2; rw [List.length_append] at this; omega⟩
  have hok1 : RowsOk l1 := ⟨fun r hr => hok.1 r (List.mem_append_right _ hr), by have := hok.2; rw [List.length_append] at this; omega⟩
  have H := Aside0.mk (Option.some.inj h)
  have HBo := Aside0.mk (both_calls A0 c0 l0 A1 c1 l1 _ rfl w hr0 hr1 hok.v)
  have HOK := Aside0.mk hok0
  have HOK1 := Aside0.mk hok1
  have HT := Aside0.mk hT
  have HR0 := Aside0.mk hr0
  have HR1 := Aside0.mk hr1
  have HC1 := Aside0.mk hc1
  clear h hok hok0 hok1 hT hr0 hr1 hc0 hc1
  cases hq : validB (l0 ++ l1) with
  | false =>
    rw [hq, if_neg (by simp)] at H
    rw [hq] at HBo
    clear hq
    go_enter Tryd.func37, Tryd.ntmps37
    go_wp2_with fail
    refine HBo.out.mono ?_
    rintro e w1 ⟨v1, rfl, hR1, hb1⟩
    have HB := Aside0.mk hb1
    clear hb1 hR1
    go_wp2
    go_ret3
    obtain ⟨e1, e2⟩ := Prod.mk.inj H.out
    obtain ⟨e2, e3⟩ := Prod.mk.inj e2
    refine ⟨.slice none 0 0, .slice none 0 0, by rw [← e3]; rfl, ?_, ?_, HB.out⟩
    · rw [← e1]; exact Kd.V_nil _ _ _ _ _
    · rw [← e2]; exact Kd.V_nil _ _ _ _ _
  | true =>
    rw [hq, if_pos rfl] at H
    have HV : Aside0 (∀ row ∈ l0, ∀ v ∈ row, validV v = true) := ⟨fun row hrow => validB_valid hq row (List.mem_append_left _ hrow)⟩
    rw [hq] at HBo
    clear hq
    go_enter Tryd.func37, Tryd.ntmps37
    go_wp2_with fail
    refine HBo.out.mono ?_
    rintro e w1 ⟨v1, rfl, hR1, hb1⟩
    have B1 := Aside0.mk hb1
    clear hb1 hR1
    go_wp2_with fail
    refine (tally_calls A1 c1 l1 w1 (HT.out.below B1.out) (Kd.C_below HR1.out B1.out) HC1.out HOK1.out).mono ?_
    rintro e w2 ⟨m, rfl, hm, hM, hb2⟩
    have HMB : Aside0 (w.heap.size ≤ m) := ⟨Nat.le_trans B1.out.size hm⟩
    have M0 := Aside0.mk hM
    have B2 := Aside0.mk (B1.out.trans (hb2.mono B1.out.size))
    clear hm hM hb2
    go_wp2
    clear B1
    obtain ⟨c0f, hc0f⟩ : ∃ c0f, c0f = cnt (l1.map nameOf) := ⟨_, rfl⟩
    have HBD0 : Aside0 (∀ s, 0 ≤ c0f s ∧ c0f s ≤ 1099511627776) := ⟨fun s => by
      have h1 := cnt_nonneg (l1.map nameOf) s
      have h2 := cnt_le (l1.map nameOf) s
      have h3 := HOK1.out.2
      rw [List.length_map] at h2
      rw [hc0f]
      omega⟩
    rw [← hc0f] at M0 H
    clear hc0f
    go_loopg [25, 4, 5] l0.length (fun kq v25 v4 v5 W => ∃ (x : Int) (c : ByteArray → Int) (met left : List (List V)), v25 = .int .i64 x ∧ Aside0 (0 ≤ x ∧ x ≤ l0.length ∧ (kq : Int) = l0.length - x) ∧ Aside0 (CMap W m c) ∧ Aside0 (∀ s, 0 ≤ c s ∧ c s ≤ 1099511627776) ∧ Aside0 ((relK w).kd.R 58 W w.heap.size (fun k => k ≠ m) v4 met) ∧ Aside0 ((relK w).kd.R 58 W w.heap.size (fun k => k ≠ m) v5 left) ∧ Aside0 (∀ k, v4.ownBlock = some k → v5.ownBlock ≠ some k) ∧ Aside0 (met ++ (splitR c (l0.drop x.toNat)).1 = (splitR c0f l0).1 ∧ left ++ (splitR c (l0.drop x.toNat)).2 = (splitR c0f l0).2 ∧ met.length + left.length ≤ x) ∧ Aside0 (Below w.heap.size w W))
    case atStart => exact ⟨0, c0f, [], [], rfl, ⟨by omega⟩, M0, HBD0, ⟨Kd.R_nil _ _ _ _ _⟩, ⟨Kd.R_nil _ _ _ _ _⟩, ⟨fun k hk => by simp [Value.ownBlock] at hk⟩, ⟨by simp⟩, B2⟩
    case round =>
      clear M0 B2 HBD0
      obtain ⟨x, c, met, left, rfl, HX, HM, HBD, HO, HP, HNE, HD, HB⟩ := hrel
      obtain ⟨hx0, hx1, hkq⟩ := HX.out
      by_cases hlt : x < (l0.length : Int)
      · have c1 : decide (x < (l0.length : Int)) = true := decide_eq_true hlt
        have c2 : decide (0 ≤ x) = true := decide_eq_true hx0
        obtain ⟨ad, Ar, cr, e, hx_0, hl_0, hi_0⟩ := at_L4 HR0.out x hx0 hlt
        cases e
        replace hx_0 := (HB.out.cell (World.block_lt_of_cell? w _ hx_0)).trans hx_0
        have hi : x.toNat < l0.length := by omega
        have hrd : rd_L4 l0 x = l0[x.toNat] := by simp [rd_L4, List.getElem?_eq_getElem hi]
        have hok := HOK.out.1 (rd_L4 l0 x) (by rw [hrd]; exact List.getElem_mem hi)
        have hst := HD.out
        rw [drop_cons l0 x.toNat hi, ← hrd] at hst
        obtain ⟨r, hr⟩ : ∃ r, r = rd_L4 l0 x := ⟨_, rfl⟩
        rw [← hr] at hx_0 hl_0 hi_0 hok hst
        have HI0 := Aside0.mk hi_0
        have HL0 := Aside0.mk hl_0
        have HOK2 := Aside0.mk hok
        have HST := Aside0.mk hst
        have HLT := Aside0.mk hlt
        have HX0 := Aside0.mk hx0
        have HWR : Aside0 (wrap64 (x + 1) = x + 1) := ⟨by have := HOK.out.2; unfold wrap64; omega⟩
        clear hi_0 hl_0 hok hst hrd hr hkq hi
        go_wp2_with fail
        refine (name_calls _ _ r wr (HT.out.below HB.out) (Kd.C_below HI0.out HB.out) HL0.out HOK2.out.1 HOK2.out.2.1 HOK2.out.2.2).mono ?_
        rintro e w3 ⟨rfl, hb1⟩
        have HM1 := HM.out.below hb1
        obtain ⟨kv, hkv⟩ := HM1
        have HKV := Aside0.mk hkv
        obtain ⟨n, hn⟩ : ∃ n, n = c (nameOf r) := ⟨_, rfl⟩
        have hc : Aside0 ((KV.get kv (nameOf r)).getD 0 = n) := ⟨by rw [hn]; exact hkv.2 _⟩
        have hbd := HBD.out (nameOf r)
        rw [← hn] at hbd
        have HN := Aside0.mk hn
        have HB1 := Aside0.mk (HB.out.trans (hb1.mono HB.out.size))
        have HO1 := Aside0.mk (Kd.R_below HO.out hb1)
        have HP1 := Aside0.mk (Kd.R_below HP.out hb1)
        clear hb1 hkv hn HM
        have hcl : Aside0 ((met.length + 1) * 24 ≤ 140737488355328 ∧ (left.length + 1) * 24 ≤ 140737488355328) := ⟨by have := HD.out.2.2; have := HOK.out.2; omega⟩
        have hM : Aside0 (∀ W, (relK w).kd.M W w.heap.size (fun _ => False) r [.slice Ar r.length cr]) := ⟨fun W => ⟨Ar, cr, rfl, HL0.out, HI0.out⟩⟩
        have hml : Aside0 (m < w3.heap.size) := ⟨HKV.out.1.lt⟩
        by_cases hz : 0 < n
        · have hzb : decide (n > 0) = true := decide_eq_true hz
          have HZ := Aside0.mk hz
          have HW : Aside0 (wrap64 (n - 1) = n - 1) := ⟨by unfold wrap64; omega⟩
          have HBDN := Aside0.mk hbd
          clear hz hbd
          go_wp2_with (first
            | (at_lookup; refine KV.law_lookup _ rfl _ _ 85 rfl 9 3 Tryd.underlying9 Tryd.underlying85 (.int .i64 0) (zeroInt _) m (Value.int .i64) kv rfl HKV.out.1 (nameOf r) rfl (.int .i64 n) (get_int hc.out) ?_)
            | (at_mapUpdate; refine KV.law_update _ rfl _ _ _ 85 rfl 9 3 Tryd.underlying9 Tryd.underlying85 m (Value.int .i64) kv rfl HKV.out.1 (nameOf r) rfl (wrap64 (n - 1)) rfl ?_; intro w4 hM2 hg2; rw [HW.out] at hM2; have HM2 := Aside0.mk (CMap.put HKV.out.2 hM2); have HB3 := Aside0.mk (HB1.out.grown hg2 HB1.out.size (fun k hk => by cases hk; exact HMB.out)); have HO3 := Aside0.mk (Kd.R_grown HO1.out hg2 (fun k hk e => hk (by injection e))); have HP3 := Aside0.mk (Kd.R_grown HP1.out hg2 (fun k hk e => hk (by injection e))); have hml4 := Aside0.mk (Nat.lt_of_lt_of_le hml.out hg2.size); clear hM2 hg2)
            | (at_builtin; refine Kd.R_append (relK w).kd (w0 := w) w.heap.size rfl (.tmp 39) (.tmp 41) 37 58 (.slice none 0 0) 24 rfl Tryd.underlying37 infoRow rfl (Nat.le_refl 1) (by decide) _ met r [.slice Ar r.length cr] (fun k => k ≠ m ∧ u5.ownBlock ≠ some k) (fun _ => False) rfl rfl (hM.out _) (fun _ h => h.elim) (fun k hk => ⟨fun e => by have := hml4.out; omega, fun e => by have := Kd.R_lt HP3.out k e; omega⟩) (Kd.R_reok rfl HO3.out (fun k hk => ⟨HO3.out.1 k hk, HNE.out k hk⟩)) HB3.out HB3.out.size hcl.out.1 ?_; intro v6 w6 hR4 hb4 hg4 hat4; have HO4 := Aside0.mk hR4; have HB4 := Aside0.mk hb4; have HG4 := Aside0.mk hg4; clear hR4 hb4 hg4 hat4))
          have hlt := HLT.out
          have hk := HX.out.2.2
          have hx0 := HX0.out
          have hd := HD.out.2.2
          cases gk with
          | zero => omega
          | succ k1 =>
            go_roundg k1
            case measure => omega
            case rel =>
              have hp3 : ∀ k, u5.ownBlock = some k → k ≠ m ∧ v6.ownBlock ≠ some k := fun k hk => ⟨HP3.out.1 k hk, fun e => (HO4.out.1 k e).2 hk⟩
              have hp4 := Kd.R_grown (Kd.R_tight rfl HP3.out) HG4.out (fun k hk e => HNE.out k e.symm hk.symm)
              refine ⟨x + 1, decAt c (nameOf r), met ++ [r], left, by rw [HWR.out], ⟨by omega⟩, ⟨?_⟩, ⟨fun s => ?_⟩, ⟨Kd.R_reok rfl HO4.out (fun k hk => (HO4.out.1 k hk).1)⟩, ⟨Kd.R_mono hp4 (fun k hk => (hp3 k hk.symm).1)⟩, ⟨fun k hk => (HO4.out.1 k hk).2⟩, ⟨?_, ?_, by simp; omega⟩, HB4⟩
              · have h3 := CMap.grown HM2.out HG4.out (fun e => HO3.out.1 m e.symm rfl)
                have h4 : (fun t => if t = nameOf r then n - 1 else c t) = decAt c (nameOf r) := by
                  funext t
                  unfold decAt
                  rw [HN.out]
                rw [← h4]
                exact h3
              · unfold decAt
                have h1 := HBD.out s
                have h2 := HZ.out
                have h3 := HBDN.out
                have h4 := HN.out
                split <;> omega
              · have := HST.out.1
                rw [splitR, if_pos (by rw [← HN.out]; exact HZ.out)] at this
                rw [show (x + 1).toNat = x.toNat + 1 by omega]
                simpa using this
              · have := HST.out.2.1
                rw [splitR, if_pos (by rw [← HN.out]; exact HZ.out)] at this
                rw [show (x + 1).toNat = x.toNat + 1 by omega]
                simpa using this
        · have hzb : decide (n > 0) = false := decide_eq_false hz
          have HZ := Aside0.mk hz
          have hne5 : ∀ k, u5.ownBlock = some k → k ≠ m ∧ u4.ownBlock ≠ some k := fun k hk => ⟨HP1.out.1 k hk, fun e => HNE.out k e hk⟩
          have HNE5 := Aside0.mk hne5
          clear hz hbd hne5
          go_wp2_with (first
            | (at_lookup; refine KV.law_lookup _ rfl _ _ 85 rfl 9 3 Tryd.underlying9 Tryd.underlying85 (.int .i64 0) (zeroInt _) m (Value.int .i64) kv rfl HKV.out.1 (nameOf r) rfl (.int .i64 n) (get_int hc.out) ?_)
            | (at_builtin; refine Kd.R_append (relK w).kd (w0 := w) w.heap.size rfl (.tmp 43) (.tmp 45) 37 58 (.slice none 0 0) 24 rfl Tryd.underlying37 infoRow rfl (Nat.le_refl 1) (by decide) _ left r [.slice Ar r.length cr] (fun k => k ≠ m ∧ u4.ownBlock ≠ some k) (fun _ => False) rfl rfl (hM.out _) (fun _ h => h.elim) (fun k hk => ⟨fun e => by have := hml.out; omega, fun e => by have := Kd.R_lt HO1.out k e; omega⟩) (Kd.R_reok rfl HP1.out HNE5.out) HB1.out HB1.out.size hcl.out.2 ?_; intro v6 w6 hR4 hb4 hg4 hat4; have HO4 := Aside0.mk hR4; have HB4 := Aside0.mk hb4; have HG4 := Aside0.mk hg4; clear hR4 hb4 hg4 hat4))
          have hlt := HLT.out
          have hk := HX.out.2.2
          have hx0 := HX0.out
          have hd := HD.out.2.2
          cases gk with
          | zero => omega
          | succ k1 =>
            go_roundg k1
            case measure => omega
            case rel =>
              have hp4 := Kd.R_grown (Kd.R_tight rfl HO1.out) HG4.out (fun k hk e => HNE.out k hk.symm e.symm)
              refine ⟨x + 1, c, met, left ++ [r], by rw [HWR.out], ⟨by omega⟩, ⟨CMap.grown ⟨kv, HKV.out⟩ HG4.out (fun e => HP1.out.1 m e.symm rfl)⟩, HBD, ⟨Kd.R_mono hp4 (fun k hk => HO1.out.1 k hk.symm)⟩, ⟨Kd.R_reok rfl HO4.out (fun k hk => (HO4.out.1 k hk).1)⟩, ⟨fun k hk e => (HO4.out.1 k e).2 hk⟩, ⟨?_, ?_, by simp; omega⟩, HB4⟩
              · have := HST.out.1
                rw [splitR, if_neg (by rw [← HN.out]; have := HZ.out; omega)] at this
                rw [show (x + 1).toNat = x.toNat + 1 by omega]
                simpa using this
              · have := HST.out.2.1
                rw [splitR, if_neg (by rw [← HN.out]; have := HZ.out; omega)] at this
                rw [show (x + 1).toNat = x.toNat + 1 by omega]
                simpa using this
      · have c1 : decide (x < (l0.length : Int)) = false := decide_eq_false hlt
        have hms : met = (splitR c0f l0).1 ∧ left = (splitR c0f l0).2 := by
          have := HD.out
          rw [List.drop_eq_nil_of_le (by omega)] at this
          have h1 := this.1
          have h2 := this.2.1
          simp only [splitR, List.append_nil] at h1 h2
          exact ⟨h1, h2⟩
        obtain ⟨hms, hls⟩ := hms
        have hmem := splitR_mem l0 c0f
        have hlen := splitR_len l0 c0f
        rw [← hms, ← hls] at H hmem hlen
        have good : ∀ row, row ∈ met ∨ row ∈ left → RowGood [] row := fun row hrow => ⟨HV.out row (hmem row hrow), (by intro k hk; cases hk), (HOK.out.1 row (hmem row hrow)).2.2⟩
        have HG4 : Aside0 (∀ row ∈ met, RowGood [] row) := ⟨fun row h => good row (.inl h)⟩
        have HG5 : Aside0 (∀ row ∈ left, RowGood [] row) := ⟨fun row h => good row (.inr h)⟩
        have HL4 : Aside0 (met.length ≤ 1099511627776 ∧ left.length ≤ 1099511627776) := ⟨by have := HOK.out.2; omega⟩
        clear HX HD hx0 hx1 hlt hkq hms hls hmem hlen good HM HBD
        obtain ⟨Av, cv, ev, hlc, hC⟩ := Kd.R_reads HO.out
        subst ev
        obtain ⟨Aw, cw, ew, hlc2, hC2⟩ := Kd.R_reads HP.out
        subst ew
        have HC := Aside0.mk (relK_C hC HB.out)
        have HC2 := Aside0.mk (relK_C hC2 HB.out)
        clear hC hlc hC2 hlc2
        go_wp2_with fail
        refine (arranged_calls Av cv met none 0 [] wr HC.out (Kd.C_nil _ _) HG4.out HL4.out.1 (by simp)).mono ?_
        rintro e w3 ⟨v2, rfl, hR2, hb2⟩
        have HV2 := Aside0.mk (Kd.R_V (base' := w.heap.size) (Kd.R_mono (Kd.R_bound hR2) (fun k hk => Nat.le_trans HB.out.size hk.2.1)))
        have HB2 := Aside0.mk (HB.out.trans (hb2.mono HB.out.size))
        have HC3 := Aside0.mk (Kd.C_below HC2.out hb2)
        have HS := Aside0.mk HB2.out.size
        clear hR2 hb2
        go_wp2_with fail
        refine (arranged_calls Aw cw left none 0 [] w3 HC3.out (Kd.C_nil _ _) HG5.out HL4.out.2 (by simp)).mono ?_
        rintro e w4 ⟨v3, rfl, hR3, hb3⟩
        have HV3 := Aside0.mk (Kd.R_V (base' := w.heap.size) (Kd.R_mono (Kd.R_bound hR3) (fun k hk => Nat.le_trans HS.out hk.2.1)))
        have HV4 := Aside0.mk (Kd.V_below HV2.out hb3)
        have HB3 := Aside0.mk (HB2.out.trans (hb3.mono HB2.out.size))
        clear hR3 hb3
        go_wp2
        go_ret3
        obtain ⟨e1, e2⟩ := Prod.mk.inj H.out
        obtain ⟨e2, e3⟩ := Prod.mk.inj e2
        refine ⟨v2, v3, by rw [← e3]; rfl, ?_, ?_, HB3.out⟩
        · rw [← e1]; exact HV4.out
        · rw [← e2]; exact HV3.out
set_option maxHeartbeats 4000000 in
set_option maxRecDepth 100000 in
theorem split_Intersect (A0 : Option Addr) (c0 : Nat) (l0 : List (List V)) (A1 : Option Addr) (c1 : Nat) (l1 : List (List V)) (r1 r2 : List (List V)) (r3 : Int) (w : World) (hr0 : Kd.C kRow w A0 l0.length l0) (hc0 : l0.length ≤ c0) (hr1 : Kd.C kRow w A1 l1.length l1) (hc1 : l1.length ≤ c1) (hT : LaidT w) (h : bag_split.f l0 l1 = some (r1, r2, r3)) :
    Calls Tryd.prog 21 #[.slice A0 l0.length c0, .slice A1 l1.length c1] w fun e w' => ∃ v0_ : Value, e = .returned (.tuple #[v0_, .int .i64 r3]) ∧ Kd.V kRow 58 w' w.heap.size (fun k_ => (w.heap.size ≤ k_)) v0_ r1 ∧ Below w.heap.size w w' := by
  have HS := Aside0.mk (bag_split.calls A0 c0 l0 A1 c1 l1 r1 r2 r3 w hr0 hc0 hr1 hc1 hT h)
  clear hr0 hc0 hr1 hc1 hT h
  go_enter Tryd.func21, Tryd.ntmps21
  go_wp2_with fail
  refine HS.out.mono ?_
  rintro e w1 ⟨v0, v1, rfl, hv0, hv1, hb⟩
  have HV := Aside0.mk hv0
  have HB := Aside0.mk hb
  clear hv0 hv1 hb
  go_wp2
  go_ret2
  exact ⟨v0, rfl, HV.out, HB.out⟩
set_option maxHeartbeats 4000000 in
set_option maxRecDepth 100000 in
theorem split_Except (A0 : Option Addr) (c0 : Nat) (l0 : List (List V)) (A1 : Option Addr) (c1 : Nat) (l1 : List (List V)) (r1 r2 : List (List V)) (r3 : Int) (w : World) (hr0 : Kd.C kRow w A0 l0.length l0) (hc0 : l0.length ≤ c0) (hr1 : Kd.C kRow w A1 l1.length l1) (hc1 : l1.length ≤ c1) (hT : LaidT w) (h : bag_split.f l0 l1 = some (r1, r2, r3)) :
    Calls Tryd.prog 22 #[.slice A0 l0.length c0, .slice A1 l1.length c1] w fun e w' => ∃ v0_ : Value, e = .returned (.tuple #[v0_, .int .i64 r3]) ∧ Kd.V kRow 58 w' w.heap.size (fun k_ => (w.heap.size ≤ k_)) v0_ r2 ∧ Below w.heap.size w w' := by
  have HS := Aside0.mk (bag_split.calls A0 c0 l0 A1 c1 l1 r1 r2 r3 w hr0 hc0 hr1 hc1 hT h)
  clear hr0 hc0 hr1 hc1 hT h
  go_enter Tryd.func22, Tryd.ntmps22
  go_wp2_with fail
  refine HS.out.mono ?_
  rintro e w1 ⟨v0, v1, rfl, hv0, hv1, hb⟩
  have HV := Aside0.mk hv1
  have HB := Aside0.mk hb
  clear hv0 hv1 hb
  go_wp2
  go_ret2
  exact ⟨v1, rfl, HV.out, HB.out⟩
end Go.Proofs.YtecgkcgfeghhgaaDoor.PAll
set_option linter.unusedVariables false
set_option linter.unusedSimpArgs false
namespace Go.Proofs.YtecgkcgfeghhgaaDoor.PAll
open Go.RowKit Go.Proofs.YtecgkcgfeghhgaaDoorW.PrintWords Go.Proofs.YtecgkcgfeghhgaaDoorW.PrintLast Go.Proofs.YtecgkcgfeghhgaaDoorW.PrintMore
def keyOf (cols : List Int) (row : List V) : List V := cols.map (fun n => rd_T27 row n)
open Classical in
noncomputable def keysR (cols : List Int) (l : List (List V)) : List (List V) := if cols = [] then [[]] else sortR [] (distR [] (l.map (keyOf cols)))
open Classical in
noncomputable def listR (cols : List Int) (l : List (List V)) (s : ByteArray) : List (List V) := l.filter (fun r => decide (nameOf (keyOf cols r) = s))
abbrev LV := Value × List (List V)
structure LM (w W : World) (m : Nat) (kv : List (ByteArray × LV)) : Prop where
  is : KV.Is W m (fun p : LV => p.1) kv
  own : ∀ s p, KV.get kv s = some p → (relK w).kd.R 58 W w.heap.size (fun k => k ≠ m) p.1 p.2
  apart : ∀ s t p q, KV.get kv s = some p → KV.get kv t = some q → s ≠ t → ∀ k, p.1.ownBlock = some k → q.1.ownBlock ≠ some k
theorem LM.below {w W W1 : World} {m : Nat} {kv : List (ByteArray × LV)} (h : LM w W m kv) (hb : Below W.heap.size W W1) : LM w W1 m kv :=
  ⟨h.is.below hb, fun s p hp => Kd.R_below (h.own s p hp) hb, h.apart⟩
theorem LM.grown {w W W1 : World} {m : Nat} {kv : List (ByteArray × LV)} (h : LM w W m kv) {row : Option Nat} (hg : W.grownBy W1 row) (hm : some m ≠ row) (hr : ∀ s p, KV.get kv s = some p → ∀ k, p.1.ownBlock = some k → some k ≠ row) : LM w W1 m kv :=
  ⟨h.is.grown hg hm, fun s p hp => Kd.R_mono (Kd.R_grown (Kd.R_tight rfl (h.own s p hp)) hg (fun k hk => hr s p hp k hk.symm)) (fun k hk => (h.own s p hp).1 k hk.symm), h.apart⟩
theorem LM.put {w W W1 W2 : World} {m : Nat} {kv : List (ByteArray × LV)} (h : LM w W m kv) {s : ByteArray} {v0 v1 : Value} {r0 r1 : List (List V)} (h0 : KV.get kv s = some (v0, r0) ∨ KV.get kv s = none ∧ v0.ownBlock = none)
    (hR : (relK w).kd.R 58 W1 w.heap.size (fun k => k ≠ m) v1 r1) (hg : W.grownBy W1 v0.ownBlock) (hat : v1.ownBlock = v0.ownBlock ∨ ∃ b, v1.ownBlock = some b ∧ W.heap.size ≤ b)
    (hi : KV.Is W2 m (fun p : LV => p.1) (KV.put kv s (v1, r1))) (hg2 : W1.grownBy W2 (some m)) : LM w W2 m (KV.put kv s (v1, r1)) := by
  have old : ∀ t p, t ≠ s → KV.get kv t = some p → ∀ k, p.1.ownBlock = some k → v0.ownBlock ≠ some k ∧ v1.ownBlock ≠ some k := fun t p ht hp k hk => by
    have hlt := Kd.R_lt (h.own t p hp) k hk
    have e0 : v0.ownBlock ≠ some k := by
      rcases h0 with h0 | ⟨_, h0⟩
      · exact h.apart t s p (v0, r0) hp h0 ht k hk
      · rw [h0]; exact fun e => by cases e
    refine ⟨e0, ?_⟩
    rcases hat with hat | ⟨b, hb, hb2⟩
    · rw [hat]; exact e0
    · rw [hb]; intro e; injection e; omega
  refine ⟨hi, fun t p hp => ?_, fun t u p q hp hq htu k hk => ?_⟩
  · by_cases ht : t = s
    · subst ht
      rw [KV.get_put_same] at hp
      obtain rfl := Option.some.inj hp
      exact Kd.R_grown hR hg2 (fun k hk e => hk (by injection e))
    · rw [KV.get_put_other _ ht] at hp
      have h1 := Kd.R_mono (Kd.R_grown (Kd.R_tight rfl (h.own t p hp)) hg (fun k hk e => (old t p ht hp k hk.symm).1 e.symm)) (fun k hk => (h.own t p hp).1 k hk.symm)
      exact Kd.R_grown h1 hg2 (fun k hk e => hk (by injection e))
  · by_cases ht : t = s
    · subst ht
      rw [KV.get_put_same] at hp
      obtain rfl := Option.some.inj hp
      rw [KV.get_put_other _ (fun e => htu e.symm)] at hq
      intro e
      exact (old u q (fun e => htu e.symm) hq k e).2 hk
    · rw [KV.get_put_other _ ht] at hp
      by_cases hu : u = s
      · subst hu
        rw [KV.get_put_same] at hq
        obtain rfl := Option.some.inj hq
        exact (old t p ht hp k hk).2
      · rw [KV.get_put_other _ hu] at hq
        exact h.apart t u p q hp hq htu k hk
abbrev KOk (w : World) (kv : List (ByteArray × LV)) : Nat → Prop := fun k => k ≠ w.heap.size ∧ ∀ s p, KV.get kv s = some p → p.1.ownBlock ≠ some k
theorem KR_put {w W W1 W2 : World} {kv : List (ByteArray × LV)} {v : Value} {keys : List (List V)} (h : kRow.R 58 W w.heap.size (KOk w kv) v keys) {s : ByteArray} {v0 v1 : Value} {r0 r1 : List (List V)} (h0 : KV.get kv s = some (v0, r0) ∨ KV.get kv s = none ∧ v0.ownBlock = none)
    (hg : W.grownBy W1 v0.ownBlock) (hat : v1.ownBlock = v0.ownBlock ∨ ∃ b, v1.ownBlock = some b ∧ W.heap.size ≤ b) (hg2 : W1.grownBy W2 (some w.heap.size)) : kRow.R 58 W2 w.heap.size (KOk w (KV.put kv s (v1, r1))) v keys := by
  have e0 : ∀ k, KOk w kv k → some k ≠ v0.ownBlock := fun k hk => by
    rcases h0 with h0 | ⟨_, h0⟩
    · exact fun e => hk.2 s _ h0 e.symm
    · rw [h0]; exact fun e => by cases e
  have h1 := Kd.R_grown (Kd.R_bound h) hg (fun k hk => e0 k hk.1)
  have h2 := Kd.R_grown h1 hg2 (fun k hk e => hk.1.1 (by injection e))
  refine Kd.R_mono h2 (fun k hk => ⟨hk.1.1, fun t p hp => ?_⟩)
  by_cases ht : t = s
  · subst ht
    rw [KV.get_put_same] at hp
    obtain rfl := Option.some.inj hp
    rcases hat with hat | ⟨b, hb, hb2⟩
    · show v1.ownBlock ≠ some k
      rw [hat]; exact fun e => e0 k hk.1 e.symm
    · show v1.ownBlock ≠ some k
      rw [hb]; intro e; injection e; have := hk.2.2.1; omega
  · rw [KV.get_put_other _ ht] at hp
    exact hk.1.2 t p hp
open Classical in
theorem list_put {cols : List Int} {t : List (List V)} {kv : List (ByteArray × LV)} {row : List V} {v1 : Value} {r0 : List (List V)} (h : ∀ s, ((KV.get kv s).map (·.2)).getD [] = listR cols t s) (h0 : ((KV.get kv (nameOf (keyOf cols row))).map (·.2)).getD [] = r0) :
    ∀ s, ((KV.get (KV.put kv (nameOf (keyOf cols row)) (v1, r0 ++ [row])) s).map (·.2)).getD [] = listR cols (t ++ [row]) s := fun s => by
  unfold listR at h ⊢
  rw [List.filter_append]
  by_cases hs : s = nameOf (keyOf cols row)
  · subst hs
    rw [KV.get_put_same, ← h, h0]
    simp
  · rw [KV.get_put_other _ hs, h]
    have : ¬ nameOf (keyOf cols row) = s := fun e => hs e.symm
    simp [this]
theorem len_put {kv : List (ByteArray × LV)} {x : Int} (h : ∀ s p, KV.get kv s = some p → (p.2.length : Int) ≤ x) (s : ByteArray) (y : LV) (hy : (y.2.length : Int) ≤ x + 1) : ∀ t p, KV.get (KV.put kv s y) t = some p → (p.2.length : Int) ≤ x + 1 := fun t p hp => by
  by_cases ht : t = s
  · subst ht
    rw [KV.get_put_same] at hp
    obtain rfl := Option.some.inj hp
    exact hy
  · rw [KV.get_put_other _ ht] at hp
    have := h t p hp
    omega
theorem zeroRows (w : World) : (zeroValue 37).run Tryd.prog w = .ok (.slice none 0 0) w := by kernel_rfl
end Go.Proofs.YtecgkcgfeghhgaaDoor.PAll
set_option linter.unusedVariables false
set_option linter.unusedSimpArgs false
namespace Go.Proofs.YtecgkcgfeghhgaaDoor.PAll
open Go.RowKit Go.Proofs.YtecgkcgfeghhgaaDoorW.PrintWords Go.Proofs.YtecgkcgfeghhgaaDoorW.PrintLast Go.Proofs.YtecgkcgfeghhgaaDoorW.PrintMore
def GroupsPost (w : World) (cols : List Int) (l : List (List V)) (e : Ending) (w' : World) : Prop :=
  ∃ (v : Value) (m : Nat) (kv : List (ByteArray × LV)), e = .returned (.tuple #[v, .map (some m)]) ∧ kRow.R 58 w' w.heap.size (fun _ => True) v (keysR cols l) ∧ KV.Is w' m (fun p : LV => p.1) kv ∧
    (∀ s p, KV.get kv s = some p → ∃ A c, p.1 = .slice A p.2.length c ∧ p.2.length ≤ c ∧ kRow.C w' A p.2.length p.2) ∧ (∀ s, ((KV.get kv s).map (·.2)).getD [] = listR cols l s) ∧ Below w.heap.size w w'
open Classical in
set_option maxHeartbeats 4000000 in
set_option maxRecDepth 100000 in
theorem groups_calls (A0 : Option Addr) (c0 : Nat) (l0 : List (List V)) (A1 : Option Addr) (c1 : Nat) (l1 : List Int) (w : World) (hT : LaidT w) (hr0 : Kd.C kRow w A0 l0.length l0) (hr1 : Kd.C (Kd.int .i64) w A1 l1.length l1) (hn0 : l0.length ≤ 1099511627776) (hn1 : l1.length ≤ 1099511627776) (hne : l1 ≠ [])
    (hin : ∀ row ∈ l0, ∀ n ∈ l1, 0 ≤ n ∧ n < (row.length : Int)) (hkey : ∀ row ∈ l0, RowOk (keyOf l1 row) ∧ ∀ v ∈ keyOf l1 row, validV v = true) :
    Calls Tryd.prog 32 #[.slice A0 l0.length c0, .slice A1 l1.length c1] w fun e w' => GroupsPost w l1 l0 e w' := by
  have hmm : ∀ (w : World), (Instr.makeMap 74 none).run Tryd.prog w = .ok (.map (some w.heap.size)) (w.alloc (.map #[] 0)) := fun _ => by kernel_rfl
  have hz : ((l1.length : Int) == 0) = false := by
    have : l1.length ≠ 0 := fun e => hne (List.eq_nil_of_length_eq_zero e)
    simp; omega
  have HT := Aside0.mk hT
  have HR0 := Aside0.mk hr0
  have HR1 := Aside0.mk hr1
  have HN0 := Aside0.mk hn0
  have HN1 := Aside0.mk hn1
  have HNE := Aside0.mk hne
  have HIN := Aside0.mk hin
  have HKEY := Aside0.mk hkey
  clear hT hr0 hr1 hn0 hn1 hne hin hkey
  go_enter Tryd.func32, Tryd.ntmps32
  go_wp2
  clear hmm hz
  have B0 := Aside0.mk ((Below.refl w.heap.size w).alloc (Nat.le_refl _) (.map #[] 0))
  have M0 : Aside0 (LM w (w.alloc (.map #[] 0)) w.heap.size []) := ⟨⟨KV.Is.made w _, fun s p hp => by simp [KV.get] at hp, fun s t p q hp => by simp [KV.get] at hp⟩⟩
  go_loopg [24, 4] l0.length (fun kq v24 v4 W => ∃ (x : Int) (kv : List (ByteArray × LV)) (keys : List (List V)) (seen : List ByteArray), v24 = .int .i64 x ∧ Aside0 (0 ≤ x ∧ x ≤ l0.length ∧ (kq : Int) = l0.length - x) ∧ Aside0 (LM w W w.heap.size kv) ∧ Aside0 (kRow.R 58 W w.heap.size (KOk w kv) v4 keys) ∧ Aside0 (keys ++ distR seen ((l0.drop x.toNat).map (keyOf l1)) = distR [] (l0.map (keyOf l1)) ∧ keys.length ≤ x ∧ (∀ s, (KV.get kv s).isSome = decide (s ∈ seen)) ∧ (∀ s, ((KV.get kv s).map (·.2)).getD [] = listR l1 (l0.take x.toNat) s) ∧ ∀ s p, KV.get kv s = some p → (p.2.length : Int) ≤ x) ∧ Aside0 (Below w.heap.size w W))
  case atStart => exact ⟨0, [], [], [], rfl, ⟨by omega⟩, M0, ⟨Kd.R_nil _ _ _ _ _⟩, ⟨by simp, by simp, fun s => by simp [KV.get], fun s => by simp [KV.get, listR], fun s p hp => by simp [KV.get] at hp⟩, B0⟩
  case round =>
    clear M0 B0
    obtain ⟨x, kv, keys, seen, rfl, HX, HM, HO, HD, HB⟩ := hrel
    obtain ⟨hx0, hx1, hkq⟩ := HX.out
    by_cases hlt : x < (l0.length : Int)
    · have c1' : decide (x < (l0.length : Int)) = true := decide_eq_true hlt
      have c2 : decide (0 ≤ x) = true := decide_eq_true hx0
      obtain ⟨ad, Ar, cr, e, hx_0, hlc, hrow⟩ := at_L4 HR0.out x hx0 hlt
      cases e
      replace hx_0 := (HB.out.cell (World.block_lt_of_cell? w _ hx_0)).trans hx_0
      have hi : x.toNat < l0.length := by omega
      have hrd : rd_L4 l0 x = l0[x.toNat] := by simp [rd_L4, List.getElem?_eq_getElem hi]
      have hin := HIN.out (rd_L4 l0 x) (by rw [hrd]; exact List.getElem_mem hi)
      have hky := HKEY.out (rd_L4 l0 x) (by rw [hrd]; exact List.getElem_mem hi)
      have hdd := HD.out.1
      rw [drop_cons l0 x.toNat hi, ← hrd, List.map_cons] at hdd
      have htk : l0.take (x + 1).toNat = l0.take x.toNat ++ [rd_L4 l0 x] := by
        rw [show (x + 1).toNat = x.toNat + 1 by omega, take_snoc _ _ hi, hrd]
      obtain ⟨row, hrw⟩ : ∃ row, row = rd_L4 l0 x := ⟨_, rfl⟩
      rw [← hrw] at hx_0 hlc hrow hin hky hdd htk
      have HROW := Aside0.mk hrow
      have HLC := Aside0.mk hlc
      have HINR := Aside0.mk hin
      have HKY := Aside0.mk hky
      have HDD := Aside0.mk hdd
      have HTK := Aside0.mk htk
      have HLT := Aside0.mk hlt
      have HKQ := Aside0.mk hkq
      have HX0 := Aside0.mk hx0
      have HWR : Aside0 (wrap64 (x + 1) = x + 1) := ⟨by have := HN0.out; unfold wrap64; omega⟩
      clear hlc hrow hrd hrw hkq hi hin hky hdd htk
      go_wp2
      obtain ⟨wO, hwO⟩ : ∃ wO, wO = wr := ⟨_, rfl⟩
      subst hwO
      obtain ⟨gO, hgO⟩ : ∃ gO, gO = gk := ⟨_, rfl⟩
      subst hgO
      go_loopg [30, 8] l1.length (fun kq v30 v8 W => ∃ y : Int, v30 = .int .i64 y ∧ Aside0 (0 ≤ y ∧ y ≤ l1.length ∧ (kq : Int) = l1.length - y) ∧ Aside0 (kV.R 27 W wO.heap.size (fun _ => True) v8 ((l1.take y.toNat).map (fun n => rd_T27 row n))) ∧ Aside0 (Below wO.heap.size wO W))
      case atStart => exact ⟨0, rfl, ⟨by omega⟩, ⟨by simpa using Kd.R_nil _ _ _ _ _⟩, ⟨Below.refl _ _⟩⟩
      case round =>
        obtain ⟨y, rfl, HY, HK, HBI⟩ := hrel
        obtain ⟨hy0, hy1, hkq⟩ := HY.out
        by_cases hly : y < (l1.length : Int)
        · have c1 : decide (y < (l1.length : Int)) = true := decide_eq_true hly
          have c2 : decide (0 ≤ y) = true := decide_eq_true hy0
          obtain ⟨ad1, e, hy_0⟩ := Kd.at_int HR1.out y hy0 hly
          cases e
          have hbw : Below w.heap.size w wr := HB.out.trans (HBI.out.mono HB.out.size)
          replace hy_0 := (hbw.cell (World.block_lt_of_cell? w _ hy_0)).trans hy_0
          have hj : y.toNat < l1.length := by omega
          have hrd : rd l1 y = l1[y.toNat] := by simp [rd, List.getElem?_eq_getElem hj]
          obtain ⟨hn0, hn1⟩ := HINR.out (rd l1 y) (by rw [hrd]; exact List.getElem_mem hj)
          have htk2 : (l1.take (y + 1).toNat).map (fun n => rd_T27 row n) = (l1.take y.toNat).map (fun n => rd_T27 row n) ++ [rd_T27 row (rd l1 y)] := by
            rw [show (y + 1).toNat = y.toNat + 1 by omega, take_snoc _ _ hj, List.map_append, hrd]; rfl
          obtain ⟨n, hn⟩ : ∃ n, n = rd l1 y := ⟨_, rfl⟩
          rw [← hn] at hy_0 hn0 hn1 htk2
          have d1 : decide (0 ≤ n) = true := decide_eq_true hn0
          have d2 : decide (n < (row.length : Int)) = true := decide_eq_true hn1
          obtain ⟨adA, e, ha_0, ha_1, ha_2⟩ := at_T27 HROW.out n hn0 hn1
          cases e
          replace ha_0 := (hbw.cell (World.block_lt_of_cell? w _ ha_0)).trans ha_0
          replace ha_1 := (hbw.cell (World.block_lt_of_cell? w _ ha_1)).trans ha_1
          replace ha_2 := (hbw.cell (World.block_lt_of_cell? w _ ha_2)).trans ha_2
          obtain ⟨v, hv⟩ : ∃ v, v = rd_T27 row n := ⟨_, rfl⟩
          rw [← hv] at ha_0 ha_1 ha_2 htk2
          have HTK2 := Aside0.mk htk2
          have HLY := Aside0.mk hly
          have HKQ2 := Aside0.mk hkq
          have HY0 := Aside0.mk hy0
          have HWY : Aside0 (wrap64 (y + 1) = y + 1) := ⟨by have := HN1.out; unfold wrap64; omega⟩
          have HLEN : Aside0 ((((l1.take y.toNat).map (fun n => rd_T27 row n)).length + 1) * 32 ≤ 140737488355328) := ⟨by
            rw [List.length_map, List.length_take]
            have := HN1.out
            omega⟩
          clear htk2 hkq hv hn hrd hj hbw hy1
          go_wp2_with (at_builtin; refine Kd.R_append kV (w0 := wO) wO.heap.size rfl (.tmp 34) (.tmp 39) 58 27 (.agg #[(.int .u8 0), (.int .i64 0), (.string ⟨#[]⟩)]) 32 rfl Tryd.underlying58 infoV rfl (by decide) (by decide) _ _ v [.int .u8 v.f0, .int .i64 v.f1, .string v.f2] (fun _ => True) (fun _ => False) rfl rfl (k27_mkM _ _ _ v) (fun _ h => h.elim) (fun _ _ => trivial) HK.out HBI.out HBI.out.size HLEN.out ?_; intro v6 w6 hR4 hb4 hg4 hat4; have HO4 := Aside0.mk hR4; have HB4 := Aside0.mk hb4; clear hR4 hb4 hg4 hat4)
          have hk := HKQ2.out
          have hly := HLY.out
          have hy0 := HY0.out
          cases gk with
          | zero => omega
          | succ k1 =>
            go_roundg k1
            case measure => omega
            case rel => exact ⟨y + 1, by rw [HWY.out], ⟨by omega⟩, ⟨by rw [HTK2.out]; exact HO4.out⟩, HB4⟩
        · have c1 : decide (y < (l1.length : Int)) = false := decide_eq_false hly
          have hkk : (l1.take y.toNat).map (fun n => rd_T27 row n) = keyOf l1 row := by
            rw [List.take_of_length_le (by omega)]; rfl
          rw [hkk] at HK
          clear hkk HY hy0 hy1 hkq hly
          obtain ⟨key, hkey⟩ : ∃ key, key = keyOf l1 row := ⟨_, rfl⟩
          rw [← hkey] at HK HKY HDD
          have HKE := Aside0.mk hkey
          clear hkey
          obtain ⟨Ak, ck, ek, hlk, hCk⟩ := Kd.R_reads HK.out
          subst ek
          have HCK := Aside0.mk hCk
          have HLK := Aside0.mk hlk
          clear hCk hlk
          have HBB := Aside0.mk (HB.out.trans (HBI.out.mono HB.out.size))
          go_wp2_with fail
          refine (name_calls Ak ck key wr (HT.out.below HBB.out) HCK.out HLK.out HKY.out.1.1 HKY.out.1.2.1 HKY.out.1.2.2).mono ?_
          rintro e wN ⟨rfl, hbn⟩
          have hON : Below wO.heap.size wO wN := HBI.out.trans (hbn.mono HBI.out.size)
          have HSZ := Aside0.mk hON.size
          have HMN := Aside0.mk (HM.out.below hON)
          have HON := Aside0.mk (Kd.R_below HO.out hON)
          have HKN := Aside0.mk (Kd.R_mono (Kd.R_lower (Kd.R_bound (Kd.R_below HK.out hbn)) HB.out.size) (ok' := fun k => wO.heap.size ≤ k) (fun k hk => hk.2.1))
          have HBN := Aside0.mk (HBB.out.trans (hbn.mono HBB.out.size))
          have HFR : Aside0 (∀ k, wO.heap.size ≤ k → KOk w kv k ∧ some k ≠ u4.ownBlock) := ⟨fun k hk => ⟨⟨fun e => by have := HM.out.is.lt; omega, fun s p hp e => by have := Kd.R_lt (HM.out.own s p hp) k e; omega⟩, fun e => by have := Kd.R_lt HO.out k e.symm; omega⟩⟩
          have HKL : Aside0 ((keys.length + 1) * 24 ≤ 140737488355328) := ⟨by have := HD.out.2.1; have := HLT.out; have := HN0.out; omega⟩
          clear hbn hON
          by_cases hz : nameOf key ∈ seen
          · obtain ⟨p, hp⟩ : ∃ p, KV.get kv (nameOf key) = some p := Option.isSome_iff_exists.1 (by rw [HD.out.2.2.1]; exact decide_eq_true hz)
            obtain ⟨v0, r0⟩ := p
            have HGT := Aside0.mk hp
            have HZ := Aside0.mk hz
            have HRO := Aside0.mk (HMN.out.own _ _ hp)
            have HLE : Aside0 ((r0.length : Int) ≤ x) := ⟨HD.out.2.2.2.2 _ _ hp⟩
            have HL2 : Aside0 ((r0.length + 1) * 24 ≤ 140737488355328) := ⟨by have := HLE.out; have := HLT.out; have := HN0.out; omega⟩
            clear hz hp
            go_wp2_with (first
              | (at_lookup; refine KV.law_lookup_ok _ rfl _ _ 74 rfl 9 37 Tryd.underlying9 Tryd.underlying74 (.slice none 0 0) (zeroRows _) w.heap.size (fun p : LV => p.1) kv rfl HMN.out.is (nameOf key) rfl v0 (by rw [HGT.out]; rfl) true (by rw [HGT.out]; rfl) ?_)
              | (at_lookup; refine KV.law_lookup _ rfl _ _ 74 rfl 9 37 Tryd.underlying9 Tryd.underlying74 (.slice none 0 0) (zeroRows _) w.heap.size (fun p : LV => p.1) kv rfl HMN.out.is (nameOf key) rfl v0 (by rw [HGT.out]; rfl) ?_)
              | (at_builtin; refine Kd.R_append (relK w).kd (w0 := w) w.heap.size rfl (.tmp 60) (.tmp 62) 37 58 (.slice none 0 0) 24 rfl Tryd.underlying37 infoRow rfl (Nat.le_refl 1) (by decide) _ r0 row [.slice Ar row.length cr] (fun k => k ≠ w.heap.size) (fun _ => False) rfl rfl ⟨Ar, cr, rfl, HLC.out, HROW.out⟩ (fun _ h => h.elim) (fun k hk e => by have := HMN.out.is.lt; omega) HRO.out HBN.out HBN.out.size HL2.out ?_; intro v7 w7 hR7 hb7 hg7 hat7; have HR7 := Aside0.mk hR7; have HB7 := Aside0.mk hb7; have HG7 := Aside0.mk hg7; have HA7 := Aside0.mk hat7; have HI7 := Aside0.mk (HMN.out.is.grown hg7 (fun e => HRO.out.1 _ e.symm rfl)); clear hR7 hb7 hg7 hat7)
              | (at_mapUpdate; refine KV.law_update _ rfl _ _ _ 74 rfl 9 37 Tryd.underlying9 Tryd.underlying74 w.heap.size (fun p : LV => p.1) kv rfl HI7.out (nameOf key) rfl (v7, r0 ++ [row]) rfl ?_; intro w8 hM8 hg8; have HM8 := Aside0.mk hM8; have HG8 := Aside0.mk hg8; clear hM8 hg8))
            have hlt := HLT.out
            have hk := HKQ.out
            have hx0 := HX0.out
            have hd := HD.out
            cases gO with
            | zero => omega
            | succ k1 =>
              go_roundg k1
              case measure => omega
              case rel =>
                refine ⟨x + 1, KV.put kv (nameOf key) (v7, r0 ++ [row]), keys, seen, by rw [HWR.out], ⟨by omega⟩, ⟨HMN.out.put (.inl HGT.out) HR7.out HG7.out HA7.out HM8.out HG8.out⟩, ⟨KR_put HON.out (.inl HGT.out) HG7.out HA7.out HG8.out⟩, ⟨?_, by omega, ?_, ?_, ?_⟩, ⟨HB7.out.grown HG8.out HB7.out.size (fun k hk => by cases hk; exact Nat.le_refl _)⟩⟩
                · have hdd := HDD.out
                  rw [distR, if_pos HZ.out] at hdd
                  rw [show (x + 1).toNat = x.toNat + 1 by omega]
                  simpa using hdd
                · intro s
                  by_cases hs : s = nameOf key
                  · subst hs; rw [KV.get_put_same]; simp [HZ.out]
                  · rw [KV.get_put_other _ hs, hd.2.2.1]; try simp [hs]
                · rw [HTK.out, HKE.out]
                  exact list_put hd.2.2.2.1 (by rw [← HKE.out, HGT.out]; rfl)
                · exact len_put hd.2.2.2.2 _ _ (by have := HLE.out; simp; omega)
          · have hgn : KV.get kv (nameOf key) = none := by
              have := HD.out.2.2.1 (nameOf key)
              rw [decide_eq_false hz] at this
              exact Option.isNone_iff_eq_none.1 (by simpa using this)
            have HGT := Aside0.mk hgn
            have HZ := Aside0.mk hz
            clear hz hgn
            go_wp2_with (first
              | (at_lookup; refine KV.law_lookup_ok _ rfl _ _ 74 rfl 9 37 Tryd.underlying9 Tryd.underlying74 (.slice none 0 0) (zeroRows _) w.heap.size (fun p : LV => p.1) kv rfl HMN.out.is (nameOf key) rfl (.slice none 0 0) (by rw [HGT.out]; rfl) false (by rw [HGT.out]; rfl) ?_)
              | (at_lookup; refine KV.law_lookup _ rfl _ _ 74 rfl 9 37 Tryd.underlying9 Tryd.underlying74 (.slice none 0 0) (zeroRows _) w.heap.size (fun p : LV => p.1) kv rfl HM5.out.is (nameOf key) rfl (.slice none 0 0) (by rw [HGT.out]; rfl) ?_)
              | (at_builtin; refine Kd.R_append kRow (w0 := w) w.heap.size rfl (.tmp 52) (.tmp 54) 37 58 (.slice none 0 0) 24 rfl Tryd.underlying37 infoRow rfl (Nat.le_refl 1) (by decide) _ keys key [.slice Ak key.length ck] (KOk w kv) (fun k => wO.heap.size ≤ k) rfl rfl ⟨_, rfl, HKN.out⟩ HFR.out (fun k hk => (HFR.out k (Nat.le_trans HSZ.out hk)).1) HON.out HBN.out HBN.out.size HKL.out ?_; intro v5 w5 hR5 hb5 hg5 hat5; have HR5 := Aside0.mk hR5; have HB5 := Aside0.mk hb5; have HM5 := Aside0.mk (HMN.out.grown hg5 (fun e => (HON.out.1 _ e.symm).1 rfl) (fun s p hp k hk e => (HON.out.1 k e.symm).2 s p hp hk)); clear hR5 hb5 hg5 hat5)
              | (at_builtin; refine Kd.R_append (relK w).kd (w0 := w) w.heap.size rfl (.tmp 60) (.tmp 62) 37 58 (.slice none 0 0) 24 rfl Tryd.underlying37 infoRow rfl (Nat.le_refl 1) (by decide) _ [] row [.slice Ar row.length cr] (fun k => k ≠ w.heap.size) (fun _ => False) rfl rfl ⟨Ar, cr, rfl, HLC.out, HROW.out⟩ (fun _ h => h.elim) (fun k hk e => by have := HM5.out.is.lt; omega) (Kd.R_nil _ _ _ _ _) HB5.out HB5.out.size (by decide) ?_; intro v7 w7 hR7 hb7 hg7 hat7; have HR7 := Aside0.mk hR7; have HB7 := Aside0.mk hb7; have HG7 := Aside0.mk hg7; have HA7 := Aside0.mk hat7; have HI7 := Aside0.mk (HM5.out.is.grown hg7 (fun e => by cases e)); clear hR7 hb7 hg7 hat7)
              | (at_mapUpdate; refine KV.law_update _ rfl _ _ _ 74 rfl 9 37 Tryd.underlying9 Tryd.underlying74 w.heap.size (fun p : LV => p.1) kv rfl HI7.out (nameOf key) rfl (v7, [] ++ [row]) rfl ?_; intro w8 hM8 hg8; have HM8 := Aside0.mk hM8; have HG8 := Aside0.mk hg8; clear hM8 hg8))
            have hlt := HLT.out
            have hk := HKQ.out
            have hx0 := HX0.out
            have hd := HD.out
            cases gO with
            | zero => omega
            | succ k1 =>
              go_roundg k1
              case measure => omega
              case rel =>
                refine ⟨x + 1, KV.put kv (nameOf key) (v7, [] ++ [row]), keys ++ [key], nameOf key :: seen, by rw [HWR.out], ⟨by omega⟩, ⟨HM5.out.put (v0 := .slice none 0 0) (r0 := []) (.inr ⟨HGT.out, rfl⟩) HR7.out HG7.out HA7.out HM8.out HG8.out⟩, ⟨KR_put (v0 := .slice none 0 0) (r0 := []) HR5.out (.inr ⟨HGT.out, rfl⟩) HG7.out HA7.out HG8.out⟩, ⟨?_, by simp; omega, ?_, ?_, ?_⟩, ⟨HB7.out.grown HG8.out HB7.out.size (fun k hk => by cases hk; exact Nat.le_refl _)⟩⟩
                · have hdd := HDD.out
                  rw [distR, if_neg HZ.out] at hdd
                  rw [show (x + 1).toNat = x.toNat + 1 by omega]
                  simpa using hdd
                · intro s
                  by_cases hs : s = nameOf key
                  · subst hs; rw [KV.get_put_same]; simp
                  · rw [KV.get_put_other _ hs, hd.2.2.1]; try simp [hs]
                · rw [HTK.out, HKE.out]
                  exact list_put hd.2.2.2.1 (by rw [← HKE.out, HGT.out]; rfl)
                · exact len_put hd.2.2.2.2 _ _ (by simp; omega)
    · have c1' : decide (x < (l0.length : Int)) = false := decide_eq_false hlt
      have hd := HD.out
      have hks : keys = distR [] (l0.map (keyOf l1)) := by
        have := hd.1
        rw [List.drop_eq_nil_of_le (by omega), List.map_nil, distR, List.append_nil] at this
        exact this
      subst hks
      have HLS : Aside0 (∀ s, ((KV.get kv s).map (·.2)).getD [] = listR l1 l0 s) := ⟨fun s => by
        have := hd.2.2.2.1 s
        rw [List.take_of_length_le (by omega)] at this
        exact this⟩
      have hin : ∀ row ∈ distR [] (l0.map (keyOf l1)), RowOk row ∧ ∀ v ∈ row, validV v = true := fun row hrow => by
        obtain ⟨r, hr, rfl⟩ := List.mem_map.1 (distR_mem _ _ _ hrow)
        exact HKEY.out r hr
      have HGD : Aside0 (∀ row ∈ distR [] (l0.map (keyOf l1)), RowGood [] row) := ⟨fun row hrow => ⟨(hin row hrow).2, (by intro k hk; cases hk), (hin row hrow).1.2.2⟩⟩
      have HLN : Aside0 ((distR [] (l0.map (keyOf l1))).length ≤ 1099511627776) := ⟨by
        have h1 := distR_len (l0.map (keyOf l1)) []
        rw [List.length_map] at h1
        exact Nat.le_trans h1 HN0.out⟩
      obtain ⟨ds, hds⟩ : ∃ ds, ds = distR [] (l0.map (keyOf l1)) := ⟨_, rfl⟩
      rw [← hds] at HLN HGD HO
      have HDS := Aside0.mk hds
      clear HX HD hd hx0 hx1 hlt hkq hds hin
      obtain ⟨Av, cv, ev, hlc, hC⟩ := Kd.R_reads HO.out
      subst ev
      have HC := Aside0.mk hC
      clear hC hlc
      go_wp2_with fail
      refine (arranged_calls Av cv ds none 0 [] wr HC.out (Kd.C_nil _ _) HGD.out HLN.out (by simp)).mono ?_
      rintro e w2 ⟨v2, rfl, hR2, hb2⟩
      have HR2 := Aside0.mk (Kd.R_lower hR2 HB.out.size)
      have HB2 := Aside0.mk (HB.out.trans (hb2.mono HB.out.size))
      have HM2 := Aside0.mk (HM.out.below hb2)
      clear hR2 hb2
      go_wp2
      go_ret2
      refine ⟨v2, w.heap.size, kv, rfl, ?_, HM2.out.is, fun s p hp => ?_, HLS.out, HB2.out⟩
      · unfold keysR
        rw [if_neg HNE.out, ← HDS.out]
        exact HR2.out
      · obtain ⟨A, c, he, hl, hc⟩ := Kd.R_reads (HM2.out.own s p hp)
        exact ⟨A, c, he, hl, relK_C hc HB2.out⟩
open Classical in
set_option maxHeartbeats 4000000 in
set_option maxRecDepth 100000 in
theorem groups_nil (A0 : Option Addr) (c0 : Nat) (l0 : List (List V)) (A1 : Option Addr) (c1 : Nat) (w : World) (hr0 : Kd.C kRow w A0 l0.length l0) (hc0 : l0.length ≤ c0) :
    Calls Tryd.prog 32 #[.slice A0 l0.length c0, .slice A1 0 c1] w fun e w' => GroupsPost w [] l0 e w' := by
  have hmm : ∀ (w : World), (Instr.makeMap 74 none).run Tryd.prog w = .ok (.map (some w.heap.size)) (w.alloc (.map #[] 0)) := fun _ => by kernel_rfl
  have HR0 := Aside0.mk hr0
  have HC0 := Aside0.mk hc0
  clear hr0 hc0
  have M0 := Aside0.mk (KV.Is.made w (fun p : LV => p.1))
  have HB0 := Aside0.mk ((Below.refl w.heap.size w).alloc (Nat.le_refl _) (.map #[] 0))
  go_enter Tryd.func32, Tryd.ntmps32
  go_wp2_with (at_mapUpdate; refine KV.law_update _ rfl _ _ _ 74 rfl 9 37 Tryd.underlying9 Tryd.underlying74 w.heap.size (fun p : LV => p.1) [] rfl M0.out (⟨#[]⟩ : ByteArray) rfl ((.slice A0 l0.length c0, l0) : LV) rfl ?_; intro w8 hM8 hg8; have HM8 := Aside0.mk hM8; have HB8 := Aside0.mk (HB0.out.grown hg8 HB0.out.size (fun k hk => by cases hk; exact Nat.le_refl _)); clear hM8 hg8)
  go_ret2
  have hB9 : Below w.heap.size w (w8.alloc (.cells #[.slice none 0 0] 58)) := HB8.out.alloc HB8.out.size _
  refine ⟨_, w.heap.size, _, rfl, ?_, HM8.out.below ((Below.refl _ w8).alloc (Nat.le_refl _) _), fun s p hp => ?_, fun s => ?_, hB9⟩
  · unfold keysR
    rw [if_pos rfl]
    have h := World.ownsRow_lit (base := w.heap.size) (e := 58) (size := 1) w8 #[.slice none 0 0] 1 HB8.out.size (by decide) (by decide)
    refine ⟨fun _ _ => trivial, [.slice none 0 0], h, rfl, fun j p hj => ?_⟩
    cases j with
    | succ j => simp at hj
    | zero =>
      obtain rfl : [] = p := by simpa using hj
      exact ⟨_, rfl, Kd.R_nil _ _ _ _ _⟩
  · simp only [KV.put, KV.get] at hp
    split at hp
    · obtain rfl := Option.some.inj hp
      exact ⟨A0, c0, rfl, HC0.out, Kd.C_below HR0.out hB9⟩
    · cases hp
  · simp only [KV.put, KV.get]
    unfold listR
    have e0 : ∀ r : List V, nameOf (keyOf [] r) = (⟨#[]⟩ : ByteArray) := fun r => rfl
    by_cases hs : (⟨#[]⟩ : ByteArray) = s
    · subst hs
      rw [if_pos rfl]
      exact (List.filter_eq_self.2 (fun r _ => decide_eq_true (e0 r))).symm
    · rw [if_neg hs]
      exact (List.filter_eq_nil_iff.2 (fun r _ => by rw [decide_eq_true_eq, e0]; exact hs)).symm
theorem groups_all (A0 : Option Addr) (c0 : Nat) (l0 : List (List V)) (A1 : Option Addr) (c1 : Nat) (l1 : List Int) (w : World) (hT : LaidT w) (hr0 : Kd.C kRow w A0 l0.length l0) (hc0 : l0.length ≤ c0) (hr1 : Kd.C (Kd.int .i64) w A1 l1.length l1) (hn0 : l0.length ≤ 1099511627776) (hn1 : l1.length ≤ 1099511627776)
    (hin : ∀ row ∈ l0, ∀ n ∈ l1, 0 ≤ n ∧ n < (row.length : Int)) (hkey : ∀ row ∈ l0, RowOk (keyOf l1 row) ∧ ∀ v ∈ keyOf l1 row, validV v = true) :
    Calls Tryd.prog 32 #[.slice A0 l0.length c0, .slice A1 l1.length c1] w fun e w' => GroupsPost w l1 l0 e w' := by
  cases l1 with
  | nil => exact groups_nil A0 c0 l0 A1 c1 w hr0 hc0
  | cons n ns => exact groups_calls A0 c0 l0 A1 c1 (n :: ns) w hT hr0 hr1 hn0 hn1 (by simp) hin hkey
end Go.Proofs.YtecgkcgfeghhgaaDoor.PAll
set_option linter.unusedVariables false
set_option linter.unusedSimpArgs false
namespace Go.Proofs.YtecgkcgfeghhgaaDoor.PAll
open Go.RowKit Go.Proofs.YtecgkcgfeghhgaaDoorW.PrintWords Go.Proofs.YtecgkcgfeghhgaaDoorW.PrintLast Go.Proofs.YtecgkcgfeghhgaaDoorW.PrintMore
abbrev AggT := S47
abbrev kAgg : Kd AggT := k47
noncomputable def groupRow (cols : List Int) (l : List (List V)) (m : Nat) (key : List V) : List V := key ++ List.replicate m (⟨1, ((listR cols l (nameOf key)).length : Int), ⟨#[]⟩⟩ : V)
noncomputable def groupR (cols : List Int) (l : List (List V)) (m : Nat) : List (List V) := (keysR cols l).map (groupRow cols l m)
structure GroupOk (l : List (List V)) (cols : List Int) (aggs : List AggT) : Prop where
  rows : RowsOk l
  cn : cols.length ≤ 1099511627776
  an : aggs.length ≤ 1099511627776
  one : ∀ a ∈ aggs, a = ⟨0, 0, false⟩
  keys : ∀ row ∈ l, RowOk (keyOf cols row)
  row1 : ∀ row ∈ l, RowOk [rd_T27 row 0]
  keyn : ∀ key ∈ keysR cols l, RowOk key
  keysn : (keysR cols l).length ≤ 1099511627776
theorem out_far {W : World} {b q : Nat} (hne : q ≠ b) (x0 x1 x2 x3 : Value) (j : Nat) : ((((W.setCell ⟨b, 0, none⟩ x0).setCell ⟨b, 1, none⟩ x1).setCell ⟨b, 2, none⟩ x2).setCell ⟨b, 3, none⟩ x3).cell? ⟨q, j, none⟩ = W.cell? ⟨q, j, none⟩ := by
  have h : ((((W.setCell ⟨b, 0, none⟩ x0).setCell ⟨b, 1, none⟩ x1).setCell ⟨b, 2, none⟩ x2).setCell ⟨b, 3, none⟩ x3).heap[q]? = W.heap[q]? :=
    (Below.heap_setCell _ _ _ q hne).trans ((Below.heap_setCell _ _ _ q hne).trans ((Below.heap_setCell _ _ _ q hne).trans (Below.heap_setCell _ _ _ q hne)))
  simp only [World.cell?, h]
theorem out_belowB {w W : World} {q : Nat} (h : Below w.heap.size w W) (hq : w.heap.size ≤ q) (x0 x1 x2 x3 : Value) : Below w.heap.size w ((((W.setCell ⟨q, 0, none⟩ x0).setCell ⟨q, 1, none⟩ x1).setCell ⟨q, 2, none⟩ x2).setCell ⟨q, 3, none⟩ x3) :=
  (((h.setCell hq _).setCell hq _).setCell hq _).setCell hq _
theorem cells3 {W W1 : World} {b : Nat} {u0 u1 u2 : Value} (hb : Below W.heap.size W W1) (h : W.cell? ⟨b, 0, none⟩ = some u0 ∧ W.cell? ⟨b, 1, none⟩ = some u1 ∧ W.cell? ⟨b, 2, none⟩ = some u2) : W1.cell? ⟨b, 0, none⟩ = some u0 ∧ W1.cell? ⟨b, 1, none⟩ = some u1 ∧ W1.cell? ⟨b, 2, none⟩ = some u2 :=
  ⟨pw_cell_below hb h.1, pw_cell_below hb h.2.1, pw_cell_below hb h.2.2⟩
theorem far3 {W : World} {b q : Nat} {u0 u1 u2 x0 x1 x2 x3 : Value} (hne : q ≠ b) (h : W.cell? ⟨q, 0, none⟩ = some u0 ∧ W.cell? ⟨q, 1, none⟩ = some u1 ∧ W.cell? ⟨q, 2, none⟩ = some u2) :
    ((((W.setCell ⟨b, 0, none⟩ x0).setCell ⟨b, 1, none⟩ x1).setCell ⟨b, 2, none⟩ x2).setCell ⟨b, 3, none⟩ x3).cell? ⟨q, 0, none⟩ = some u0 ∧ ((((W.setCell ⟨b, 0, none⟩ x0).setCell ⟨b, 1, none⟩ x1).setCell ⟨b, 2, none⟩ x2).setCell ⟨b, 3, none⟩ x3).cell? ⟨q, 1, none⟩ = some u1 ∧ ((((W.setCell ⟨b, 0, none⟩ x0).setCell ⟨b, 1, none⟩ x1).setCell ⟨b, 2, none⟩ x2).setCell ⟨b, 3, none⟩ x3).cell? ⟨q, 2, none⟩ = some u2 :=
  ⟨(out_far hne _ _ _ _ 0).trans h.1, (out_far hne _ _ _ _ 1).trans h.2.1, (out_far hne _ _ _ _ 2).trans h.2.2⟩
theorem out2_cells {W : World} {q : Nat} {t : TypeId} {a b : Value} (h : W.heap[q]? = some (.cells #[a, b] t (0, 0))) (x0 x1 : Value) : ((W.setCell ⟨q, 0, none⟩ x0).setCell ⟨q, 1, none⟩ x1).heap[q]? = some (.cells #[x0, x1] t (0, 0)) :=
  blk_put (cs := #[x0, b]) (blk_put (cs := #[a, b]) h 0 _ rfl) 1 _ rfl
theorem out2_below {w W : World} {q : Nat} (h : Below w.heap.size w W) (hq : w.heap.size ≤ q) (x0 x1 : Value) : Below w.heap.size w ((W.setCell ⟨q, 0, none⟩ x0).setCell ⟨q, 1, none⟩ x1) := (h.setCell hq _).setCell hq _
set_option maxHeartbeats 4000000 in
set_option maxRecDepth 100000 in
theorem group_good (A0 : Option Addr) (c0 : Nat) (l0 : List (List V)) (A1 : Option Addr) (c1 : Nat) (l1 : List Int) (A2 : Option Addr) (c2 : Nat) (l2 : List AggT) (w : World) (hr0 : Kd.C kRow w A0 l0.length l0) (hc0 : l0.length ≤ c0) (hr1 : Kd.C (Kd.int .i64) w A1 l1.length l1) (hr2 : Kd.C kAgg w A2 l2.length l2) (hT : LaidT w) (hok : GroupOk l0 l1 l2) (hv : validB l0 = true) (hin : ∀ n ∈ l1, hasB l0 n = true) :
    Calls Tryd.prog 15 #[.slice A0 l0.length c0, .slice A1 l1.length c1, .slice A2 l2.length c2] w fun e w' => ∃ v0_ : Value, e = .returned (.agg #[v0_, .int .i64 0]) ∧ Kd.V kRow 58 w' w.heap.size (fun k_ => (w.heap.size ≤ k_)) v0_ (groupR l1 l0 l2.length) ∧ Below w.heap.size w w' := by
  obtain ⟨k, hk⟩ := (valid_ev l0 hok.rows.v).rounds
  rw [hv] at hk
  have HK := Aside0.mk hk
  have HV := Aside0.mk hv
  have HIN := Aside0.mk hin
  have HOK := Aside0.mk hok
  have HT := Aside0.mk hT
  have HR0 := Aside0.mk hr0
  have HC0 := Aside0.mk hc0
  have HR1 := Aside0.mk hr1
  have HR2 := Aside0.mk hr2
  clear hk hv hin hok hT hr0 hc0 hr1 hr2
  go_enter Tryd.func15, Tryd.ntmps15
  go_wp2_with (first
    | ((with_reducible refine gate_dst (N := 6) rfl ?_); refine box_event ?hg (N := 6) ?hd (cs := #[.slice none 0 0, .int .i64 0]) (t := 41) ?hr ?_; (case hd => rfl); (case hg => rfl); (case hr => first | (go_simp; done) | (go_simp; rfl)); intro q hq W hN hb1; have HB1 := Aside0.mk hb1; have HQ := Aside0.mk hq; have HN0 := Aside0.mk hN; clear hb1 hq hN)
    | ((with_reducible refine gate_dst (N := 7) rfl ?_); refine box_event ?hg (N := 7) ?hd (cs := #[.slice none 0 0, .int .i64 0]) (t := 41) ?hr ?_; (case hd => rfl); (case hg => rfl); (case hr => first | (go_simp; done) | (go_simp; rfl)); intro q2 hq2 W2 hN2 hb2; have HN1 := Aside0.mk ((hb2.block q (blk_lt HN0.out)).trans HN0.out); have HB2 := Aside0.mk (HB1.out.trans (hb2.mono HB1.out.size)); have HQ2 := Aside0.mk hq2; have HN2 := Aside0.mk hN2; have X0 : W2.cell? ⟨q2, 0, none⟩ = some (.slice none 0 0) := (blk_cell hN2 0).trans rfl; have X1 : W2.cell? ⟨q2, 1, none⟩ = some (.int .i64 0) := (blk_cell hN2 1).trans rfl; have X2 : ∀ j, W2.frozen? ⟨q2, j, none⟩ = false := (fun j => by simp [World.frozen?, hN2]); clear hb2 hq2 hN2))
  have hB3 : Below w.heap.size w ((W2.setCell ⟨q2, 0, none⟩ (.slice none 0 0)).setCell ⟨q2, 1, none⟩ (.int .i64 1)) := out2_below HB2.out (by rw [HQ2.out]; exact HB1.out.size) _ _
  have hq12 : q ≠ q2 := fun e => by have := blk_lt HN0.out; have := HQ2.out; omega
  have hN3 : ((W2.setCell ⟨q2, 0, none⟩ (.slice none 0 0)).setCell ⟨q2, 1, none⟩ (.int .i64 1)).heap[q]? = some (.cells #[.slice none 0 0, .int .i64 0] 41 (0, 0)) := (Below.heap_setCell _ _ _ q hq12).trans ((Below.heap_setCell _ _ _ q hq12).trans HN1.out)
  have HB3 := Aside0.mk hB3
  have HN3 := Aside0.mk hN3
  clear hB3 hq12 hN3 X0 X1 X2 HN1 HN2 HB2 HN0
  refine (bag_Valid.calls k _ _ l0 true _ (Kd.C_below HR0.out HB3.out) HC0.out HK.out).mono ?_
  rintro e w3 ⟨rfl, hb3⟩
  have HN4 := Aside0.mk ((hb3.block q (blk_lt HN3.out)).trans HN3.out)
  have HB4 := Aside0.mk (HB3.out.trans (hb3.mono HB3.out.size))
  have HQW : Aside0 (w.heap.size ≤ q) := ⟨Nat.le_of_eq HQ.out.symm⟩
  clear hb3 HN3 HB3 HB1 HQ2 HQ
  go_wp2
  go_loopg [29] l1.length (fun kq v29 W => ∃ x : Int, v29 = .int .i64 x ∧ Aside0 (0 ≤ x ∧ x ≤ l1.length ∧ (kq : Int) = l1.length - x) ∧ Aside0 (W.heap[q]? = some (.cells #[.slice none 0 0, .int .i64 0] 41 (0, 0))) ∧ Aside0 (Below w.heap.size w W))
  case atStart => exact ⟨0, rfl, ⟨by omega⟩, HN4, HB4⟩
  case round =>
    clear HN4 HB4
    obtain ⟨x, rfl, HX, HN, HB⟩ := hrel
    obtain ⟨hx0, hx1, hkq⟩ := HX.out
    by_cases hlt : x < (l1.length : Int)
    · have d1 : decide (x < (l1.length : Int)) = true := decide_eq_true hlt
      have d2 : decide (0 ≤ x) = true := decide_eq_true hx0
      obtain ⟨ad, e, hx_0⟩ := Kd.at_int HR1.out x hx0 hlt
      cases e
      replace hx_0 := (HB.out.cell (World.block_lt_of_cell? w _ hx_0)).trans hx_0
      have hj : x.toNat < l1.length := by omega
      have hrd : rd l1 x = l1[x.toNat] := by simp [rd, List.getElem?_eq_getElem hj]
      have hh := HIN.out (rd l1 x) (by rw [hrd]; exact List.getElem_mem hj)
      obtain ⟨n, hn⟩ : ∃ n, n = rd l1 x := ⟨_, rfl⟩
      rw [← hn] at hx_0 hh
      have HH := Aside0.mk hh
      have HLT := Aside0.mk hlt
      have HKQ := Aside0.mk hkq
      have HX0 := Aside0.mk hx0
      have HWR : Aside0 (wrap64 (x + 1) = x + 1) := ⟨by have := HOK.out.cn; unfold wrap64; omega⟩
      clear hn hrd hj hh hkq
      go_wp2_with fail
      refine (bag_has.calls A0 c0 l0 n true wr (Kd.C_below HR0.out HB.out) HC0.out (by rw [has_eq, HH.out])).mono ?_
      rintro e w5 ⟨rfl, ⟨nd, rfl⟩⟩
      go_wp2
      have hlt := HLT.out
      have hk := HKQ.out
      have hx0 := HX0.out
      cases gk with
      | zero => omega
      | succ k1 =>
        go_roundg k1
        case measure => omega
        case rel => exact ⟨x + 1, by rw [HWR.out], ⟨by omega⟩, HN, ⟨pw_below_drewN HB.out nd⟩⟩
    · have d1 : decide (x < (l1.length : Int)) = false := decide_eq_false hlt
      clear HX hx0 hx1 hkq hlt
      go_wp2
      go_loopg [41] l2.length (fun kq v41 W => ∃ x : Int, v41 = .int .i64 x ∧ Aside0 (0 ≤ x ∧ x ≤ l2.length ∧ (kq : Int) = l2.length - x) ∧ Aside0 (W.heap[q]? = some (.cells #[.slice none 0 0, .int .i64 0] 41 (0, 0))) ∧ Aside0 (Below w.heap.size w W))
      case atStart => exact ⟨0, rfl, ⟨by omega⟩, HN, HB⟩
      case round =>
        clear HN HB
        obtain ⟨x, rfl, HX, HN, HB⟩ := hrel
        obtain ⟨hx0, hx1, hkq⟩ := HX.out
        by_cases hlt : x < (l2.length : Int)
        · have d1 : decide (x < (l2.length : Int)) = true := decide_eq_true hlt
          have d2 : decide (0 ≤ x) = true := decide_eq_true hx0
          obtain ⟨ad, e, hx_0, hx_1, hx_2⟩ := at_T47 HR2.out x hx0 hlt
          cases e
          replace hx_0 := (HB.out.cell (World.block_lt_of_cell? w _ hx_0)).trans hx_0
          replace hx_1 := (HB.out.cell (World.block_lt_of_cell? w _ hx_1)).trans hx_1
          replace hx_2 := (HB.out.cell (World.block_lt_of_cell? w _ hx_2)).trans hx_2
          have hj : x.toNat < l2.length := by omega
          have hrd : rd_T47 l2 x = ⟨0, 0, false⟩ := HOK.out.one _ (by
            have : rd_T47 l2 x = l2[x.toNat] := by simp [rd_T47, List.getElem?_eq_getElem hj]
            rw [this]; exact List.getElem_mem hj)
          rw [hrd] at hx_0 hx_1 hx_2
          have HLT := Aside0.mk hlt
          have HKQ := Aside0.mk hkq
          have HX0 := Aside0.mk hx0
          have HWR : Aside0 (wrap64 (x + 1) = x + 1) := ⟨by have := HOK.out.an; unfold wrap64; omega⟩
          clear hrd hj hkq
          go_wp2
          have hlt := HLT.out
          have hk := HKQ.out
          have hx0 := HX0.out
          cases gk with
          | zero => omega
          | succ k1 =>
            go_roundg k1
            case measure => omega
            case rel => exact ⟨x + 1, by rw [HWR.out], ⟨by omega⟩, ⟨(Below.heap_alloc wr _ q (blk_lt HN.out)).trans HN.out⟩, ⟨HB.out.alloc HB.out.size _⟩⟩
        · have d1 : decide (x < (l2.length : Int)) = false := decide_eq_false hlt
          clear HX hx0 hx1 hkq hlt
          have hlen : ∀ row ∈ l0, ∀ n ∈ l1, 0 ≤ n ∧ n < (row.length : Int) := fun row hrow n hn => by
            have h1 := HIN.out n hn
            cases hl : l0 with
            | nil => rw [hl] at hrow; cases hrow
            | cons r rs =>
              rw [hl] at h1 hrow
              have h2 := validB_len (hl ▸ HV.out) row hrow
              have := of_decide_eq_true h1
              omega
          have hval : ∀ row ∈ l0, ∀ v ∈ keyOf l1 row, validV v = true := fun row hrow v hv => by
            obtain ⟨n, hn, rfl⟩ := List.mem_map.1 hv
            have h1 := hlen row hrow n hn
            have h2 : n.toNat < row.length := by omega
            have : rd_T27 row n = row[n.toNat] := by simp [rd_T27, List.getElem?_eq_getElem h2]
            rw [this]
            exact validB_valid HV.out row hrow _ (List.getElem_mem h2)
          have HGC := Aside0.mk (groups_all A0 c0 l0 A1 c1 l1 wr (HT.out.below HB.out) (Kd.C_below HR0.out HB.out) HC0.out (Kd.C_below HR1.out HB.out) HOK.out.rows.2 HOK.out.cn hlen (fun row hrow => ⟨HOK.out.keys row hrow, hval row hrow⟩))
          clear hlen hval
          go_wp2_with fail
          refine HGC.out.mono ?_
          rintro e wK ⟨vk, m, kv, rfl, hRk, hIs, hCk, hLk, hbK⟩
          have HRK := Aside0.mk hRk
          have HIS := Aside0.mk hIs
          have HCL : Aside0 (∀ s, ∃ A c, ((KV.get kv s).map (fun p : LV => p.1)).getD (.slice none 0 0) = .slice A (listR l1 l0 s).length c ∧ (listR l1 l0 s).length ≤ c ∧ kRow.C wK A (listR l1 l0 s).length (listR l1 l0 s)) := ⟨fun s => by
            rw [← hLk s]
            cases hg : KV.get kv s with
            | none => exact ⟨none, 0, rfl, Nat.le_refl _, Kd.C_nil _ _⟩
            | some p =>
              obtain ⟨A, c, h1, h2, h3⟩ := hCk s p hg
              exact ⟨A, c, h1, h2, h3⟩⟩
          have HNK := Aside0.mk ((hbK.block q (blk_lt HN.out)).trans HN.out)
          have HBK := Aside0.mk (HB.out.trans (hbK.mono HB.out.size))
          clear hRk hIs hCk hLk hbK HGC HN HB
          obtain ⟨Ak, ck, ek, hlk, hKC⟩ := Kd.R_reads HRK.out
          subst ek
          have HKC := Aside0.mk hKC
          clear hlk hKC HRK
          obtain ⟨keys, hkeys⟩ : ∃ keys, keys = keysR l1 l0 := ⟨_, rfl⟩
          have HKO := Aside0.mk HOK.out.keyn
          have HKN := Aside0.mk HOK.out.keysn
          rw [← hkeys] at HKC HKO HKN
          rw [← hkeys]
          have HKS := Aside0.mk hkeys
          clear hkeys
          go_wp2
          go_loopg [91, 14] keys.length (fun kq v91 v14 W => ∃ x : Int, v91 = .int .i64 x ∧ Aside0 (0 ≤ x ∧ x ≤ keys.length ∧ (kq : Int) = keys.length - x) ∧ Aside0 (kRow.R 58 W wK.heap.size (fun _ => True) v14 ((keys.take x.toNat).map (groupRow l1 l0 l2.length))) ∧ Aside0 (Below wK.heap.size wK W))
          case atStart => exact ⟨0, rfl, ⟨by omega⟩, ⟨by simpa using Kd.R_nil _ _ _ _ _⟩, ⟨Below.refl _ _⟩⟩
          case round =>
            obtain ⟨x, rfl, HX, HO, HB⟩ := hrel
            obtain ⟨hx0, hx1, hkq⟩ := HX.out
            by_cases hlt : x < (keys.length : Int)
            · have d1 : decide (x < (keys.length : Int)) = true := decide_eq_true hlt
              have d2 : decide (0 ≤ x) = true := decide_eq_true hx0
              obtain ⟨ad, Ar, cr, e, hx_0, hlc, hrow⟩ := at_L4 HKC.out x hx0 hlt
              cases e
              replace hx_0 := (HB.out.cell (World.block_lt_of_cell? wK _ hx_0)).trans hx_0
              have hi : x.toNat < keys.length := by omega
              have hrd : rd_L4 keys x = keys[x.toNat] := by simp [rd_L4, List.getElem?_eq_getElem hi]
              have hky := HKO.out (rd_L4 keys x) (by rw [hrd]; exact List.getElem_mem hi)
              have htk : keys.take (x + 1).toNat = keys.take x.toNat ++ [rd_L4 keys x] := by
                rw [show (x + 1).toNat = x.toNat + 1 by omega, take_snoc _ _ hi, hrd]
              obtain ⟨key, hkey⟩ : ∃ key, key = rd_L4 keys x := ⟨_, rfl⟩
              rw [← hkey] at hx_0 hlc hrow hky htk
              have HROW := Aside0.mk hrow
              have HLC := Aside0.mk hlc
              have HKY := Aside0.mk hky
              have HTK := Aside0.mk htk
              have HLT := Aside0.mk hlt
              have HKQ := Aside0.mk hkq
              have HX0 := Aside0.mk hx0
              have HWR : Aside0 (wrap64 (x + 1) = x + 1) := ⟨by have := HKN.out; unfold wrap64; omega⟩
              clear hrow hlc hky htk hkey hrd hi hkq
              have HBW := Aside0.mk (HBK.out.trans (HB.out.mono HBK.out.size))
              go_wp2_with fail
              refine (name_calls Ar cr key wr (HT.out.below HBW.out) (Kd.C_below HROW.out HB.out) HLC.out HKY.out.1 HKY.out.2.1 HKY.out.2.2).mono ?_
              rintro e wN ⟨rfl, hbn⟩
              obtain ⟨wO, hwO⟩ : ∃ wO, wO = wr := ⟨_, rfl⟩
              subst hwO
              obtain ⟨gO, hgO⟩ : ∃ gO, gO = gk := ⟨_, rfl⟩
              subst hgO
              have HBN := Aside0.mk hbn
              have HISN := Aside0.mk (HIS.out.below (HB.out.trans (hbn.mono HB.out.size)))
              obtain ⟨Al, cl, hul, hlc2, hcl2⟩ := HCL.out (nameOf key)
              obtain ⟨ls, hls⟩ : ∃ ls, ls = listR l1 l0 (nameOf key) := ⟨_, rfl⟩
              rw [← hls] at hul hlc2 hcl2
              have HUL := Aside0.mk hul
              have HLC2 := Aside0.mk hlc2
              have HCL2 := Aside0.mk hcl2
              have HLS := Aside0.mk hls
              have HKEYN : Aside0 (kV.C wN Ar key.length key) := ⟨Kd.C_below HROW.out (HB.out.trans (hbn.mono HB.out.size))⟩
              clear hul hlc2 hcl2 hls hbn
              have HE0 : Aside0 (Kd.R kV 27 (wN.alloc (.cells #[] 27)) wN.heap.size (fun _ => True) (.slice (some ⟨wN.heap.size, 0, none⟩) 0 0) []) := ⟨R_empty kV 27 wN⟩
              have HE1 := Aside0.mk ((Below.refl wN.heap.size wN).alloc (Nat.le_refl _) (.cells #[] 27))
              go_wp2_with (first
                | (at_lookup; refine KV.law_lookup _ rfl _ _ 74 rfl 9 37 Tryd.underlying9 Tryd.underlying74 (.slice none 0 0) (zeroRows _) m (fun p : LV => p.1) kv rfl HISN.out (nameOf key) rfl (.slice Al ls.length cl) HUL.out ?_)
                | (at_builtin; refine Kd.R_append_rows kV (w0 := wN) wN.heap.size rfl (.tmp 99) (.tmp 100) 58 27 (.agg #[(.int .u8 0), (.int .i64 0), (.string ⟨#[]⟩)]) 32 rfl Tryd.underlying58 infoV rfl (by decide) (by decide) _ [] key Ar key.length cr (fun _ => True) (fun _ => False) rfl rfl HE0.out (Kd.C_below HKEYN.out HE1.out) (fun x cs h => by obtain rfl := k27_open h; exact k27_mkM _ _ _ x) (fun _ h => h.elim) (fun _ _ => trivial) HE1.out HE1.out.size (by have := HKY.out.2.2; simp; omega) ?_; intro v1 w1 hR hb hg hat; have HK1 := Aside0.mk hR; have HBI := Aside0.mk hb; clear hR hb hg hat))
              have HCNT : Aside0 (∃ kc, bag_columnOf.f kc ls 0 = some (columnR ls 0)) := ⟨(columnOf_ev ls 0 (Int.le_refl _) (by
                rw [HLS.out]
                exact Nat.le_trans (List.length_filter_le _ _) HOK.out.rows.2)).rounds⟩
              have HAGG : Aside0 (bag_Aggregate.f 0 false (columnR ls 0) = some (1, (ls.length : Int), ⟨#[]⟩, 0)) := ⟨by
                have hsub : ∀ row ∈ ls, row ∈ l0 := fun row hrow => by
                  rw [HLS.out] at hrow
                  exact (List.mem_filter.1 hrow).1
                have hlen : ls.length ≤ l0.length := by rw [HLS.out]; exact List.length_filter_le _ _
                have hAO : AggOk 0 (columnR ls 0) := by
                  refine ⟨Int.le_refl _, .inl (by omega), fun v hv => ?_, ?_⟩
                  · obtain ⟨row, hrow, rfl⟩ := List.mem_map.1 hv
                    exact HOK.out.row1 row (hsub row hrow)
                  · rw [columnR, List.length_map]
                    exact Nat.le_trans hlen HOK.out.rows.2
                unfold bag_Aggregate.f
                rw [if_pos hAO]
                unfold aggR
                rw [if_pos (col_allowed HV.out hsub 0), if_neg (by omega), pickV_all]
                simp [columnR]⟩
              obtain ⟨kc, hkc⟩ := HCNT.out
              have HKC2 := Aside0.mk hkc
              clear hkc
              have HBO : Aside0 (Below wK.heap.size wK wN) := ⟨HB.out.trans (HBN.out.mono HB.out.size)⟩
              go_loopg [104, 18] l2.length (fun kq v104 v18 W => ∃ y : Int, v104 = .int .i64 y ∧ Aside0 (0 ≤ y ∧ y ≤ l2.length ∧ (kq : Int) = l2.length - y) ∧ Aside0 (kV.R 27 W wN.heap.size (fun _ => True) v18 (key ++ List.replicate y.toNat (⟨1, (ls.length : Int), ⟨#[]⟩⟩ : V))) ∧ Aside0 (Below wN.heap.size wN W))
              case atStart => exact ⟨0, rfl, ⟨by omega⟩, ⟨by simpa using HK1.out⟩, HBI⟩
              case round =>
                clear HK1 HBI
                obtain ⟨y, rfl, HY, HKR, HBI⟩ := hrel
                obtain ⟨hy0, hy1, hkq⟩ := HY.out
                by_cases hly : y < (l2.length : Int)
                · have d1 : decide (y < (l2.length : Int)) = true := decide_eq_true hly
                  have d2 : decide (0 ≤ y) = true := decide_eq_true hy0
                  have hbww : Below w.heap.size w wr := HBK.out.trans ((HBO.out.trans (HBI.out.mono HBO.out.size)).mono HBK.out.size)
                  obtain ⟨ad2, e, hx_0, hx_1, hx_2⟩ := at_T47 HR2.out y hy0 hly
                  cases e
                  replace hx_0 := (hbww.cell (World.block_lt_of_cell? w _ hx_0)).trans hx_0
                  replace hx_1 := (hbww.cell (World.block_lt_of_cell? w _ hx_1)).trans hx_1
                  replace hx_2 := (hbww.cell (World.block_lt_of_cell? w _ hx_2)).trans hx_2
                  have hj : y.toNat < l2.length := by omega
                  have hrd : rd_T47 l2 y = ⟨0, 0, false⟩ := HOK.out.one _ (by
                    have : rd_T47 l2 y = l2[y.toNat] := by simp [rd_T47, List.getElem?_eq_getElem hj]
                    rw [this]; exact List.getElem_mem hj)
                  rw [hrd] at hx_0 hx_1 hx_2
                  have HLY := Aside0.mk hly
                  have HKQ2 := Aside0.mk hkq
                  have HY0 := Aside0.mk hy0
                  have HWY : Aside0 (wrap64 (y + 1) = y + 1) := ⟨by have := HOK.out.an; unfold wrap64; omega⟩
                  have HBWW := Aside0.mk hbww
                  clear hrd hj hkq hbww
                  obtain ⟨W5, hW5⟩ : ∃ W5, W5 = wr.alloc (.cells #[.int .u8 0, .int .i64 0, .bool false] 47) := ⟨_, rfl⟩
                  have D0 : W5.cell? ⟨wr.heap.size, 0, none⟩ = some (.int .u8 0) := by rw [hW5]; exact (blk_cell (heap_alloc_new _ _) 0).trans rfl
                  have D1 : W5.cell? ⟨wr.heap.size, 1, none⟩ = some (.int .i64 0) := by rw [hW5]; exact (blk_cell (heap_alloc_new _ _) 1).trans rfl
                  have D2 : W5.cell? ⟨wr.heap.size, 2, none⟩ = some (.bool false) := by rw [hW5]; exact (blk_cell (heap_alloc_new _ _) 2).trans rfl
                  have HB5 : Aside0 (Below wr.heap.size wr W5) := ⟨by rw [hW5]; exact (Below.refl _ wr).alloc (Nat.le_refl _) _⟩
                  have HREP : Aside0 (key ++ List.replicate (y + 1).toNat (⟨1, (ls.length : Int), ⟨#[]⟩⟩ : V) = (key ++ List.replicate y.toNat (⟨1, (ls.length : Int), ⟨#[]⟩⟩ : V)) ++ [(⟨1, (ls.length : Int), ⟨#[]⟩⟩ : V)]) := ⟨by
                    rw [show (y + 1).toNat = y.toNat + 1 by have := HY0.out; omega, List.replicate_succ', List.append_assoc]⟩
                  have HLEN : Aside0 (((key ++ List.replicate y.toNat (⟨1, (ls.length : Int), ⟨#[]⟩⟩ : V)).length + 1) * 32 ≤ 140737488355328) := ⟨by
                    rw [List.length_append, List.length_replicate]
                    have h1 := HKY.out.2.2
                    have h2 := HOK.out.an
                    have h3 := HLY.out
                    omega⟩
                  have HS5 : Aside0 (W5.heap.size = wr.heap.size + 1) := ⟨by rw [hW5]; simp⟩
                  have HNE5 : Aside0 (wr.heap.size ≠ W5.heap.size) := ⟨by have := HS5.out; omega⟩
                  have HD5 : Aside0 (W5.cell? ⟨wr.heap.size, 0, none⟩ = some (.int .u8 0) ∧ W5.cell? ⟨wr.heap.size, 1, none⟩ = some (.int .i64 0) ∧ W5.cell? ⟨wr.heap.size, 2, none⟩ = some (.bool false)) := ⟨⟨D0, D1, D2⟩⟩
                  have HE5 : Aside0 (W5.drew.cell? ⟨wr.heap.size, 0, none⟩ = some (.int .u8 0) ∧ W5.drew.cell? ⟨wr.heap.size, 1, none⟩ = some (.int .i64 0) ∧ W5.drew.cell? ⟨wr.heap.size, 2, none⟩ = some (.bool false)) := ⟨⟨D0, D1, D2⟩⟩
                  have HE6 : Aside0 (∀ o, ((W5.alloc o).cell? ⟨wr.heap.size, 0, none⟩ = some (.int .u8 0) ∧ (W5.alloc o).cell? ⟨wr.heap.size, 1, none⟩ = some (.int .i64 0) ∧ (W5.alloc o).cell? ⟨wr.heap.size, 2, none⟩ = some (.bool false))) := ⟨fun o => cells3 ((Below.refl _ W5).alloc (Nat.le_refl _) o) HD5.out⟩
                  have HE7 : Aside0 (∀ o, ((W5.alloc o).drew.cell? ⟨wr.heap.size, 0, none⟩ = some (.int .u8 0) ∧ (W5.alloc o).drew.cell? ⟨wr.heap.size, 1, none⟩ = some (.int .i64 0) ∧ (W5.alloc o).drew.cell? ⟨wr.heap.size, 2, none⟩ = some (.bool false))) := ⟨fun o => HE6.out o⟩
                  clear D0 D1 D2
                  have HX5 : Aside0 ((W5.alloc (.cells #[.int .u8 0, .int .i64 0, .string ⟨#[]⟩, .int .i64 0] 31)).drew.heap[W5.heap.size]? = some (.cells #[.int .u8 0, .int .i64 0, .string ⟨#[]⟩, .int .i64 0] 31 (0, 0)) ∧ W5.heap.size < (W5.alloc (.cells #[.int .u8 0, .int .i64 0, .string ⟨#[]⟩, .int .i64 0] 31)).drew.heap.size) := ⟨heap_alloc_new W5 _, blk_lt (heap_alloc_new W5 (.cells #[.int .u8 0, .int .i64 0, .string ⟨#[]⟩, .int .i64 0] 31))⟩
                  have HBEL : Aside0 (Below W5.heap.size W5 (W5.alloc (.cells #[.int .u8 0, .int .i64 0, .string ⟨#[]⟩, .int .i64 0] 31)).drew) := ⟨((Below.refl _ W5).alloc (Nat.le_refl _) _).drew⟩
                  have HBE : Aside0 (Below W5.heap.size W5 W5.drew) := ⟨(Below.refl _ W5).drew⟩
                  have HLIST : Aside0 (∀ W', Below W5.heap.size W5 W' → kRow.C W' Al ls.length ls) := ⟨fun W' hb => Kd.C_below HCL2.out (HBO.out.trans ((HBI.out.trans ((HB5.out.trans (hb.mono HB5.out.size)).mono HBI.out.size)).mono HBO.out.size))⟩
                  have HT5 : Aside0 (∀ W', Below W5.heap.size W5 W' → LaidT W') := ⟨fun W' hb => HT.out.below (HBWW.out.trans ((HB5.out.trans (hb.mono HB5.out.size)).mono HBWW.out.size))⟩
                  go_wp2_with fail
                  rw [← hW5]
                  have HW5 := Aside0.mk hW5
                  clear hW5
                  go_region_held3 (fun W' => (W'.cell? ⟨wr.heap.size, 0, none⟩ = some (.int .u8 0) ∧ W'.cell? ⟨wr.heap.size, 1, none⟩ = some (.int .i64 0) ∧ W'.cell? ⟨wr.heap.size, 2, none⟩ = some (.bool false))) (first | (with_reducible exact HD5.out) | (with_reducible exact HE5.out) | (with_reducible exact HE7.out _) | (with_reducible exact HE6.out _) | (with_reducible exact HR7.out) | (with_reducible exact HR7a.out _) | (with_reducible exact HS8.out) | (with_reducible exact HS8a.out _) | (with_reducible exact far3 HNE7.out HS8.out) | (with_reducible exact far3 HNE5.out HS8.out)) (first
                    | (go_at_call 31; (with_reducible refine (bag_columnOf.calls kc Al cl ls 0 (columnR ls 0) W5.drew (HLIST.out _ HBE.out) HLC2.out HKC2.out).mono ?_); rintro e w7 ⟨vc, rfl, hRc, hb7⟩; obtain ⟨Ac, cc, ec, hcc, hCc⟩ := Kd.R_reads hRc; subst ec; have hb57 : Below W5.heap.size W5 w7 := (HBE.out).trans (hb7.mono (HBE.out).size); have HR7 : Aside0 (w7.cell? ⟨wr.heap.size, 0, none⟩ = some (.int .u8 0) ∧ w7.cell? ⟨wr.heap.size, 1, none⟩ = some (.int .i64 0) ∧ w7.cell? ⟨wr.heap.size, 2, none⟩ = some (.bool false)) := ⟨cells3 hb57 HD5.out⟩; have HR7a : Aside0 (∀ o, ((w7.alloc o).cell? ⟨wr.heap.size, 0, none⟩ = some (.int .u8 0) ∧ (w7.alloc o).cell? ⟨wr.heap.size, 1, none⟩ = some (.int .i64 0) ∧ (w7.alloc o).cell? ⟨wr.heap.size, 2, none⟩ = some (.bool false))) := ⟨fun o => cells3 ((Below.refl _ w7).alloc (Nat.le_refl _) o) HR7.out⟩; have HCC := Aside0.mk hCc; have HCN := Aside0.mk hcc; have HB7 := Aside0.mk hb57; have HNE7 : Aside0 (wr.heap.size ≠ w7.heap.size) := ⟨by have := HB7.out.size; have := HS5.out; omega⟩; clear hb57 hRc hb7 hcc hCc)
                    | (go_at_call 31; (with_reducible refine (bag_columnOf.calls kc Al cl ls 0 (columnR ls 0) (W5.alloc (.cells #[.int .u8 0, .int .i64 0, .string ⟨#[]⟩, .int .i64 0] 31)).drew (HLIST.out _ HBEL.out) HLC2.out HKC2.out).mono ?_); rintro e w7 ⟨vc, rfl, hRc, hb7⟩; obtain ⟨Ac, cc, ec, hcc, hCc⟩ := Kd.R_reads hRc; subst ec; have hb57 : Below W5.heap.size W5 w7 := (HBEL.out).trans (hb7.mono (HBEL.out).size); have HR7 : Aside0 (w7.cell? ⟨wr.heap.size, 0, none⟩ = some (.int .u8 0) ∧ w7.cell? ⟨wr.heap.size, 1, none⟩ = some (.int .i64 0) ∧ w7.cell? ⟨wr.heap.size, 2, none⟩ = some (.bool false)) := ⟨cells3 hb57 HD5.out⟩; have HR7a : Aside0 (∀ o, ((w7.alloc o).cell? ⟨wr.heap.size, 0, none⟩ = some (.int .u8 0) ∧ (w7.alloc o).cell? ⟨wr.heap.size, 1, none⟩ = some (.int .i64 0) ∧ (w7.alloc o).cell? ⟨wr.heap.size, 2, none⟩ = some (.bool false))) := ⟨fun o => cells3 ((Below.refl _ w7).alloc (Nat.le_refl _) o) HR7.out⟩; have HCC := Aside0.mk hCc; have HCN := Aside0.mk hcc; have HX7 := Aside0.mk ((hb7.block W5.heap.size HX5.out.2).trans HX5.out.1); have HB7 := Aside0.mk hb57; have HNE7 : Aside0 (wr.heap.size ≠ w7.heap.size) := ⟨by have := HB7.out.size; have := HS5.out; omega⟩; clear hb57 hRc hb7 hcc hCc)
                    | (go_at_call 13; have hx7 := HX7.out; (with_reducible refine (bag_Aggregate.calls 0 false Ac cc (columnR ls 0) 1 (ls.length : Int) ⟨#[]⟩ 0 w7 HCC.out HCN.out (HT5.out w7 HB7.out) HAGG.out).mono ?_); rintro e w8 ⟨rfl, hb8⟩; have hb78 : Below w7.heap.size w7 w8 := hb8; have HS8 : Aside0 (w8.cell? ⟨wr.heap.size, 0, none⟩ = some (.int .u8 0) ∧ w8.cell? ⟨wr.heap.size, 1, none⟩ = some (.int .i64 0) ∧ w8.cell? ⟨wr.heap.size, 2, none⟩ = some (.bool false)) := ⟨cells3 hb78 HR7.out⟩; have HS8a : Aside0 (∀ o, ((w8.alloc o).cell? ⟨wr.heap.size, 0, none⟩ = some (.int .u8 0) ∧ (w8.alloc o).cell? ⟨wr.heap.size, 1, none⟩ = some (.int .i64 0) ∧ (w8.alloc o).cell? ⟨wr.heap.size, 2, none⟩ = some (.bool false))) := ⟨fun o => cells3 ((Below.refl _ w8).alloc (Nat.le_refl _) o) HS8.out⟩; have HB8 := Aside0.mk (HB7.out.trans (hb78.mono HB7.out.size)); have hX8 := (hb8.block W5.heap.size (blk_lt hx7)).trans hx7; have x0 : w8.cell? ⟨W5.heap.size, 0, none⟩ = some (.int .u8 0) := (blk_cell hX8 0).trans rfl; have x1 : w8.cell? ⟨W5.heap.size, 1, none⟩ = some (.int .i64 0) := (blk_cell hX8 1).trans rfl; have x2 : w8.cell? ⟨W5.heap.size, 2, none⟩ = some (.string ⟨#[]⟩) := (blk_cell hX8 2).trans rfl; have x3 : w8.cell? ⟨W5.heap.size, 3, none⟩ = some (.int .i64 0) := (blk_cell hX8 3).trans rfl; have xf : ∀ j, w8.frozen? ⟨W5.heap.size, j, none⟩ = false := (fun j => by simp [World.frozen?, hX8]); have HX8 := Aside0.mk hX8; clear hX8; clear hb8 hb78 hx7)
                    | (go_at_call 13; have hb9 : Below w7.heap.size w7 (w7.alloc (.cells #[.int .u8 0, .int .i64 0, .string ⟨#[]⟩, .int .i64 0] 31)) := (Below.refl _ w7).alloc (Nat.le_refl _) _; have hbx : Below W5.heap.size W5 (w7.alloc (.cells #[.int .u8 0, .int .i64 0, .string ⟨#[]⟩, .int .i64 0] 31)) := HB7.out.trans (hb9.mono HB7.out.size); (with_reducible refine (bag_Aggregate.calls 0 false Ac cc (columnR ls 0) 1 (ls.length : Int) ⟨#[]⟩ 0 (w7.alloc (.cells #[.int .u8 0, .int .i64 0, .string ⟨#[]⟩, .int .i64 0] 31)) (Kd.C_below HCC.out hb9) HCN.out (HT5.out _ hbx) HAGG.out).mono ?_); rintro e w8 ⟨rfl, hb8⟩; have hb78 : Below w7.heap.size w7 w8 := hb9.trans (hb8.mono hb9.size); have HS8 : Aside0 (w8.cell? ⟨wr.heap.size, 0, none⟩ = some (.int .u8 0) ∧ w8.cell? ⟨wr.heap.size, 1, none⟩ = some (.int .i64 0) ∧ w8.cell? ⟨wr.heap.size, 2, none⟩ = some (.bool false)) := ⟨cells3 hb78 HR7.out⟩; have HS8a : Aside0 (∀ o, ((w8.alloc o).cell? ⟨wr.heap.size, 0, none⟩ = some (.int .u8 0) ∧ (w8.alloc o).cell? ⟨wr.heap.size, 1, none⟩ = some (.int .i64 0) ∧ (w8.alloc o).cell? ⟨wr.heap.size, 2, none⟩ = some (.bool false))) := ⟨fun o => cells3 ((Below.refl _ w8).alloc (Nat.le_refl _) o) HS8.out⟩; have hX8 := (hb8.block w7.heap.size (blk_lt (heap_alloc_new w7 _))).trans (heap_alloc_new w7 _); have x0 : w8.cell? ⟨w7.heap.size, 0, none⟩ = some (.int .u8 0) := (blk_cell hX8 0).trans rfl; have x1 : w8.cell? ⟨w7.heap.size, 1, none⟩ = some (.int .i64 0) := (blk_cell hX8 1).trans rfl; have x2 : w8.cell? ⟨w7.heap.size, 2, none⟩ = some (.string ⟨#[]⟩) := (blk_cell hX8 2).trans rfl; have x3 : w8.cell? ⟨w7.heap.size, 3, none⟩ = some (.int .i64 0) := (blk_cell hX8 3).trans rfl; have xf : ∀ j, w8.frozen? ⟨w7.heap.size, j, none⟩ = false := (fun j => by simp [World.frozen?, hX8]); have HX8 := Aside0.mk hX8; clear hX8; have HB8 := Aside0.mk (HB7.out.trans (hb78.mono HB7.out.size)); clear hb8 hb9 hb78 hbx)
                    | (go_at_call 13; (with_reducible refine (bag_Aggregate.calls 0 false Ac cc (columnR ls 0) 1 (ls.length : Int) ⟨#[]⟩ 0 w7 HCC.out HCN.out (HT5.out w7 HB7.out) HAGG.out).mono ?_); rintro e w8 ⟨rfl, hb8⟩; have hb78 : Below w7.heap.size w7 w8 := hb8; have HS8 : Aside0 (w8.cell? ⟨wr.heap.size, 0, none⟩ = some (.int .u8 0) ∧ w8.cell? ⟨wr.heap.size, 1, none⟩ = some (.int .i64 0) ∧ w8.cell? ⟨wr.heap.size, 2, none⟩ = some (.bool false)) := ⟨cells3 hb78 HR7.out⟩; have HS8a : Aside0 (∀ o, ((w8.alloc o).cell? ⟨wr.heap.size, 0, none⟩ = some (.int .u8 0) ∧ (w8.alloc o).cell? ⟨wr.heap.size, 1, none⟩ = some (.int .i64 0) ∧ (w8.alloc o).cell? ⟨wr.heap.size, 2, none⟩ = some (.bool false))) := ⟨fun o => cells3 ((Below.refl _ w8).alloc (Nat.le_refl _) o) HS8.out⟩; have HB8 := Aside0.mk (HB7.out.trans (hb78.mono HB7.out.size)); clear hb8 hb78))
                  · obtain ⟨W9, hW9⟩ : ∃ W9, W9 = (w8.alloc (.cells #[.int .u8 1, .int .i64 (ls.length : Int), .string ⟨#[]⟩, .int .i64 0] 31)) := ⟨_, rfl⟩
                    rw [← hW9]
                    have hO9 : W9.heap[w8.heap.size]? = some (.cells #[.int .u8 1, .int .i64 (ls.length : Int), .string ⟨#[]⟩, .int .i64 0] 31 (0, 0)) := by rw [hW9]; exact heap_alloc_new _ _
                    have HB9 : Aside0 (Below wr.heap.size wr W9) := ⟨by rw [hW9]; exact (HB5.out.trans (HB8.out.mono HB5.out.size)).alloc (HB5.out.trans (HB8.out.mono HB5.out.size)).size _⟩
                    have o0 : W9.cell? ⟨w8.heap.size, 0, none⟩ = some (.int .u8 1) := (blk_cell hO9 0).trans rfl
                    have o1 : W9.cell? ⟨w8.heap.size, 1, none⟩ = some (.int .i64 (ls.length : Int)) := (blk_cell hO9 1).trans rfl
                    have o2 : W9.cell? ⟨w8.heap.size, 2, none⟩ = some (.string ⟨#[]⟩) := (blk_cell hO9 2).trans rfl
                    have o3 : W9.cell? ⟨w8.heap.size, 3, none⟩ = some (.int .i64 0) := (blk_cell hO9 3).trans rfl
                    clear hO9 hW9
                    try clear x0 x1 x2 x3 xf
                    have HK9 := Aside0.mk (Kd.R_below HKR.out HB9.out)
                    have HI9 := Aside0.mk (HBI.out.trans (HB9.out.mono HBI.out.size))
                    go_wp2_with (at_builtin; refine Kd.R_append kV (w0 := wN) wN.heap.size rfl (.tmp 123) (.tmp 126) 58 27 (.agg #[(.int .u8 0), (.int .i64 0), (.string ⟨#[]⟩)]) 32 rfl Tryd.underlying58 infoV rfl (by decide) (by decide) _ _ (⟨1, (ls.length : Int), ⟨#[]⟩⟩ : V) [.int .u8 1, .int .i64 (ls.length : Int), .string ⟨#[]⟩] (fun _ => True) (fun _ => False) rfl rfl (k27_mkM _ _ _ (⟨1, (ls.length : Int), ⟨#[]⟩⟩ : V)) (fun _ h => h.elim) (fun _ _ => trivial) HK9.out HI9.out HI9.out.size HLEN.out ?_; intro v6 w6 hR4 hb4 hg4 hat4; have HO4 := Aside0.mk hR4; have HB4 := Aside0.mk hb4; clear hR4 hb4 hg4 hat4)
                    have hk := HKQ2.out
                    have hly := HLY.out
                    have hy0 := HY0.out
                    cases gk with
                    | zero => omega
                    | succ k1 =>
                      go_roundg k1
                      case measure => omega
                      case rel => exact ⟨y + 1, by rw [HWY.out], ⟨by omega⟩, ⟨by rw [HREP.out]; exact HO4.out⟩, HB4⟩
                  · obtain ⟨W9, hW9⟩ : ∃ W9, W9 = ((((w8.setCell ⟨w7.heap.size, 0, none⟩ (.int .u8 1)).setCell ⟨w7.heap.size, 1, none⟩ (.int .i64 (ls.length : Int))).setCell ⟨w7.heap.size, 2, none⟩ (.string ⟨#[]⟩)).setCell ⟨w7.heap.size, 3, none⟩ (.int .i64 0)) := ⟨_, rfl⟩
                    rw [← hW9]
                    have hO9 : W9.heap[w7.heap.size]? = some (.cells #[.int .u8 1, .int .i64 (ls.length : Int), .string ⟨#[]⟩, .int .i64 0] 31 (0, 0)) := by rw [hW9]; exact out_cells HX8.out _ _ _ _
                    have HB9 : Aside0 (Below wr.heap.size wr W9) := ⟨by rw [hW9]; exact out_belowB (HB5.out.trans (HB8.out.mono HB5.out.size)) (Nat.le_trans HB5.out.size HB7.out.size) _ _ _ _⟩
                    have o0 : W9.cell? ⟨w7.heap.size, 0, none⟩ = some (.int .u8 1) := (blk_cell hO9 0).trans rfl
                    have o1 : W9.cell? ⟨w7.heap.size, 1, none⟩ = some (.int .i64 (ls.length : Int)) := (blk_cell hO9 1).trans rfl
                    have o2 : W9.cell? ⟨w7.heap.size, 2, none⟩ = some (.string ⟨#[]⟩) := (blk_cell hO9 2).trans rfl
                    have o3 : W9.cell? ⟨w7.heap.size, 3, none⟩ = some (.int .i64 0) := (blk_cell hO9 3).trans rfl
                    clear hO9 hW9
                    try clear x0 x1 x2 x3 xf
                    have HK9 := Aside0.mk (Kd.R_below HKR.out HB9.out)
                    have HI9 := Aside0.mk (HBI.out.trans (HB9.out.mono HBI.out.size))
                    go_wp2_with (at_builtin; refine Kd.R_append kV (w0 := wN) wN.heap.size rfl (.tmp 123) (.tmp 126) 58 27 (.agg #[(.int .u8 0), (.int .i64 0), (.string ⟨#[]⟩)]) 32 rfl Tryd.underlying58 infoV rfl (by decide) (by decide) _ _ (⟨1, (ls.length : Int), ⟨#[]⟩⟩ : V) [.int .u8 1, .int .i64 (ls.length : Int), .string ⟨#[]⟩] (fun _ => True) (fun _ => False) rfl rfl (k27_mkM _ _ _ (⟨1, (ls.length : Int), ⟨#[]⟩⟩ : V)) (fun _ h => h.elim) (fun _ _ => trivial) HK9.out HI9.out HI9.out.size HLEN.out ?_; intro v6 w6 hR4 hb4 hg4 hat4; have HO4 := Aside0.mk hR4; have HB4 := Aside0.mk hb4; clear hR4 hb4 hg4 hat4)
                    have hk := HKQ2.out
                    have hly := HLY.out
                    have hy0 := HY0.out
                    cases gk with
                    | zero => omega
                    | succ k1 =>
                      go_roundg k1
                      case measure => omega
                      case rel => exact ⟨y + 1, by rw [HWY.out], ⟨by omega⟩, ⟨by rw [HREP.out]; exact HO4.out⟩, HB4⟩
                  · obtain ⟨W9, hW9⟩ : ∃ W9, W9 = ((((w8.setCell ⟨W5.heap.size, 0, none⟩ (.int .u8 1)).setCell ⟨W5.heap.size, 1, none⟩ (.int .i64 (ls.length : Int))).setCell ⟨W5.heap.size, 2, none⟩ (.string ⟨#[]⟩)).setCell ⟨W5.heap.size, 3, none⟩ (.int .i64 0)) := ⟨_, rfl⟩
                    rw [← hW9]
                    have hO9 : W9.heap[W5.heap.size]? = some (.cells #[.int .u8 1, .int .i64 (ls.length : Int), .string ⟨#[]⟩, .int .i64 0] 31 (0, 0)) := by rw [hW9]; exact out_cells HX8.out _ _ _ _
                    have HB9 : Aside0 (Below wr.heap.size wr W9) := ⟨by rw [hW9]; exact out_belowB (HB5.out.trans (HB8.out.mono HB5.out.size)) HB5.out.size _ _ _ _⟩
                    have o0 : W9.cell? ⟨W5.heap.size, 0, none⟩ = some (.int .u8 1) := (blk_cell hO9 0).trans rfl
                    have o1 : W9.cell? ⟨W5.heap.size, 1, none⟩ = some (.int .i64 (ls.length : Int)) := (blk_cell hO9 1).trans rfl
                    have o2 : W9.cell? ⟨W5.heap.size, 2, none⟩ = some (.string ⟨#[]⟩) := (blk_cell hO9 2).trans rfl
                    have o3 : W9.cell? ⟨W5.heap.size, 3, none⟩ = some (.int .i64 0) := (blk_cell hO9 3).trans rfl
                    clear hO9 hW9
                    try clear x0 x1 x2 x3 xf
                    have HK9 := Aside0.mk (Kd.R_below HKR.out HB9.out)
                    have HI9 := Aside0.mk (HBI.out.trans (HB9.out.mono HBI.out.size))
                    go_wp2_with (at_builtin; refine Kd.R_append kV (w0 := wN) wN.heap.size rfl (.tmp 123) (.tmp 126) 58 27 (.agg #[(.int .u8 0), (.int .i64 0), (.string ⟨#[]⟩)]) 32 rfl Tryd.underlying58 infoV rfl (by decide) (by decide) _ _ (⟨1, (ls.length : Int), ⟨#[]⟩⟩ : V) [.int .u8 1, .int .i64 (ls.length : Int), .string ⟨#[]⟩] (fun _ => True) (fun _ => False) rfl rfl (k27_mkM _ _ _ (⟨1, (ls.length : Int), ⟨#[]⟩⟩ : V)) (fun _ h => h.elim) (fun _ _ => trivial) HK9.out HI9.out HI9.out.size HLEN.out ?_; intro v6 w6 hR4 hb4 hg4 hat4; have HO4 := Aside0.mk hR4; have HB4 := Aside0.mk hb4; clear hR4 hb4 hg4 hat4)
                    have hk := HKQ2.out
                    have hly := HLY.out
                    have hy0 := HY0.out
                    cases gk with
                    | zero => omega
                    | succ k1 =>
                      go_roundg k1
                      case measure => omega
                      case rel => exact ⟨y + 1, by rw [HWY.out], ⟨by omega⟩, ⟨by rw [HREP.out]; exact HO4.out⟩, HB4⟩
                · have d1 : decide (y < (l2.length : Int)) = false := decide_eq_false hly
                  have hgr : key ++ List.replicate y.toNat (⟨1, (ls.length : Int), ⟨#[]⟩⟩ : V) = groupRow l1 l0 l2.length key := by
                    unfold groupRow
                    rw [show y.toNat = l2.length by omega, HLS.out]
                  rw [hgr] at HKR
                  clear hgr HY hy0 hy1 hkq hly
                  obtain ⟨gr, hgr⟩ : ∃ gr, gr = groupRow l1 l0 l2.length key := ⟨_, rfl⟩
                  rw [← hgr] at HKR
                  have HGR := Aside0.mk hgr
                  obtain ⟨Ag, cg, eg, _⟩ := Kd.R_reads HKR.out
                  subst eg
                  have hNW : Below wN.heap.size wN wr := HBI.out
                  have HBOK := Aside0.mk (HBO.out.trans (hNW.mono HBO.out.size))
                  have HO9 := Aside0.mk (Kd.R_below (Kd.R_below HO.out HBN.out) hNW)
                  have HM9 := Aside0.mk (Kd.R_mono (Kd.R_lower (Kd.R_bound HKR.out) HBO.out.size) (ok' := fun k => wN.heap.size ≤ k) (fun k hk => hk.2.1))
                  have HFR : Aside0 (∀ k, wN.heap.size ≤ k → True ∧ some k ≠ u14.ownBlock) := ⟨fun k hk => ⟨trivial, fun e => by have h1 := Kd.R_lt HO.out k e.symm; have h2 := HBN.out.size; omega⟩⟩
                  have HLEN2 : Aside0 ((((keys.take x.toNat).map (groupRow l1 l0 l2.length)).length + 1) * 24 ≤ 140737488355328) := ⟨by
                    rw [List.length_map, List.length_take]
                    have := HKN.out
                    omega⟩
                  clear hgr hNW
                  go_wp2_with (at_builtin; refine Kd.R_append kRow (w0 := wK) wK.heap.size rfl (.tmp 129) (.tmp 131) 37 58 (.slice none 0 0) 24 rfl Tryd.underlying37 infoRow rfl (Nat.le_refl 1) (by decide) _ _ gr [.slice Ag gr.length cg] (fun _ => True) (fun k => wN.heap.size ≤ k) rfl rfl ⟨_, rfl, HM9.out⟩ HFR.out (fun _ _ => trivial) HO9.out HBOK.out HBOK.out.size HLEN2.out ?_; intro v6 w6 hR4 hb4 hg4 hat4; have HO4 := Aside0.mk hR4; have HB4 := Aside0.mk hb4; clear hR4 hb4 hg4 hat4)
                  have hk := HKQ.out
                  have hlt := HLT.out
                  have hx0 := HX0.out
                  cases gO with
                  | zero => omega
                  | succ k1 =>
                    go_roundg k1
                    case measure => omega
                    case rel => exact ⟨x + 1, by rw [HWR.out], ⟨by omega⟩, ⟨by rw [HTK.out, List.map_append, List.map_cons, List.map_nil, ← HGR.out]; exact HO4.out⟩, HB4⟩
            · have d1 : decide (x < (keys.length : Int)) = false := decide_eq_false hlt
              have hfin : (keys.take x.toNat).map (groupRow l1 l0 l2.length) = groupR l1 l0 l2.length := by
                rw [List.take_of_length_le (by omega), HKS.out]; rfl
              rw [hfin] at HO
              have HN9 := Aside0.mk ((HB.out.block q (blk_lt HNK.out)).trans HNK.out)
              have HB9 := Aside0.mk (HBK.out.trans (HB.out.mono HBK.out.size))
              have HKS2 := Aside0.mk HBK.out.size
              clear hfin hx0 hx1 hkq hlt HX
              have y0 : wr.cell? ⟨q, 0, none⟩ = some (.slice none 0 0) := (blk_cell HN9.out 0).trans rfl
              have y1 : wr.cell? ⟨q, 1, none⟩ = some (.int .i64 0) := (blk_cell HN9.out 1).trans rfl
              have yf : ∀ j, wr.frozen? ⟨q, j, none⟩ = false := fun j => by have := HN9.out; simp [World.frozen?, this]
              obtain ⟨Ag, cg, eg, _⟩ := Kd.R_reads HO.out
              subst eg
              go_wp2
              refine bodyPost_ret (results_cell_row rfl _ _ q 41 _ (0, 0) _ rfl (out2_cells HN9.out _ _) Tryd.underlying41 rfl (by kernel_rfl)) rfl ?_
              refine ⟨_, rfl, ?_, out2_below HB9.out HQW.out _ _⟩
              have hqk := blk_lt HNK.out
              have h1 := Kd.R_mono (Kd.R_bound HO.out) (ok' := fun k => wK.heap.size ≤ k) (fun k hk => hk.2.1)
              have h2 := Kd.R_far (p := ⟨q, 0, none⟩) h1 (fun k hk e => by
                have e : k = q := e
                omega) (Value.slice Ag (groupR l1 l0 l2.length).length cg)
              have h3 := Kd.R_far (p := ⟨q, 1, none⟩) h2 (fun k hk e => by
                have e : k = q := e
                omega) (Value.int .i64 0)
              exact Kd.R_V (base' := w.heap.size) (Kd.R_mono h3 (fun k hk => Nat.le_trans HKS2.out hk))
end Go.Proofs.YtecgkcgfeghhgaaDoor.PAll
set_option linter.unusedVariables false
set_option linter.unusedSimpArgs false
namespace Go.Proofs.YtecgkcgfeghhgaaDoor.PAll
open Go.RowKit Go.Proofs.YtecgkcgfeghhgaaDoorW.PrintWords Go.Proofs.YtecgkcgfeghhgaaDoorW.PrintLast Go.Proofs.YtecgkcgfeghhgaaDoorW.PrintMore
attribute [local go_sem] max2_int min2_int max_two min_two
def fitsB (l : List (List V)) (ks : List KeyT) : Bool := validB l && keysB l ks
theorem fits_good {l : List (List V)} {ks : List KeyT} (hv : RowsV l) (h : fitsB l ks = true) : ∀ row ∈ l, RowGood ks row := by
  unfold fitsB at h
  rw [Bool.and_eq_true] at h
  obtain ⟨h1, h2⟩ := h
  intro row hrow
  refine ⟨validB_valid h1 row hrow, fun k hk => ?_, (hv.1 row hrow).2⟩
  have hk2 : hasB l k.f0 = true := List.all_eq_true.1 h2 k hk
  cases l with
  | nil => cases hrow
  | cons r rs =>
    have hl := validB_len h1 row hrow
    have := of_decide_eq_true hk2
    omega
def cutR (l : List (List V)) (a n : Int) : List (List V) := (l.drop a.toNat).take n.toNat
theorem cutR_eq (l : List (List V)) (a n f g : Int) (h0 : 0 ≤ a) (h1 : 0 ≤ n) (hf : (if (l.length : Int) < a then (l.length : Int) else a) = f) (hg : (if (l.length : Int) - f < n then (l.length : Int) - f else n) = g) : (l.take (f + g).toNat).drop f.toNat = cutR l a n := by
  unfold cutR
  rw [List.drop_take]
  by_cases c : (l.length : Int) < a
  · rw [if_pos c] at hf
    subst hf
    rw [List.drop_eq_nil_of_le (by omega), List.drop_eq_nil_of_le (by omega)]
    simp
  · rw [if_neg c] at hf
    subst hf
    by_cases c2 : (l.length : Int) - a < n
    · rw [if_pos c2] at hg
      rw [List.take_of_length_le (by rw [List.length_drop]; omega), List.take_of_length_le (by rw [List.length_drop]; omega)]
    · rw [if_neg c2] at hg
      subst hg
      congr 1
      omega
open Classical in
noncomputable def bag_Cut.f (l0 : List (List V)) (l1 : List KeyT) (a2 a3 : Int) : Option (List (List V) × Int) := if RowsV l0 ∧ l1.length ≤ 1099511627776 ∧ a2 ≤ 9223372036854775807 ∧ a3 ≤ 9223372036854775807 then some (if fitsB l0 l1 = true ∧ 0 ≤ a2 ∧ 0 ≤ a3 then (cutR (sortR l1 l0) a2 a3, 0) else ([], 1)) else none
set_option maxHeartbeats 8000000 in
set_option maxRecDepth 100000 in
theorem bag_Cut.calls (A0 : Option Addr) (c0 : Nat) (l0 : List (List V)) (A1 : Option Addr) (c1 : Nat) (l1 : List KeyT) (a2 a3 : Int) (r1 : List (List V)) (r2 : Int) (w : World) (hr0 : Kd.C kRow w A0 l0.length l0) (hc0 : l0.length ≤ c0) (hr1 : Kd.C kKey w A1 l1.length l1) (hc1 : l1.length ≤ c1) (h : bag_Cut.f l0 l1 a2 a3 = some (r1, r2)) :
    Calls Tryd.prog 20 #[.slice A0 l0.length c0, .slice A1 l1.length c1, .int .i64 a2, .int .i64 a3] w fun e w' => ∃ v0_ : Value, e = .returned (.tuple #[v0_, .int .i64 r2]) ∧ Kd.V kRow 58 w' w.heap.size (fun k_ => (w.heap.size ≤ k_)) v0_ r1 ∧ Below w.heap.size w w' := by
  unfold bag_Cut.f at h
  split at h
  case isFalse => cases h
  rename_i hv
  obtain ⟨hv, hk, h2, h3⟩ := hv
  have H := Aside0.mk (Option.some.inj h)
  have HV := Aside0.mk hv
  have HKN := Aside0.mk hk
  have H2 := Aside0.mk h2
  have H3 := Aside0.mk h3
  have HF := Aside0.mk (fits_calls A0 c0 l0 A1 c1 l1 w hr0 hc0 hr1 hc1 hv hk)
  have HR0 := Aside0.mk hr0
  have HR1 := Aside0.mk hr1
  clear h hv hk h2 h3 hr0 hr1 hc0 hc1
  change Aside0 (Calls _ _ _ _ fun e w' => e = .returned (.bool (fitsB l0 l1)) ∧ Below w.heap.size w w') at HF
  have bad : ∀ (P : Prop) [Decidable P], ¬ P → Aside0 ((if P then (cutR (sortR l1 l0) a2 a3, 0) else ([], 1)) = (r1, r2)) → r1 = [] ∧ r2 = 1 := fun P _ hP hh => by
    have := hh.out
    rw [if_neg hP] at this
    obtain ⟨e1, e2⟩ := Prod.mk.inj this
    exact ⟨e1.symm, e2.symm⟩
  cases hq : fitsB l0 l1 with
  | false =>
    have HN := Aside0.mk (bad _ (by rw [hq]; simp) H)
    rw [hq] at HF
    clear hq bad H
    go_enter Tryd.func20, Tryd.ntmps20
    go_wp2_with fail
    refine HF.out.mono ?_
    rintro e w1 ⟨rfl, hb1⟩
    have HB := Aside0.mk hb1
    clear hb1
    go_wp2
    go_ret2
    refine ⟨.slice none 0 0, by rw [HN.out.2]; rfl, ?_, HB.out⟩
    rw [HN.out.1]
    exact Kd.V_nil _ _ _ _ _
  | true =>
    rw [hq] at HF
    by_cases hn2 : a2 < 0
    · have HN := Aside0.mk (bad _ (by omega) H)
      have d2 : decide (a2 < 0) = true := decide_eq_true hn2
      clear hq bad H hn2
      go_enter Tryd.func20, Tryd.ntmps20
      go_wp2_with fail
      refine HF.out.mono ?_
      rintro e w1 ⟨rfl, hb1⟩
      have HB := Aside0.mk hb1
      clear hb1
      go_wp2
      go_ret2
      refine ⟨.slice none 0 0, by rw [HN.out.2]; rfl, ?_, HB.out⟩
      rw [HN.out.1]
      exact Kd.V_nil _ _ _ _ _
    · have d2 : decide (a2 < 0) = false := decide_eq_false hn2
      by_cases hn3 : a3 < 0
      · have HN := Aside0.mk (bad _ (by omega) H)
        have d3 : decide (a3 < 0) = true := decide_eq_true hn3
        clear hq bad H hn2 hn3
        go_enter Tryd.func20, Tryd.ntmps20
        go_wp2_with fail
        refine HF.out.mono ?_
        rintro e w1 ⟨rfl, hb1⟩
        have HB := Aside0.mk hb1
        clear hb1
        go_wp2
        go_ret2
        refine ⟨.slice none 0 0, by rw [HN.out.2]; rfl, ?_, HB.out⟩
        rw [HN.out.1]
        exact Kd.V_nil _ _ _ _ _
      · have d3 : decide (a3 < 0) = false := decide_eq_false hn3
        have hgood : Aside0 (r1 = cutR (sortR l1 l0) a2 a3 ∧ r2 = 0) := ⟨by
          have := H.out
          rw [if_pos ⟨hq, by omega, by omega⟩] at this
          obtain ⟨e1, e2⟩ := Prod.mk.inj this
          exact ⟨e1.symm, e2.symm⟩⟩
        have HG := Aside0.mk (fits_good HV.out hq)
        have HLR : Aside0 ((sortR l1 l0).length ≤ 1099511627776) := ⟨by rw [(sortR_perm l1 l0).length_eq]; exact HV.out.2⟩
        have HN2 := Aside0.mk hn2
        have HN3 := Aside0.mk hn3
        have HA := Aside0.mk (fun w1 (hb : Below w.heap.size w w1) => arranged_calls A0 c0 l0 A1 c1 l1 w1 (Kd.C_below HR0.out hb) (Kd.C_below HR1.out hb) HG.out HV.out.2 HKN.out)
        obtain ⟨rs, hrs⟩ : ∃ rs, rs = sortR l1 l0 := ⟨_, rfl⟩
        rw [← hrs] at hgood HLR
        simp only [← hrs] at HA
        obtain ⟨f, hf⟩ : ∃ f, (if (rs.length : Int) < a2 then (rs.length : Int) else a2) = f := ⟨_, rfl⟩
        obtain ⟨g, hg⟩ : ∃ g, (if (rs.length : Int) - f < a3 then (rs.length : Int) - f else a3) = g := ⟨_, rfl⟩
        have HCUT := Aside0.mk (cutR_eq rs a2 a3 f g (by omega) (by omega) hf hg)
        have hf0 : 0 ≤ f ∧ f ≤ rs.length := by rw [← hf]; split <;> omega
        have hg0 : 0 ≤ g ∧ g ≤ rs.length - f := by rw [← hg]; split <;> omega
        have HFB := Aside0.mk hf0
        have HGB := Aside0.mk hg0
        have hw1 : wrap64 ((rs.length : Int) - f) = (rs.length : Int) - f := by have := HLR.out; unfold wrap64; omega
        have hw2 : wrap64 (f + g) = f + g := by have := HLR.out; unfold wrap64; omega
        clear hq bad H hn2 hn3 hf0 hg0 hrs
        go_enter Tryd.func20, Tryd.ntmps20
        go_wp2_with fail
        refine HF.out.mono ?_
        rintro e w1 ⟨rfl, hb1⟩
        have HB := Aside0.mk hb1
        clear hb1
        go_wp2_with fail
        refine (HA.out w1 HB.out).mono ?_
        rintro e w2 ⟨v2, rfl, hR2, hb2⟩
        obtain ⟨Av, cv, ev, hlc, hC⟩ := Kd.R_reads hR2
        subst ev
        have HB2 := Aside0.mk (HB.out.trans (hb2.mono HB.out.size))
        have HM := Aside0.mk (C_relM hR2)
        obtain ⟨i0, hi, hzz⟩ := Option.map_eq_some_iff.1 infoRow
        simp only [Prod.mk.injEq] at hzz
        have hcut := cut_mid (P := Tryd.prog) 37 58 .i64 .i64 Tryd.underlying37 hi 1 hzz.2.1 Av rs.length cv f (f + g) HFB.out.1 (by have := HGB.out; omega) (by have := HGB.out; omega) hlc
        have hcm := (Kd.C_mid (lo := f.toNat) (hi := (f + g).toNat) HM.out (by have := HGB.out; omega) (by have := HGB.out; have := HFB.out; omega) hlc)
        change Kd.C (relM w2 w1.heap.size).kd w2 (if cv = f.toNat then Av else Av.map (·.add (f.toNat * 1))) _ _ at hcm
        obtain ⟨A', hA'⟩ : ∃ A', A' = (if cv = f.toNat then Av else Av.map (·.add (f.toNat * 1))) := ⟨_, rfl⟩
        have hlm : ((rs.take (f + g).toNat).drop f.toNat).length = (f + g).toNat - f.toNat := by
          rw [List.length_drop, List.length_take]
          have := HGB.out
          have := HFB.out
          omega
        rw [← hA'] at hcm hcut
        rw [hlm, HCUT.out] at hcm
        rw [HCUT.out] at hlm
        obtain ⟨n', hn'⟩ : ∃ n', n' = (f + g).toNat - f.toNat := ⟨_, rfl⟩
        rw [← hn'] at hcm hcut hlm
        have HCM := Aside0.mk hcm
        have HLM : Aside0 ((cutR rs a2 a3).length ≤ 2199023255552) := ⟨by
          have h1 : (cutR rs a2 a3).length ≤ rs.length := by unfold cutR; rw [List.length_take, List.length_drop]; omega
          have := HLR.out
          omega⟩
        have HB1S := Aside0.mk HB.out.size
        have HB2S := Aside0.mk hb2.size
        clear hR2 hb2 hC hlc hzz hi hcm hA' hlm hn'
        go_wp2_with fail
        refine (cloneRows_calls _ A' n' (cv - f.toNat) (cutR rs a2 a3) w2 HCM.out HLM.out).mono ?_
        rintro e w3 ⟨v3, rfl, hR3, hb3⟩
        have HR3 := Aside0.mk (R_relM hR3 hb3 HB2S.out (Nat.le_refl _))
        have HB3 := Aside0.mk (HB2.out.trans (hb3.mono HB2.out.size))
        clear hR3 hb3
        go_wp2
        go_ret2
        refine ⟨v3, by rw [hgood.out.2]; rfl, ?_, HB3.out⟩
        rw [hgood.out.1]
        exact Kd.R_V (base' := w.heap.size) (Kd.R_mono (Kd.R_bound HR3.out) (fun k hk => Nat.le_trans HB1S.out hk.2.1))
end Go.Proofs.YtecgkcgfeghhgaaDoor.PAll
set_option linter.unusedVariables false
set_option linter.unusedSimpArgs false
namespace Go.Proofs.YtecgkcgfeghhgaaDoor.PAll
open Go.RowKit Go.Proofs.YtecgkcgfeghhgaaDoorW.PrintWords Go.Proofs.YtecgkcgfeghhgaaDoorW.PrintLast Go.Proofs.YtecgkcgfeghhgaaDoorW.PrintMore
theorem cnt_append (a b : List ByteArray) (s : ByteArray) : cnt (a ++ b) s = cnt a s + cnt b s := by
  unfold cnt; rw [List.countP_append]; omega
theorem cnt_cons (t : ByteArray) (l : List ByteArray) (s : ByteArray) : cnt (t :: l) s = cnt l s + (if t = s then 1 else 0) := by
  unfold cnt
  rw [List.countP_cons]
  by_cases h : t = s <;> simp [h]
theorem cnt_mem {a : List ByteArray} {t : ByteArray} (h : 1 ≤ cnt a t) : t ∈ a := by
  induction a with
  | nil => simp [cnt_nil] at h
  | cons u r ih =>
    rw [cnt_cons] at h
    by_cases e : u = t
    · subst e; exact List.mem_cons_self
    · simp [e] at h
      exact List.mem_cons_of_mem _ (ih h)
theorem cnt_sub (b : List ByteArray) : ∀ a : List ByteArray, (∀ s, cnt b s ≤ cnt a s) → b.length ≤ a.length ∧ (b.length = a.length → ∀ s, cnt a s = cnt b s) := by
  induction b with
  | nil =>
    intro a _
    refine ⟨by simp, fun h s => ?_⟩
    have : a = [] := List.eq_nil_of_length_eq_zero h.symm
    rw [this]
  | cons t b ih =>
    intro a h
    have h1 : 1 ≤ cnt a t := by
      have h2 := h t
      rw [cnt_cons] at h2
      have := cnt_nonneg b t
      simp at h2
      omega
    obtain ⟨p, q, rfl⟩ := List.append_of_mem (cnt_mem h1)
    have key : ∀ s, cnt (p ++ t :: q) s = cnt (p ++ q) s + (if t = s then 1 else 0) := fun s => by
      rw [cnt_append, cnt_append, cnt_cons]; omega
    obtain ⟨i1, i2⟩ := ih (p ++ q) (fun s => by
      have h2 := h s
      rw [key, cnt_cons] at h2
      omega)
    refine ⟨by simp at i1 ⊢; omega, fun hl s => ?_⟩
    rw [key, cnt_cons, i2 (by simp at hl ⊢; omega) s]
open Classical in
noncomputable def sameB (l0 l1 : List (List V)) : Bool := decide (l0.length = l1.length ∧ ∀ s, cnt (l0.map nameOf) s = cnt (l1.map nameOf) s)
open Classical in
theorem sameB_true {l0 l1 : List (List V)} (h : l0.length = l1.length ∧ ∀ s, cnt (l0.map nameOf) s = cnt (l1.map nameOf) s) : sameB l0 l1 = true := by
  exact decide_eq_true h
open Classical in
theorem sameB_false {l0 l1 : List (List V)} (h : ¬ (l0.length = l1.length ∧ ∀ s, cnt (l0.map nameOf) s = cnt (l1.map nameOf) s)) : sameB l0 l1 = false := by
  exact decide_eq_false h
open Classical in
noncomputable def bag_Same.f (l0 l1 : List (List V)) : Option Bool := if RowsOk l0 ∧ RowsOk l1 then some (sameB l0 l1) else none
set_option maxHeartbeats 4000000 in
set_option maxRecDepth 100000 in
theorem same_calls (A0 : Option Addr) (c0 : Nat) (l0 : List (List V)) (A1 : Option Addr) (c1 : Nat) (l1 : List (List V)) (w : World) (hr0 : Kd.C kRow w A0 l0.length l0) (hc0 : l0.length ≤ c0) (hr1 : Kd.C kRow w A1 l1.length l1) (hc1 : l1.length ≤ c1) (hT : LaidT w) (hok0 : RowsOk l0) (hok1 : RowsOk l1) :
    Calls Tryd.prog 24 #[.slice A0 l0.length c0, .slice A1 l1.length c1] w fun e w' => e = .returned (.bool (sameB l0 l1)) ∧ Below w.heap.size w w' := by
  have HT := Aside0.mk hT
  have HR0 := Aside0.mk hr0
  have HR1 := Aside0.mk hr1
  have HC0 := Aside0.mk hc0
  have HOK0 := Aside0.mk hok0
  have HOK := Aside0.mk hok1
  clear hT hr0 hc0 hok0 hok1 hr1 hc1
  by_cases hlen : l0.length = l1.length
  · have hne : ((l0.length : Int) != (l1.length : Int)) = false := by simp [hlen]
    have HLEN := Aside0.mk hlen
    clear hlen
    go_enter Tryd.func24, Tryd.ntmps24
    go_wp2_with fail
    refine (tally_calls _ _ l0 w HT.out HR0.out HC0.out HOK0.out).mono ?_
    rintro e w1 ⟨b, rfl, hb0, hcm, hbel⟩
    have HB0 := Aside0.mk hb0
    have M0 : Aside0 (CMap w1 b (fun s => cnt (l0.map nameOf) s - cnt ((l1.take (0 : Int).toNat).map nameOf) s)) := ⟨by simpa [cnt_nil] using hcm⟩
    have B0 := Aside0.mk hbel
    clear hb0 hcm hbel
    go_wp2
    go_loopg [18] l1.length (fun kq v18 W => ∃ x : Int, v18 = .int .i64 x ∧ Aside0 (0 ≤ x ∧ x ≤ l1.length ∧ (kq : Int) = l1.length - x) ∧ Aside0 (CMap W b (fun s => cnt (l0.map nameOf) s - cnt ((l1.take x.toNat).map nameOf) s)) ∧ Aside0 (∀ s, cnt ((l1.take x.toNat).map nameOf) s ≤ cnt (l0.map nameOf) s) ∧ Aside0 (Below w.heap.size w W))
    case atStart => exact ⟨0, rfl, ⟨by omega⟩, M0, ⟨fun s => by simp [cnt_nil, cnt_nonneg]⟩, B0⟩
    case round =>
      clear M0 B0
      obtain ⟨x, rfl, HX, HM, HLE, HB⟩ := hrel
      obtain ⟨hx0, hx1, hkq⟩ := HX.out
      by_cases hlt : x < (l1.length : Int)
      · have c1 : decide (x < (l1.length : Int)) = true := decide_eq_true hlt
        have c2 : decide (0 ≤ x) = true := decide_eq_true hx0
        obtain ⟨ad, A2, c1', e, hx_0, hl_0, hi_0⟩ := at_L4 HR1.out x hx0 hlt
        cases e
        replace hx_0 := (HB.out.cell (World.block_lt_of_cell? w _ hx_0)).trans hx_0
        have hi : x.toNat < l1.length := by omega
        have hrd : rd_L4 l1 x = l1[x.toNat] := by simp [rd_L4, List.getElem?_eq_getElem hi]
        have hok := HOK.out.1 (rd_L4 l1 x) (by rw [hrd]; exact List.getElem_mem hi)
        have hst : (l1.take (x + 1).toNat).map nameOf = (l1.take x.toNat).map nameOf ++ [nameOf (rd_L4 l1 x)] := by
          rw [show (x + 1).toNat = x.toNat + 1 by omega, take_snoc _ _ hi, List.map_append, hrd]; rfl
        have hall : l1.map nameOf = (l1.take (x + 1).toNat).map nameOf ++ (l1.drop (x + 1).toNat).map nameOf := by rw [← List.map_append, List.take_append_drop]
        obtain ⟨r, hr⟩ : ∃ r, r = rd_L4 l1 x := ⟨_, rfl⟩
        rw [← hr] at hx_0 hl_0 hi_0 hok hst
        have HI0 := Aside0.mk hi_0
        have HL0 := Aside0.mk hl_0
        have HOK1 := Aside0.mk hok
        have HST := Aside0.mk hst
        have HALL := Aside0.mk hall
        have HLT := Aside0.mk hlt
        have HWR : Aside0 (wrap64 (x + 1) = x + 1) := ⟨by have := HOK.out.2; unfold wrap64; omega⟩
        clear hi_0 hl_0 hok hst hrd hr hkq hi hall
        go_wp2_with fail
        refine (name_calls _ _ r wr (HT.out.below HB.out) (Kd.C_below HI0.out HB.out) HL0.out HOK1.out.1 HOK1.out.2.1 HOK1.out.2.2).mono ?_
        rintro e w1 ⟨rfl, hb1⟩
        have HM1 := Aside0.mk (HM.out.below hb1)
        have HB1 := Aside0.mk (HB.out.trans (hb1.mono HB.out.size))
        clear hb1
        obtain ⟨kv, hkv⟩ := HM1.out
        have HKV := Aside0.mk hkv
        obtain ⟨c, hcc⟩ : ∃ c, c = cnt (l0.map nameOf) (nameOf r) - cnt ((l1.take x.toNat).map nameOf) (nameOf r) := ⟨_, rfl⟩
        have hc : Aside0 ((KV.get kv (nameOf r)).getD 0 = c) := ⟨by rw [hcc]; exact hkv.2 _⟩
        have hc0 : 0 ≤ c := by have := HLE.out (nameOf r); omega
        have hc1 : c ≤ 1099511627776 := by
          have h1 := cnt_le (l0.map nameOf) (nameOf r)
          have h2 := HOK0.out.2
          have h3 := cnt_nonneg ((l1.take x.toNat).map nameOf) (nameOf r)
          rw [List.length_map] at h1
          omega
        have HCC := Aside0.mk hcc
        clear hcc hkv HM1 HM
        by_cases hz : c = 0
        · have hzb : (c == 0) = true := by simp [hz]
          have HZ := Aside0.mk hz
          clear hz
          go_wp2_with (at_lookup; refine KV.law_lookup _ rfl _ _ 85 rfl 9 3 Tryd.underlying9 Tryd.underlying85 (.int .i64 0) (zeroInt _) b (Value.int .i64) kv rfl HKV.out.1 (nameOf r) rfl (.int .i64 c) (get_int hc.out) ?_)
          go_ret
          refine ⟨?_, HB1.out⟩
          have : sameB l0 l1 = false := by
            apply sameB_false
            rintro ⟨_, h⟩
            have h1 := h (nameOf r)
            rw [HALL.out, HST.out, cnt_append, cnt_snoc] at h1
            have h2 := cnt_nonneg ((l1.drop (x + 1).toNat).map nameOf) (nameOf r)
            have h3 := HCC.out
            have h4 := HZ.out
            rw [if_pos rfl] at h1
            omega
          rw [this]
          rfl
        · have hzb : (c == 0) = false := by simp [hz]
          have HZ := Aside0.mk hz
          clear hz
          go_wp2_with (first
            | (at_lookup; refine KV.law_lookup _ rfl _ _ 85 rfl 9 3 Tryd.underlying9 Tryd.underlying85 (.int .i64 0) (zeroInt _) b (Value.int .i64) kv rfl HKV.out.1 (nameOf r) rfl (.int .i64 c) (get_int hc.out) ?_)
            | (at_mapUpdate; refine KV.law_update _ rfl _ _ _ 85 rfl 9 3 Tryd.underlying9 Tryd.underlying85 b (Value.int .i64) kv rfl HKV.out.1 (nameOf r) rfl (c - 1) rfl ?_; intro w2 hM2 hg2; have HM2 := Aside0.mk hM2; have HG2 := Aside0.mk hg2; clear hM2 hg2))
          have hlt := HLT.out
          have hk := HX.out.2.2
          have hz := HZ.out
          cases gk with
          | zero => omega
          | succ k1 =>
            go_roundg k1
            case measure => omega
            case rel =>
              refine ⟨x + 1, by rw [HWR.out], ⟨by omega⟩, ⟨?_⟩, ⟨fun s => ?_⟩, ⟨HB1.out.grown HG2.out HB1.out.size (fun k hk => by cases hk; exact HB0.out)⟩⟩
              · have h3 := CMap.put HKV.out.2 HM2.out
                have h4 : (fun t => if t = nameOf r then c - 1 else cnt (l0.map nameOf) t - cnt ((l1.take x.toNat).map nameOf) t) = fun s => cnt (l0.map nameOf) s - cnt ((l1.take (x + 1).toNat).map nameOf) s := by
                  funext t
                  rw [HST.out, cnt_snoc, HCC.out]
                  by_cases h : t = nameOf r
                  · subst h; simp; omega
                  · have : ¬ nameOf r = t := fun e => h e.symm
                    simp [h, this]
                rw [h4] at h3
                exact h3
              · rw [HST.out, cnt_snoc]
                have h1 := HLE.out s
                by_cases h : nameOf r = s
                · subst h
                  have := HCC.out
                  rw [if_pos rfl]; omega
                · rw [if_neg h]; omega
      · have c1 : decide (x < (l1.length : Int)) = false := decide_eq_false hlt
        go_wp2
        go_ret
        refine ⟨?_, HB.out⟩
        have ht : l1.take x.toNat = l1 := List.take_of_length_le (by omega)
        have hle := HLE.out
        rw [ht] at hle
        have : sameB l0 l1 = true := by
          exact sameB_true ⟨HLEN.out, (cnt_sub _ _ hle).2 (by simp [HLEN.out])⟩
        rw [this]
        rfl
  · have hne : ((l0.length : Int) != (l1.length : Int)) = true := by simp; omega
    have HLEN := Aside0.mk hlen
    clear hlen
    go_enter Tryd.func24, Tryd.ntmps24
    go_wp2
    go_ret
    refine ⟨?_, Below.refl _ _⟩
    have : sameB l0 l1 = false := by
      apply sameB_false
      rintro ⟨h, _⟩
      exact HLEN.out h
    rw [this]
    rfl
theorem bag_Same.calls (A0 : Option Addr) (c0 : Nat) (l0 : List (List V)) (A1 : Option Addr) (c1 : Nat) (l1 : List (List V)) (r : Bool) (w : World) (hr0 : Kd.C kRow w A0 l0.length l0) (hc0 : l0.length ≤ c0) (hr1 : Kd.C kRow w A1 l1.length l1) (hc1 : l1.length ≤ c1) (hT : LaidT w) (h : bag_Same.f l0 l1 = some r) :
    Calls Tryd.prog 24 #[.slice A0 l0.length c0, .slice A1 l1.length c1] w fun e w' => e = .returned (.bool r) ∧ Below w.heap.size w w' := by
  unfold bag_Same.f at h
  split at h
  · rename_i hk
    injection h with h
    subst h
    exact same_calls _ _ l0 _ _ l1 w hr0 hc0 hr1 hc1 hT hk.1 hk.2
  · cases h
end Go.Proofs.YtecgkcgfeghhgaaDoor.PAll
set_option linter.unusedVariables false
set_option linter.unusedSimpArgs false
namespace Go.Proofs.YtecgkcgfeghhgaaDoor.PAll
open Go.RowKit Go.Proofs.YtecgkcgfeghhgaaDoorW.PrintWords Go.Proofs.YtecgkcgfeghhgaaDoorW.PrintLast Go.Proofs.YtecgkcgfeghhgaaDoorW.PrintMore
def digVal (l : List UInt8) : Nat := l.foldl (fun a d => a * 10 + (d.toNat - 48)) 0
theorem decDigits_val : ∀ u : Nat, digVal (Lib.decDigits u) = u ∧ ∀ b ∈ Lib.decDigits u, 48 ≤ b.toNat ∧ b.toNat ≤ 57 := by
  intro u
  induction u using Nat.strongRecOn with
  | ind u ih =>
    rw [Lib.decDigits]
    split
    · rename_i h
      have e : (UInt8.ofNat (48 + u)).toNat = 48 + u := by
        rw [UInt8.toNat_ofNat']; omega
      refine ⟨by show 0 * 10 + ((UInt8.ofNat (48 + u)).toNat - 48) = u; rw [e]; omega, fun b hb => ?_⟩
      rw [List.mem_singleton.1 hb, e]
      omega
    · rename_i h
      have e : (UInt8.ofNat (48 + u % 10)).toNat = 48 + u % 10 := by
        rw [UInt8.toNat_ofNat']; omega
      obtain ⟨h1, h2⟩ := ih (u / 10) (by omega)
      refine ⟨?_, fun b hb => ?_⟩
      · unfold digVal at h1 ⊢
        rw [List.foldl_append, h1]
        simp only [List.foldl_cons, List.foldl_nil, e]
        omega
      · rcases List.mem_append.1 hb with hb | hb
        · exact h2 b hb
        · rw [List.mem_singleton.1 hb, e]
          omega
theorem itoa_bytes (n : Int) : ∀ b ∈ Lib.itoa n, b.toNat = 45 ∨ 48 ≤ b.toNat ∧ b.toNat ≤ 57 := by
  intro b hb
  unfold Lib.itoa at hb
  split at hb
  · rcases List.mem_cons.1 hb with rfl | hb
    · exact .inl rfl
    · exact .inr ((decDigits_val _).2 b hb)
  · exact .inr ((decDigits_val _).2 b hb)
theorem itoa_inj {a b : Int} (h : Lib.itoa a = Lib.itoa b) : a = b := by
  have no45 : ∀ (u : Nat) (t : List UInt8), Lib.decDigits u ≠ 45 :: t := fun u t e => by
    have := (decDigits_val u).2 45 (by rw [e]; exact List.mem_cons_self)
    have e45 : (45 : UInt8).toNat = 45 := rfl
    omega
  have inj : ∀ u v : Nat, Lib.decDigits u = Lib.decDigits v → u = v := fun u v e => by
    rw [← (decDigits_val u).1, ← (decDigits_val v).1, e]
  unfold Lib.itoa at h
  split at h <;> split at h
  · injection h with _ h
    have := inj _ _ h
    omega
  · exact absurd h.symm (no45 _ _)
  · exact absurd h (no45 _ _)
  · have := inj _ _ h
    omega
theorem split_at {s : UInt8} : ∀ {A B X Y : List UInt8}, s ∉ A → s ∉ B → A ++ ([s] ++ X) = B ++ ([s] ++ Y) → A = B ∧ X = Y
  | [], [], X, Y, _, _, h => by simpa using h
  | [], b :: B, X, Y, _, hb, h => by
    simp only [List.nil_append, List.cons_append, List.cons.injEq] at h
    exact absurd (by rw [h.1]; exact List.mem_cons_self) hb
  | a :: A, [], X, Y, ha, _, h => by
    simp only [List.nil_append, List.cons_append, List.cons.injEq] at h
    exact absurd (by rw [← h.1]; exact List.mem_cons_self) ha
  | a :: A, b :: B, X, Y, ha, hb, h => by
    simp only [List.cons_append, List.cons.injEq] at h
    obtain ⟨h1, h2⟩ := split_at (fun h => ha (List.mem_cons_of_mem _ h)) (fun h => hb (List.mem_cons_of_mem _ h)) h.2
    exact ⟨by rw [h.1, h1], h2⟩
theorem no_itoa (s : UInt8) (h : s.toNat = 32 ∨ s.toNat = 58) (n : Int) : s ∉ Lib.itoa n := fun hm => by
  have := itoa_bytes n s hm
  omega
theorem nameV_inj {a b : V} {R S : List UInt8} (h : nameV a ++ R = nameV b ++ S) : a = b ∧ R = S := by
  unfold nameV at h
  simp only [List.append_assoc] at h
  obtain ⟨h0, h⟩ := split_at (no_itoa 32 (by decide) _) (no_itoa 32 (by decide) _) h
  obtain ⟨h1, h⟩ := split_at (no_itoa 32 (by decide) _) (no_itoa 32 (by decide) _) h
  obtain ⟨h2, h⟩ := split_at (no_itoa 58 (by decide) _) (no_itoa 58 (by decide) _) h
  have h0 := itoa_inj h0
  have h1 := itoa_inj h1
  have h2 := itoa_inj h2
  have hs : a.f2.data.toList.length = b.f2.data.toList.length := by
    have h2' : a.f2.size = b.f2.size := by omega
    rw [Array.length_toList, Array.length_toList]
    exact h2'
  obtain ⟨h3, h4⟩ := List.append_inj h hs
  have h3 : a.f2 = b.f2 := ByteArray.ext (Array.toList_inj.1 h3)
  refine ⟨?_, h4⟩
  cases a; cases b
  dsimp only at h0 h1 h3
  rw [h0, h1, h3]
theorem nameV_ne (v : V) : nameV v ≠ [] := by
  unfold nameV
  simp
theorem nameB_inj : ∀ {a b : List V}, nameB a = nameB b → a = b
  | [], [], _ => rfl
  | [], b :: m, h => by
    simp only [nameB] at h
    have := (List.append_eq_nil_iff.1 h.symm).1
    exact absurd this (nameV_ne b)
  | a :: l, [], h => by
    simp only [nameB] at h
    have := (List.append_eq_nil_iff.1 h).1
    exact absurd this (nameV_ne a)
  | a :: l, b :: m, h => by
    simp only [nameB] at h
    obtain ⟨h1, h2⟩ := nameV_inj h
    rw [h1, nameB_inj h2]
theorem name_inj {a b : List V} (h : nameOf a = nameOf b) : a = b := by
  apply nameB_inj
  unfold nameOf at h
  injection h with h
  simpa using h
end Go.Proofs.YtecgkcgfeghhgaaDoor.PAll
namespace Go.Proofs.YtecgkcgfeghhgaaDoor.PAll
open Go.RowKit Go.Proofs.YtecgkcgfeghhgaaDoorW.PrintWords Go.Proofs.YtecgkcgfeghhgaaDoorW.PrintLast Go.Proofs.YtecgkcgfeghhgaaDoorW.PrintMore
attribute [local go_sem] max2_int min2_int max_two min_two max_three min_three max_four min_four
set_option linter.unusedVariables false
set_option linter.unusedSimpArgs false
def jointerref01_Int.f (a0 : Int) : Option (Int × Int × ByteArray) := some (1, a0, (⟨#[]⟩ : ByteArray))
set_option maxHeartbeats 8000000 in
set_option maxRecDepth 100000 in
theorem jointerref01_Int.calls (a0 : Int) (r1 : Int) (r2 : Int) (r3 : ByteArray) (w : World) (h : jointerref01_Int.f a0 = some (r1, r2, r3)) :
 Calls Tryd.prog 12 #[.int .i64 a0] w fun e w' => e = .returned (.agg #[.int .u8 r1, .int .i64 r2, .string r3]) ∧ Below w.heap.size w w' := by
 have hu27 := Tryd.underlying27
 have HB := Aside0.mk (Below.refl w.heap.size w)
 have H : (some (1, a0, (⟨#[]⟩ : ByteArray))) = some (r1, r2, r3) := h
 clear h
 simp only [Option.some.injEq, Prod.mk.injEq] at H
 obtain ⟨rfl, rfl, rfl⟩ := H
 go_enter Tryd.func12, Tryd.ntmps12
 go_wp2_with (first | ((with_reducible refine gate_dst (N := 2) rfl ?_); refine box_event ?hg (N := 2) ?hd (cs := #[.int .u8 0, .int .i64 0, .string (⟨#[]⟩ : ByteArray)]) (t := 27) ?hr ?_; (case hd => rfl); (case hg => rfl); (case hr => first | (go_simp; done) | (go_simp; rfl)); intro gb124 hg w2 hbox hb; have n0_ := Aside0.mk (below_step (by repeat (first | (with_reducible first | exact HB.out | apply below_alloc | apply pw_below_drewN | apply below_drew1) | exact HB.out)) hb); have n1_ := Aside0.mk (hbox); have n2_ := Aside0.mk ((by rw [hg]; exact (below_size (by repeat (first | (with_reducible first | exact HB.out | apply below_alloc | apply pw_below_drewN | apply below_drew1) | exact HB.out))) : w.heap.size ≤ gb124)); have n3_ := Aside0.mk ((by rw [hg]; exact (below_size (by repeat (first | (with_reducible first | exact HB.out | apply below_alloc | apply pw_below_drewN | apply below_drew1) | exact HB.out))) : w.heap.size ≤ gb124)); clear HB; have HB := n0_; have BK124 := n1_; have GW124 := n2_; have GE124 := n3_; clear n0_ n1_ n2_ n3_; clear hb hbox hg; have hcz3_0 : w2.cell? ⟨gb124, 0, none⟩ = some (.int .u8 0) := (blk_cell BK124.out 0).trans rfl; have hcz3_1 : w2.cell? ⟨gb124, 1, none⟩ = some (.int .i64 0) := (blk_cell BK124.out 1).trans rfl; have hcz3_2 : w2.cell? ⟨gb124, 2, none⟩ = some (.string (⟨#[]⟩ : ByteArray)) := (blk_cell BK124.out 2).trans rfl; have hfz3_0 := blk_frozen BK124.out 0; have hfz3_1 := blk_frozen BK124.out 1; have hfz3_2 := blk_frozen BK124.out 2))
 refine bodyPost_ret (results_cell_row rfl _ _ gb124 27 #[.int .u8 1, .int .i64 a0, .string (⟨#[]⟩ : ByteArray)] (0, 0) _ rfl (by (with_reducible repeat (first | refine blk_drewN ?_ _ | refine blk_drew ?_ | refine blk_alloc ?_ _)); refine blk_put (cs := #[.int .u8 1, .int .i64 a0, .string (⟨#[]⟩ : ByteArray)]) ?_ 2 _ rfl; (with_reducible repeat (first | refine blk_drewN ?_ _ | refine blk_drew ?_ | refine blk_alloc ?_ _)); refine blk_put (cs := #[.int .u8 1, .int .i64 0, .string (⟨#[]⟩ : ByteArray)]) ?_ 1 _ rfl; (with_reducible repeat (first | refine blk_drewN ?_ _ | refine blk_drew ?_ | refine blk_alloc ?_ _)); refine blk_put (cs := #[.int .u8 0, .int .i64 0, .string (⟨#[]⟩ : ByteArray)]) ?_ 0 _ rfl; (with_reducible repeat (first | refine blk_drewN ?_ _ | refine blk_drew ?_ | refine blk_alloc ?_ _)); exact BK124.out) Tryd.underlying27 rfl (by kernel_rfl)) rfl ?_
 exact ⟨by first | rfl | (simp [errW_none, errW_some] <;> rfl) | (simp [*, errW_none, errW_some] <;> rfl), by repeat (first | (with_reducible first | exact HB.out | apply below_alloc | apply pw_below_drewN | apply below_drew1 | refine below_set ?_ GE124.out) | exact HB.out)⟩
end Go.Proofs.YtecgkcgfeghhgaaDoor.PAll
namespace Go.Proofs.YtecgkcgfeghhgaaDoor.PAll
open Go.RowKit Go.Proofs.YtecgkcgfeghhgaaDoorW.PrintWords Go.Proofs.YtecgkcgfeghhgaaDoorW.PrintLast Go.Proofs.YtecgkcgfeghhgaaDoorW.PrintMore
attribute [local go_sem] max2_int min2_int max_two min_two max_three min_three max_four min_four
set_option linter.unusedVariables false
set_option linter.unusedSimpArgs false
def jointerref01_Same.f (a0_0 : Int) (a0_1 : Int) (a0_2 : ByteArray) (a1_0 : Int) (a1_1 : Int) (a1_2 : ByteArray) : Option (Bool) := if a0_0 = a1_0 then (if a0_1 = a1_1 then (some (a0_2.toList == a1_2.toList)) else (some false)) else (some false)
set_option maxHeartbeats 8000000 in
set_option maxRecDepth 100000 in
theorem jointerref01_Same.calls (a0_0 : Int) (a0_1 : Int) (a0_2 : ByteArray) (a1_0 : Int) (a1_1 : Int) (a1_2 : ByteArray) (r : Bool) (w : World) (h : jointerref01_Same.f a0_0 a0_1 a0_2 a1_0 a1_1 a1_2 = some r) :
 Calls Tryd.prog 14 #[.agg #[.int .u8 a0_0, .int .i64 a0_1, .string a0_2], .agg #[.int .u8 a1_0, .int .i64 a1_1, .string a1_2]] w fun e w' => e = .returned (.bool r) ∧ Below w.heap.size w w' := by
 have hu27 := Tryd.underlying27
 have HB := Aside0.mk (Below.refl w.heap.size w)
 have H : (if a0_0 = a1_0 then (if a0_1 = a1_1 then (some (a0_2.toList == a1_2.toList)) else (some false)) else (some false)) = some r := h
 clear h
 by_cases c3 : a0_0 = a1_0
 · rw [if_pos c3] at H
   have c3b0 : (a0_0 == a1_0) = true := beq_iff_eq.mpr c3
   have c3b1 : (a0_0 != a1_0) = false := bne_eq_false_iff_eq.mpr c3
   clear c3
   by_cases c4 : a0_1 = a1_1
   · rw [if_pos c4] at H
     have c4b0 : (a0_1 == a1_1) = true := beq_iff_eq.mpr c4
     have c4b1 : (a0_1 != a1_1) = false := bne_eq_false_iff_eq.mpr c4
     clear c4
     obtain rfl := Option.some.inj H
     go_enter Tryd.func14, Tryd.ntmps14
     go_wp2_with (first | ((with_reducible refine gate_dst (N := 2) rfl ?_); refine box_event ?hg (N := 2) ?hd (cs := #[.int .u8 a0_0, .int .i64 a0_1, .string a0_2]) (t := 27) ?hr ?_; (case hd => rfl); (case hg => rfl); (case hr => first | (go_simp; done) | (go_simp; rfl)); intro gb125 hg w5 hbox hb; have n0_ := Aside0.mk (below_step (by repeat (first | (with_reducible first | exact HB.out | apply below_alloc | apply pw_below_drewN | apply below_drew1) | exact HB.out)) hb); have n1_ := Aside0.mk (hbox); have n2_ := Aside0.mk ((by rw [hg]; exact (below_size (by repeat (first | (with_reducible first | exact HB.out | apply below_alloc | apply pw_below_drewN | apply below_drew1) | exact HB.out))) : w.heap.size ≤ gb125)); have n3_ := Aside0.mk ((by rw [hg]; exact (below_size (by repeat (first | (with_reducible first | exact HB.out | apply below_alloc | apply pw_below_drewN | apply below_drew1) | exact HB.out))) : w.heap.size ≤ gb125)); clear HB; have HB := n0_; have BK125 := n1_; have GW125 := n2_; have GE125 := n3_; clear n0_ n1_ n2_ n3_; clear hb hbox hg) | ((with_reducible refine gate_dst (N := 3) rfl ?_); refine box_event ?hg (N := 3) ?hd (cs := #[.int .u8 a1_0, .int .i64 a1_1, .string a1_2]) (t := 27) ?hr ?_; (case hd => rfl); (case hg => rfl); (case hr => first | (go_simp; done) | (go_simp; rfl)); intro gb126 hg w6 hbox hb; have n0_ := Aside0.mk (blk_below (g := gb125) (o := .cells #[.int .u8 a0_0, .int .i64 a0_1, .string a0_2] 27 (0, 0)) (by (with_reducible repeat (first | refine blk_drewN ?_ _ | refine blk_drew ?_ | refine blk_alloc ?_ _)); exact BK125.out) hb); have n1_ := Aside0.mk (below_step (by repeat (first | (with_reducible first | exact HB.out | apply below_alloc | apply pw_below_drewN | apply below_drew1 | refine below_set ?_ GE125.out) | exact HB.out)) hb); have n2_ := Aside0.mk (hbox); have n3_ := Aside0.mk ((by rw [hg]; exact (below_size (by repeat (first | (with_reducible first | exact HB.out | apply below_alloc | apply pw_below_drewN | apply below_drew1 | refine below_set ?_ GE125.out) | exact HB.out))) : w.heap.size ≤ gb126)); have n4_ := Aside0.mk ((by rw [hg]; exact (below_size (by repeat (first | (with_reducible first | exact HB.out | apply below_alloc | apply pw_below_drewN | apply below_drew1 | refine below_set ?_ GE125.out) | exact HB.out))) : w.heap.size ≤ gb126)); have n5_ := Aside0.mk ((by rw [hg]; exact Nat.ne_of_lt (blk_lt (g := gb125) (o := .cells #[.int .u8 a0_0, .int .i64 a0_1, .string a0_2] 27 (0, 0)) (by (with_reducible repeat (first | refine blk_drewN ?_ _ | refine blk_drew ?_ | refine blk_alloc ?_ _)); exact BK125.out)) : gb125 ≠ gb126)); have n6_ := Aside0.mk ((by rw [hg]; exact Nat.ne_of_gt (blk_lt (g := gb125) (o := .cells #[.int .u8 a0_0, .int .i64 a0_1, .string a0_2] 27 (0, 0)) (by (with_reducible repeat (first | refine blk_drewN ?_ _ | refine blk_drew ?_ | refine blk_alloc ?_ _)); exact BK125.out)) : gb126 ≠ gb125)); clear BK125; clear HB; have BK125 := n0_; have HB := n1_; have BK126 := n2_; have GW126 := n3_; have GE126 := n4_; have NB125_126 := n5_; have NB126_125 := n6_; clear n0_ n1_ n2_ n3_ n4_ n5_ n6_; clear hb hbox hg; have hnb7 := NB125_126.out; have hnc7 := NB126_125.out; have hcz8_0 : w6.cell? ⟨gb125, 0, none⟩ = some (.int .u8 a0_0) := (blk_cell BK125.out 0).trans rfl; have hcz8_1 : w6.cell? ⟨gb125, 1, none⟩ = some (.int .i64 a0_1) := (blk_cell BK125.out 1).trans rfl; have hcz8_2 : w6.cell? ⟨gb125, 2, none⟩ = some (.string a0_2) := (blk_cell BK125.out 2).trans rfl; have hfz8_0 := blk_frozen BK125.out 0; have hfz8_1 := blk_frozen BK125.out 1; have hfz8_2 := blk_frozen BK125.out 2; have hcz9_0 : w6.cell? ⟨gb126, 0, none⟩ = some (.int .u8 a1_0) := (blk_cell BK126.out 0).trans rfl; have hcz9_1 : w6.cell? ⟨gb126, 1, none⟩ = some (.int .i64 a1_1) := (blk_cell BK126.out 1).trans rfl; have hcz9_2 : w6.cell? ⟨gb126, 2, none⟩ = some (.string a1_2) := (blk_cell BK126.out 2).trans rfl; have hfz9_0 := blk_frozen BK126.out 0; have hfz9_1 := blk_frozen BK126.out 1; have hfz9_2 := blk_frozen BK126.out 2))
     go_ret
     exact ⟨by first | rfl | (simp [errW_none, errW_some] <;> rfl) | (simp [*, errW_none, errW_some] <;> rfl), by repeat (first | (with_reducible first | exact HB.out | apply below_alloc | apply pw_below_drewN | apply below_drew1 | refine below_set ?_ GE125.out | refine below_set ?_ GE126.out) | exact HB.out)⟩
   · rw [if_neg c4] at H
     have c4b0 : (a0_1 == a1_1) = false := beq_eq_false_iff_ne.mpr c4
     have c4b1 : (a0_1 != a1_1) = true := bne_iff_ne.mpr c4
     obtain rfl := Option.some.inj H
     go_enter Tryd.func14, Tryd.ntmps14
     go_wp2_with (first | ((with_reducible refine gate_dst (N := 2) rfl ?_); refine box_event ?hg (N := 2) ?hd (cs := #[.int .u8 a0_0, .int .i64 a0_1, .string a0_2]) (t := 27) ?hr ?_; (case hd => rfl); (case hg => rfl); (case hr => first | (go_simp; done) | (go_simp; rfl)); intro gb125 hg w10 hbox hb; have n0_ := Aside0.mk (below_step (by repeat (first | (with_reducible first | exact HB.out | apply below_alloc | apply pw_below_drewN | apply below_drew1) | exact HB.out)) hb); have n1_ := Aside0.mk (hbox); have n2_ := Aside0.mk ((by rw [hg]; exact (below_size (by repeat (first | (with_reducible first | exact HB.out | apply below_alloc | apply pw_below_drewN | apply below_drew1) | exact HB.out))) : w.heap.size ≤ gb125)); have n3_ := Aside0.mk ((by rw [hg]; exact (below_size (by repeat (first | (with_reducible first | exact HB.out | apply below_alloc | apply pw_below_drewN | apply below_drew1) | exact HB.out))) : w.heap.size ≤ gb125)); clear HB; have HB := n0_; have BK125 := n1_; have GW125 := n2_; have GE125 := n3_; clear n0_ n1_ n2_ n3_; clear hb hbox hg) | ((with_reducible refine gate_dst (N := 3) rfl ?_); refine box_event ?hg (N := 3) ?hd (cs := #[.int .u8 a1_0, .int .i64 a1_1, .string a1_2]) (t := 27) ?hr ?_; (case hd => rfl); (case hg => rfl); (case hr => first | (go_simp; done) | (go_simp; rfl)); intro gb126 hg w11 hbox hb; have n0_ := Aside0.mk (blk_below (g := gb125) (o := .cells #[.int .u8 a0_0, .int .i64 a0_1, .string a0_2] 27 (0, 0)) (by (with_reducible repeat (first | refine blk_drewN ?_ _ | refine blk_drew ?_ | refine blk_alloc ?_ _)); exact BK125.out) hb); have n1_ := Aside0.mk (below_step (by repeat (first | (with_reducible first | exact HB.out | apply below_alloc | apply pw_below_drewN | apply below_drew1 | refine below_set ?_ GE125.out) | exact HB.out)) hb); have n2_ := Aside0.mk (hbox); have n3_ := Aside0.mk ((by rw [hg]; exact (below_size (by repeat (first | (with_reducible first | exact HB.out | apply below_alloc | apply pw_below_drewN | apply below_drew1 | refine below_set ?_ GE125.out) | exact HB.out))) : w.heap.size ≤ gb126)); have n4_ := Aside0.mk ((by rw [hg]; exact (below_size (by repeat (first | (with_reducible first | exact HB.out | apply below_alloc | apply pw_below_drewN | apply below_drew1 | refine below_set ?_ GE125.out) | exact HB.out))) : w.heap.size ≤ gb126)); have n5_ := Aside0.mk ((by rw [hg]; exact Nat.ne_of_lt (blk_lt (g := gb125) (o := .cells #[.int .u8 a0_0, .int .i64 a0_1, .string a0_2] 27 (0, 0)) (by (with_reducible repeat (first | refine blk_drewN ?_ _ | refine blk_drew ?_ | refine blk_alloc ?_ _)); exact BK125.out)) : gb125 ≠ gb126)); have n6_ := Aside0.mk ((by rw [hg]; exact Nat.ne_of_gt (blk_lt (g := gb125) (o := .cells #[.int .u8 a0_0, .int .i64 a0_1, .string a0_2] 27 (0, 0)) (by (with_reducible repeat (first | refine blk_drewN ?_ _ | refine blk_drew ?_ | refine blk_alloc ?_ _)); exact BK125.out)) : gb126 ≠ gb125)); clear BK125; clear HB; have BK125 := n0_; have HB := n1_; have BK126 := n2_; have GW126 := n3_; have GE126 := n4_; have NB125_126 := n5_; have NB126_125 := n6_; clear n0_ n1_ n2_ n3_ n4_ n5_ n6_; clear hb hbox hg; have hnb12 := NB125_126.out; have hnc12 := NB126_125.out; have hcz13_0 : w11.cell? ⟨gb125, 0, none⟩ = some (.int .u8 a0_0) := (blk_cell BK125.out 0).trans rfl; have hcz13_1 : w11.cell? ⟨gb125, 1, none⟩ = some (.int .i64 a0_1) := (blk_cell BK125.out 1).trans rfl; have hcz13_2 : w11.cell? ⟨gb125, 2, none⟩ = some (.string a0_2) := (blk_cell BK125.out 2).trans rfl; have hfz13_0 := blk_frozen BK125.out 0; have hfz13_1 := blk_frozen BK125.out 1; have hfz13_2 := blk_frozen BK125.out 2; have hcz14_0 : w11.cell? ⟨gb126, 0, none⟩ = some (.int .u8 a1_0) := (blk_cell BK126.out 0).trans rfl; have hcz14_1 : w11.cell? ⟨gb126, 1, none⟩ = some (.int .i64 a1_1) := (blk_cell BK126.out 1).trans rfl; have hcz14_2 : w11.cell? ⟨gb126, 2, none⟩ = some (.string a1_2) := (blk_cell BK126.out 2).trans rfl; have hfz14_0 := blk_frozen BK126.out 0; have hfz14_1 := blk_frozen BK126.out 1; have hfz14_2 := blk_frozen BK126.out 2))
     go_ret
     exact ⟨by first | rfl | (simp [errW_none, errW_some] <;> rfl) | (simp [*, errW_none, errW_some] <;> rfl), by repeat (first | (with_reducible first | exact HB.out | apply below_alloc | apply pw_below_drewN | apply below_drew1 | refine below_set ?_ GE125.out | refine below_set ?_ GE126.out) | exact HB.out)⟩
 · rw [if_neg c3] at H
   have c3b0 : (a0_0 == a1_0) = false := beq_eq_false_iff_ne.mpr c3
   have c3b1 : (a0_0 != a1_0) = true := bne_iff_ne.mpr c3
   obtain rfl := Option.some.inj H
   go_enter Tryd.func14, Tryd.ntmps14
   go_wp2_with (first | ((with_reducible refine gate_dst (N := 2) rfl ?_); refine box_event ?hg (N := 2) ?hd (cs := #[.int .u8 a0_0, .int .i64 a0_1, .string a0_2]) (t := 27) ?hr ?_; (case hd => rfl); (case hg => rfl); (case hr => first | (go_simp; done) | (go_simp; rfl)); intro gb125 hg w15 hbox hb; have n0_ := Aside0.mk (below_step (by repeat (first | (with_reducible first | exact HB.out | apply below_alloc | apply pw_below_drewN | apply below_drew1) | exact HB.out)) hb); have n1_ := Aside0.mk (hbox); have n2_ := Aside0.mk ((by rw [hg]; exact (below_size (by repeat (first | (with_reducible first | exact HB.out | apply below_alloc | apply pw_below_drewN | apply below_drew1) | exact HB.out))) : w.heap.size ≤ gb125)); have n3_ := Aside0.mk ((by rw [hg]; exact (below_size (by repeat (first | (with_reducible first | exact HB.out | apply below_alloc | apply pw_below_drewN | apply below_drew1) | exact HB.out))) : w.heap.size ≤ gb125)); clear HB; have HB := n0_; have BK125 := n1_; have GW125 := n2_; have GE125 := n3_; clear n0_ n1_ n2_ n3_; clear hb hbox hg) | ((with_reducible refine gate_dst (N := 3) rfl ?_); refine box_event ?hg (N := 3) ?hd (cs := #[.int .u8 a1_0, .int .i64 a1_1, .string a1_2]) (t := 27) ?hr ?_; (case hd => rfl); (case hg => rfl); (case hr => first | (go_simp; done) | (go_simp; rfl)); intro gb126 hg w16 hbox hb; have n0_ := Aside0.mk (blk_below (g := gb125) (o := .cells #[.int .u8 a0_0, .int .i64 a0_1, .string a0_2] 27 (0, 0)) (by (with_reducible repeat (first | refine blk_drewN ?_ _ | refine blk_drew ?_ | refine blk_alloc ?_ _)); exact BK125.out) hb); have n1_ := Aside0.mk (below_step (by repeat (first | (with_reducible first | exact HB.out | apply below_alloc | apply pw_below_drewN | apply below_drew1 | refine below_set ?_ GE125.out) | exact HB.out)) hb); have n2_ := Aside0.mk (hbox); have n3_ := Aside0.mk ((by rw [hg]; exact (below_size (by repeat (first | (with_reducible first | exact HB.out | apply below_alloc | apply pw_below_drewN | apply below_drew1 | refine below_set ?_ GE125.out) | exact HB.out))) : w.heap.size ≤ gb126)); have n4_ := Aside0.mk ((by rw [hg]; exact (below_size (by repeat (first | (with_reducible first | exact HB.out | apply below_alloc | apply pw_below_drewN | apply below_drew1 | refine below_set ?_ GE125.out) | exact HB.out))) : w.heap.size ≤ gb126)); have n5_ := Aside0.mk ((by rw [hg]; exact Nat.ne_of_lt (blk_lt (g := gb125) (o := .cells #[.int .u8 a0_0, .int .i64 a0_1, .string a0_2] 27 (0, 0)) (by (with_reducible repeat (first | refine blk_drewN ?_ _ | refine blk_drew ?_ | refine blk_alloc ?_ _)); exact BK125.out)) : gb125 ≠ gb126)); have n6_ := Aside0.mk ((by rw [hg]; exact Nat.ne_of_gt (blk_lt (g := gb125) (o := .cells #[.int .u8 a0_0, .int .i64 a0_1, .string a0_2] 27 (0, 0)) (by (with_reducible repeat (first | refine blk_drewN ?_ _ | refine blk_drew ?_ | refine blk_alloc ?_ _)); exact BK125.out)) : gb126 ≠ gb125)); clear BK125; clear HB; have BK125 := n0_; have HB := n1_; have BK126 := n2_; have GW126 := n3_; have GE126 := n4_; have NB125_126 := n5_; have NB126_125 := n6_; clear n0_ n1_ n2_ n3_ n4_ n5_ n6_; clear hb hbox hg; have hnb17 := NB125_126.out; have hnc17 := NB126_125.out; have hcz18_0 : w16.cell? ⟨gb125, 0, none⟩ = some (.int .u8 a0_0) := (blk_cell BK125.out 0).trans rfl; have hcz18_1 : w16.cell? ⟨gb125, 1, none⟩ = some (.int .i64 a0_1) := (blk_cell BK125.out 1).trans rfl; have hcz18_2 : w16.cell? ⟨gb125, 2, none⟩ = some (.string a0_2) := (blk_cell BK125.out 2).trans rfl; have hfz18_0 := blk_frozen BK125.out 0; have hfz18_1 := blk_frozen BK125.out 1; have hfz18_2 := blk_frozen BK125.out 2; have hcz19_0 : w16.cell? ⟨gb126, 0, none⟩ = some (.int .u8 a1_0) := (blk_cell BK126.out 0).trans rfl; have hcz19_1 : w16.cell? ⟨gb126, 1, none⟩ = some (.int .i64 a1_1) := (blk_cell BK126.out 1).trans rfl; have hcz19_2 : w16.cell? ⟨gb126, 2, none⟩ = some (.string a1_2) := (blk_cell BK126.out 2).trans rfl; have hfz19_0 := blk_frozen BK126.out 0; have hfz19_1 := blk_frozen BK126.out 1; have hfz19_2 := blk_frozen BK126.out 2))
   go_ret
   exact ⟨by first | rfl | (simp [errW_none, errW_some] <;> rfl) | (simp [*, errW_none, errW_some] <;> rfl), by repeat (first | (with_reducible first | exact HB.out | apply below_alloc | apply pw_below_drewN | apply below_drew1 | refine below_set ?_ GE125.out | refine below_set ?_ GE126.out) | exact HB.out)⟩
end Go.Proofs.YtecgkcgfeghhgaaDoor.PAll
