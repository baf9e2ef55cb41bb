/- What the last of these texts proves is told there. Joined by a program of this session out of its texts. -/
import Derived.Test.YtecgkcgfeghhgaaGreatDoorQBagSets2
import Derived.Below
import Derived.Deep.Draws
import Derived.Deep.AppendLies
import Derived.Maps.AppendAt
import Derived.OwnWalk
import Derived.Laws.BytesArg
import Derived.Laws.MakeOwn
import Derived.Laws.OwnMore
import Derived.Deep.OwnRows
import Derived.Tactics
import Derived.Lib.ConvBytes
import Derived.Laws.Slices
import Derived.WalkKit
import Derived.KernelRfl
import Derived.RowKit3
import Derived.Deep.LoopGhost
import Derived.Deep.QuietTactic
import Derived.BigQuiet
import Derived.WideLaws
import Derived.Deep.DeepCutAuto
import Derived.Deep.CutBlock
import Derived.Deep.RegionHeld3
import Derived.Laws.Rows
import Derived.Lib.AppendStr
import Derived.ArgAppend
import Derived.Laws.IdiomCopy
import Derived.RowKit
import Derived.OrdersHeld
import Derived.Laws.BitsLemmas
import Derived.Laws.StructEq
import Derived.Shelf.Strings.BuilderK
import Derived.Shelf.Spec.SlicesGrow
import Derived.Shelf.SlGeneric
import Derived.Ground.Names8Prog
import Derived.Shelf.SlSortCmp.NoneTotal
import Derived.Ground.SlsfProg
import Derived.Ground.NamesProg
import Derived.Shelf.Spec.BitsCarry
import Derived.Ground.Names7Prog
import Derived.Shelf.Strings.Builder1
import Derived.Shelf.Small.Bits
import Derived.Shelf.Small.Strs
import Derived.Shelf.Strings.BuilderF
import Derived.Shelf.Strconv.Itoa0
import Derived.Shelf.Strconv.Itoa1
import Derived.Shelf.LaysM
import Derived.Shelf.Strconv.Itoa2
import Derived.Shelf.Strconv.Itoa3
import Derived.Shelf.Strconv.Itoa4
import Derived.Shelf.Strings.BuilderCap
import Derived.Maps.OwnOps
import Derived.ChangeArms
import Derived.Deep.Slices
import Derived.Deep.Strs
import Derived.Lib.ItoaLen
import Derived.Sort.Statements
import Derived.WalkSpells
import Derived.WalkMore
set_option maxHeartbeats 8000000
set_option maxRecDepth 100000
set_option linter.unusedVariables false
set_option linter.unusedSimpArgs false
namespace Go.Proofs.YtecgkcgfeghhgaaGreatDoor.PAll
open Go.RowKit Go.Proofs.YtecgkcgfeghhgaaGreatDoorW.PrintWords Go.Proofs.YtecgkcgfeghhgaaGreatDoorW.PrintLast Go.Proofs.YtecgkcgfeghhgaaGreatDoorW.PrintMore
open Classical in
noncomputable def decAt (c : ByteArray → Int) (s : ByteArray) : ByteArray → Int := fun t => if t = s then c s - 1 else c t
noncomputable def splitR : (ByteArray → Int) → List (List V) → List (List V) × List (List V)
 | _, [] => ([], [])
 | c, r :: rs => if 0 < c (nameOf r) then (r :: (splitR (decAt c (nameOf r)) rs).1, (splitR (decAt c (nameOf r)) rs).2) else ((splitR c rs).1, r :: (splitR c rs).2)
theorem splitR_mem : ∀ (l : List (List V)) (c : ByteArray → Int) (r : List V), r ∈ (splitR c l).1 ∨ r ∈ (splitR c l).2 → r ∈ l
 | [], _, _, h => by simp [splitR] at h
 | a :: l, c, r, h => by
  have i1 := splitR_mem l c r
  have i2 := splitR_mem l (decAt c (nameOf a)) r
  simp only [splitR] at h
  split at h
  · simp only [List.mem_cons] at h ⊢
    rcases h with (h | h) | h
    · exact .inl h
    · exact .inr (i2 (.inl h))
    · exact .inr (i2 (.inr h))
  · simp only [List.mem_cons] at h ⊢
    rcases h with h | h | h
    · exact .inr (i1 (.inl h))
    · exact .inl h
    · exact .inr (i1 (.inr h))
theorem splitR_len : ∀ (l : List (List V)) (c : ByteArray → Int), (splitR c l).1.length + (splitR c l).2.length = l.length
 | [], _ => by simp [splitR]
 | a :: l, c => by
  have i1 := splitR_len l c
  have i2 := splitR_len l (decAt c (nameOf a))
  simp only [splitR]
  split <;> simp <;> omega
open Classical in
noncomputable def bag_split.f (l0 l1 : List (List V)) : Option (List (List V) × List (List V) × Int) := if RowsOk (l0 ++ l1) then some (if validB (l0 ++ l1) = true then (sortR [] (splitR (cnt (l1.map nameOf)) l0).1, sortR [] (splitR (cnt (l1.map nameOf)) l0).2, 0) else ([], [], 1)) else none
open Classical in
theorem bag_split.calls (A0 : Option Addr) (c0 : Nat) (l0 : List (List V)) (A1 : Option Addr) (c1 : Nat) (l1 : List (List V)) (r1 r2 : List (List V)) (r3 : Int) (w : World) (hr0 : Kd.C kRow w A0 l0.length l0) (hc0 : l0.length ≤ c0) (hr1 : Kd.C kRow w A1 l1.length l1) (hc1 : l1.length ≤ c1) (hT : LaidT w) (h : bag_split.f l0 l1 = some (r1, r2, r3)) :
 Calls Tryz.prog 72 #[.slice A0 l0.length c0, .slice A1 l1.length c1] w fun e w' => ∃ v0_ v1_ : Value, e = .returned (.tuple #[v0_, v1_, .int .i64 r3]) ∧ Kd.V kRow 53 w' w.heap.size (fun k_ => (w.heap.size ≤ k_)) v0_ r1 ∧ Kd.V kRow 53 w' w.heap.size (fun k_ => (w.heap.size ≤ k_)) v1_ r2 ∧ Below w.heap.size w w' := by
 unfold bag_split.f at h
 split at h
 case isFalse => cases h
 rename_i hok
 have hok0 : RowsOk l0 := ⟨fun r hr => hok.1 r (List.mem_append_left _ hr), by have := hok.2; rw [List.length_append] at this; omega⟩
 have hok1 : RowsOk l1 := ⟨fun r hr => hok.1 r (List.mem_append_right _ hr), by have := hok.2; rw [List.length_append] at this; omega⟩
 have H := Aside0.mk (Option.some.inj h)
 have HBo := Aside0.mk (both_calls A0 c0 l0 A1 c1 l1 _ rfl w hr0 hr1 hok.v)
 have HOK := Aside0.mk hok0
 have HOK1 := Aside0.mk hok1
 have HT := Aside0.mk hT
 have HR0 := Aside0.mk hr0
 have HR1 := Aside0.mk hr1
 have HC1 := Aside0.mk hc1
 clear h hok hok0 hok1 hT hr0 hr1 hc0 hc1
 cases hq : validB (l0 ++ l1) with
 | false =>
  rw [hq, if_neg (by simp)] at H
  rw [hq] at HBo
  clear hq
  go_enter Tryz.func72, Tryz.ntmps72
  go_wp2_with fail
  refine HBo.out.mono ?_
  rintro e w1 ⟨v1, rfl, hR1, hb1⟩
  have HB := Aside0.mk hb1
  clear hb1 hR1
  go_wp2
  go_ret3
  obtain ⟨e1, e2⟩ := Prod.mk.inj H.out
  obtain ⟨e2, e3⟩ := Prod.mk.inj e2
  refine ⟨.slice none 0 0, .slice none 0 0, by rw [← e3]; rfl, ?_, ?_, HB.out⟩
  · rw [← e1]; exact Kd.V_nil _ _ _ _ _
  · rw [← e2]; exact Kd.V_nil _ _ _ _ _
 | true =>
  rw [hq, if_pos rfl] at H
  have HV : Aside0 (∀ row ∈ l0, ∀ v ∈ row, validV v = true) := ⟨fun row hrow => validB_valid hq row (List.mem_append_left _ hrow)⟩
  rw [hq] at HBo
  clear hq
  go_enter Tryz.func72, Tryz.ntmps72
  go_wp2_with fail
  refine HBo.out.mono ?_
  rintro e w1 ⟨v1, rfl, hR1, hb1⟩
  have B1 := Aside0.mk hb1
  clear hb1 hR1
  go_wp2_with fail
  refine (tally_calls A1 c1 l1 w1 (HT.out.below B1.out) (Kd.C_below HR1.out B1.out) HC1.out HOK1.out).mono ?_
  rintro e w2 ⟨m, rfl, hm, hM, hb2⟩
  have HMB : Aside0 (w.heap.size ≤ m) := ⟨Nat.le_trans B1.out.size hm⟩
  have M0 := Aside0.mk hM
  have B2 := Aside0.mk (B1.out.trans (hb2.mono B1.out.size))
  clear hm hM hb2
  go_wp2
  clear B1
  obtain ⟨c0f, hc0f⟩ : ∃ c0f, c0f = cnt (l1.map nameOf) := ⟨_, rfl⟩
  have HBD0 : Aside0 (∀ s, 0 ≤ c0f s ∧ c0f s ≤ 1099511627776) := ⟨fun s => by
   have h1 := cnt_nonneg (l1.map nameOf) s
   have h2 := cnt_le (l1.map nameOf) s
   have h3 := HOK1.out.2
   rw [List.length_map] at h2
   rw [hc0f]
   omega⟩
  rw [← hc0f] at M0 H
  clear hc0f
  go_loopg [25, 4, 5] l0.length (fun kq v25 v4 v5 W => ∃ (x : Int) (c : ByteArray → Int) (met left : List (List V)), v25 = .int .i64 x ∧ Aside0 (0 ≤ x ∧ x ≤ l0.length ∧ (kq : Int) = l0.length - x) ∧ Aside0 (CMap W m c) ∧ Aside0 (∀ s, 0 ≤ c s ∧ c s ≤ 1099511627776) ∧ Aside0 ((relK w).kd.R 53 W w.heap.size (fun k => k ≠ m) v4 met) ∧ Aside0 ((relK w).kd.R 53 W w.heap.size (fun k => k ≠ m) v5 left) ∧ Aside0 (∀ k, v4.ownBlock = some k → v5.ownBlock ≠ some k) ∧ Aside0 (met ++ (splitR c (l0.drop x.toNat)).1 = (splitR c0f l0).1 ∧ left ++ (splitR c (l0.drop x.toNat)).2 = (splitR c0f l0).2 ∧ met.length + left.length ≤ x) ∧ Aside0 (Below w.heap.size w W))
  case atStart => exact ⟨0, c0f, [], [], rfl, ⟨by omega⟩, M0, HBD0, ⟨Kd.R_nil _ _ _ _ _⟩, ⟨Kd.R_nil _ _ _ _ _⟩, ⟨fun k hk => by simp [Value.ownBlock] at hk⟩, ⟨by simp⟩, B2⟩
  case round =>
   clear M0 B2 HBD0
   obtain ⟨x, c, met, left, rfl, HX, HM, HBD, HO, HP, HNE, HD, HB⟩ := hrel
   obtain ⟨hx0, hx1, hkq⟩ := HX.out
   by_cases hlt : x < (l0.length : Int)
   · have c1 : decide (x < (l0.length : Int)) = true := decide_eq_true hlt
     have c2 : decide (0 ≤ x) = true := decide_eq_true hx0
     obtain ⟨ad, Ar, cr, e, hx_0, hl_0, hi_0⟩ := at_L4 HR0.out x hx0 hlt
     cases e
     replace hx_0 := (HB.out.cell (World.block_lt_of_cell? w _ hx_0)).trans hx_0
     have hi : x.toNat < l0.length := by omega
     have hrd : rd_L4 l0 x = l0[x.toNat] := by simp [rd_L4, List.getElem?_eq_getElem hi]
     have hok := HOK.out.1 (rd_L4 l0 x) (by rw [hrd]; exact List.getElem_mem hi)
     have hst := HD.out
     rw [drop_cons l0 x.toNat hi, ← hrd] at hst
     obtain ⟨r, hr⟩ : ∃ r, r = rd_L4 l0 x := ⟨_, rfl⟩
     rw [← hr] at hx_0 hl_0 hi_0 hok hst
     have HI0 := Aside0.mk hi_0
     have HL0 := Aside0.mk hl_0
     have HOK2 := Aside0.mk hok
     have HST := Aside0.mk hst
     have HLT := Aside0.mk hlt
     have HX0 := Aside0.mk hx0
     have HWR : Aside0 (wrap64 (x + 1) = x + 1) := ⟨by have := HOK.out.2; unfold wrap64; omega⟩
     clear hi_0 hl_0 hok hst hrd hr hkq hi
     go_wp2_with fail
     refine (name_calls _ _ r wr (HT.out.below HB.out) (Kd.C_below HI0.out HB.out) HL0.out HOK2.out.1 HOK2.out.2.1 HOK2.out.2.2).mono ?_
     rintro e w3 ⟨rfl, hb1⟩
     have HM1 := HM.out.below hb1
     obtain ⟨kv, hkv⟩ := HM1
     have HKV := Aside0.mk hkv
     obtain ⟨n, hn⟩ : ∃ n, n = c (nameOf r) := ⟨_, rfl⟩
     have hc : Aside0 ((KV.get kv (nameOf r)).getD 0 = n) := ⟨by rw [hn]; exact hkv.2 _⟩
     have hbd := HBD.out (nameOf r)
     rw [← hn] at hbd
     have HN := Aside0.mk hn
     have HB1 := Aside0.mk (HB.out.trans (hb1.mono HB.out.size))
     have HO1 := Aside0.mk (Kd.R_below HO.out hb1)
     have HP1 := Aside0.mk (Kd.R_below HP.out hb1)
     clear hb1 hkv hn HM
     have hcl : Aside0 ((met.length + 1) * 24 ≤ 140737488355328 ∧ (left.length + 1) * 24 ≤ 140737488355328) := ⟨by have := HD.out.2.2; have := HOK.out.2; omega⟩
     have hM : Aside0 (∀ W, (relK w).kd.M W w.heap.size (fun _ => False) r [.slice Ar r.length cr]) := ⟨fun W => ⟨Ar, cr, rfl, HL0.out, HI0.out⟩⟩
     have hml : Aside0 (m < w3.heap.size) := ⟨HKV.out.1.lt⟩
     by_cases hz : 0 < n
     · have hzb : decide (n > 0) = true := decide_eq_true hz
       have HZ := Aside0.mk hz
       have HW : Aside0 (wrap64 (n - 1) = n - 1) := ⟨by unfold wrap64; omega⟩
       have HBDN := Aside0.mk hbd
       clear hz hbd
       go_wp2_with (first
        | (at_lookup; refine KV.law_lookup _ rfl _ _ 66 rfl 9 3 Tryz.underlying9 Tryz.underlying66 (.int .i64 0) (zeroInt _) m (Value.int .i64) kv rfl HKV.out.1 (nameOf r) rfl (.int .i64 n) (get_int hc.out) ?_)
        | (at_mapUpdate; refine KV.law_update _ rfl _ _ _ 66 rfl 9 3 Tryz.underlying9 Tryz.underlying66 m (Value.int .i64) kv rfl HKV.out.1 (nameOf r) rfl (wrap64 (n - 1)) rfl ?_; intro w4 hM2 hg2; rw [HW.out] at hM2; have HM2 := Aside0.mk (CMap.put HKV.out.2 hM2); have HB3 := Aside0.mk (HB1.out.grown hg2 HB1.out.size (fun k hk => by cases hk; exact HMB.out)); have HO3 := Aside0.mk (Kd.R_grown HO1.out hg2 (fun k hk e => hk (by injection e))); have HP3 := Aside0.mk (Kd.R_grown HP1.out hg2 (fun k hk e => hk (by injection e))); have hml4 := Aside0.mk (Nat.lt_of_lt_of_le hml.out hg2.size); clear hM2 hg2)
        | (at_builtin; refine Kd.R_append (relK w).kd (w0 := w) w.heap.size rfl (.tmp 39) (.tmp 41) 22 53 (.slice none 0 0) 24 rfl Tryz.underlying22 infoRow rfl (Nat.le_refl 1) (by decide) _ met r [.slice Ar r.length cr] (fun k => k ≠ m ∧ u5.ownBlock ≠ some k) (fun _ => False) rfl rfl (hM.out _) (fun _ h => h.elim) (fun k hk => ⟨fun e => by have := hml4.out; omega, fun e => by have := Kd.R_lt HP3.out k e; omega⟩) (Kd.R_reok rfl HO3.out (fun k hk => ⟨HO3.out.1 k hk, HNE.out k hk⟩)) HB3.out HB3.out.size hcl.out.1 ?_; intro v6 w6 hR4 hb4 hg4 hat4; have HO4 := Aside0.mk hR4; have HB4 := Aside0.mk hb4; have HG4 := Aside0.mk hg4; clear hR4 hb4 hg4 hat4))
       have hlt := HLT.out
       have hk := HX.out.2.2
       have hx0 := HX0.out
       have hd := HD.out.2.2
       cases gk with
       | zero => omega
       | succ k1 =>
        go_roundg k1
        case measure => omega
        case rel =>
         have hp3 : ∀ k, u5.ownBlock = some k → k ≠ m ∧ v6.ownBlock ≠ some k := fun k hk => ⟨HP3.out.1 k hk, fun e => (HO4.out.1 k e).2 hk⟩
         have hp4 := Kd.R_grown (Kd.R_tight rfl HP3.out) HG4.out (fun k hk e => HNE.out k e.symm hk.symm)
         refine ⟨x + 1, decAt c (nameOf r), met ++ [r], left, by rw [HWR.out], ⟨by omega⟩, ⟨?_⟩, ⟨fun s => ?_⟩, ⟨Kd.R_reok rfl HO4.out (fun k hk => (HO4.out.1 k hk).1)⟩, ⟨Kd.R_mono hp4 (fun k hk => (hp3 k hk.symm).1)⟩, ⟨fun k hk => (HO4.out.1 k hk).2⟩, ⟨?_, ?_, by simp; omega⟩, HB4⟩
         · have h3 := CMap.grown HM2.out HG4.out (fun e => HO3.out.1 m e.symm rfl)
           have h4 : (fun t => if t = nameOf r then n - 1 else c t) = decAt c (nameOf r) := by
            funext t
            unfold decAt
            rw [HN.out]
           rw [← h4]
           exact h3
         · unfold decAt
           have h1 := HBD.out s
           have h2 := HZ.out
           have h3 := HBDN.out
           have h4 := HN.out
           split <;> omega
         · have := HST.out.1
           rw [splitR, if_pos (by rw [← HN.out]; exact HZ.out)] at this
           rw [show (x + 1).toNat = x.toNat + 1 by omega]
           simpa using this
         · have := HST.out.2.1
           rw [splitR, if_pos (by rw [← HN.out]; exact HZ.out)] at this
           rw [show (x + 1).toNat = x.toNat + 1 by omega]
           simpa using this
     · have hzb : decide (n > 0) = false := decide_eq_false hz
       have HZ := Aside0.mk hz
       have hne5 : ∀ k, u5.ownBlock = some k → k ≠ m ∧ u4.ownBlock ≠ some k := fun k hk => ⟨HP1.out.1 k hk, fun e => HNE.out k e hk⟩
       have HNE5 := Aside0.mk hne5
       clear hz hbd hne5
       go_wp2_with (first
        | (at_lookup; refine KV.law_lookup _ rfl _ _ 66 rfl 9 3 Tryz.underlying9 Tryz.underlying66 (.int .i64 0) (zeroInt _) m (Value.int .i64) kv rfl HKV.out.1 (nameOf r) rfl (.int .i64 n) (get_int hc.out) ?_)
        | (at_builtin; refine Kd.R_append (relK w).kd (w0 := w) w.heap.size rfl (.tmp 43) (.tmp 45) 22 53 (.slice none 0 0) 24 rfl Tryz.underlying22 infoRow rfl (Nat.le_refl 1) (by decide) _ left r [.slice Ar r.length cr] (fun k => k ≠ m ∧ u4.ownBlock ≠ some k) (fun _ => False) rfl rfl (hM.out _) (fun _ h => h.elim) (fun k hk => ⟨fun e => by have := hml.out; omega, fun e => by have := Kd.R_lt HO1.out k e; omega⟩) (Kd.R_reok rfl HP1.out HNE5.out) HB1.out HB1.out.size hcl.out.2 ?_; intro v6 w6 hR4 hb4 hg4 hat4; have HO4 := Aside0.mk hR4; have HB4 := Aside0.mk hb4; have HG4 := Aside0.mk hg4; clear hR4 hb4 hg4 hat4))
       have hlt := HLT.out
       have hk := HX.out.2.2
       have hx0 := HX0.out
       have hd := HD.out.2.2
       cases gk with
       | zero => omega
       | succ k1 =>
        go_roundg k1
        case measure => omega
        case rel =>
         have hp4 := Kd.R_grown (Kd.R_tight rfl HO1.out) HG4.out (fun k hk e => HNE.out k hk.symm e.symm)
         refine ⟨x + 1, c, met, left ++ [r], by rw [HWR.out], ⟨by omega⟩, ⟨CMap.grown ⟨kv, HKV.out⟩ HG4.out (fun e => HP1.out.1 m e.symm rfl)⟩, HBD, ⟨Kd.R_mono hp4 (fun k hk => HO1.out.1 k hk.symm)⟩, ⟨Kd.R_reok rfl HO4.out (fun k hk => (HO4.out.1 k hk).1)⟩, ⟨fun k hk e => (HO4.out.1 k e).2 hk⟩, ⟨?_, ?_, by simp; omega⟩, HB4⟩
         · have := HST.out.1
           rw [splitR, if_neg (by rw [← HN.out]; have := HZ.out; omega)] at this
           rw [show (x + 1).toNat = x.toNat + 1 by omega]
           simpa using this
         · have := HST.out.2.1
           rw [splitR, if_neg (by rw [← HN.out]; have := HZ.out; omega)] at this
           rw [show (x + 1).toNat = x.toNat + 1 by omega]
           simpa using this
   · have c1 : decide (x < (l0.length : Int)) = false := decide_eq_false hlt
     have hms : met = (splitR c0f l0).1 ∧ left = (splitR c0f l0).2 := by
      have := HD.out
      rw [List.drop_eq_nil_of_le (by omega)] at this
      have h1 := this.1
      have h2 := this.2.1
      simp only [splitR, List.append_nil] at h1 h2
      exact ⟨h1, h2⟩
     obtain ⟨hms, hls⟩ := hms
     have hmem := splitR_mem l0 c0f
     have hlen := splitR_len l0 c0f
     rw [← hms, ← hls] at H hmem hlen
     have good : ∀ row, row ∈ met ∨ row ∈ left → RowGood [] row := fun row hrow => ⟨HV.out row (hmem row hrow), (by intro k hk; cases hk), (HOK.out.1 row (hmem row hrow)).2.2⟩
     have HG4 : Aside0 (∀ row ∈ met, RowGood [] row) := ⟨fun row h => good row (.inl h)⟩
     have HG5 : Aside0 (∀ row ∈ left, RowGood [] row) := ⟨fun row h => good row (.inr h)⟩
     have HL4 : Aside0 (met.length ≤ 1099511627776 ∧ left.length ≤ 1099511627776) := ⟨by have := HOK.out.2; omega⟩
     clear HX HD hx0 hx1 hlt hkq hms hls hmem hlen good HM HBD
     obtain ⟨Av, cv, ev, hlc, hC⟩ := Kd.R_reads HO.out
     subst ev
     obtain ⟨Aw, cw, ew, hlc2, hC2⟩ := Kd.R_reads HP.out
     subst ew
     have HC := Aside0.mk (relK_C hC HB.out)
     have HC2 := Aside0.mk (relK_C hC2 HB.out)
     clear hC hlc hC2 hlc2
     go_wp2_with fail
     refine (arranged_calls Av cv met none 0 [] wr HC.out (Kd.C_nil _ _) HG4.out HL4.out.1 (by simp)).mono ?_
     rintro e w3 ⟨v2, rfl, hR2, hb2⟩
     have HV2 := Aside0.mk (Kd.R_V (base' := w.heap.size) (Kd.R_mono (Kd.R_bound hR2) (fun k hk => Nat.le_trans HB.out.size hk.2.1)))
     have HB2 := Aside0.mk (HB.out.trans (hb2.mono HB.out.size))
     have HC3 := Aside0.mk (Kd.C_below HC2.out hb2)
     have HS := Aside0.mk HB2.out.size
     clear hR2 hb2
     go_wp2_with fail
     refine (arranged_calls Aw cw left none 0 [] w3 HC3.out (Kd.C_nil _ _) HG5.out HL4.out.2 (by simp)).mono ?_
     rintro e w4 ⟨v3, rfl, hR3, hb3⟩
     have HV3 := Aside0.mk (Kd.R_V (base' := w.heap.size) (Kd.R_mono (Kd.R_bound hR3) (fun k hk => Nat.le_trans HS.out hk.2.1)))
     have HV4 := Aside0.mk (Kd.V_below HV2.out hb3)
     have HB3 := Aside0.mk (HB2.out.trans (hb3.mono HB2.out.size))
     clear hR3 hb3
     go_wp2
     go_ret3
     obtain ⟨e1, e2⟩ := Prod.mk.inj H.out
     obtain ⟨e2, e3⟩ := Prod.mk.inj e2
     refine ⟨v2, v3, by rw [← e3]; rfl, ?_, ?_, HB3.out⟩
     · rw [← e1]; exact HV4.out
     · rw [← e2]; exact HV3.out
theorem split_Intersect (A0 : Option Addr) (c0 : Nat) (l0 : List (List V)) (A1 : Option Addr) (c1 : Nat) (l1 : List (List V)) (r1 r2 : List (List V)) (r3 : Int) (w : World) (hr0 : Kd.C kRow w A0 l0.length l0) (hc0 : l0.length ≤ c0) (hr1 : Kd.C kRow w A1 l1.length l1) (hc1 : l1.length ≤ c1) (hT : LaidT w) (h : bag_split.f l0 l1 = some (r1, r2, r3)) :
 Calls Tryz.prog 35 #[.slice A0 l0.length c0, .slice A1 l1.length c1] w fun e w' => ∃ v0_ : Value, e = .returned (.tuple #[v0_, .int .i64 r3]) ∧ Kd.V kRow 53 w' w.heap.size (fun k_ => (w.heap.size ≤ k_)) v0_ r1 ∧ Below w.heap.size w w' := by
 have HS := Aside0.mk (bag_split.calls A0 c0 l0 A1 c1 l1 r1 r2 r3 w hr0 hc0 hr1 hc1 hT h)
 clear hr0 hc0 hr1 hc1 hT h
 go_enter Tryz.func35, Tryz.ntmps35
 go_wp2_with fail
 refine HS.out.mono ?_
 rintro e w1 ⟨v0, v1, rfl, hv0, hv1, hb⟩
 have HV := Aside0.mk hv0
 have HB := Aside0.mk hb
 clear hv0 hv1 hb
 go_wp2
 go_ret2
 exact ⟨v0, rfl, HV.out, HB.out⟩
theorem split_Except (A0 : Option Addr) (c0 : Nat) (l0 : List (List V)) (A1 : Option Addr) (c1 : Nat) (l1 : List (List V)) (r1 r2 : List (List V)) (r3 : Int) (w : World) (hr0 : Kd.C kRow w A0 l0.length l0) (hc0 : l0.length ≤ c0) (hr1 : Kd.C kRow w A1 l1.length l1) (hc1 : l1.length ≤ c1) (hT : LaidT w) (h : bag_split.f l0 l1 = some (r1, r2, r3)) :
 Calls Tryz.prog 37 #[.slice A0 l0.length c0, .slice A1 l1.length c1] w fun e w' => ∃ v0_ : Value, e = .returned (.tuple #[v0_, .int .i64 r3]) ∧ Kd.V kRow 53 w' w.heap.size (fun k_ => (w.heap.size ≤ k_)) v0_ r2 ∧ Below w.heap.size w w' := by
 have HS := Aside0.mk (bag_split.calls A0 c0 l0 A1 c1 l1 r1 r2 r3 w hr0 hc0 hr1 hc1 hT h)
 clear hr0 hc0 hr1 hc1 hT h
 go_enter Tryz.func37, Tryz.ntmps37
 go_wp2_with fail
 refine HS.out.mono ?_
 rintro e w1 ⟨v0, v1, rfl, hv0, hv1, hb⟩
 have HV := Aside0.mk hv1
 have HB := Aside0.mk hb
 clear hv0 hv1 hb
 go_wp2
 go_ret2
 exact ⟨v1, rfl, HV.out, HB.out⟩
open Classical in
noncomputable def occ (l : List (List V)) (r : List V) : Nat := l.countP (fun t => decide (t = r))
theorem occ_nil (r : List V) : occ [] r = 0 := rfl
open Classical in
theorem occ_cons (t : List V) (l : List (List V)) (r : List V) : occ (t :: l) r = occ l r + (if t = r then 1 else 0) := by
 unfold occ
 rw [List.countP_cons]
 by_cases h : t = r <;> simp [h]
theorem occ_append (a b : List (List V)) (r : List V) : occ (a ++ b) r = occ a r + occ b r := by
 unfold occ; exact List.countP_append
theorem occ_perm {a b : List (List V)} (h : a.Perm b) (r : List V) : occ a r = occ b r := by
 unfold occ; exact h.countP_eq _
theorem occ_le (a : List (List V)) (r : List V) : occ a r ≤ a.length := by
 unfold occ; exact List.countP_le_length
theorem occ_mem {a : List (List V)} {r : List V} : 1 ≤ occ a r ↔ r ∈ a := by
 induction a with
 | nil => simp [occ_nil]
 | cons t l ih =>
  rw [occ_cons]
  by_cases h : t = r
  · simp [h]
  · simp only [if_neg h, Nat.add_zero, List.mem_cons]
    rw [ih]
    exact ⟨Or.inr, fun h2 => h2.resolve_left (fun e => h e.symm)⟩
theorem occ_name (l : List (List V)) (r : List V) : cnt (l.map nameOf) (nameOf r) = (occ l r : Int) := by
 induction l with
 | nil => rfl
 | cons t l ih =>
  rw [List.map_cons, cnt_cons, occ_cons, ih]
  by_cases h : t = r
  · simp [h]
  · rw [if_neg (fun e => h (name_inj e)), if_neg h]
    simp
theorem perm_of_occ : ∀ (a b : List (List V)), a.length = b.length → (∀ r ∈ a, occ a r ≤ occ b r) → a.Perm b := by
 intro a
 induction a with
 | nil =>
  intro b hl _
  have : b = [] := List.eq_nil_of_length_eq_zero hl.symm
  rw [this]
 | cons t a ih =>
  intro b hl h
  have h1 : 1 ≤ occ b t := by
   have := h t List.mem_cons_self
   rw [occ_cons] at this
   simp at this
   omega
  obtain ⟨p, q, rfl⟩ := List.append_of_mem (occ_mem.1 h1)
  have h2 := ih (p ++ q) (by simp at hl ⊢; omega) (fun r hr => by
   have := h r (List.mem_cons_of_mem _ hr)
   rw [occ_append, occ_cons, occ_cons] at this
   rw [occ_append]
   omega)
  exact (List.Perm.cons t h2).trans List.perm_middle.symm
theorem perm_of_occ_all {a b : List (List V)} (h : ∀ r, occ a r = occ b r) : a.Perm b := by
 suffices H : ∀ (a b : List (List V)), (∀ r, occ a r = occ b r) → a.length ≤ b.length by
  exact perm_of_occ a b (Nat.le_antisymm (H a b h) (H b a (fun r => (h r).symm))) (fun r _ => Nat.le_of_eq (h r))
 intro a
 induction a with
 | nil => intro b _; simp
 | cons t a ih =>
  intro b h
  have h1 : 1 ≤ occ b t := by
   have := h t
   rw [occ_cons] at this
   simp at this
   omega
  obtain ⟨p, q, rfl⟩ := List.append_of_mem (occ_mem.1 h1)
  have h2 := ih (p ++ q) (fun r => by
   have := h r
   rw [occ_append, occ_cons, occ_cons] at this
   rw [occ_append]
   omega)
  simp at h2 ⊢
  omega
theorem sortR_congr {ks : List KeyT} {a b : List (List V)} (hv : ∀ row ∈ a, ∀ v ∈ row, validV v = true) (h : a.Perm b) : sortR ks b = sortR ks a :=
 sortR_unique hv ((sortR_perm ks b).trans h.symm) (sortR_pair ks b)
theorem split_occ : ∀ (l : List (List V)) (c : ByteArray → Int) (r : List V), 0 ≤ c (nameOf r) →
 (occ (splitR c l).1 r : Int) = (if (occ l r : Int) ≤ c (nameOf r) then (occ l r : Int) else c (nameOf r)) := by
 intro l
 induction l with
 | nil => intro c r h; simp [splitR, occ_nil]; omega
 | cons t l ih =>
  intro c r h
  rw [splitR, occ_cons]
  by_cases hc : 0 < c (nameOf t)
  · rw [if_pos hc]
    simp only [occ_cons]
    by_cases e : t = r
    · subst e
      have := ih (decAt c (nameOf t)) t (by unfold decAt; rw [if_pos rfl]; omega)
      simp only [decAt, if_pos] at this
      simp only [if_pos]
      split at this <;> split <;> omega
    · have hne : nameOf r ≠ nameOf t := fun h => e (name_inj h).symm
      have := ih (decAt c (nameOf t)) r (by unfold decAt; rw [if_neg hne]; exact h)
      simp only [decAt, if_neg hne] at this
      simp only [if_neg e]
      split at this <;> split <;> omega
  · rw [if_neg hc]
    simp only
    have := ih c r h
    by_cases e : t = r
    · subst e
      simp only [if_pos]
      split at this <;> split <;> omega
    · simp only [if_neg e]
      split at this <;> split <;> omega
theorem split_perm : ∀ (l : List (List V)) (c : ByteArray → Int), ((splitR c l).1 ++ (splitR c l).2).Perm l := by
 intro l
 induction l with
 | nil => intro c; simp [splitR]
 | cons t l ih =>
  intro c
  rw [splitR]
  by_cases hc : 0 < c (nameOf t)
  · rw [if_pos hc]
    exact List.Perm.cons t (ih _)
  · rw [if_neg hc]
    exact List.perm_middle.trans (List.Perm.cons t (ih _))
theorem met_occ (a b : List (List V)) (r : List V) : occ (splitR (cnt (b.map nameOf)) a).1 r = min (occ a r) (occ b r) := by
 have := split_occ a (cnt (b.map nameOf)) r (cnt_nonneg _ _)
 rw [occ_name] at this
 split at this <;> omega
theorem left_occ (a b : List (List V)) (r : List V) : occ (splitR (cnt (b.map nameOf)) a).2 r = occ a r - occ b r := by
 have h1 := met_occ a b r
 have h2 := occ_perm (split_perm a (cnt (b.map nameOf))) r
 rw [occ_append] at h2
 omega
end Go.Proofs.YtecgkcgfeghhgaaGreatDoor.PAll
namespace Go.Proofs.YtecgkcgfeghhgaaGreatDoor.PAll
open Go.RowKit Go.Proofs.YtecgkcgfeghhgaaGreatDoorW.PrintWords Go.Proofs.YtecgkcgfeghhgaaGreatDoorW.PrintLast Go.Proofs.YtecgkcgfeghhgaaGreatDoorW.PrintMore
attribute [local go_sem] max2_int min2_int max_two min_two max_three min_three max_four min_four
set_option linter.unusedVariables false
set_option linter.unusedSimpArgs false
def r1_Same.f (a0_0 : Int) (a0_1 : Int) (a0_2 : ByteArray) (a1_0 : Int) (a1_1 : Int) (a1_2 : ByteArray) : Option (Bool) := if a0_0 = a1_0 then (if a0_1 = a1_1 then (some (a0_2.toList == a1_2.toList)) else (some false)) else (some false)
theorem r1_Same.calls (a0_0 : Int) (a0_1 : Int) (a0_2 : ByteArray) (a1_0 : Int) (a1_1 : Int) (a1_2 : ByteArray) (r : Bool) (w : World) (h : r1_Same.f a0_0 a0_1 a0_2 a1_0 a1_1 a1_2 = some r) :
 Calls Tryz.prog 22 #[.agg #[.int .u8 a0_0, .int .i64 a0_1, .string a0_2], .agg #[.int .u8 a1_0, .int .i64 a1_1, .string a1_2]] w fun e w' => e = .returned (.bool r) ∧ Below w.heap.size w w' := by
 have hu36 := Tryz.underlying36
 have HB := Aside0.mk (Below.refl w.heap.size w)
 have H : (if a0_0 = a1_0 then (if a0_1 = a1_1 then (some (a0_2.toList == a1_2.toList)) else (some false)) else (some false)) = some r := h
 clear h
 by_cases c3 : a0_0 = a1_0
 · rw [if_pos c3] at H
   have c3b0 : (a0_0 == a1_0) = true := beq_iff_eq.mpr c3
   have c3b1 : (a0_0 != a1_0) = false := bne_eq_false_iff_eq.mpr c3
   clear c3
   by_cases c4 : a0_1 = a1_1
   · rw [if_pos c4] at H
     have c4b0 : (a0_1 == a1_1) = true := beq_iff_eq.mpr c4
     have c4b1 : (a0_1 != a1_1) = false := bne_eq_false_iff_eq.mpr c4
     clear c4
     obtain rfl := Option.some.inj H
     go_enter Tryz.func22, Tryz.ntmps22
     go_wp2_with (first | ((with_reducible refine gate_dst (N := 2) rfl ?_); refine box_event ?hg (N := 2) ?hd (cs := #[.int .u8 a0_0, .int .i64 a0_1, .string a0_2]) (t := 36) ?hr ?_; (case hd => rfl); (case hg => rfl); (case hr => first | (go_simp; done) | (go_simp; rfl)); intro gb125 hg w5 hbox hb; have n0_ := Aside0.mk (below_step (by repeat (first | (with_reducible first | exact HB.out | apply bA_ | apply bN_ | apply b1_) | exact HB.out)) hb); have n1_ := Aside0.mk (hbox); have n2_ := Aside0.mk ((by rw [hg]; exact (below_size (by repeat (first | (with_reducible first | exact HB.out | apply bA_ | apply bN_ | apply b1_) | exact HB.out))) : w.heap.size ≤ gb125)); have n3_ := Aside0.mk ((by rw [hg]; exact (below_size (by repeat (first | (with_reducible first | exact HB.out | apply bA_ | apply bN_ | apply b1_) | exact HB.out))) : w.heap.size ≤ gb125)); clear HB; have HB := n0_; have BK125 := n1_; have GW125 := n2_; have GE125 := n3_; clear n0_ n1_ n2_ n3_; clear hb hbox hg) | ((with_reducible refine gate_dst (N := 3) rfl ?_); refine box_event ?hg (N := 3) ?hd (cs := #[.int .u8 a1_0, .int .i64 a1_1, .string a1_2]) (t := 36) ?hr ?_; (case hd => rfl); (case hg => rfl); (case hr => first | (go_simp; done) | (go_simp; rfl)); intro gb126 hg w6 hbox hb; have n0_ := Aside0.mk (blk_below (g := gb125) (o := .cells #[.int .u8 a0_0, .int .i64 a0_1, .string a0_2] 36 (0, 0)) (by (with_reducible repeat (first | refine blk_drewN ?_ _ | refine blk_drew ?_ | refine blk_alloc ?_ _)); exact BK125.out) hb); have n1_ := Aside0.mk (below_step (by repeat (first | (with_reducible first | exact HB.out | apply bA_ | apply bN_ | apply b1_ | refine below_set ?_ GE125.out) | exact HB.out)) hb); have n2_ := Aside0.mk (hbox); have n3_ := Aside0.mk ((by rw [hg]; exact (below_size (by repeat (first | (with_reducible first | exact HB.out | apply bA_ | apply bN_ | apply b1_ | refine below_set ?_ GE125.out) | exact HB.out))) : w.heap.size ≤ gb126)); have n4_ := Aside0.mk ((by rw [hg]; exact (below_size (by repeat (first | (with_reducible first | exact HB.out | apply bA_ | apply bN_ | apply b1_ | refine below_set ?_ GE125.out) | exact HB.out))) : w.heap.size ≤ gb126)); have n5_ := Aside0.mk ((by rw [hg]; exact Nat.ne_of_lt (blk_lt (g := gb125) (o := .cells #[.int .u8 a0_0, .int .i64 a0_1, .string a0_2] 36 (0, 0)) (by (with_reducible repeat (first | refine blk_drewN ?_ _ | refine blk_drew ?_ | refine blk_alloc ?_ _)); exact BK125.out)) : gb125 ≠ gb126)); have n6_ := Aside0.mk ((by rw [hg]; exact Nat.ne_of_gt (blk_lt (g := gb125) (o := .cells #[.int .u8 a0_0, .int .i64 a0_1, .string a0_2] 36 (0, 0)) (by (with_reducible repeat (first | refine blk_drewN ?_ _ | refine blk_drew ?_ | refine blk_alloc ?_ _)); exact BK125.out)) : gb126 ≠ gb125)); clear BK125; clear HB; have BK125 := n0_; have HB := n1_; have BK126 := n2_; have GW126 := n3_; have GE126 := n4_; have NB125_126 := n5_; have NB126_125 := n6_; clear n0_ n1_ n2_ n3_ n4_ n5_ n6_; clear hb hbox hg; have hnb7 := NB125_126.out; have hnc7 := NB126_125.out; have hcz8_0 : w6.cell? ⟨gb125, 0, none⟩ = some (.int .u8 a0_0) := (blk_cell BK125.out 0).trans rfl; have hcz8_1 : w6.cell? ⟨gb125, 1, none⟩ = some (.int .i64 a0_1) := (blk_cell BK125.out 1).trans rfl; have hcz8_2 : w6.cell? ⟨gb125, 2, none⟩ = some (.string a0_2) := (blk_cell BK125.out 2).trans rfl; have hfz8_0 := blk_frozen BK125.out 0; have hfz8_1 := blk_frozen BK125.out 1; have hfz8_2 := blk_frozen BK125.out 2; have hcz9_0 : w6.cell? ⟨gb126, 0, none⟩ = some (.int .u8 a1_0) := (blk_cell BK126.out 0).trans rfl; have hcz9_1 : w6.cell? ⟨gb126, 1, none⟩ = some (.int .i64 a1_1) := (blk_cell BK126.out 1).trans rfl; have hcz9_2 : w6.cell? ⟨gb126, 2, none⟩ = some (.string a1_2) := (blk_cell BK126.out 2).trans rfl; have hfz9_0 := blk_frozen BK126.out 0; have hfz9_1 := blk_frozen BK126.out 1; have hfz9_2 := blk_frozen BK126.out 2))
     go_ret
     exact ⟨by first | rfl | (simp [*, errW_none, errW_some] <;> rfl), by repeat (first | (with_reducible first | exact HB.out | apply bA_ | apply bN_ | apply b1_ | refine below_set ?_ GE125.out | refine below_set ?_ GE126.out) | exact HB.out)⟩
   · rw [if_neg c4] at H
     have c4b0 : (a0_1 == a1_1) = false := beq_eq_false_iff_ne.mpr c4
     have c4b1 : (a0_1 != a1_1) = true := bne_iff_ne.mpr c4
     obtain rfl := Option.some.inj H
     go_enter Tryz.func22, Tryz.ntmps22
     go_wp2_with (first | ((with_reducible refine gate_dst (N := 2) rfl ?_); refine box_event ?hg (N := 2) ?hd (cs := #[.int .u8 a0_0, .int .i64 a0_1, .string a0_2]) (t := 36) ?hr ?_; (case hd => rfl); (case hg => rfl); (case hr => first | (go_simp; done) | (go_simp; rfl)); intro gb125 hg w10 hbox hb; have n0_ := Aside0.mk (below_step (by repeat (first | (with_reducible first | exact HB.out | apply bA_ | apply bN_ | apply b1_) | exact HB.out)) hb); have n1_ := Aside0.mk (hbox); have n2_ := Aside0.mk ((by rw [hg]; exact (below_size (by repeat (first | (with_reducible first | exact HB.out | apply bA_ | apply bN_ | apply b1_) | exact HB.out))) : w.heap.size ≤ gb125)); have n3_ := Aside0.mk ((by rw [hg]; exact (below_size (by repeat (first | (with_reducible first | exact HB.out | apply bA_ | apply bN_ | apply b1_) | exact HB.out))) : w.heap.size ≤ gb125)); clear HB; have HB := n0_; have BK125 := n1_; have GW125 := n2_; have GE125 := n3_; clear n0_ n1_ n2_ n3_; clear hb hbox hg) | ((with_reducible refine gate_dst (N := 3) rfl ?_); refine box_event ?hg (N := 3) ?hd (cs := #[.int .u8 a1_0, .int .i64 a1_1, .string a1_2]) (t := 36) ?hr ?_; (case hd => rfl); (case hg => rfl); (case hr => first | (go_simp; done) | (go_simp; rfl)); intro gb126 hg w11 hbox hb; have n0_ := Aside0.mk (blk_below (g := gb125) (o := .cells #[.int .u8 a0_0, .int .i64 a0_1, .string a0_2] 36 (0, 0)) (by (with_reducible repeat (first | refine blk_drewN ?_ _ | refine blk_drew ?_ | refine blk_alloc ?_ _)); exact BK125.out) hb); have n1_ := Aside0.mk (below_step (by repeat (first | (with_reducible first | exact HB.out | apply bA_ | apply bN_ | apply b1_ | refine below_set ?_ GE125.out) | exact HB.out)) hb); have n2_ := Aside0.mk (hbox); have n3_ := Aside0.mk ((by rw [hg]; exact (below_size (by repeat (first | (with_reducible first | exact HB.out | apply bA_ | apply bN_ | apply b1_ | refine below_set ?_ GE125.out) | exact HB.out))) : w.heap.size ≤ gb126)); have n4_ := Aside0.mk ((by rw [hg]; exact (below_size (by repeat (first | (with_reducible first | exact HB.out | apply bA_ | apply bN_ | apply b1_ | refine below_set ?_ GE125.out) | exact HB.out))) : w.heap.size ≤ gb126)); have n5_ := Aside0.mk ((by rw [hg]; exact Nat.ne_of_lt (blk_lt (g := gb125) (o := .cells #[.int .u8 a0_0, .int .i64 a0_1, .string a0_2] 36 (0, 0)) (by (with_reducible repeat (first | refine blk_drewN ?_ _ | refine blk_drew ?_ | refine blk_alloc ?_ _)); exact BK125.out)) : gb125 ≠ gb126)); have n6_ := Aside0.mk ((by rw [hg]; exact Nat.ne_of_gt (blk_lt (g := gb125) (o := .cells #[.int .u8 a0_0, .int .i64 a0_1, .string a0_2] 36 (0, 0)) (by (with_reducible repeat (first | refine blk_drewN ?_ _ | refine blk_drew ?_ | refine blk_alloc ?_ _)); exact BK125.out)) : gb126 ≠ gb125)); clear BK125; clear HB; have BK125 := n0_; have HB := n1_; have BK126 := n2_; have GW126 := n3_; have GE126 := n4_; have NB125_126 := n5_; have NB126_125 := n6_; clear n0_ n1_ n2_ n3_ n4_ n5_ n6_; clear hb hbox hg; have hnb12 := NB125_126.out; have hnc12 := NB126_125.out; have hcz13_0 : w11.cell? ⟨gb125, 0, none⟩ = some (.int .u8 a0_0) := (blk_cell BK125.out 0).trans rfl; have hcz13_1 : w11.cell? ⟨gb125, 1, none⟩ = some (.int .i64 a0_1) := (blk_cell BK125.out 1).trans rfl; have hcz13_2 : w11.cell? ⟨gb125, 2, none⟩ = some (.string a0_2) := (blk_cell BK125.out 2).trans rfl; have hfz13_0 := blk_frozen BK125.out 0; have hfz13_1 := blk_frozen BK125.out 1; have hfz13_2 := blk_frozen BK125.out 2; have hcz14_0 : w11.cell? ⟨gb126, 0, none⟩ = some (.int .u8 a1_0) := (blk_cell BK126.out 0).trans rfl; have hcz14_1 : w11.cell? ⟨gb126, 1, none⟩ = some (.int .i64 a1_1) := (blk_cell BK126.out 1).trans rfl; have hcz14_2 : w11.cell? ⟨gb126, 2, none⟩ = some (.string a1_2) := (blk_cell BK126.out 2).trans rfl; have hfz14_0 := blk_frozen BK126.out 0; have hfz14_1 := blk_frozen BK126.out 1; have hfz14_2 := blk_frozen BK126.out 2))
     go_ret
     exact ⟨by first | rfl | (simp [*, errW_none, errW_some] <;> rfl), by repeat (first | (with_reducible first | exact HB.out | apply bA_ | apply bN_ | apply b1_ | refine below_set ?_ GE125.out | refine below_set ?_ GE126.out) | exact HB.out)⟩
 · rw [if_neg c3] at H
   have c3b0 : (a0_0 == a1_0) = false := beq_eq_false_iff_ne.mpr c3
   have c3b1 : (a0_0 != a1_0) = true := bne_iff_ne.mpr c3
   obtain rfl := Option.some.inj H
   go_enter Tryz.func22, Tryz.ntmps22
   go_wp2_with (first | ((with_reducible refine gate_dst (N := 2) rfl ?_); refine box_event ?hg (N := 2) ?hd (cs := #[.int .u8 a0_0, .int .i64 a0_1, .string a0_2]) (t := 36) ?hr ?_; (case hd => rfl); (case hg => rfl); (case hr => first | (go_simp; done) | (go_simp; rfl)); intro gb125 hg w15 hbox hb; have n0_ := Aside0.mk (below_step (by repeat (first | (with_reducible first | exact HB.out | apply bA_ | apply bN_ | apply b1_) | exact HB.out)) hb); have n1_ := Aside0.mk (hbox); have n2_ := Aside0.mk ((by rw [hg]; exact (below_size (by repeat (first | (with_reducible first | exact HB.out | apply bA_ | apply bN_ | apply b1_) | exact HB.out))) : w.heap.size ≤ gb125)); have n3_ := Aside0.mk ((by rw [hg]; exact (below_size (by repeat (first | (with_reducible first | exact HB.out | apply bA_ | apply bN_ | apply b1_) | exact HB.out))) : w.heap.size ≤ gb125)); clear HB; have HB := n0_; have BK125 := n1_; have GW125 := n2_; have GE125 := n3_; clear n0_ n1_ n2_ n3_; clear hb hbox hg) | ((with_reducible refine gate_dst (N := 3) rfl ?_); refine box_event ?hg (N := 3) ?hd (cs := #[.int .u8 a1_0, .int .i64 a1_1, .string a1_2]) (t := 36) ?hr ?_; (case hd => rfl); (case hg => rfl); (case hr => first | (go_simp; done) | (go_simp; rfl)); intro gb126 hg w16 hbox hb; have n0_ := Aside0.mk (blk_below (g := gb125) (o := .cells #[.int .u8 a0_0, .int .i64 a0_1, .string a0_2] 36 (0, 0)) (by (with_reducible repeat (first | refine blk_drewN ?_ _ | refine blk_drew ?_ | refine blk_alloc ?_ _)); exact BK125.out) hb); have n1_ := Aside0.mk (below_step (by repeat (first | (with_reducible first | exact HB.out | apply bA_ | apply bN_ | apply b1_ | refine below_set ?_ GE125.out) | exact HB.out)) hb); have n2_ := Aside0.mk (hbox); have n3_ := Aside0.mk ((by rw [hg]; exact (below_size (by repeat (first | (with_reducible first | exact HB.out | apply bA_ | apply bN_ | apply b1_ | refine below_set ?_ GE125.out) | exact HB.out))) : w.heap.size ≤ gb126)); have n4_ := Aside0.mk ((by rw [hg]; exact (below_size (by repeat (first | (with_reducible first | exact HB.out | apply bA_ | apply bN_ | apply b1_ | refine below_set ?_ GE125.out) | exact HB.out))) : w.heap.size ≤ gb126)); have n5_ := Aside0.mk ((by rw [hg]; exact Nat.ne_of_lt (blk_lt (g := gb125) (o := .cells #[.int .u8 a0_0, .int .i64 a0_1, .string a0_2] 36 (0, 0)) (by (with_reducible repeat (first | refine blk_drewN ?_ _ | refine blk_drew ?_ | refine blk_alloc ?_ _)); exact BK125.out)) : gb125 ≠ gb126)); have n6_ := Aside0.mk ((by rw [hg]; exact Nat.ne_of_gt (blk_lt (g := gb125) (o := .cells #[.int .u8 a0_0, .int .i64 a0_1, .string a0_2] 36 (0, 0)) (by (with_reducible repeat (first | refine blk_drewN ?_ _ | refine blk_drew ?_ | refine blk_alloc ?_ _)); exact BK125.out)) : gb126 ≠ gb125)); clear BK125; clear HB; have BK125 := n0_; have HB := n1_; have BK126 := n2_; have GW126 := n3_; have GE126 := n4_; have NB125_126 := n5_; have NB126_125 := n6_; clear n0_ n1_ n2_ n3_ n4_ n5_ n6_; clear hb hbox hg; have hnb17 := NB125_126.out; have hnc17 := NB126_125.out; have hcz18_0 : w16.cell? ⟨gb125, 0, none⟩ = some (.int .u8 a0_0) := (blk_cell BK125.out 0).trans rfl; have hcz18_1 : w16.cell? ⟨gb125, 1, none⟩ = some (.int .i64 a0_1) := (blk_cell BK125.out 1).trans rfl; have hcz18_2 : w16.cell? ⟨gb125, 2, none⟩ = some (.string a0_2) := (blk_cell BK125.out 2).trans rfl; have hfz18_0 := blk_frozen BK125.out 0; have hfz18_1 := blk_frozen BK125.out 1; have hfz18_2 := blk_frozen BK125.out 2; have hcz19_0 : w16.cell? ⟨gb126, 0, none⟩ = some (.int .u8 a1_0) := (blk_cell BK126.out 0).trans rfl; have hcz19_1 : w16.cell? ⟨gb126, 1, none⟩ = some (.int .i64 a1_1) := (blk_cell BK126.out 1).trans rfl; have hcz19_2 : w16.cell? ⟨gb126, 2, none⟩ = some (.string a1_2) := (blk_cell BK126.out 2).trans rfl; have hfz19_0 := blk_frozen BK126.out 0; have hfz19_1 := blk_frozen BK126.out 1; have hfz19_2 := blk_frozen BK126.out 2))
   go_ret
   exact ⟨by first | rfl | (simp [*, errW_none, errW_some] <;> rfl), by repeat (first | (with_reducible first | exact HB.out | apply bA_ | apply bN_ | apply b1_ | refine below_set ?_ GE125.out | refine below_set ?_ GE126.out) | exact HB.out)⟩
def r1_SameRows.l0 : Nat → List (S36) → List (S36) → Int → Option (Bool)
 | 0, _, _, _ => none
 | k + 1, x0, x1, x5 => if x5 < (x0.length : Int) then (if 0 ≤ x5 then (if x5 < (x1.length : Int) then ((r1_Same.f ((rd_T36 x0 x5).f0) ((rd_T36 x0 x5).f1) ((rd_T36 x0 x5).f2) ((rd_T36 x1 x5).f0) ((rd_T36 x1 x5).f1) ((rd_T36 x1 x5).f2)).bind fun t129 => (if t129 = true then (r1_SameRows.l0 k x0 x1 (wrap64 (x5 + 1))) else (some false))) else (none)) else (none)) else (some true)
def r1_SameRows.f (k : Nat) (l0 : List (S36)) (l1 : List (S36)) : Option (Bool) := if (l0.length : Int) = (l1.length : Int) then (r1_SameRows.l0 k l0 l1 0) else (some false)
def r1_SameRows.T6 : Bool × List (List Nat × List Nat) := (true, [([], []), ([], []), ([0, 1], [0, 1]), ([2], [2]), ([], []), ([], []), ([4, 5], [4, 5]), ([6], [6]), ([3, 7], [3, 7]), ([8], [8])])
def r1_SameRows.B6 : List Nat := [0, 0, 3, 7, 0, 0, 48, 112, 255, 511]
theorem r1_SameRows.tab6 : rtab .any (opsOf Tryz.f50 6) = r1_SameRows.T6 := by kernel_rfl
theorem r1_SameRows.bits6 : waitsOk r1_SameRows.T6.2 r1_SameRows.B6 = true := by kernel_rfl
theorem r1_SameRows.calls (k : Nat) (A0 : Option Addr) (c0 : Nat) (l0 : List (S36)) (A1 : Option Addr) (c1 : Nat) (l1 : List (S36)) (r : Bool) (w : World) (hr0 : Kd.C k36 w A0 l0.length l0) (hc0 : l0.length ≤ c0) (hr1 : Kd.C k36 w A1 l1.length l1) (hc1 : l1.length ≤ c1) (h : r1_SameRows.f k l0 l1 = some r) :
 Calls Tryz.prog 50 #[.slice A0 l0.length c0, .slice A1 l1.length c1] w fun e w' => e = .returned (.bool r) ∧ Below w.heap.size w w' := by
 have hu36 := Tryz.underlying36
 have HR0 := Aside0.mk hr0
 have HC0 := Aside0.mk hc0
 clear hr0 hc0
 have HR1 := Aside0.mk hr1
 have HC1 := Aside0.mk hc1
 clear hr1 hc1
 have HB := Aside0.mk (Below.refl w.heap.size w)
 have H : (if (l0.length : Int) = (l1.length : Int) then (r1_SameRows.l0 k l0 l1 0) else (some false)) = some r := h
 clear h
 by_cases c3 : (l0.length : Int) = (l1.length : Int)
 · rw [if_pos c3] at H
   have c3b0 : ((l0.length : Int) == (l1.length : Int)) = true := beq_iff_eq.mpr c3
   have c3b1 : ((l0.length : Int) != (l1.length : Int)) = false := bne_eq_false_iff_eq.mpr c3
   have c3b2 : (l0.length == l1.length) = true := by first | simpa using c3 | (simp at c3 ⊢; omega)
   clear c3
   have H' := Aside0.mk H
   clear H
   go_enter Tryz.func50, Tryz.ntmps50
   go_wp2
   go_loopg [5] k (fun kq v5 w' => ∃ (x5_1 : Int), v5 = .int .i64 x5_1 ∧ Aside0 (r1_SameRows.l0 kq l0 l1 x5_1 = some r) ∧ Aside0 (kq ≤ k) ∧ Aside0 (Below w.heap.size w w'))
   case atStart => exact ⟨(0), (by first | rfl | (simp; done) | (simp [*]; done)), H', ⟨Nat.le_refl _⟩, ⟨by repeat (first | (with_reducible first | exact HB.out | apply bA_ | apply bN_ | apply b1_) | exact HB.out)⟩⟩
   case round =>
    clear H'
    try clear c1
    try clear p2
    try clear c3
    try clear c3b0
    try clear c3b1
    try clear c3b2
    obtain ⟨x5_1, rfl, HA, HK1, HB⟩ := hrel
    cases gk with
    | zero => exact absurd HA.out (by simp [r1_SameRows.l0])
    | succ k1 =>
     have H := HA.out
     clear HA
     simp only [r1_SameRows.l0] at H
     by_cases c4 : x5_1 < (l0.length : Int)
     · rw [if_pos c4] at H
       have c4b0 : decide (x5_1 < (l0.length : Int)) = true := dT_ c4
       clear c4
       by_cases c5 : 0 ≤ x5_1
       · rw [if_pos c5] at H
         have c5b0 : decide (0 ≤ x5_1) = true := dT_ c5
         clear c5
         by_cases c6 : x5_1 < (l1.length : Int)
         · rw [if_pos c6] at H
           have c6b0 : decide (x5_1 < (l1.length : Int)) = true := dT_ c6
           clear c6
           replace H := Option.bind_eq_some_iff.mp H
           obtain ⟨t129, A70, H⟩ := H
           replace H : (if t129 = true then (r1_SameRows.l0 k1 l0 l1 (wrap64 (x5_1 + 1))) else (some false)) = some r := H
           have A7 := Aside0.mk A70
           clear A70
           by_cases c8 : t129 = true
           · subst c8
             have H1 : (r1_SameRows.l0 k1 l0 l1 (wrap64 (x5_1 + 1))) = some r := by rw [if_pos rfl] at H; exact H
             clear H
             have H := H1
             clear H1
             have H' := Aside0.mk H
             clear H
             try go_wp2
             have n0_ := Aside0.mk (b1_ HB.out)
             clear HB
             have HB := n0_
             clear n0_
             have p127 : 0 ≤ (x5_1 : Int) := oT_ (by assumption)
             have q127 : x5_1 < (l0.length : Int) := oT_ (by assumption)
             obtain ⟨ad127, e127, hx127_0, hx127_1, hx127_2⟩ := at_T36 HR0.out x5_1 p127 q127
             have hw127_2 := hx127_2
             have hw127_1 := hx127_1
             have hw127_0 := hx127_0
             cases e127
             replace hx127_0 := (HB.out.cell (bLC_ w _ hx127_0)).trans hx127_0
             replace hx127_1 := (HB.out.cell (bLC_ w _ hx127_1)).trans hx127_1
             replace hx127_2 := (HB.out.cell (bLC_ w _ hx127_2)).trans hx127_2
             replace p127 := eq_true p127
             replace q127 := eq_true q127
             have p128 : 0 ≤ (x5_1 : Int) := oT_ (by assumption)
             have q128 : x5_1 < (l1.length : Int) := oT_ (by assumption)
             obtain ⟨ad128, e128, hx128_0, hx128_1, hx128_2⟩ := at_T36 HR1.out x5_1 p128 q128
             have hw128_2 := hx128_2
             have hw128_1 := hx128_1
             have hw128_0 := hx128_0
             cases e128
             replace hx128_0 := (HB.out.cell (bLC_ w _ hx128_0)).trans hx128_0
             replace hx128_1 := (HB.out.cell (bLC_ w _ hx128_1)).trans hx128_1
             replace hx128_2 := (HB.out.cell (bLC_ w _ hx128_2)).trans hx128_2
             replace p128 := eq_true p128
             replace q128 := eq_true q128
             refine start_ (n := 10) (S := fun w' => w'.cell? (ad127.add ((x5_1).toNat * 3)) = some (.int .u8 ((rd_T36 l0 x5_1).f0)) ∧ w'.cell? ⟨(ad127.add ((x5_1).toNat * 3)).block, (ad127.add ((x5_1).toNat * 3)).off + 1, none⟩ = some (.int .i64 ((rd_T36 l0 x5_1).f1)) ∧ w'.cell? ⟨(ad127.add ((x5_1).toNat * 3)).block, (ad127.add ((x5_1).toNat * 3)).off + 2, none⟩ = some (.string ((rd_T36 l0 x5_1).f2)) ∧ w'.cell? (ad128.add ((x5_1).toNat * 3)) = some (.int .u8 ((rd_T36 l1 x5_1).f0)) ∧ w'.cell? ⟨(ad128.add ((x5_1).toNat * 3)).block, (ad128.add ((x5_1).toNat * 3)).off + 1, none⟩ = some (.int .i64 ((rd_T36 l1 x5_1).f1)) ∧ w'.cell? ⟨(ad128.add ((x5_1).toNat * 3)).block, (ad128.add ((x5_1).toNat * 3)).off + 2, none⟩ = some (.string ((rd_T36 l1 x5_1).f2))) (ds := []) #[X_,X_,X_,X_,X_,X_,X_,X_,X_,X_] (by kernel_rfl) rfl rfl ⟨((HB.out.cell (bLC_ w _ hw127_0)).trans hw127_0), ((HB.out.cell (bLC_ w _ hw127_1)).trans hw127_1), ((HB.out.cell (bLC_ w _ hw127_2)).trans hw127_2), ((HB.out.cell (bLC_ w _ hw128_0)).trans hw128_0), ((HB.out.cell (bLC_ w _ hw128_1)).trans hw128_1), ((HB.out.cell (bLC_ w _ hw128_2)).trans hw128_2)⟩ (fun hHeld => ?_); refine with_tabW r1_SameRows.tab6 r1_SameRows.bits6 (fun HT_ HW_ => ?_)
             generalize wr.drew = w9 at HB hx127_0 hx127_1 hx127_2 hx128_0 hx128_1 hx128_2 hHeld ⊢
             refine pure_ (i := 0) (N := some 17) (v := ?_) (a' := ?_) #[Y_,X_,X_,X_,X_,X_,X_,X_,X_,X_] rfl rfl (any_of HT_.out (by kernel_rfl)) (fun _ _ _ h => h) (Or.inl ⟨by rfl, ?_⟩) ?_ ?_
             rotate_left
             · intro w'
               go_simp
               with_reducible rfl
             rotate_left
             · simp only [Act.put, sTA_, sCZ_, sCS_, i64_w, i32_w]
               rfl
             refine pure_ (i := 1) (N := some 18) (v := ?_) (a' := ?_) #[Y_,Y_,X_,X_,X_,X_,X_,X_,X_,X_] rfl rfl (any_of HT_.out (by kernel_rfl)) (fun _ _ _ h => h) (Or.inl ⟨by rfl, ?_⟩) ?_ ?_
             rotate_left
             · intro w'
               go_simp
               with_reducible rfl
             rotate_left
             · simp only [Act.put, sTA_, sCZ_, sCS_, i64_w, i32_w]
               rfl
             refine pure_ (i := 2) (N := some 19) (v := ?_) (a' := ?_) #[Y_,Y_,Y_,X_,X_,X_,X_,X_,X_,X_] rfl rfl (any_of HT_.out (by kernel_rfl)) (fun _ _ _ h => h) (Or.inl ⟨by rfl, ?_⟩) ?_ ?_
             rotate_left
             · intro w'
               go_simp
               with_reducible rfl
             rotate_left
             · simp only [Act.put, sTA_, sCZ_, sCS_, i64_w, i32_w]
               rfl
             refine pure_ (i := 4) (N := some 21) (v := ?_) (a' := ?_) #[Y_,Y_,Y_,X_,Y_,X_,X_,X_,X_,X_] rfl rfl (any_of HT_.out (by kernel_rfl)) (fun _ _ _ h => h) (Or.inl ⟨by rfl, ?_⟩) ?_ ?_
             rotate_left
             · intro w'
               go_simp
               with_reducible rfl
             rotate_left
             · simp only [Act.put, sTA_, sCZ_, sCS_, i64_w, i32_w]
               rfl
             refine pure_ (i := 5) (N := some 22) (v := ?_) (a' := ?_) #[Y_,Y_,Y_,X_,Y_,Y_,X_,X_,X_,X_] rfl rfl (any_of HT_.out (by kernel_rfl)) (fun _ _ _ h => h) (Or.inl ⟨by rfl, ?_⟩) ?_ ?_
             rotate_left
             · intro w'
               go_simp
               with_reducible rfl
             rotate_left
             · simp only [Act.put, sTA_, sCZ_, sCS_, i64_w, i32_w]
               rfl
             refine pure_ (i := 6) (N := some 23) (v := ?_) (a' := ?_) #[Y_,Y_,Y_,X_,Y_,Y_,Y_,X_,X_,X_] rfl rfl (any_of HT_.out (by kernel_rfl)) (fun _ _ _ h => h) (Or.inl ⟨by rfl, ?_⟩) ?_ ?_
             rotate_left
             · intro w'
               go_simp
               with_reducible rfl
             rotate_left
             · simp only [Act.put, sTA_, sCZ_, sCS_, i64_w, i32_w]
               rfl
             refine take_ (i := 3) (N := some 20) (v := ?_) (a' := ?_) #[Y_,Y_,Y_,Y_,Y_,Y_,Y_,X_,X_,X_] rfl rfl (take_ofW HT_.out HW_.out (by kernel_rfl)) (fun _ _ _ h => h) (Or.inl ⟨by rfl, ?_⟩) hHeld ?_ ?_
             rotate_left
             · rintro w' ⟨s0, s1, s2, s3, s4, s5⟩
               go_simp
               with_reducible rfl
             rotate_left
             · simp only [Act.put, sTA_, sCZ_, sCS_, i64_w, i32_w]
               rfl
             refine take_ (i := 7) (N := some 24) (v := ?_) (a' := ?_) #[Y_,Y_,Y_,Y_,Y_,Y_,Y_,Y_,X_,X_] rfl rfl (take_ofW HT_.out HW_.out (by kernel_rfl)) (fun _ _ _ h => h) (Or.inl ⟨by rfl, ?_⟩) hHeld ?_ ?_
             rotate_left
             · rintro w' ⟨s0, s1, s2, s3, s4, s5⟩
               go_simp
               with_reducible rfl
             rotate_left
             · simp only [Act.put, sTA_, sCZ_, sCS_, i64_w, i32_w]
               rfl
             refine one_ (i := 8) (N := some 25) #[Y_,Y_,Y_,Y_,Y_,Y_,Y_,Y_,Y_,X_] rfl rfl (one_of HT_.out (by kernel_rfl)) (by decide) (fun K hK => ?_)
             refine goes_ Tryz.func22 (by kernel_rfl) rfl #[.agg #[.int .u8 ((rd_T36 l0 x5_1).f0), .int .i64 ((rd_T36 l0 x5_1).f1), .string ((rd_T36 l0 x5_1).f2)], .agg #[.int .u8 ((rd_T36 l1 x5_1).f0), .int .i64 ((rd_T36 l1 x5_1).f1), .string ((rd_T36 l1 x5_1).f2)]] (by rfl) rfl rfl (by (try simp only [List.map_toArray, List.map_cons, List.map_nil]); first | done | rfl | (simp only [List.length_drop, List.length_take]; rfl)) ?_
             with_reducible refine (r1_Same.calls ((rd_T36 l0 x5_1).f0) ((rd_T36 l0 x5_1).f1) ((rd_T36 l0 x5_1).f2) ((rd_T36 l1 x5_1).f0) ((rd_T36 l1 x5_1).f1) ((rd_T36 l1 x5_1).f2) true _ A7.out).mono ?_
             rintro e w10 ⟨rfl, hb⟩
             refine ⟨_, rfl, ?_⟩
             have n0_ := Aside0.mk (below_step (by repeat (first | (with_reducible first | exact HB.out | apply bA_ | apply bN_ | apply b1_) | exact HB.out)) hb)
             clear HB
             have HB := n0_
             clear n0_
             (try clear hb)
             (try clear hb2)
             (try clear hk)
             (try clear hi)
             refine hK.out _ _ ⟨((HB.out.cell (bLC_ w _ hw127_0)).trans hw127_0), ((HB.out.cell (bLC_ w _ hw127_1)).trans hw127_1), ((HB.out.cell (bLC_ w _ hw127_2)).trans hw127_2), ((HB.out.cell (bLC_ w _ hw128_0)).trans hw128_0), ((HB.out.cell (bLC_ w _ hw128_1)).trans hw128_1), ((HB.out.cell (bLC_ w _ hw128_2)).trans hw128_2)⟩ (fun hHeld => ?_)
             clear hK K
             refine norm_ (a' := ?_) ?_ ?_
             rotate_left
             · show Act.put _ (some 25) _ = _
               simp only [Act.put, sTA_, sCZ_, sCS_, i64_w, i32_w]
               rfl
             refine pure_ (i := 9) (N := some 26) (v := ?_) (a' := ?_) #[Y_,Y_,Y_,Y_,Y_,Y_,Y_,Y_,Y_,Y_] rfl rfl (any_of HT_.out (by kernel_rfl)) (fun _ _ _ h => h) (Or.inl ⟨by rfl, ?_⟩) ?_ ?_
             rotate_left
             · intro w'
               go_simp
               with_reducible rfl
             rotate_left
             · simp only [Act.put, sTA_, sCZ_, sCS_, i64_w, i32_w]
               rfl
             refine done_ (done_of HT_.out (by kernel_rfl)) ?_
             try go_wp2
             go_roundg k1
             case measure => have := HK1.out; omega
             case rel => exact ⟨(wrap64 (x5_1 + 1)), (by first | rfl | (simp; done) | (simp [*]; done)), H', ⟨by have := HK1.out; omega⟩, ⟨by repeat (first | (with_reducible first | exact HB.out | apply bA_ | apply bN_ | apply b1_) | exact HB.out)⟩⟩
           · replace c8 := Bool.eq_false_iff.mpr c8
             subst c8
             have H1 : (some false) = some r := by rw [if_neg (show ¬ (false = true) by decide)] at H; exact H
             clear H
             have H := H1
             clear H1
             obtain rfl := Option.some.inj H
             try go_wp2
             have n0_ := Aside0.mk (b1_ HB.out)
             clear HB
             have HB := n0_
             clear n0_
             have p127 : 0 ≤ (x5_1 : Int) := oT_ (by assumption)
             have q127 : x5_1 < (l0.length : Int) := oT_ (by assumption)
             obtain ⟨ad127, e127, hx127_0, hx127_1, hx127_2⟩ := at_T36 HR0.out x5_1 p127 q127
             have hw127_2 := hx127_2
             have hw127_1 := hx127_1
             have hw127_0 := hx127_0
             cases e127
             replace hx127_0 := (HB.out.cell (bLC_ w _ hx127_0)).trans hx127_0
             replace hx127_1 := (HB.out.cell (bLC_ w _ hx127_1)).trans hx127_1
             replace hx127_2 := (HB.out.cell (bLC_ w _ hx127_2)).trans hx127_2
             replace p127 := eq_true p127
             replace q127 := eq_true q127
             have p128 : 0 ≤ (x5_1 : Int) := oT_ (by assumption)
             have q128 : x5_1 < (l1.length : Int) := oT_ (by assumption)
             obtain ⟨ad128, e128, hx128_0, hx128_1, hx128_2⟩ := at_T36 HR1.out x5_1 p128 q128
             have hw128_2 := hx128_2
             have hw128_1 := hx128_1
             have hw128_0 := hx128_0
             cases e128
             replace hx128_0 := (HB.out.cell (bLC_ w _ hx128_0)).trans hx128_0
             replace hx128_1 := (HB.out.cell (bLC_ w _ hx128_1)).trans hx128_1
             replace hx128_2 := (HB.out.cell (bLC_ w _ hx128_2)).trans hx128_2
             replace p128 := eq_true p128
             replace q128 := eq_true q128
             refine start_ (n := 10) (S := fun w' => w'.cell? (ad127.add ((x5_1).toNat * 3)) = some (.int .u8 ((rd_T36 l0 x5_1).f0)) ∧ w'.cell? ⟨(ad127.add ((x5_1).toNat * 3)).block, (ad127.add ((x5_1).toNat * 3)).off + 1, none⟩ = some (.int .i64 ((rd_T36 l0 x5_1).f1)) ∧ w'.cell? ⟨(ad127.add ((x5_1).toNat * 3)).block, (ad127.add ((x5_1).toNat * 3)).off + 2, none⟩ = some (.string ((rd_T36 l0 x5_1).f2)) ∧ w'.cell? (ad128.add ((x5_1).toNat * 3)) = some (.int .u8 ((rd_T36 l1 x5_1).f0)) ∧ w'.cell? ⟨(ad128.add ((x5_1).toNat * 3)).block, (ad128.add ((x5_1).toNat * 3)).off + 1, none⟩ = some (.int .i64 ((rd_T36 l1 x5_1).f1)) ∧ w'.cell? ⟨(ad128.add ((x5_1).toNat * 3)).block, (ad128.add ((x5_1).toNat * 3)).off + 2, none⟩ = some (.string ((rd_T36 l1 x5_1).f2))) (ds := []) #[X_,X_,X_,X_,X_,X_,X_,X_,X_,X_] (by kernel_rfl) rfl rfl ⟨((HB.out.cell (bLC_ w _ hw127_0)).trans hw127_0), ((HB.out.cell (bLC_ w _ hw127_1)).trans hw127_1), ((HB.out.cell (bLC_ w _ hw127_2)).trans hw127_2), ((HB.out.cell (bLC_ w _ hw128_0)).trans hw128_0), ((HB.out.cell (bLC_ w _ hw128_1)).trans hw128_1), ((HB.out.cell (bLC_ w _ hw128_2)).trans hw128_2)⟩ (fun hHeld => ?_); refine with_tabW r1_SameRows.tab6 r1_SameRows.bits6 (fun HT_ HW_ => ?_)
             generalize wr.drew = w11 at HB hx127_0 hx127_1 hx127_2 hx128_0 hx128_1 hx128_2 hHeld ⊢
             refine pure_ (i := 0) (N := some 17) (v := ?_) (a' := ?_) #[Y_,X_,X_,X_,X_,X_,X_,X_,X_,X_] rfl rfl (any_of HT_.out (by kernel_rfl)) (fun _ _ _ h => h) (Or.inl ⟨by rfl, ?_⟩) ?_ ?_
             rotate_left
             · intro w'
               go_simp
               with_reducible rfl
             rotate_left
             · simp only [Act.put, sTA_, sCZ_, sCS_, i64_w, i32_w]
               rfl
             refine pure_ (i := 1) (N := some 18) (v := ?_) (a' := ?_) #[Y_,Y_,X_,X_,X_,X_,X_,X_,X_,X_] rfl rfl (any_of HT_.out (by kernel_rfl)) (fun _ _ _ h => h) (Or.inl ⟨by rfl, ?_⟩) ?_ ?_
             rotate_left
             · intro w'
               go_simp
               with_reducible rfl
             rotate_left
             · simp only [Act.put, sTA_, sCZ_, sCS_, i64_w, i32_w]
               rfl
             refine pure_ (i := 2) (N := some 19) (v := ?_) (a' := ?_) #[Y_,Y_,Y_,X_,X_,X_,X_,X_,X_,X_] rfl rfl (any_of HT_.out (by kernel_rfl)) (fun _ _ _ h => h) (Or.inl ⟨by rfl, ?_⟩) ?_ ?_
             rotate_left
             · intro w'
               go_simp
               with_reducible rfl
             rotate_left
             · simp only [Act.put, sTA_, sCZ_, sCS_, i64_w, i32_w]
               rfl
             refine pure_ (i := 4) (N := some 21) (v := ?_) (a' := ?_) #[Y_,Y_,Y_,X_,Y_,X_,X_,X_,X_,X_] rfl rfl (any_of HT_.out (by kernel_rfl)) (fun _ _ _ h => h) (Or.inl ⟨by rfl, ?_⟩) ?_ ?_
             rotate_left
             · intro w'
               go_simp
               with_reducible rfl
             rotate_left
             · simp only [Act.put, sTA_, sCZ_, sCS_, i64_w, i32_w]
               rfl
             refine pure_ (i := 5) (N := some 22) (v := ?_) (a' := ?_) #[Y_,Y_,Y_,X_,Y_,Y_,X_,X_,X_,X_] rfl rfl (any_of HT_.out (by kernel_rfl)) (fun _ _ _ h => h) (Or.inl ⟨by rfl, ?_⟩) ?_ ?_
             rotate_left
             · intro w'
               go_simp
               with_reducible rfl
             rotate_left
             · simp only [Act.put, sTA_, sCZ_, sCS_, i64_w, i32_w]
               rfl
             refine pure_ (i := 6) (N := some 23) (v := ?_) (a' := ?_) #[Y_,Y_,Y_,X_,Y_,Y_,Y_,X_,X_,X_] rfl rfl (any_of HT_.out (by kernel_rfl)) (fun _ _ _ h => h) (Or.inl ⟨by rfl, ?_⟩) ?_ ?_
             rotate_left
             · intro w'
               go_simp
               with_reducible rfl
             rotate_left
             · simp only [Act.put, sTA_, sCZ_, sCS_, i64_w, i32_w]
               rfl
             refine take_ (i := 3) (N := some 20) (v := ?_) (a' := ?_) #[Y_,Y_,Y_,Y_,Y_,Y_,Y_,X_,X_,X_] rfl rfl (take_ofW HT_.out HW_.out (by kernel_rfl)) (fun _ _ _ h => h) (Or.inl ⟨by rfl, ?_⟩) hHeld ?_ ?_
             rotate_left
             · rintro w' ⟨s0, s1, s2, s3, s4, s5⟩
               go_simp
               with_reducible rfl
             rotate_left
             · simp only [Act.put, sTA_, sCZ_, sCS_, i64_w, i32_w]
               rfl
             refine take_ (i := 7) (N := some 24) (v := ?_) (a' := ?_) #[Y_,Y_,Y_,Y_,Y_,Y_,Y_,Y_,X_,X_] rfl rfl (take_ofW HT_.out HW_.out (by kernel_rfl)) (fun _ _ _ h => h) (Or.inl ⟨by rfl, ?_⟩) hHeld ?_ ?_
             rotate_left
             · rintro w' ⟨s0, s1, s2, s3, s4, s5⟩
               go_simp
               with_reducible rfl
             rotate_left
             · simp only [Act.put, sTA_, sCZ_, sCS_, i64_w, i32_w]
               rfl
             refine one_ (i := 8) (N := some 25) #[Y_,Y_,Y_,Y_,Y_,Y_,Y_,Y_,Y_,X_] rfl rfl (one_of HT_.out (by kernel_rfl)) (by decide) (fun K hK => ?_)
             refine goes_ Tryz.func22 (by kernel_rfl) rfl #[.agg #[.int .u8 ((rd_T36 l0 x5_1).f0), .int .i64 ((rd_T36 l0 x5_1).f1), .string ((rd_T36 l0 x5_1).f2)], .agg #[.int .u8 ((rd_T36 l1 x5_1).f0), .int .i64 ((rd_T36 l1 x5_1).f1), .string ((rd_T36 l1 x5_1).f2)]] (by rfl) rfl rfl (by (try simp only [List.map_toArray, List.map_cons, List.map_nil]); first | done | rfl | (simp only [List.length_drop, List.length_take]; rfl)) ?_
             with_reducible refine (r1_Same.calls ((rd_T36 l0 x5_1).f0) ((rd_T36 l0 x5_1).f1) ((rd_T36 l0 x5_1).f2) ((rd_T36 l1 x5_1).f0) ((rd_T36 l1 x5_1).f1) ((rd_T36 l1 x5_1).f2) false _ A7.out).mono ?_
             rintro e w12 ⟨rfl, hb⟩
             refine ⟨_, rfl, ?_⟩
             have n0_ := Aside0.mk (below_step (by repeat (first | (with_reducible first | exact HB.out | apply bA_ | apply bN_ | apply b1_) | exact HB.out)) hb)
             clear HB
             have HB := n0_
             clear n0_
             (try clear hb)
             (try clear hb2)
             (try clear hk)
             (try clear hi)
             refine hK.out _ _ ⟨((HB.out.cell (bLC_ w _ hw127_0)).trans hw127_0), ((HB.out.cell (bLC_ w _ hw127_1)).trans hw127_1), ((HB.out.cell (bLC_ w _ hw127_2)).trans hw127_2), ((HB.out.cell (bLC_ w _ hw128_0)).trans hw128_0), ((HB.out.cell (bLC_ w _ hw128_1)).trans hw128_1), ((HB.out.cell (bLC_ w _ hw128_2)).trans hw128_2)⟩ (fun hHeld => ?_)
             clear hK K
             refine norm_ (a' := ?_) ?_ ?_
             rotate_left
             · show Act.put _ (some 25) _ = _
               simp only [Act.put, sTA_, sCZ_, sCS_, i64_w, i32_w]
               rfl
             refine pure_ (i := 9) (N := some 26) (v := ?_) (a' := ?_) #[Y_,Y_,Y_,Y_,Y_,Y_,Y_,Y_,Y_,Y_] rfl rfl (any_of HT_.out (by kernel_rfl)) (fun _ _ _ h => h) (Or.inl ⟨by rfl, ?_⟩) ?_ ?_
             rotate_left
             · intro w'
               go_simp
               with_reducible rfl
             rotate_left
             · simp only [Act.put, sTA_, sCZ_, sCS_, i64_w, i32_w]
               rfl
             refine done_ (done_of HT_.out (by kernel_rfl)) ?_
             try go_wp2
             go_ret
             exact ⟨by first | rfl | (simp [*, errW_none, errW_some] <;> rfl), by repeat (first | (with_reducible first | exact HB.out | apply bA_ | apply bN_ | apply b1_) | exact HB.out)⟩
         · rw [if_neg c6] at H
           exact absurd H (by simp)
       · rw [if_neg c5] at H
         exact absurd H (by simp)
     · rw [if_neg c4] at H
       have c4b0 : decide (x5_1 < (l0.length : Int)) = false := dF_ c4
       clear c4
       obtain rfl := Option.some.inj H
       go_wp2
       go_ret
       exact ⟨by first | rfl | (simp [*, errW_none, errW_some] <;> rfl), by repeat (first | (with_reducible first | exact HB.out | apply bA_ | apply bN_ | apply b1_) | exact HB.out)⟩
 · rw [if_neg c3] at H
   have c3b0 : ((l0.length : Int) == (l1.length : Int)) = false := beq_eq_false_iff_ne.mpr c3
   have c3b1 : ((l0.length : Int) != (l1.length : Int)) = true := bne_iff_ne.mpr c3
   have c3b2 : (l0.length == l1.length) = false := by first | simpa using c3 | (simp at c3 ⊢; omega)
   obtain rfl := Option.some.inj H
   go_enter Tryz.func50, Tryz.ntmps50
   go_wp2
   go_ret
   exact ⟨by first | rfl | (simp [*, errW_none, errW_some] <;> rfl), by repeat (first | (with_reducible first | exact HB.out | apply bA_ | apply bN_ | apply b1_) | exact HB.out)⟩
def r6_SameLists.l0 : Nat → List (List (S36)) → List (List (S36)) → Int → Option (Bool)
 | 0, _, _, _ => none
 | k + 1, x0, x1, x5 => if x5 < (x0.length : Int) then (if 0 ≤ x5 then (if x5 < (x1.length : Int) then ((r1_SameRows.f k (rd_L4 x0 x5) (rd_L4 x1 x5)).bind fun t132 => (if t132 = true then (r6_SameLists.l0 k x0 x1 (wrap64 (x5 + 1))) else (some false))) else (none)) else (none)) else (some true)
def r6_SameLists.f (k : Nat) (l0 : List (List (S36))) (l1 : List (List (S36))) : Option (Bool) := if (l0.length : Int) = (l1.length : Int) then (r6_SameLists.l0 k l0 l1 0) else (some false)
def r6_SameLists.T6 : Bool × List (List Nat × List Nat) := (true, [([], []), ([], []), ([0, 1], [0, 1]), ([2], [2]), ([], []), ([], []), ([4, 5], [4, 5]), ([6], [6]), ([3, 7], [3, 7]), ([8], [8])])
def r6_SameLists.B6 : List Nat := [0, 0, 3, 7, 0, 0, 48, 112, 255, 511]
theorem r6_SameLists.tab6 : rtab .any (opsOf Tryz.f19 6) = r6_SameLists.T6 := by kernel_rfl
theorem r6_SameLists.bits6 : waitsOk r6_SameLists.T6.2 r6_SameLists.B6 = true := by kernel_rfl
theorem r6_SameLists.calls (k : Nat) (A0 : Option Addr) (c0 : Nat) (l0 : List (List (S36))) (A1 : Option Addr) (c1 : Nat) (l1 : List (List (S36))) (r : Bool) (w : World) (hr0 : Kd.C (Kd.slice 36 k36) w A0 l0.length l0) (hc0 : l0.length ≤ c0) (hr1 : Kd.C (Kd.slice 36 k36) w A1 l1.length l1) (hc1 : l1.length ≤ c1) (h : r6_SameLists.f k l0 l1 = some r) :
 Calls Tryz.prog 19 #[.slice A0 l0.length c0, .slice A1 l1.length c1] w fun e w' => e = .returned (.bool r) ∧ Below w.heap.size w w' := by
 have HR0 := Aside0.mk hr0
 have HC0 := Aside0.mk hc0
 clear hr0 hc0
 have HR1 := Aside0.mk hr1
 have HC1 := Aside0.mk hc1
 clear hr1 hc1
 have HB := Aside0.mk (Below.refl w.heap.size w)
 have H : (if (l0.length : Int) = (l1.length : Int) then (r6_SameLists.l0 k l0 l1 0) else (some false)) = some r := h
 clear h
 by_cases c3 : (l0.length : Int) = (l1.length : Int)
 · rw [if_pos c3] at H
   have c3b0 : ((l0.length : Int) == (l1.length : Int)) = true := beq_iff_eq.mpr c3
   have c3b1 : ((l0.length : Int) != (l1.length : Int)) = false := bne_eq_false_iff_eq.mpr c3
   have c3b2 : (l0.length == l1.length) = true := by first | simpa using c3 | (simp at c3 ⊢; omega)
   clear c3
   have H' := Aside0.mk H
   clear H
   go_enter Tryz.func19, Tryz.ntmps19
   go_wp2
   go_loopg [5] k (fun kq v5 w' => ∃ (x5_1 : Int), v5 = .int .i64 x5_1 ∧ Aside0 (r6_SameLists.l0 kq l0 l1 x5_1 = some r) ∧ Aside0 (kq ≤ k) ∧ Aside0 (Below w.heap.size w w'))
   case atStart => exact ⟨(0), (by first | rfl | (simp; done) | (simp [*]; done)), H', ⟨Nat.le_refl _⟩, ⟨by repeat (first | (with_reducible first | exact HB.out | apply bA_ | apply bN_ | apply b1_) | exact HB.out)⟩⟩
   case round =>
    clear H'
    try clear c1
    try clear p2
    try clear c3
    try clear c3b0
    try clear c3b1
    try clear c3b2
    obtain ⟨x5_1, rfl, HA, HK1, HB⟩ := hrel
    cases gk with
    | zero => exact absurd HA.out (by simp [r6_SameLists.l0])
    | succ k1 =>
     have H := HA.out
     clear HA
     simp only [r6_SameLists.l0] at H
     by_cases c4 : x5_1 < (l0.length : Int)
     · rw [if_pos c4] at H
       have c4b0 : decide (x5_1 < (l0.length : Int)) = true := dT_ c4
       clear c4
       by_cases c5 : 0 ≤ x5_1
       · rw [if_pos c5] at H
         have c5b0 : decide (0 ≤ x5_1) = true := dT_ c5
         clear c5
         by_cases c6 : x5_1 < (l1.length : Int)
         · rw [if_pos c6] at H
           have c6b0 : decide (x5_1 < (l1.length : Int)) = true := dT_ c6
           clear c6
           replace H := Option.bind_eq_some_iff.mp H
           obtain ⟨t132, A70, H⟩ := H
           replace H : (if t132 = true then (r6_SameLists.l0 k1 l0 l1 (wrap64 (x5_1 + 1))) else (some false)) = some r := H
           have A7 := Aside0.mk A70
           clear A70
           by_cases c8 : t132 = true
           · subst c8
             have H1 : (r6_SameLists.l0 k1 l0 l1 (wrap64 (x5_1 + 1))) = some r := by rw [if_pos rfl] at H; exact H
             clear H
             have H := H1
             clear H1
             have H' := Aside0.mk H
             clear H
             try go_wp2
             have n0_ := Aside0.mk (b1_ HB.out)
             clear HB
             have HB := n0_
             clear n0_
             have p130 : 0 ≤ (x5_1 : Int) := oT_ (by assumption)
             have q130 : x5_1 < (l0.length : Int) := oT_ (by assumption)
             obtain ⟨ad130, A130_0, c130_0, e130, hx130_0, hl130_0, hi130_0⟩ := at_L4 HR0.out x5_1 p130 q130
             have hw130_0 := hx130_0
             cases e130
             replace hx130_0 := (HB.out.cell (bLC_ w _ hx130_0)).trans hx130_0
             have HR130_0 := Aside0.mk hi130_0
             have HC130_0 := Aside0.mk hl130_0
             clear hi130_0 hl130_0
             replace p130 := eq_true p130
             replace q130 := eq_true q130
             have p131 : 0 ≤ (x5_1 : Int) := oT_ (by assumption)
             have q131 : x5_1 < (l1.length : Int) := oT_ (by assumption)
             obtain ⟨ad131, A131_0, c131_0, e131, hx131_0, hl131_0, hi131_0⟩ := at_L4 HR1.out x5_1 p131 q131
             have hw131_0 := hx131_0
             cases e131
             replace hx131_0 := (HB.out.cell (bLC_ w _ hx131_0)).trans hx131_0
             have HR131_0 := Aside0.mk hi131_0
             have HC131_0 := Aside0.mk hl131_0
             clear hi131_0 hl131_0
             replace p131 := eq_true p131
             replace q131 := eq_true q131
             refine start_ (n := 10) (S := fun w' => w'.cell? (ad130.add (x5_1).toNat) = some (.slice A130_0 (rd_L4 l0 x5_1).length c130_0) ∧ w'.cell? (ad131.add (x5_1).toNat) = some (.slice A131_0 (rd_L4 l1 x5_1).length c131_0)) (ds := []) #[X_,X_,X_,X_,X_,X_,X_,X_,X_,X_] (by kernel_rfl) rfl rfl ⟨((HB.out.cell (bLC_ w _ hw130_0)).trans hw130_0), ((HB.out.cell (bLC_ w _ hw131_0)).trans hw131_0)⟩ (fun hHeld => ?_); refine with_tabW r6_SameLists.tab6 r6_SameLists.bits6 (fun HT_ HW_ => ?_)
             generalize wr.drew = w9 at HB HR130_0 HR131_0 hx130_0 hx131_0 hHeld ⊢
             refine pure_ (i := 0) (N := some 17) (v := ?_) (a' := ?_) #[Y_,X_,X_,X_,X_,X_,X_,X_,X_,X_] rfl rfl (any_of HT_.out (by kernel_rfl)) (fun _ _ _ h => h) (Or.inl ⟨by rfl, ?_⟩) ?_ ?_
             rotate_left
             · intro w'
               go_simp
               with_reducible rfl
             rotate_left
             · simp only [Act.put, sTA_, sCZ_, sCS_, i64_w, i32_w]
               rfl
             refine pure_ (i := 1) (N := some 18) (v := ?_) (a' := ?_) #[Y_,Y_,X_,X_,X_,X_,X_,X_,X_,X_] rfl rfl (any_of HT_.out (by kernel_rfl)) (fun _ _ _ h => h) (Or.inl ⟨by rfl, ?_⟩) ?_ ?_
             rotate_left
             · intro w'
               go_simp
               with_reducible rfl
             rotate_left
             · simp only [Act.put, sTA_, sCZ_, sCS_, i64_w, i32_w]
               rfl
             refine pure_ (i := 2) (N := some 19) (v := ?_) (a' := ?_) #[Y_,Y_,Y_,X_,X_,X_,X_,X_,X_,X_] rfl rfl (any_of HT_.out (by kernel_rfl)) (fun _ _ _ h => h) (Or.inl ⟨by rfl, ?_⟩) ?_ ?_
             rotate_left
             · intro w'
               go_simp
               with_reducible rfl
             rotate_left
             · simp only [Act.put, sTA_, sCZ_, sCS_, i64_w, i32_w]
               rfl
             refine pure_ (i := 4) (N := some 21) (v := ?_) (a' := ?_) #[Y_,Y_,Y_,X_,Y_,X_,X_,X_,X_,X_] rfl rfl (any_of HT_.out (by kernel_rfl)) (fun _ _ _ h => h) (Or.inl ⟨by rfl, ?_⟩) ?_ ?_
             rotate_left
             · intro w'
               go_simp
               with_reducible rfl
             rotate_left
             · simp only [Act.put, sTA_, sCZ_, sCS_, i64_w, i32_w]
               rfl
             refine pure_ (i := 5) (N := some 22) (v := ?_) (a' := ?_) #[Y_,Y_,Y_,X_,Y_,Y_,X_,X_,X_,X_] rfl rfl (any_of HT_.out (by kernel_rfl)) (fun _ _ _ h => h) (Or.inl ⟨by rfl, ?_⟩) ?_ ?_
             rotate_left
             · intro w'
               go_simp
               with_reducible rfl
             rotate_left
             · simp only [Act.put, sTA_, sCZ_, sCS_, i64_w, i32_w]
               rfl
             refine pure_ (i := 6) (N := some 23) (v := ?_) (a' := ?_) #[Y_,Y_,Y_,X_,Y_,Y_,Y_,X_,X_,X_] rfl rfl (any_of HT_.out (by kernel_rfl)) (fun _ _ _ h => h) (Or.inl ⟨by rfl, ?_⟩) ?_ ?_
             rotate_left
             · intro w'
               go_simp
               with_reducible rfl
             rotate_left
             · simp only [Act.put, sTA_, sCZ_, sCS_, i64_w, i32_w]
               rfl
             refine take_ (i := 3) (N := some 20) (v := ?_) (a' := ?_) #[Y_,Y_,Y_,Y_,Y_,Y_,Y_,X_,X_,X_] rfl rfl (take_ofW HT_.out HW_.out (by kernel_rfl)) (fun _ _ _ h => h) (Or.inl ⟨by rfl, ?_⟩) hHeld ?_ ?_
             rotate_left
             · rintro w' ⟨s0, s1⟩
               go_simp
               with_reducible rfl
             rotate_left
             · simp only [Act.put, sTA_, sCZ_, sCS_, i64_w, i32_w]
               rfl
             refine take_ (i := 7) (N := some 24) (v := ?_) (a' := ?_) #[Y_,Y_,Y_,Y_,Y_,Y_,Y_,Y_,X_,X_] rfl rfl (take_ofW HT_.out HW_.out (by kernel_rfl)) (fun _ _ _ h => h) (Or.inl ⟨by rfl, ?_⟩) hHeld ?_ ?_
             rotate_left
             · rintro w' ⟨s0, s1⟩
               go_simp
               with_reducible rfl
             rotate_left
             · simp only [Act.put, sTA_, sCZ_, sCS_, i64_w, i32_w]
               rfl
             refine one_ (i := 8) (N := some 25) #[Y_,Y_,Y_,Y_,Y_,Y_,Y_,Y_,Y_,X_] rfl rfl (one_of HT_.out (by kernel_rfl)) (by decide) (fun K hK => ?_)
             refine goes_ Tryz.func50 (by kernel_rfl) rfl #[.slice A130_0 (rd_L4 l0 x5_1).length c130_0, .slice A131_0 (rd_L4 l1 x5_1).length c131_0] (by rfl) rfl rfl (by (try simp only [List.map_toArray, List.map_cons, List.map_nil]); first | done | rfl | (simp only [List.length_drop, List.length_take]; rfl)) ?_
             with_reducible refine (r1_SameRows.calls k1 _ _ (rd_L4 l0 x5_1) _ _ (rd_L4 l1 x5_1) true _ ?side1 ?side2 ?side3 ?side4 A7.out).mono ?_
             (case side1 => repeat (first | exact (Kd.C_below HR130_0.out HB.out) | (with_reducible refine Kd.cA_ ?_ _) | (with_reducible refine Kd.cN_ ?_ _) | (with_reducible refine Kd.cD_ ?_)))
             (case side2 => exact HC130_0.out)
             (case side3 => repeat (first | exact (Kd.C_below HR131_0.out HB.out) | (with_reducible refine Kd.cA_ ?_ _) | (with_reducible refine Kd.cN_ ?_ _) | (with_reducible refine Kd.cD_ ?_)))
             (case side4 => exact HC131_0.out)
             rintro e w10 ⟨rfl, hb⟩
             refine ⟨_, rfl, ?_⟩
             have n0_ := Aside0.mk (below_step (by repeat (first | (with_reducible first | exact HB.out | apply bA_ | apply bN_ | apply b1_) | exact HB.out)) hb)
             clear HB
             have HB := n0_
             clear n0_
             (try clear hb)
             (try clear hb2)
             (try clear hk)
             (try clear hi)
             refine hK.out _ _ ⟨((HB.out.cell (bLC_ w _ hw130_0)).trans hw130_0), ((HB.out.cell (bLC_ w _ hw131_0)).trans hw131_0)⟩ (fun hHeld => ?_)
             clear hK K
             refine norm_ (a' := ?_) ?_ ?_
             rotate_left
             · show Act.put _ (some 25) _ = _
               simp only [Act.put, sTA_, sCZ_, sCS_, i64_w, i32_w]
               rfl
             refine pure_ (i := 9) (N := some 26) (v := ?_) (a' := ?_) #[Y_,Y_,Y_,Y_,Y_,Y_,Y_,Y_,Y_,Y_] rfl rfl (any_of HT_.out (by kernel_rfl)) (fun _ _ _ h => h) (Or.inl ⟨by rfl, ?_⟩) ?_ ?_
             rotate_left
             · intro w'
               go_simp
               with_reducible rfl
             rotate_left
             · simp only [Act.put, sTA_, sCZ_, sCS_, i64_w, i32_w]
               rfl
             refine done_ (done_of HT_.out (by kernel_rfl)) ?_
             try go_wp2
             go_roundg k1
             case measure => have := HK1.out; omega
             case rel => exact ⟨(wrap64 (x5_1 + 1)), (by first | rfl | (simp; done) | (simp [*]; done)), H', ⟨by have := HK1.out; omega⟩, ⟨by repeat (first | (with_reducible first | exact HB.out | apply bA_ | apply bN_ | apply b1_) | exact HB.out)⟩⟩
           · replace c8 := Bool.eq_false_iff.mpr c8
             subst c8
             have H1 : (some false) = some r := by rw [if_neg (show ¬ (false = true) by decide)] at H; exact H
             clear H
             have H := H1
             clear H1
             obtain rfl := Option.some.inj H
             try go_wp2
             have n0_ := Aside0.mk (b1_ HB.out)
             clear HB
             have HB := n0_
             clear n0_
             have p130 : 0 ≤ (x5_1 : Int) := oT_ (by assumption)
             have q130 : x5_1 < (l0.length : Int) := oT_ (by assumption)
             obtain ⟨ad130, A130_0, c130_0, e130, hx130_0, hl130_0, hi130_0⟩ := at_L4 HR0.out x5_1 p130 q130
             have hw130_0 := hx130_0
             cases e130
             replace hx130_0 := (HB.out.cell (bLC_ w _ hx130_0)).trans hx130_0
             have HR130_0 := Aside0.mk hi130_0
             have HC130_0 := Aside0.mk hl130_0
             clear hi130_0 hl130_0
             replace p130 := eq_true p130
             replace q130 := eq_true q130
             have p131 : 0 ≤ (x5_1 : Int) := oT_ (by assumption)
             have q131 : x5_1 < (l1.length : Int) := oT_ (by assumption)
             obtain ⟨ad131, A131_0, c131_0, e131, hx131_0, hl131_0, hi131_0⟩ := at_L4 HR1.out x5_1 p131 q131
             have hw131_0 := hx131_0
             cases e131
             replace hx131_0 := (HB.out.cell (bLC_ w _ hx131_0)).trans hx131_0
             have HR131_0 := Aside0.mk hi131_0
             have HC131_0 := Aside0.mk hl131_0
             clear hi131_0 hl131_0
             replace p131 := eq_true p131
             replace q131 := eq_true q131
             refine start_ (n := 10) (S := fun w' => w'.cell? (ad130.add (x5_1).toNat) = some (.slice A130_0 (rd_L4 l0 x5_1).length c130_0) ∧ w'.cell? (ad131.add (x5_1).toNat) = some (.slice A131_0 (rd_L4 l1 x5_1).length c131_0)) (ds := []) #[X_,X_,X_,X_,X_,X_,X_,X_,X_,X_] (by kernel_rfl) rfl rfl ⟨((HB.out.cell (bLC_ w _ hw130_0)).trans hw130_0), ((HB.out.cell (bLC_ w _ hw131_0)).trans hw131_0)⟩ (fun hHeld => ?_); refine with_tabW r6_SameLists.tab6 r6_SameLists.bits6 (fun HT_ HW_ => ?_)
             generalize wr.drew = w11 at HB HR130_0 HR131_0 hx130_0 hx131_0 hHeld ⊢
             refine pure_ (i := 0) (N := some 17) (v := ?_) (a' := ?_) #[Y_,X_,X_,X_,X_,X_,X_,X_,X_,X_] rfl rfl (any_of HT_.out (by kernel_rfl)) (fun _ _ _ h => h) (Or.inl ⟨by rfl, ?_⟩) ?_ ?_
             rotate_left
             · intro w'
               go_simp
               with_reducible rfl
             rotate_left
             · simp only [Act.put, sTA_, sCZ_, sCS_, i64_w, i32_w]
               rfl
             refine pure_ (i := 1) (N := some 18) (v := ?_) (a' := ?_) #[Y_,Y_,X_,X_,X_,X_,X_,X_,X_,X_] rfl rfl (any_of HT_.out (by kernel_rfl)) (fun _ _ _ h => h) (Or.inl ⟨by rfl, ?_⟩) ?_ ?_
             rotate_left
             · intro w'
               go_simp
               with_reducible rfl
             rotate_left
             · simp only [Act.put, sTA_, sCZ_, sCS_, i64_w, i32_w]
               rfl
             refine pure_ (i := 2) (N := some 19) (v := ?_) (a' := ?_) #[Y_,Y_,Y_,X_,X_,X_,X_,X_,X_,X_] rfl rfl (any_of HT_.out (by kernel_rfl)) (fun _ _ _ h => h) (Or.inl ⟨by rfl, ?_⟩) ?_ ?_
             rotate_left
             · intro w'
               go_simp
               with_reducible rfl
             rotate_left
             · simp only [Act.put, sTA_, sCZ_, sCS_, i64_w, i32_w]
               rfl
             refine pure_ (i := 4) (N := some 21) (v := ?_) (a' := ?_) #[Y_,Y_,Y_,X_,Y_,X_,X_,X_,X_,X_] rfl rfl (any_of HT_.out (by kernel_rfl)) (fun _ _ _ h => h) (Or.inl ⟨by rfl, ?_⟩) ?_ ?_
             rotate_left
             · intro w'
               go_simp
               with_reducible rfl
             rotate_left
             · simp only [Act.put, sTA_, sCZ_, sCS_, i64_w, i32_w]
               rfl
             refine pure_ (i := 5) (N := some 22) (v := ?_) (a' := ?_) #[Y_,Y_,Y_,X_,Y_,Y_,X_,X_,X_,X_] rfl rfl (any_of HT_.out (by kernel_rfl)) (fun _ _ _ h => h) (Or.inl ⟨by rfl, ?_⟩) ?_ ?_
             rotate_left
             · intro w'
               go_simp
               with_reducible rfl
             rotate_left
             · simp only [Act.put, sTA_, sCZ_, sCS_, i64_w, i32_w]
               rfl
             refine pure_ (i := 6) (N := some 23) (v := ?_) (a' := ?_) #[Y_,Y_,Y_,X_,Y_,Y_,Y_,X_,X_,X_] rfl rfl (any_of HT_.out (by kernel_rfl)) (fun _ _ _ h => h) (Or.inl ⟨by rfl, ?_⟩) ?_ ?_
             rotate_left
             · intro w'
               go_simp
               with_reducible rfl
             rotate_left
             · simp only [Act.put, sTA_, sCZ_, sCS_, i64_w, i32_w]
               rfl
             refine take_ (i := 3) (N := some 20) (v := ?_) (a' := ?_) #[Y_,Y_,Y_,Y_,Y_,Y_,Y_,X_,X_,X_] rfl rfl (take_ofW HT_.out HW_.out (by kernel_rfl)) (fun _ _ _ h => h) (Or.inl ⟨by rfl, ?_⟩) hHeld ?_ ?_
             rotate_left
             · rintro w' ⟨s0, s1⟩
               go_simp
               with_reducible rfl
             rotate_left
             · simp only [Act.put, sTA_, sCZ_, sCS_, i64_w, i32_w]
               rfl
             refine take_ (i := 7) (N := some 24) (v := ?_) (a' := ?_) #[Y_,Y_,Y_,Y_,Y_,Y_,Y_,Y_,X_,X_] rfl rfl (take_ofW HT_.out HW_.out (by kernel_rfl)) (fun _ _ _ h => h) (Or.inl ⟨by rfl, ?_⟩) hHeld ?_ ?_
             rotate_left
             · rintro w' ⟨s0, s1⟩
               go_simp
               with_reducible rfl
             rotate_left
             · simp only [Act.put, sTA_, sCZ_, sCS_, i64_w, i32_w]
               rfl
             refine one_ (i := 8) (N := some 25) #[Y_,Y_,Y_,Y_,Y_,Y_,Y_,Y_,Y_,X_] rfl rfl (one_of HT_.out (by kernel_rfl)) (by decide) (fun K hK => ?_)
             refine goes_ Tryz.func50 (by kernel_rfl) rfl #[.slice A130_0 (rd_L4 l0 x5_1).length c130_0, .slice A131_0 (rd_L4 l1 x5_1).length c131_0] (by rfl) rfl rfl (by (try simp only [List.map_toArray, List.map_cons, List.map_nil]); first | done | rfl | (simp only [List.length_drop, List.length_take]; rfl)) ?_
             with_reducible refine (r1_SameRows.calls k1 _ _ (rd_L4 l0 x5_1) _ _ (rd_L4 l1 x5_1) false _ ?side1 ?side2 ?side3 ?side4 A7.out).mono ?_
             (case side1 => repeat (first | exact (Kd.C_below HR130_0.out HB.out) | (with_reducible refine Kd.cA_ ?_ _) | (with_reducible refine Kd.cN_ ?_ _) | (with_reducible refine Kd.cD_ ?_)))
             (case side2 => exact HC130_0.out)
             (case side3 => repeat (first | exact (Kd.C_below HR131_0.out HB.out) | (with_reducible refine Kd.cA_ ?_ _) | (with_reducible refine Kd.cN_ ?_ _) | (with_reducible refine Kd.cD_ ?_)))
             (case side4 => exact HC131_0.out)
             rintro e w12 ⟨rfl, hb⟩
             refine ⟨_, rfl, ?_⟩
             have n0_ := Aside0.mk (below_step (by repeat (first | (with_reducible first | exact HB.out | apply bA_ | apply bN_ | apply b1_) | exact HB.out)) hb)
             clear HB
             have HB := n0_
             clear n0_
             (try clear hb)
             (try clear hb2)
             (try clear hk)
             (try clear hi)
             refine hK.out _ _ ⟨((HB.out.cell (bLC_ w _ hw130_0)).trans hw130_0), ((HB.out.cell (bLC_ w _ hw131_0)).trans hw131_0)⟩ (fun hHeld => ?_)
             clear hK K
             refine norm_ (a' := ?_) ?_ ?_
             rotate_left
             · show Act.put _ (some 25) _ = _
               simp only [Act.put, sTA_, sCZ_, sCS_, i64_w, i32_w]
               rfl
             refine pure_ (i := 9) (N := some 26) (v := ?_) (a' := ?_) #[Y_,Y_,Y_,Y_,Y_,Y_,Y_,Y_,Y_,Y_] rfl rfl (any_of HT_.out (by kernel_rfl)) (fun _ _ _ h => h) (Or.inl ⟨by rfl, ?_⟩) ?_ ?_
             rotate_left
             · intro w'
               go_simp
               with_reducible rfl
             rotate_left
             · simp only [Act.put, sTA_, sCZ_, sCS_, i64_w, i32_w]
               rfl
             refine done_ (done_of HT_.out (by kernel_rfl)) ?_
             try go_wp2
             go_ret
             exact ⟨by first | rfl | (simp [*, errW_none, errW_some] <;> rfl), by repeat (first | (with_reducible first | exact HB.out | apply bA_ | apply bN_ | apply b1_) | exact HB.out)⟩
         · rw [if_neg c6] at H
           exact absurd H (by simp)
       · rw [if_neg c5] at H
         exact absurd H (by simp)
     · rw [if_neg c4] at H
       have c4b0 : decide (x5_1 < (l0.length : Int)) = false := dF_ c4
       clear c4
       obtain rfl := Option.some.inj H
       go_wp2
       go_ret
       exact ⟨by first | rfl | (simp [*, errW_none, errW_some] <;> rfl), by repeat (first | (with_reducible first | exact HB.out | apply bA_ | apply bN_ | apply b1_) | exact HB.out)⟩
 · rw [if_neg c3] at H
   have c3b0 : ((l0.length : Int) == (l1.length : Int)) = false := beq_eq_false_iff_ne.mpr c3
   have c3b1 : ((l0.length : Int) != (l1.length : Int)) = true := bne_iff_ne.mpr c3
   have c3b2 : (l0.length == l1.length) = false := by first | simpa using c3 | (simp at c3 ⊢; omega)
   obtain rfl := Option.some.inj H
   go_enter Tryz.func19, Tryz.ntmps19
   go_wp2
   go_ret
   exact ⟨by first | rfl | (simp [*, errW_none, errW_some] <;> rfl), by repeat (first | (with_reducible first | exact HB.out | apply bA_ | apply bN_ | apply b1_) | exact HB.out)⟩
end Go.Proofs.YtecgkcgfeghhgaaGreatDoor.PAll
set_option linter.unusedVariables false
set_option linter.unusedSimpArgs false
namespace Go.Proofs.YtecgkcgfeghhgaaGreatDoor.PAll
open Go.RowKit Go.Proofs.YtecgkcgfeghhgaaGreatDoorW.PrintWords Go.Proofs.YtecgkcgfeghhgaaGreatDoorW.PrintLast Go.Proofs.YtecgkcgfeghhgaaGreatDoorW.PrintMore
open Classical in
theorem sameV_eq (a b : V) : r1_Same.f a.f0 a.f1 a.f2 b.f0 b.f1 b.f2 = some (decide (a = b)) := by
 unfold r1_Same.f
 by_cases h0 : a.f0 = b.f0
 · by_cases h1 : a.f1 = b.f1
   · rw [if_pos h0, if_pos h1]
     congr 1
     by_cases h2 : a.f2 = b.f2
     · rw [decide_eq_true (show a = b by cases a; cases b; simp_all), h2]
       simp
     · rw [decide_eq_false (fun e => h2 (by rw [e])), ByteArray.toList_eq, ByteArray.toList_eq, beq_eq_false_iff_ne]
       exact fun e => h2 (ByteArray.ext (Array.toList_inj.1 e))
   · rw [if_pos h0, if_neg h1, decide_eq_false (fun e => h1 (by rw [e]))]
 · rw [if_neg h0, decide_eq_false (fun e => h0 (by rw [e]))]
open Classical in
theorem sameRows_l0 (a b : List V) (hl : a.length = b.length) (hn : a.length ≤ 1099511627776) : ∀ (d i : Nat), i + d = a.length → Ev (fun k => r1_SameRows.l0 k a b (i : Int)) (decide (a.drop i = b.drop i)) := by
 intro d
 induction d with
 | zero =>
  intro i hi
  rw [List.drop_eq_nil_of_le (by omega), List.drop_eq_nil_of_le (by omega), decide_eq_true rfl]
  refine Ev.step (f := fun _ => some true) (fun k => ?_) (Ev.now _)
  simp only [r1_SameRows.l0]
  rw [if_neg (by omega)]
 | succ d ih =>
  intro i hi
  have h1 : i < a.length := by omega
  have h2 : i < b.length := by omega
  rw [drop_cons a i h1, drop_cons b i h2]
  have one : ∀ k, r1_SameRows.l0 (k + 1) a b (i : Int) = if decide (a[i] = b[i]) = true then r1_SameRows.l0 k a b ((i + 1 : Nat) : Int) else some false := fun k => by
   simp only [r1_SameRows.l0]
   rw [if_pos (by omega), if_pos (by omega), if_pos (by omega), rdV_at h1, rdV_at h2, sameV_eq, w64 _ (by omega) (by omega)]
   rfl
  by_cases c : a[i] = b[i]
  · refine Ev.step (f := fun k => r1_SameRows.l0 k a b ((i + 1 : Nat) : Int)) (fun k => by rw [one, if_pos (decide_eq_true c)]) ?_
    have h3 := ih (i + 1) (by omega)
    have e : decide (a[i] :: a.drop (i + 1) = b[i] :: b.drop (i + 1)) = decide (a.drop (i + 1) = b.drop (i + 1)) := by
     rw [decide_eq_decide, List.cons.injEq]
     exact ⟨fun h => h.2, fun h => ⟨c, h⟩⟩
    rw [e]
    exact h3
  · refine Ev.step (f := fun _ => some false) (fun k => by rw [one, if_neg (by simpa using c)]) ?_
    rw [decide_eq_false (fun e => c (List.cons.inj e).1)]
    exact Ev.now _
open Classical in
theorem sameRows_ev (a b : List V) (hn : a.length ≤ 1099511627776) : Ev (fun k => r1_SameRows.f k a b) (decide (a = b)) := by
 by_cases hl : a.length = b.length
 · have := sameRows_l0 a b hl hn a.length 0 (by omega)
   simp only [List.drop_zero] at this
   exact Ev.congr (fun k => by unfold r1_SameRows.f; rw [if_pos (by omega)]; rfl) this
 · rw [decide_eq_false (fun e => hl (by rw [e]))]
   exact Ev.congr (f := fun _ => some false) (fun k => by unfold r1_SameRows.f; rw [if_neg (by omega)]) (Ev.now _)
open Classical in
theorem sameLists_l0 (a b : List (List V)) (hl : a.length = b.length) (hn : a.length ≤ 1099511627776) (hr : ∀ r ∈ a, r.length ≤ 1099511627776) : ∀ (d i : Nat), i + d = a.length → Ev (fun k => r6_SameLists.l0 k a b (i : Int)) (decide (a.drop i = b.drop i)) := by
 intro d
 induction d with
 | zero =>
  intro i hi
  rw [List.drop_eq_nil_of_le (by omega), List.drop_eq_nil_of_le (by omega), decide_eq_true rfl]
  refine Ev.step (f := fun _ => some true) (fun k => ?_) (Ev.now _)
  simp only [r6_SameLists.l0]
  rw [if_neg (by omega)]
 | succ d ih =>
  intro i hi
  have h1 : i < a.length := by omega
  have h2 : i < b.length := by omega
  rw [drop_cons a i h1, drop_cons b i h2]
  have one : ∀ k, r6_SameLists.l0 (k + 1) a b (i : Int) = (r1_SameRows.f k a[i] b[i]).bind fun t => if t = true then r6_SameLists.l0 k a b ((i + 1 : Nat) : Int) else some false := fun k => by
   simp only [r6_SameLists.l0]
   rw [if_pos (by omega), if_pos (by omega), if_pos (by omega), rdL_at h1, rdL_at h2, w64 _ (by omega) (by omega)]
   rfl
  have hs := sameRows_ev a[i] b[i] (hr _ (List.getElem_mem h1))
  refine Ev.step one (Ev.bind hs ?_)
  by_cases c : a[i] = b[i]
  · refine Ev.congr (f := fun k => r6_SameLists.l0 k a b ((i + 1 : Nat) : Int)) (fun k => by rw [if_pos (decide_eq_true c)]) ?_
    have h3 := ih (i + 1) (by omega)
    have e : decide (a[i] :: a.drop (i + 1) = b[i] :: b.drop (i + 1)) = decide (a.drop (i + 1) = b.drop (i + 1)) := by
     rw [decide_eq_decide, List.cons.injEq]
     exact ⟨fun h => h.2, fun h => ⟨c, h⟩⟩
    rw [e]
    exact h3
  · refine Ev.congr (f := fun _ => some false) (fun k => by rw [if_neg (by simpa using c)]) ?_
    rw [decide_eq_false (fun e => c (List.cons.inj e).1)]
    exact Ev.now _
open Classical in
theorem sameLists_ev (a b : List (List V)) (hn : a.length ≤ 1099511627776) (hr : ∀ r ∈ a, r.length ≤ 1099511627776) : Ev (fun k => r6_SameLists.f k a b) (decide (a = b)) := by
 by_cases hl : a.length = b.length
 · have := sameLists_l0 a b hl hn hr a.length 0 (by omega)
   simp only [List.drop_zero] at this
   exact Ev.congr (fun k => by unfold r6_SameLists.f; rw [if_pos (by omega)]; rfl) this
 · rw [decide_eq_false (fun e => hl (by rw [e]))]
   exact Ev.congr (f := fun _ => some false) (fun k => by unfold r6_SameLists.f; rw [if_neg (by omega)]) (Ev.now _)
theorem sameLists_refl (a : List (List V)) (hn : a.length ≤ 1099511627776) (hr : ∀ r ∈ a, r.length ≤ 1099511627776) : Ev (fun k => r6_SameLists.f k a a) true := by
 classical
 have h := sameLists_ev a a hn hr
 rwa [decide_eq_true rfl] at h
end Go.Proofs.YtecgkcgfeghhgaaGreatDoor.PAll
namespace Go.Proofs.YtecgkcgfeghhgaaGreatDoor.PAll
open Go.RowKit Go.Proofs.YtecgkcgfeghhgaaGreatDoorW.PrintWords Go.Proofs.YtecgkcgfeghhgaaGreatDoorW.PrintLast Go.Proofs.YtecgkcgfeghhgaaGreatDoorW.PrintMore
attribute [local go_sem] max2_int min2_int max_two min_two max_three min_three max_four min_four
set_option linter.unusedVariables false
set_option linter.unusedSimpArgs false
def r6_Count.l0 : Nat → List (List (S36)) → List (S36) → Int → Int → Option (Int)
 | 0, _, _, _, _ => none
 | k + 1, x0, x1, x5, x6 => if x6 < (x0.length : Int) then (if 0 ≤ x6 then ((r1_SameRows.f k (rd_L4 x0 x6) x1).bind fun t152 => (if t152 = true then (r6_Count.l0 k x0 x1 (wrap64 (x5 + 1)) (wrap64 (x6 + 1))) else (r6_Count.l0 k x0 x1 x5 (wrap64 (x6 + 1))))) else (none)) else (some x5)
def r6_Count.f (k : Nat) (l0 : List (List (S36))) (l1 : List (S36)) : Option (Int) := r6_Count.l0 k l0 l1 0 0
theorem r6_Count.calls (k : Nat) (A0 : Option Addr) (c0 : Nat) (l0 : List (List (S36))) (A1 : Option Addr) (c1 : Nat) (l1 : List (S36)) (r : Int) (w : World) (hr0 : Kd.C (Kd.slice 36 k36) w A0 l0.length l0) (hc0 : l0.length ≤ c0) (hr1 : Kd.C k36 w A1 l1.length l1) (hc1 : l1.length ≤ c1) (h : r6_Count.f k l0 l1 = some r) :
 Calls Tryz.prog 44 #[.slice A0 l0.length c0, .slice A1 l1.length c1] w fun e w' => e = .returned (.int .i64 r) ∧ Below w.heap.size w w' := by
 have HR0 := Aside0.mk hr0
 have HC0 := Aside0.mk hc0
 clear hr0 hc0
 have HR1 := Aside0.mk hr1
 have HC1 := Aside0.mk hc1
 clear hr1 hc1
 have HB := Aside0.mk (Below.refl w.heap.size w)
 have H : (r6_Count.l0 k l0 l1 0 0) = some r := h
 clear h
 have H' := Aside0.mk H
 clear H
 go_enter Tryz.func44, Tryz.ntmps44
 go_wp2
 go_loopg [5, 6] k (fun kq v5 v6 w' => ∃ (x5_1 : Int) (x6_1 : Int), v5 = .int .i64 x5_1 ∧ v6 = .int .i64 x6_1 ∧ Aside0 (r6_Count.l0 kq l0 l1 x5_1 x6_1 = some r) ∧ Aside0 (kq ≤ k) ∧ Aside0 (Below w.heap.size w w'))
 case atStart => exact ⟨(0), (0), (by first | rfl | (simp; done) | (simp [*]; done)), (by first | rfl | (simp; done) | (simp [*]; done)), H', ⟨Nat.le_refl _⟩, ⟨by repeat (first | (with_reducible first | exact HB.out | apply bA_ | apply bN_ | apply b1_) | exact HB.out)⟩⟩
 case round =>
  clear H'
  try clear c1
  try clear p2
  obtain ⟨x5_1, x6_1, rfl, rfl, HA, HK1, HB⟩ := hrel
  cases gk with
  | zero => exact absurd HA.out (by simp [r6_Count.l0])
  | succ k1 =>
   have H := HA.out
   clear HA
   simp only [r6_Count.l0] at H
   by_cases c3 : x6_1 < (l0.length : Int)
   · rw [if_pos c3] at H
     have c3b0 : decide (x6_1 < (l0.length : Int)) = true := dT_ c3
     clear c3
     by_cases c4 : 0 ≤ x6_1
     · rw [if_pos c4] at H
       have c4b0 : decide (0 ≤ x6_1) = true := dT_ c4
       clear c4
       replace H := Option.bind_eq_some_iff.mp H
       obtain ⟨t152, A50, H⟩ := H
       replace H : (if t152 = true then (r6_Count.l0 k1 l0 l1 (wrap64 (x5_1 + 1)) (wrap64 (x6_1 + 1))) else (r6_Count.l0 k1 l0 l1 x5_1 (wrap64 (x6_1 + 1)))) = some r := H
       have A5 := Aside0.mk A50
       clear A50
       by_cases c6 : t152 = true
       · subst c6
         have H1 : (r6_Count.l0 k1 l0 l1 (wrap64 (x5_1 + 1)) (wrap64 (x6_1 + 1))) = some r := by rw [if_pos rfl] at H; exact H
         clear H
         have H := H1
         clear H1
         have H' := Aside0.mk H
         clear H
         have p151 : 0 ≤ (x6_1 : Int) := oT_ (by assumption)
         have q151 : x6_1 < (l0.length : Int) := oT_ (by assumption)
         obtain ⟨ad151, A151_0, c151_0, e151, hx151_0, hl151_0, hi151_0⟩ := at_L4 HR0.out x6_1 p151 q151
         cases e151
         replace hx151_0 := (HB.out.cell (bLC_ w _ hx151_0)).trans hx151_0
         have HR151_0 := Aside0.mk hi151_0
         have HC151_0 := Aside0.mk hl151_0
         clear hi151_0 hl151_0
         replace p151 := eq_true p151
         replace q151 := eq_true q151
         go_wp2_with (first | ((with_reducible refine gate_callee (f := 50) rfl ?_); refine goesL_ (some 18) rfl rfl Tryz.func50 (by kernel_rfl) rfl #[.slice A151_0 (rd_L4 l0 x6_1).length c151_0, .slice A1 l1.length c1] rfl (by (try simp only [List.map_toArray, List.map_cons, List.map_nil]); first | done | rfl | (simp only [List.length_drop, List.length_take]; rfl)) ?_; (with_reducible refine (r1_SameRows.calls k1 _ _ (rd_L4 l0 x6_1) _ _ l1 true _ ?side1 ?side2 ?side3 ?side4 A5.out).mono ?_); (case side1 => repeat (first | exact (Kd.C_below HR151_0.out HB.out) | (with_reducible refine Kd.cA_ ?_ _) | (with_reducible refine Kd.cN_ ?_ _) | (with_reducible refine Kd.cD_ ?_))); (case side2 => exact HC151_0.out); (case side3 => repeat (first | exact (Kd.C_below HR1.out HB.out) | (with_reducible refine Kd.cA_ ?_ _) | (with_reducible refine Kd.cN_ ?_ _) | (with_reducible refine Kd.cD_ ?_))); (case side4 => exact HC1.out); rintro e w7 ⟨rfl, hb⟩; refine ⟨_, rfl, ?_⟩; have n0_ := Aside0.mk (below_step (by repeat (first | (with_reducible first | exact HB.out | apply bA_ | apply bN_ | apply b1_) | exact HB.out)) hb); clear HB; have HB := n0_; clear n0_; (try clear hb); (try clear hb2); (try clear hk); (try clear hi)))
         go_roundg k1
         case measure => have := HK1.out; omega
         case rel => exact ⟨(wrap64 (x5_1 + 1)), (wrap64 (x6_1 + 1)), (by first | rfl | (simp; done) | (simp [*]; done)), (by first | rfl | (simp; done) | (simp [*]; done)), H', ⟨by have := HK1.out; omega⟩, ⟨by repeat (first | (with_reducible first | exact HB.out | apply bA_ | apply bN_ | apply b1_) | exact HB.out)⟩⟩
       · replace c6 := Bool.eq_false_iff.mpr c6
         subst c6
         have H1 : (r6_Count.l0 k1 l0 l1 x5_1 (wrap64 (x6_1 + 1))) = some r := by rw [if_neg (show ¬ (false = true) by decide)] at H; exact H
         clear H
         have H := H1
         clear H1
         have H' := Aside0.mk H
         clear H
         have p151 : 0 ≤ (x6_1 : Int) := oT_ (by assumption)
         have q151 : x6_1 < (l0.length : Int) := oT_ (by assumption)
         obtain ⟨ad151, A151_0, c151_0, e151, hx151_0, hl151_0, hi151_0⟩ := at_L4 HR0.out x6_1 p151 q151
         cases e151
         replace hx151_0 := (HB.out.cell (bLC_ w _ hx151_0)).trans hx151_0
         have HR151_0 := Aside0.mk hi151_0
         have HC151_0 := Aside0.mk hl151_0
         clear hi151_0 hl151_0
         replace p151 := eq_true p151
         replace q151 := eq_true q151
         go_wp2_with (first | ((with_reducible refine gate_callee (f := 50) rfl ?_); refine goesL_ (some 18) rfl rfl Tryz.func50 (by kernel_rfl) rfl #[.slice A151_0 (rd_L4 l0 x6_1).length c151_0, .slice A1 l1.length c1] rfl (by (try simp only [List.map_toArray, List.map_cons, List.map_nil]); first | done | rfl | (simp only [List.length_drop, List.length_take]; rfl)) ?_; (with_reducible refine (r1_SameRows.calls k1 _ _ (rd_L4 l0 x6_1) _ _ l1 false _ ?side1 ?side2 ?side3 ?side4 A5.out).mono ?_); (case side1 => repeat (first | exact (Kd.C_below HR151_0.out HB.out) | (with_reducible refine Kd.cA_ ?_ _) | (with_reducible refine Kd.cN_ ?_ _) | (with_reducible refine Kd.cD_ ?_))); (case side2 => exact HC151_0.out); (case side3 => repeat (first | exact (Kd.C_below HR1.out HB.out) | (with_reducible refine Kd.cA_ ?_ _) | (with_reducible refine Kd.cN_ ?_ _) | (with_reducible refine Kd.cD_ ?_))); (case side4 => exact HC1.out); rintro e w8 ⟨rfl, hb⟩; refine ⟨_, rfl, ?_⟩; have n0_ := Aside0.mk (below_step (by repeat (first | (with_reducible first | exact HB.out | apply bA_ | apply bN_ | apply b1_) | exact HB.out)) hb); clear HB; have HB := n0_; clear n0_; (try clear hb); (try clear hb2); (try clear hk); (try clear hi)))
         go_roundg k1
         case measure => have := HK1.out; omega
         case rel => exact ⟨(x5_1), (wrap64 (x6_1 + 1)), (by first | rfl | (simp; done) | (simp [*]; done)), (by first | rfl | (simp; done) | (simp [*]; done)), H', ⟨by have := HK1.out; omega⟩, ⟨by repeat (first | (with_reducible first | exact HB.out | apply bA_ | apply bN_ | apply b1_) | exact HB.out)⟩⟩
     · rw [if_neg c4] at H
       exact absurd H (by simp)
   · rw [if_neg c3] at H
     have c3b0 : decide (x6_1 < (l0.length : Int)) = false := dF_ c3
     clear c3
     obtain rfl := Option.some.inj H
     go_wp2
     go_ret
     exact ⟨by first | rfl | (simp [*, errW_none, errW_some] <;> rfl), by repeat (first | (with_reducible first | exact HB.out | apply bA_ | apply bN_ | apply b1_) | exact HB.out)⟩
end Go.Proofs.YtecgkcgfeghhgaaGreatDoor.PAll
set_option linter.unusedVariables false
set_option linter.unusedSimpArgs false
namespace Go.Proofs.YtecgkcgfeghhgaaGreatDoor.PAll
open Go.RowKit Go.Proofs.YtecgkcgfeghhgaaGreatDoorW.PrintWords Go.Proofs.YtecgkcgfeghhgaaGreatDoorW.PrintLast Go.Proofs.YtecgkcgfeghhgaaGreatDoorW.PrintMore
open Classical in
theorem count_l0 (l : List (List V)) (r : List V) (hl : RowsV l) : ∀ (d i n : Nat), i + d = l.length → n ≤ i → Ev (fun k => r6_Count.l0 k l r (n : Int) (i : Int)) ((n + occ (l.drop i) r : Nat) : Int) := by
 intro d
 induction d with
 | zero =>
  intro i n hi hn
  rw [List.drop_eq_nil_of_le (by omega), occ_nil, Nat.add_zero]
  refine Ev.step (f := fun _ => some (n : Int)) (fun k => ?_) (Ev.now _)
  simp only [r6_Count.l0]
  rw [if_neg (by omega)]
 | succ d ih =>
  intro i n hi hn
  have hlt : i < l.length := by omega
  have hN := hl.2
  rw [drop_cons l i hlt, occ_cons]
  have hs := sameRows_ev l[i] r (hl.1 _ (List.getElem_mem hlt)).2
  refine Ev.step (f := fun k => (r1_SameRows.f k l[i] r).bind fun t => if t = true then r6_Count.l0 k l r ((n + 1 : Nat) : Int) ((i + 1 : Nat) : Int) else r6_Count.l0 k l r (n : Int) ((i + 1 : Nat) : Int)) (fun k => ?_) (Ev.bind hs ?_)
  · simp only [r6_Count.l0]
    rw [if_pos (by omega), if_pos (by omega), rdL_at hlt, w64 _ (by omega) (by omega), w64 _ (by omega) (by omega)]
    rfl
  · by_cases c : l[i] = r
    · refine Ev.congr (f := fun k => r6_Count.l0 k l r ((n + 1 : Nat) : Int) ((i + 1 : Nat) : Int)) (fun k => by rw [if_pos (decide_eq_true c)]) ?_
      rw [if_pos c, show n + (occ (l.drop (i + 1)) r + 1) = (n + 1) + occ (l.drop (i + 1)) r by omega]
      exact ih (i + 1) (n + 1) (by omega) (by omega)
    · refine Ev.congr (f := fun k => r6_Count.l0 k l r (n : Int) ((i + 1 : Nat) : Int)) (fun k => by rw [if_neg (by simpa using c)]) ?_
      rw [if_neg c, Nat.add_zero]
      exact ih (i + 1) n (by omega) (by omega)
theorem count_ev (l : List (List V)) (r : List V) (hl : RowsV l) : Ev (fun k => r6_Count.f k l r) (occ l r : Int) := by
 have h := count_l0 l r hl l.length 0 0 (by omega) (Nat.le_refl _)
 rw [List.drop_zero, Nat.zero_add] at h
 exact h
end Go.Proofs.YtecgkcgfeghhgaaGreatDoor.PAll
namespace Go.Proofs.YtecgkcgfeghhgaaGreatDoor.PAll
open Go.RowKit Go.Proofs.YtecgkcgfeghhgaaGreatDoorW.PrintWords Go.Proofs.YtecgkcgfeghhgaaGreatDoorW.PrintLast Go.Proofs.YtecgkcgfeghhgaaGreatDoorW.PrintMore
attribute [local go_sem] max2_int min2_int max_two min_two max_three min_three max_four min_four
set_option linter.unusedVariables false
set_option linter.unusedSimpArgs false
def r1_Valid.f (a0_0 : Int) (a0_1 : Int) (a0_2 : ByteArray) : Option (Bool) := if a0_0 = 0 then (if a0_1 = 0 then (some (a0_2.toList == ([] : List UInt8))) else (some false)) else (if a0_0 = 1 then (some (a0_2.toList == ([] : List UInt8))) else (if a0_0 = 2 then (if a0_1 = 0 then (some (decide ((a0_2.size : Int) ≤ 100))) else (some false)) else (if a0_0 = 3 then (if a0_1 = 0 then (some (a0_2.toList == ([] : List UInt8))) else (if a0_1 = 1 then (some (a0_2.toList == ([] : List UInt8))) else (some false))) else (some false))))
theorem r1_Valid.calls (a0_0 : Int) (a0_1 : Int) (a0_2 : ByteArray) (r : Bool) (w : World) (h : r1_Valid.f a0_0 a0_1 a0_2 = some r) :
 Calls Tryz.prog 40 #[.agg #[.int .u8 a0_0, .int .i64 a0_1, .string a0_2]] w fun e w' => e = .returned (.bool r) ∧ Below w.heap.size w w' := by
 have hu36 := Tryz.underlying36
 have HB := Aside0.mk (Below.refl w.heap.size w)
 have H : (if a0_0 = 0 then (if a0_1 = 0 then (some (a0_2.toList == ([] : List UInt8))) else (some false)) else (if a0_0 = 1 then (some (a0_2.toList == ([] : List UInt8))) else (if a0_0 = 2 then (if a0_1 = 0 then (some (decide ((a0_2.size : Int) ≤ 100))) else (some false)) else (if a0_0 = 3 then (if a0_1 = 0 then (some (a0_2.toList == ([] : List UInt8))) else (if a0_1 = 1 then (some (a0_2.toList == ([] : List UInt8))) else (some false))) else (some false))))) = some r := h
 clear h
 by_cases c2 : a0_0 = 0
 · rw [if_pos c2] at H
   have c2b0 : (a0_0 == 0) = true := beq_iff_eq.mpr c2
   have c2b1 : (a0_0 != 0) = false := bne_eq_false_iff_eq.mpr c2
   clear c2
   by_cases c3 : a0_1 = 0
   · rw [if_pos c3] at H
     have c3b0 : (a0_1 == 0) = true := beq_iff_eq.mpr c3
     have c3b1 : (a0_1 != 0) = false := bne_eq_false_iff_eq.mpr c3
     clear c3
     obtain rfl := Option.some.inj H
     go_enter Tryz.func40, Tryz.ntmps40
     go_wp2_with (first | ((with_reducible refine gate_dst (N := 1) rfl ?_); (try (refine gate_guard (by rfl) ?_; dsimp only)); refine box_event ?hg (N := 1) ?hd (cs := #[.int .u8 a0_0, .int .i64 a0_1, .string a0_2]) (t := 36) ?hr ?_; (case hd => rfl); (case hg => rfl); (case hr => first | (go_simp; done) | (go_simp; rfl)); intro gb133 hg w4 hbox hb; have n0_ := Aside0.mk (below_step (by repeat (first | (with_reducible first | exact HB.out | apply bA_ | apply bN_ | apply b1_) | exact HB.out)) hb); have n1_ := Aside0.mk (hbox); have n2_ := Aside0.mk ((by rw [hg]; exact (below_size (by repeat (first | (with_reducible first | exact HB.out | apply bA_ | apply bN_ | apply b1_) | exact HB.out))) : w.heap.size ≤ gb133)); have n3_ := Aside0.mk ((by rw [hg]; exact (below_size (by repeat (first | (with_reducible first | exact HB.out | apply bA_ | apply bN_ | apply b1_) | exact HB.out))) : w.heap.size ≤ gb133)); clear HB; have HB := n0_; have BK133 := n1_; have GW133 := n2_; have GE133 := n3_; clear n0_ n1_ n2_ n3_; clear hb hbox hg; have hcz5_0 : w4.cell? ⟨gb133, 0, none⟩ = some (.int .u8 a0_0) := (blk_cell BK133.out 0).trans rfl; have hcz5_1 : w4.cell? ⟨gb133, 1, none⟩ = some (.int .i64 a0_1) := (blk_cell BK133.out 1).trans rfl; have hcz5_2 : w4.cell? ⟨gb133, 2, none⟩ = some (.string a0_2) := (blk_cell BK133.out 2).trans rfl; have hfz5_0 := blk_frozen BK133.out 0; have hfz5_1 := blk_frozen BK133.out 1; have hfz5_2 := blk_frozen BK133.out 2))
     go_ret
     exact ⟨by first | rfl | (simp [*, errW_none, errW_some] <;> rfl), by repeat (first | (with_reducible first | exact HB.out | apply bA_ | apply bN_ | apply b1_ | refine below_set ?_ GE133.out) | exact HB.out)⟩
   · rw [if_neg c3] at H
     have c3b0 : (a0_1 == 0) = false := beq_eq_false_iff_ne.mpr c3
     have c3b1 : (a0_1 != 0) = true := bne_iff_ne.mpr c3
     obtain rfl := Option.some.inj H
     go_enter Tryz.func40, Tryz.ntmps40
     go_wp2_with (first | ((with_reducible refine gate_dst (N := 1) rfl ?_); (try (refine gate_guard (by rfl) ?_; dsimp only)); refine box_event ?hg (N := 1) ?hd (cs := #[.int .u8 a0_0, .int .i64 a0_1, .string a0_2]) (t := 36) ?hr ?_; (case hd => rfl); (case hg => rfl); (case hr => first | (go_simp; done) | (go_simp; rfl)); intro gb133 hg w6 hbox hb; have n0_ := Aside0.mk (below_step (by repeat (first | (with_reducible first | exact HB.out | apply bA_ | apply bN_ | apply b1_) | exact HB.out)) hb); have n1_ := Aside0.mk (hbox); have n2_ := Aside0.mk ((by rw [hg]; exact (below_size (by repeat (first | (with_reducible first | exact HB.out | apply bA_ | apply bN_ | apply b1_) | exact HB.out))) : w.heap.size ≤ gb133)); have n3_ := Aside0.mk ((by rw [hg]; exact (below_size (by repeat (first | (with_reducible first | exact HB.out | apply bA_ | apply bN_ | apply b1_) | exact HB.out))) : w.heap.size ≤ gb133)); clear HB; have HB := n0_; have BK133 := n1_; have GW133 := n2_; have GE133 := n3_; clear n0_ n1_ n2_ n3_; clear hb hbox hg; have hcz7_0 : w6.cell? ⟨gb133, 0, none⟩ = some (.int .u8 a0_0) := (blk_cell BK133.out 0).trans rfl; have hcz7_1 : w6.cell? ⟨gb133, 1, none⟩ = some (.int .i64 a0_1) := (blk_cell BK133.out 1).trans rfl; have hcz7_2 : w6.cell? ⟨gb133, 2, none⟩ = some (.string a0_2) := (blk_cell BK133.out 2).trans rfl; have hfz7_0 := blk_frozen BK133.out 0; have hfz7_1 := blk_frozen BK133.out 1; have hfz7_2 := blk_frozen BK133.out 2))
     go_ret
     exact ⟨by first | rfl | (simp [*, errW_none, errW_some] <;> rfl), by repeat (first | (with_reducible first | exact HB.out | apply bA_ | apply bN_ | apply b1_ | refine below_set ?_ GE133.out) | exact HB.out)⟩
 · rw [if_neg c2] at H
   have c2b0 : (a0_0 == 0) = false := beq_eq_false_iff_ne.mpr c2
   have c2b1 : (a0_0 != 0) = true := bne_iff_ne.mpr c2
   by_cases c8 : a0_0 = 1
   · rw [if_pos c8] at H
     have c8b0 : (a0_0 == 1) = true := beq_iff_eq.mpr c8
     have c8b1 : (a0_0 != 1) = false := bne_eq_false_iff_eq.mpr c8
     clear c8
     obtain rfl := Option.some.inj H
     go_enter Tryz.func40, Tryz.ntmps40
     go_wp2_with (first | ((with_reducible refine gate_dst (N := 1) rfl ?_); (try (refine gate_guard (by rfl) ?_; dsimp only)); refine box_event ?hg (N := 1) ?hd (cs := #[.int .u8 a0_0, .int .i64 a0_1, .string a0_2]) (t := 36) ?hr ?_; (case hd => rfl); (case hg => rfl); (case hr => first | (go_simp; done) | (go_simp; rfl)); intro gb133 hg w9 hbox hb; have n0_ := Aside0.mk (below_step (by repeat (first | (with_reducible first | exact HB.out | apply bA_ | apply bN_ | apply b1_) | exact HB.out)) hb); have n1_ := Aside0.mk (hbox); have n2_ := Aside0.mk ((by rw [hg]; exact (below_size (by repeat (first | (with_reducible first | exact HB.out | apply bA_ | apply bN_ | apply b1_) | exact HB.out))) : w.heap.size ≤ gb133)); have n3_ := Aside0.mk ((by rw [hg]; exact (below_size (by repeat (first | (with_reducible first | exact HB.out | apply bA_ | apply bN_ | apply b1_) | exact HB.out))) : w.heap.size ≤ gb133)); clear HB; have HB := n0_; have BK133 := n1_; have GW133 := n2_; have GE133 := n3_; clear n0_ n1_ n2_ n3_; clear hb hbox hg; have hcz10_0 : w9.cell? ⟨gb133, 0, none⟩ = some (.int .u8 a0_0) := (blk_cell BK133.out 0).trans rfl; have hcz10_1 : w9.cell? ⟨gb133, 1, none⟩ = some (.int .i64 a0_1) := (blk_cell BK133.out 1).trans rfl; have hcz10_2 : w9.cell? ⟨gb133, 2, none⟩ = some (.string a0_2) := (blk_cell BK133.out 2).trans rfl; have hfz10_0 := blk_frozen BK133.out 0; have hfz10_1 := blk_frozen BK133.out 1; have hfz10_2 := blk_frozen BK133.out 2))
     go_ret
     exact ⟨by first | rfl | (simp [*, errW_none, errW_some] <;> rfl), by repeat (first | (with_reducible first | exact HB.out | apply bA_ | apply bN_ | apply b1_ | refine below_set ?_ GE133.out) | exact HB.out)⟩
   · rw [if_neg c8] at H
     have c8b0 : (a0_0 == 1) = false := beq_eq_false_iff_ne.mpr c8
     have c8b1 : (a0_0 != 1) = true := bne_iff_ne.mpr c8
     by_cases c11 : a0_0 = 2
     · rw [if_pos c11] at H
       have c11b0 : (a0_0 == 2) = true := beq_iff_eq.mpr c11
       have c11b1 : (a0_0 != 2) = false := bne_eq_false_iff_eq.mpr c11
       clear c11
       by_cases c12 : a0_1 = 0
       · rw [if_pos c12] at H
         have c12b0 : (a0_1 == 0) = true := beq_iff_eq.mpr c12
         have c12b1 : (a0_1 != 0) = false := bne_eq_false_iff_eq.mpr c12
         clear c12
         obtain rfl := Option.some.inj H
         go_enter Tryz.func40, Tryz.ntmps40
         go_wp2_with (first | ((with_reducible refine gate_dst (N := 1) rfl ?_); (try (refine gate_guard (by rfl) ?_; dsimp only)); refine box_event ?hg (N := 1) ?hd (cs := #[.int .u8 a0_0, .int .i64 a0_1, .string a0_2]) (t := 36) ?hr ?_; (case hd => rfl); (case hg => rfl); (case hr => first | (go_simp; done) | (go_simp; rfl)); intro gb133 hg w13 hbox hb; have n0_ := Aside0.mk (below_step (by repeat (first | (with_reducible first | exact HB.out | apply bA_ | apply bN_ | apply b1_) | exact HB.out)) hb); have n1_ := Aside0.mk (hbox); have n2_ := Aside0.mk ((by rw [hg]; exact (below_size (by repeat (first | (with_reducible first | exact HB.out | apply bA_ | apply bN_ | apply b1_) | exact HB.out))) : w.heap.size ≤ gb133)); have n3_ := Aside0.mk ((by rw [hg]; exact (below_size (by repeat (first | (with_reducible first | exact HB.out | apply bA_ | apply bN_ | apply b1_) | exact HB.out))) : w.heap.size ≤ gb133)); clear HB; have HB := n0_; have BK133 := n1_; have GW133 := n2_; have GE133 := n3_; clear n0_ n1_ n2_ n3_; clear hb hbox hg; have hcz14_0 : w13.cell? ⟨gb133, 0, none⟩ = some (.int .u8 a0_0) := (blk_cell BK133.out 0).trans rfl; have hcz14_1 : w13.cell? ⟨gb133, 1, none⟩ = some (.int .i64 a0_1) := (blk_cell BK133.out 1).trans rfl; have hcz14_2 : w13.cell? ⟨gb133, 2, none⟩ = some (.string a0_2) := (blk_cell BK133.out 2).trans rfl; have hfz14_0 := blk_frozen BK133.out 0; have hfz14_1 := blk_frozen BK133.out 1; have hfz14_2 := blk_frozen BK133.out 2))
         go_ret
         exact ⟨by first | rfl | (simp [*, errW_none, errW_some] <;> rfl), by repeat (first | (with_reducible first | exact HB.out | apply bA_ | apply bN_ | apply b1_ | refine below_set ?_ GE133.out) | exact HB.out)⟩
       · rw [if_neg c12] at H
         have c12b0 : (a0_1 == 0) = false := beq_eq_false_iff_ne.mpr c12
         have c12b1 : (a0_1 != 0) = true := bne_iff_ne.mpr c12
         obtain rfl := Option.some.inj H
         go_enter Tryz.func40, Tryz.ntmps40
         go_wp2_with (first | ((with_reducible refine gate_dst (N := 1) rfl ?_); (try (refine gate_guard (by rfl) ?_; dsimp only)); refine box_event ?hg (N := 1) ?hd (cs := #[.int .u8 a0_0, .int .i64 a0_1, .string a0_2]) (t := 36) ?hr ?_; (case hd => rfl); (case hg => rfl); (case hr => first | (go_simp; done) | (go_simp; rfl)); intro gb133 hg w15 hbox hb; have n0_ := Aside0.mk (below_step (by repeat (first | (with_reducible first | exact HB.out | apply bA_ | apply bN_ | apply b1_) | exact HB.out)) hb); have n1_ := Aside0.mk (hbox); have n2_ := Aside0.mk ((by rw [hg]; exact (below_size (by repeat (first | (with_reducible first | exact HB.out | apply bA_ | apply bN_ | apply b1_) | exact HB.out))) : w.heap.size ≤ gb133)); have n3_ := Aside0.mk ((by rw [hg]; exact (below_size (by repeat (first | (with_reducible first | exact HB.out | apply bA_ | apply bN_ | apply b1_) | exact HB.out))) : w.heap.size ≤ gb133)); clear HB; have HB := n0_; have BK133 := n1_; have GW133 := n2_; have GE133 := n3_; clear n0_ n1_ n2_ n3_; clear hb hbox hg; have hcz16_0 : w15.cell? ⟨gb133, 0, none⟩ = some (.int .u8 a0_0) := (blk_cell BK133.out 0).trans rfl; have hcz16_1 : w15.cell? ⟨gb133, 1, none⟩ = some (.int .i64 a0_1) := (blk_cell BK133.out 1).trans rfl; have hcz16_2 : w15.cell? ⟨gb133, 2, none⟩ = some (.string a0_2) := (blk_cell BK133.out 2).trans rfl; have hfz16_0 := blk_frozen BK133.out 0; have hfz16_1 := blk_frozen BK133.out 1; have hfz16_2 := blk_frozen BK133.out 2))
         go_ret
         exact ⟨by first | rfl | (simp [*, errW_none, errW_some] <;> rfl), by repeat (first | (with_reducible first | exact HB.out | apply bA_ | apply bN_ | apply b1_ | refine below_set ?_ GE133.out) | exact HB.out)⟩
     · rw [if_neg c11] at H
       have c11b0 : (a0_0 == 2) = false := beq_eq_false_iff_ne.mpr c11
       have c11b1 : (a0_0 != 2) = true := bne_iff_ne.mpr c11
       by_cases c17 : a0_0 = 3
       · rw [if_pos c17] at H
         have c17b0 : (a0_0 == 3) = true := beq_iff_eq.mpr c17
         have c17b1 : (a0_0 != 3) = false := bne_eq_false_iff_eq.mpr c17
         clear c17
         by_cases c18 : a0_1 = 0
         · rw [if_pos c18] at H
           have c18b0 : (a0_1 == 0) = true := beq_iff_eq.mpr c18
           have c18b1 : (a0_1 != 0) = false := bne_eq_false_iff_eq.mpr c18
           clear c18
           obtain rfl := Option.some.inj H
           go_enter Tryz.func40, Tryz.ntmps40
           go_wp2_with (first | ((with_reducible refine gate_dst (N := 1) rfl ?_); (try (refine gate_guard (by rfl) ?_; dsimp only)); refine box_event ?hg (N := 1) ?hd (cs := #[.int .u8 a0_0, .int .i64 a0_1, .string a0_2]) (t := 36) ?hr ?_; (case hd => rfl); (case hg => rfl); (case hr => first | (go_simp; done) | (go_simp; rfl)); intro gb133 hg w19 hbox hb; have n0_ := Aside0.mk (below_step (by repeat (first | (with_reducible first | exact HB.out | apply bA_ | apply bN_ | apply b1_) | exact HB.out)) hb); have n1_ := Aside0.mk (hbox); have n2_ := Aside0.mk ((by rw [hg]; exact (below_size (by repeat (first | (with_reducible first | exact HB.out | apply bA_ | apply bN_ | apply b1_) | exact HB.out))) : w.heap.size ≤ gb133)); have n3_ := Aside0.mk ((by rw [hg]; exact (below_size (by repeat (first | (with_reducible first | exact HB.out | apply bA_ | apply bN_ | apply b1_) | exact HB.out))) : w.heap.size ≤ gb133)); clear HB; have HB := n0_; have BK133 := n1_; have GW133 := n2_; have GE133 := n3_; clear n0_ n1_ n2_ n3_; clear hb hbox hg; have hcz20_0 : w19.cell? ⟨gb133, 0, none⟩ = some (.int .u8 a0_0) := (blk_cell BK133.out 0).trans rfl; have hcz20_1 : w19.cell? ⟨gb133, 1, none⟩ = some (.int .i64 a0_1) := (blk_cell BK133.out 1).trans rfl; have hcz20_2 : w19.cell? ⟨gb133, 2, none⟩ = some (.string a0_2) := (blk_cell BK133.out 2).trans rfl; have hfz20_0 := blk_frozen BK133.out 0; have hfz20_1 := blk_frozen BK133.out 1; have hfz20_2 := blk_frozen BK133.out 2))
           go_ret
           exact ⟨by first | rfl | (simp [*, errW_none, errW_some] <;> rfl), by repeat (first | (with_reducible first | exact HB.out | apply bA_ | apply bN_ | apply b1_ | refine below_set ?_ GE133.out) | exact HB.out)⟩
         · rw [if_neg c18] at H
           have c18b0 : (a0_1 == 0) = false := beq_eq_false_iff_ne.mpr c18
           have c18b1 : (a0_1 != 0) = true := bne_iff_ne.mpr c18
           by_cases c21 : a0_1 = 1
           · rw [if_pos c21] at H
             have c21b0 : (a0_1 == 1) = true := beq_iff_eq.mpr c21
             have c21b1 : (a0_1 != 1) = false := bne_eq_false_iff_eq.mpr c21
             clear c21
             obtain rfl := Option.some.inj H
             go_enter Tryz.func40, Tryz.ntmps40
             go_wp2_with (first | ((with_reducible refine gate_dst (N := 1) rfl ?_); (try (refine gate_guard (by rfl) ?_; dsimp only)); refine box_event ?hg (N := 1) ?hd (cs := #[.int .u8 a0_0, .int .i64 a0_1, .string a0_2]) (t := 36) ?hr ?_; (case hd => rfl); (case hg => rfl); (case hr => first | (go_simp; done) | (go_simp; rfl)); intro gb133 hg w22 hbox hb; have n0_ := Aside0.mk (below_step (by repeat (first | (with_reducible first | exact HB.out | apply bA_ | apply bN_ | apply b1_) | exact HB.out)) hb); have n1_ := Aside0.mk (hbox); have n2_ := Aside0.mk ((by rw [hg]; exact (below_size (by repeat (first | (with_reducible first | exact HB.out | apply bA_ | apply bN_ | apply b1_) | exact HB.out))) : w.heap.size ≤ gb133)); have n3_ := Aside0.mk ((by rw [hg]; exact (below_size (by repeat (first | (with_reducible first | exact HB.out | apply bA_ | apply bN_ | apply b1_) | exact HB.out))) : w.heap.size ≤ gb133)); clear HB; have HB := n0_; have BK133 := n1_; have GW133 := n2_; have GE133 := n3_; clear n0_ n1_ n2_ n3_; clear hb hbox hg; have hcz23_0 : w22.cell? ⟨gb133, 0, none⟩ = some (.int .u8 a0_0) := (blk_cell BK133.out 0).trans rfl; have hcz23_1 : w22.cell? ⟨gb133, 1, none⟩ = some (.int .i64 a0_1) := (blk_cell BK133.out 1).trans rfl; have hcz23_2 : w22.cell? ⟨gb133, 2, none⟩ = some (.string a0_2) := (blk_cell BK133.out 2).trans rfl; have hfz23_0 := blk_frozen BK133.out 0; have hfz23_1 := blk_frozen BK133.out 1; have hfz23_2 := blk_frozen BK133.out 2))
             go_ret
             exact ⟨by first | rfl | (simp [*, errW_none, errW_some] <;> rfl), by repeat (first | (with_reducible first | exact HB.out | apply bA_ | apply bN_ | apply b1_ | refine below_set ?_ GE133.out) | exact HB.out)⟩
           · rw [if_neg c21] at H
             have c21b0 : (a0_1 == 1) = false := beq_eq_false_iff_ne.mpr c21
             have c21b1 : (a0_1 != 1) = true := bne_iff_ne.mpr c21
             obtain rfl := Option.some.inj H
             go_enter Tryz.func40, Tryz.ntmps40
             go_wp2_with (first | ((with_reducible refine gate_dst (N := 1) rfl ?_); (try (refine gate_guard (by rfl) ?_; dsimp only)); refine box_event ?hg (N := 1) ?hd (cs := #[.int .u8 a0_0, .int .i64 a0_1, .string a0_2]) (t := 36) ?hr ?_; (case hd => rfl); (case hg => rfl); (case hr => first | (go_simp; done) | (go_simp; rfl)); intro gb133 hg w24 hbox hb; have n0_ := Aside0.mk (below_step (by repeat (first | (with_reducible first | exact HB.out | apply bA_ | apply bN_ | apply b1_) | exact HB.out)) hb); have n1_ := Aside0.mk (hbox); have n2_ := Aside0.mk ((by rw [hg]; exact (below_size (by repeat (first | (with_reducible first | exact HB.out | apply bA_ | apply bN_ | apply b1_) | exact HB.out))) : w.heap.size ≤ gb133)); have n3_ := Aside0.mk ((by rw [hg]; exact (below_size (by repeat (first | (with_reducible first | exact HB.out | apply bA_ | apply bN_ | apply b1_) | exact HB.out))) : w.heap.size ≤ gb133)); clear HB; have HB := n0_; have BK133 := n1_; have GW133 := n2_; have GE133 := n3_; clear n0_ n1_ n2_ n3_; clear hb hbox hg; have hcz25_0 : w24.cell? ⟨gb133, 0, none⟩ = some (.int .u8 a0_0) := (blk_cell BK133.out 0).trans rfl; have hcz25_1 : w24.cell? ⟨gb133, 1, none⟩ = some (.int .i64 a0_1) := (blk_cell BK133.out 1).trans rfl; have hcz25_2 : w24.cell? ⟨gb133, 2, none⟩ = some (.string a0_2) := (blk_cell BK133.out 2).trans rfl; have hfz25_0 := blk_frozen BK133.out 0; have hfz25_1 := blk_frozen BK133.out 1; have hfz25_2 := blk_frozen BK133.out 2))
             go_ret
             exact ⟨by first | rfl | (simp [*, errW_none, errW_some] <;> rfl), by repeat (first | (with_reducible first | exact HB.out | apply bA_ | apply bN_ | apply b1_ | refine below_set ?_ GE133.out) | exact HB.out)⟩
       · rw [if_neg c17] at H
         have c17b0 : (a0_0 == 3) = false := beq_eq_false_iff_ne.mpr c17
         have c17b1 : (a0_0 != 3) = true := bne_iff_ne.mpr c17
         obtain rfl := Option.some.inj H
         go_enter Tryz.func40, Tryz.ntmps40
         go_wp2_with (first | ((with_reducible refine gate_dst (N := 1) rfl ?_); (try (refine gate_guard (by rfl) ?_; dsimp only)); refine box_event ?hg (N := 1) ?hd (cs := #[.int .u8 a0_0, .int .i64 a0_1, .string a0_2]) (t := 36) ?hr ?_; (case hd => rfl); (case hg => rfl); (case hr => first | (go_simp; done) | (go_simp; rfl)); intro gb133 hg w26 hbox hb; have n0_ := Aside0.mk (below_step (by repeat (first | (with_reducible first | exact HB.out | apply bA_ | apply bN_ | apply b1_) | exact HB.out)) hb); have n1_ := Aside0.mk (hbox); have n2_ := Aside0.mk ((by rw [hg]; exact (below_size (by repeat (first | (with_reducible first | exact HB.out | apply bA_ | apply bN_ | apply b1_) | exact HB.out))) : w.heap.size ≤ gb133)); have n3_ := Aside0.mk ((by rw [hg]; exact (below_size (by repeat (first | (with_reducible first | exact HB.out | apply bA_ | apply bN_ | apply b1_) | exact HB.out))) : w.heap.size ≤ gb133)); clear HB; have HB := n0_; have BK133 := n1_; have GW133 := n2_; have GE133 := n3_; clear n0_ n1_ n2_ n3_; clear hb hbox hg; have hcz27_0 : w26.cell? ⟨gb133, 0, none⟩ = some (.int .u8 a0_0) := (blk_cell BK133.out 0).trans rfl; have hcz27_1 : w26.cell? ⟨gb133, 1, none⟩ = some (.int .i64 a0_1) := (blk_cell BK133.out 1).trans rfl; have hcz27_2 : w26.cell? ⟨gb133, 2, none⟩ = some (.string a0_2) := (blk_cell BK133.out 2).trans rfl; have hfz27_0 := blk_frozen BK133.out 0; have hfz27_1 := blk_frozen BK133.out 1; have hfz27_2 := blk_frozen BK133.out 2))
         go_ret
         exact ⟨by first | rfl | (simp [*, errW_none, errW_some] <;> rfl), by repeat (first | (with_reducible first | exact HB.out | apply bA_ | apply bN_ | apply b1_ | refine below_set ?_ GE133.out) | exact HB.out)⟩
def r6_fits.f (a0_0 : Int) (a0_1 : Int) (a0_2 : ByteArray) (a1 : Int) : Option (Bool) := if a0_0 = 0 then (some true) else (if a1 = 0 then (some true) else (some (a0_0 == a1)))
theorem r6_fits.calls (a0_0 : Int) (a0_1 : Int) (a0_2 : ByteArray) (a1 : Int) (r : Bool) (w : World) (h : r6_fits.f a0_0 a0_1 a0_2 a1 = some r) :
 Calls Tryz.prog 41 #[.agg #[.int .u8 a0_0, .int .i64 a0_1, .string a0_2], .int .u8 a1] w fun e w' => e = .returned (.bool r) ∧ Below w.heap.size w w' := by
 have hu36 := Tryz.underlying36
 have HB := Aside0.mk (Below.refl w.heap.size w)
 have H : (if a0_0 = 0 then (some true) else (if a1 = 0 then (some true) else (some (a0_0 == a1)))) = some r := h
 clear h
 by_cases c3 : a0_0 = 0
 · rw [if_pos c3] at H
   have c3b0 : (a0_0 == 0) = true := beq_iff_eq.mpr c3
   have c3b1 : (a0_0 != 0) = false := bne_eq_false_iff_eq.mpr c3
   clear c3
   obtain rfl := Option.some.inj H
   go_enter Tryz.func41, Tryz.ntmps41
   go_wp2_with (first | ((with_reducible refine gate_dst (N := 2) rfl ?_); refine box_event ?hg (N := 2) ?hd (cs := #[.int .u8 a0_0, .int .i64 a0_1, .string a0_2]) (t := 36) ?hr ?_; (case hd => rfl); (case hg => rfl); (case hr => first | (go_simp; done) | (go_simp; rfl)); intro gb134 hg w4 hbox hb; have n0_ := Aside0.mk (below_step (by repeat (first | (with_reducible first | exact HB.out | apply bA_ | apply bN_ | apply b1_) | exact HB.out)) hb); have n1_ := Aside0.mk (hbox); have n2_ := Aside0.mk ((by rw [hg]; exact (below_size (by repeat (first | (with_reducible first | exact HB.out | apply bA_ | apply bN_ | apply b1_) | exact HB.out))) : w.heap.size ≤ gb134)); have n3_ := Aside0.mk ((by rw [hg]; exact (below_size (by repeat (first | (with_reducible first | exact HB.out | apply bA_ | apply bN_ | apply b1_) | exact HB.out))) : w.heap.size ≤ gb134)); clear HB; have HB := n0_; have BK134 := n1_; have GW134 := n2_; have GE134 := n3_; clear n0_ n1_ n2_ n3_; clear hb hbox hg; have hcz5_0 : w4.cell? ⟨gb134, 0, none⟩ = some (.int .u8 a0_0) := (blk_cell BK134.out 0).trans rfl; have hcz5_1 : w4.cell? ⟨gb134, 1, none⟩ = some (.int .i64 a0_1) := (blk_cell BK134.out 1).trans rfl; have hcz5_2 : w4.cell? ⟨gb134, 2, none⟩ = some (.string a0_2) := (blk_cell BK134.out 2).trans rfl; have hfz5_0 := blk_frozen BK134.out 0; have hfz5_1 := blk_frozen BK134.out 1; have hfz5_2 := blk_frozen BK134.out 2))
   go_ret
   exact ⟨by first | rfl | (simp [*, errW_none, errW_some] <;> rfl), by repeat (first | (with_reducible first | exact HB.out | apply bA_ | apply bN_ | apply b1_ | refine below_set ?_ GE134.out) | exact HB.out)⟩
 · rw [if_neg c3] at H
   have c3b0 : (a0_0 == 0) = false := beq_eq_false_iff_ne.mpr c3
   have c3b1 : (a0_0 != 0) = true := bne_iff_ne.mpr c3
   by_cases c6 : a1 = 0
   · rw [if_pos c6] at H
     have c6b0 : (a1 == 0) = true := beq_iff_eq.mpr c6
     have c6b1 : (a1 != 0) = false := bne_eq_false_iff_eq.mpr c6
     clear c6
     obtain rfl := Option.some.inj H
     go_enter Tryz.func41, Tryz.ntmps41
     go_wp2_with (first | ((with_reducible refine gate_dst (N := 2) rfl ?_); refine box_event ?hg (N := 2) ?hd (cs := #[.int .u8 a0_0, .int .i64 a0_1, .string a0_2]) (t := 36) ?hr ?_; (case hd => rfl); (case hg => rfl); (case hr => first | (go_simp; done) | (go_simp; rfl)); intro gb134 hg w7 hbox hb; have n0_ := Aside0.mk (below_step (by repeat (first | (with_reducible first | exact HB.out | apply bA_ | apply bN_ | apply b1_) | exact HB.out)) hb); have n1_ := Aside0.mk (hbox); have n2_ := Aside0.mk ((by rw [hg]; exact (below_size (by repeat (first | (with_reducible first | exact HB.out | apply bA_ | apply bN_ | apply b1_) | exact HB.out))) : w.heap.size ≤ gb134)); have n3_ := Aside0.mk ((by rw [hg]; exact (below_size (by repeat (first | (with_reducible first | exact HB.out | apply bA_ | apply bN_ | apply b1_) | exact HB.out))) : w.heap.size ≤ gb134)); clear HB; have HB := n0_; have BK134 := n1_; have GW134 := n2_; have GE134 := n3_; clear n0_ n1_ n2_ n3_; clear hb hbox hg; have hcz8_0 : w7.cell? ⟨gb134, 0, none⟩ = some (.int .u8 a0_0) := (blk_cell BK134.out 0).trans rfl; have hcz8_1 : w7.cell? ⟨gb134, 1, none⟩ = some (.int .i64 a0_1) := (blk_cell BK134.out 1).trans rfl; have hcz8_2 : w7.cell? ⟨gb134, 2, none⟩ = some (.string a0_2) := (blk_cell BK134.out 2).trans rfl; have hfz8_0 := blk_frozen BK134.out 0; have hfz8_1 := blk_frozen BK134.out 1; have hfz8_2 := blk_frozen BK134.out 2))
     go_ret
     exact ⟨by first | rfl | (simp [*, errW_none, errW_some] <;> rfl), by repeat (first | (with_reducible first | exact HB.out | apply bA_ | apply bN_ | apply b1_ | refine below_set ?_ GE134.out) | exact HB.out)⟩
   · rw [if_neg c6] at H
     have c6b0 : (a1 == 0) = false := beq_eq_false_iff_ne.mpr c6
     have c6b1 : (a1 != 0) = true := bne_iff_ne.mpr c6
     obtain rfl := Option.some.inj H
     go_enter Tryz.func41, Tryz.ntmps41
     go_wp2_with (first | ((with_reducible refine gate_dst (N := 2) rfl ?_); refine box_event ?hg (N := 2) ?hd (cs := #[.int .u8 a0_0, .int .i64 a0_1, .string a0_2]) (t := 36) ?hr ?_; (case hd => rfl); (case hg => rfl); (case hr => first | (go_simp; done) | (go_simp; rfl)); intro gb134 hg w9 hbox hb; have n0_ := Aside0.mk (below_step (by repeat (first | (with_reducible first | exact HB.out | apply bA_ | apply bN_ | apply b1_) | exact HB.out)) hb); have n1_ := Aside0.mk (hbox); have n2_ := Aside0.mk ((by rw [hg]; exact (below_size (by repeat (first | (with_reducible first | exact HB.out | apply bA_ | apply bN_ | apply b1_) | exact HB.out))) : w.heap.size ≤ gb134)); have n3_ := Aside0.mk ((by rw [hg]; exact (below_size (by repeat (first | (with_reducible first | exact HB.out | apply bA_ | apply bN_ | apply b1_) | exact HB.out))) : w.heap.size ≤ gb134)); clear HB; have HB := n0_; have BK134 := n1_; have GW134 := n2_; have GE134 := n3_; clear n0_ n1_ n2_ n3_; clear hb hbox hg; have hcz10_0 : w9.cell? ⟨gb134, 0, none⟩ = some (.int .u8 a0_0) := (blk_cell BK134.out 0).trans rfl; have hcz10_1 : w9.cell? ⟨gb134, 1, none⟩ = some (.int .i64 a0_1) := (blk_cell BK134.out 1).trans rfl; have hcz10_2 : w9.cell? ⟨gb134, 2, none⟩ = some (.string a0_2) := (blk_cell BK134.out 2).trans rfl; have hfz10_0 := blk_frozen BK134.out 0; have hfz10_1 := blk_frozen BK134.out 1; have hfz10_2 := blk_frozen BK134.out 2))
     go_ret
     exact ⟨by first | rfl | (simp [*, errW_none, errW_some] <;> rfl), by repeat (first | (with_reducible first | exact HB.out | apply bA_ | apply bN_ | apply b1_ | refine below_set ?_ GE134.out) | exact HB.out)⟩
mutual
def r6_Valid.l0 : Nat → List (List (S36)) → List Int → Int → Option (Bool)
 | 0, _, _, _ => none
 | k + 1, x0, x3, x4 => if x4 < (x0.length : Int) then (if 0 ≤ x4 then (if ((rd_L4 x0 x4).length : Int) = (x3.length : Int) then (r6_Valid.l1 k x0 x3 x4 0) else (some false)) else (none)) else (some true)
def r6_Valid.l1 : Nat → List (List (S36)) → List Int → Int → Int → Option (Bool)
 | 0, _, _, _, _ => none
 | k + 1, x0, x3, x4, x5 => if 0 ≤ x4 then (if x4 < (x0.length : Int) then (if x5 < ((rd_L4 x0 x4).length : Int) then (if 0 ≤ x5 then ((r1_Valid.f ((rd_T36 (rd_L4 x0 x4) x5).f0) ((rd_T36 (rd_L4 x0 x4) x5).f1) ((rd_T36 (rd_L4 x0 x4) x5).f2)).bind fun t144 => (if t144 = true then (if x5 < (x3.length : Int) then ((r6_fits.f ((rd_T36 (rd_L4 x0 x4) x5).f0) ((rd_T36 (rd_L4 x0 x4) x5).f1) ((rd_T36 (rd_L4 x0 x4) x5).f2) (rd x3 x5)).bind fun t146 => (r6_Valid.j2 k x0 x3 x4 x5 (!t146) ((rd_T36 (rd_L4 x0 x4) x5).f0) ((rd_T36 (rd_L4 x0 x4) x5).f1) ((rd_T36 (rd_L4 x0 x4) x5).f2))) else (none)) else (r6_Valid.j2 k x0 x3 x4 x5 true ((rd_T36 (rd_L4 x0 x4) x5).f0) ((rd_T36 (rd_L4 x0 x4) x5).f1) ((rd_T36 (rd_L4 x0 x4) x5).f2)))) else (none)) else (r6_Valid.l0 k x0 x3 (wrap64 (x4 + 1)))) else (none)) else (none)
def r6_Valid.j2 : Nat → List (List (S36)) → List Int → Int → Int → Bool → Int → Int → ByteArray → Option (Bool)
 | 0, _, _, _, _, _, _, _, _ => none
 | k + 1, x0, x3, x4, x5, x56, x144000, x144001, x144002 => if x56 = true then (some false) else (if x144000 = 0 then (r6_Valid.l1 k x0 x3 x4 (wrap64 (x5 + 1))) else (if 0 ≤ x5 then (if x5 < (x3.length : Int) then (r6_Valid.l1 k x0 (x3.set (x5 : Int).toNat x144000) x4 (wrap64 (x5 + 1))) else (none)) else (none)))
end
def r6_Valid.f (k : Nat) (l0 : List (List (S36))) : Option (Bool) := if (l0.length : Int) = 0 then (some true) else (if 0 < (l0.length : Int) then (if 0 ≤ ((rd_L4 l0 0).length : Int) then (if (((rd_L4 l0 0).length : Int) : Int).toNat ≤ 281474976710656 then (r6_Valid.l0 k l0 (List.replicate (((rd_L4 l0 0).length : Int) : Int).toNat 0) 0) else (none)) else (none)) else (none))
def r6_Valid.T13 : Bool × List (List Nat × List Nat) := (true, [([], []), ([0], [0]), ([1], [1]), ([2, 1], [2]), ([3], [3]), ([3], [3]), ([3], [3]), ([5, 6, 3], [3, 5, 6]), ([7, 3], [3, 7]), ([4, 8, 3, 3], [3, 4, 8]), ([9, 3], [3, 9]), ([3, 10], [3, 10])])
def r6_Valid.B13 : List Nat := [0, 1, 3, 7, 15, 15, 15, 111, 239, 511, 1023, 2047]
theorem r6_Valid.tab13 : rtab .any (opsOf Tryz.f11 13) = r6_Valid.T13 := by kernel_rfl
theorem r6_Valid.bits13 : waitsOk r6_Valid.T13.2 r6_Valid.B13 = true := by kernel_rfl
theorem r6_Valid.calls (k : Nat) (A0 : Option Addr) (c0 : Nat) (l0 : List (List (S36))) (r : Bool) (w : World) (hr0 : Kd.C (Kd.slice 36 k36) w A0 l0.length l0) (hc0 : l0.length ≤ c0) (h : r6_Valid.f k l0 = some r) :
 Calls Tryz.prog 11 #[.slice A0 l0.length c0] w fun e w' => e = .returned (.bool r) ∧ Below w.heap.size w w' := by
 have hu36 := Tryz.underlying36
 have HR0 := Aside0.mk hr0
 have HC0 := Aside0.mk hc0
 clear hr0 hc0
 have HB := Aside0.mk (Below.refl w.heap.size w)
 have H : (if (l0.length : Int) = 0 then (some true) else (if 0 < (l0.length : Int) then (if 0 ≤ ((rd_L4 l0 0).length : Int) then (if (((rd_L4 l0 0).length : Int) : Int).toNat ≤ 281474976710656 then (r6_Valid.l0 k l0 (List.replicate (((rd_L4 l0 0).length : Int) : Int).toNat 0) 0) else (none)) else (none)) else (none))) = some r := h
 clear h
 by_cases c2 : (l0.length : Int) = 0
 · rw [if_pos c2] at H
   have c2b0 : ((l0.length : Int) == 0) = true := beq_iff_eq.mpr c2
   have c2b1 : ((l0.length : Int) != 0) = false := bne_eq_false_iff_eq.mpr c2
   clear c2
   obtain rfl := Option.some.inj H
   go_enter Tryz.func11, Tryz.ntmps11
   go_wp2
   go_ret
   exact ⟨by first | rfl | (simp [*, errW_none, errW_some] <;> rfl), by repeat (first | (with_reducible first | exact HB.out | apply bA_ | apply bN_ | apply b1_) | exact HB.out)⟩
 · rw [if_neg c2] at H
   have c2b0 : ((l0.length : Int) == 0) = false := beq_eq_false_iff_ne.mpr c2
   have c2b1 : ((l0.length : Int) != 0) = true := bne_iff_ne.mpr c2
   have c2b2 : ¬ (l0 = []) := fun h_ => c2 (by rw [h_]; rfl)
   by_cases c3 : 0 < (l0.length : Int)
   · rw [if_pos c3] at H
     have c3b0 : decide (0 < (l0.length : Int)) = true := dT_ c3
     have c3b1 : decide (0 < l0.length) = true := dT_ (by omega)
     clear c3
     by_cases c4 : 0 ≤ ((rd_L4 l0 0).length : Int)
     · rw [if_pos c4] at H
       have c4b0 := eq_true c4
       have c4b1 : decide (0 ≤ ((rd_L4 l0 0).length : Int)) = true := dT_ c4
       clear c4
       by_cases c5 : (((rd_L4 l0 0).length : Int) : Int).toNat ≤ 281474976710656
       · rw [if_pos c5] at H
         have c5b0 := eq_true c5
         have c5b1 : decide ((((rd_L4 l0 0).length : Int) : Int).toNat ≤ 281474976710656) = true := dT_ c5
         clear c5
         obtain ⟨y136, hy136⟩ : ∃ y_ : List Int, y_ = (List.replicate (((rd_L4 l0 0).length : Int) : Int).toNat 0) := ⟨_, rfl⟩
         replace H : (r6_Valid.l0 k l0 y136 0) = some r := by first | (rw [hy136]; with_reducible exact H) | (have H2_ := (Option.bind_some _ _).symm.trans H; rw [hy136]; with_reducible exact H2_) | (have H2_ := (Option.bind_some _ _).symm.trans H; with_reducible exact H2_) | with_reducible exact H | (rw [hy136]; exact H) | exact H
         have Ny136 := Aside0.mk hy136
         clear hy136
         have H' := Aside0.mk H
         clear H
         have p135 : 0 ≤ (0 : Int) := (by omega)
         have q135 : 0 < (l0.length : Int) := oT_ (by assumption)
         obtain ⟨ad135, A135_0, c135_0, e135, hx135_0, hl135_0, hi135_0⟩ := at_L4 HR0.out 0 p135 q135
         cases e135
         have qi135 : (0 < l0.length) = True := eq_true (by omega)
         (try rw [show ((0 : Int)).toNat = 0 from rfl] at hx135_0)
         (try rw [Addr.add_zero'] at hx135_0)
         have HR135_0 := Aside0.mk hi135_0
         have HC135_0 := Aside0.mk hl135_0
         clear hi135_0 hl135_0
         replace p135 := eq_true p135
         replace q135 := eq_true q135
         go_enter Tryz.func11, Tryz.ntmps11
         go_wp2_with (first | ((with_reducible refine gate_dst (N := 14) rfl ?_); refine Kd.R_make (Kd.int .u8) _ 34 rfl (N := 14) rfl 59 _ _ rfl ((rd_L4 l0 0).length : Int) rfl rfl Tryz.underlying59 (.int .u8 0) 1 info34 rfl (by decide) (by omega) 0 (ok := fun _ => True) (okp := fun _ => True) rfl (fun _ hk => hk) trivial (oT_ (by assumption)) (Nat.le_trans (Nat.mul_le_mul_right _ (oT_ (by assumption) : ((rd_L4 l0 0).length : Int).toNat ≤ 281474976710656)) (by omega)) (Below.refl _ _) (Nat.le_refl _) ?_; intro v137 w6 ho7 hb hg_ hnew_; clear hg_ hnew_; (first | rw [← Ny136.out] at ho7 | (simp only [Int.reduceToNat] at ho7; rw [← Ny136.out] at ho7)); have n0_ := Aside0.mk (Kd.R_lower ho7 (below_size (by repeat (first | (with_reducible first | exact HB.out | apply bA_ | apply bN_ | apply b1_) | exact HB.out)))); have n1_ := Aside0.mk (below_step (by repeat (first | (with_reducible first | exact HB.out | apply bA_ | apply bN_ | apply b1_) | exact HB.out)) hb); clear HB; have HO138 := n0_; have HB := n1_; clear n0_ n1_; clear hb ho7))
         go_loopg [4] k (fun kq v4 w' => ∃ (x3_1 : List Int) (x4_1 : Int), v4 = .int .i64 x4_1 ∧ Aside0 (r6_Valid.l0 kq l0 x3_1 x4_1 = some r) ∧ Aside0 (kq ≤ k) ∧ Aside0 (Kd.R (Kd.int .u8) 34 w' w.heap.size (fun _ => True) v137 x3_1) ∧ Aside0 (Below w.heap.size w w'))
         case atStart => exact ⟨(y136), (0), (by first | rfl | (simp; done) | (simp [*]; done)), H', ⟨Nat.le_refl _⟩, ⟨by (with_reducible repeat (first | apply Kd.R_alloc | apply Kd.R_drewN | apply Kd.R_drew)); exact HO138.out⟩, ⟨by repeat (first | (with_reducible first | exact HB.out | apply bA_ | apply bN_ | apply b1_) | exact HB.out)⟩⟩
         case round =>
          clear H'
          try clear c1
          try clear p1
          try clear q1
          try clear hx1
          try clear qi1
          try clear c2
          try clear c2b0
          try clear c2b1
          try clear c2b2
          try clear p2
          try clear c3
          try clear c3b0
          try clear c3b1
          try clear c4
          try clear c4b0
          try clear c4b1
          try clear c5
          try clear c5b0
          try clear c5b1
          try clear hx135_0
          try clear p135
          try clear q135
          obtain ⟨x3_1, x4_1, rfl, HA, HK1, HO_3, HB⟩ := hrel
          cases gk with
          | zero => exact absurd HA.out (by simp [r6_Valid.l0])
          | succ k1 =>
           have H := HA.out
           clear HA
           simp only [r6_Valid.l0] at H
           by_cases c8 : x4_1 < (l0.length : Int)
           · rw [if_pos c8] at H
             have c8b0 : decide (x4_1 < (l0.length : Int)) = true := dT_ c8
             clear c8
             by_cases c9 : 0 ≤ x4_1
             · rw [if_pos c9] at H
               have c9b0 : decide (0 ≤ x4_1) = true := dT_ c9
               clear c9
               by_cases c10 : ((rd_L4 l0 x4_1).length : Int) = (x3_1.length : Int)
               · rw [if_pos c10] at H
                 have c10b0 : (((rd_L4 l0 x4_1).length : Int) == (x3_1.length : Int)) = true := beq_iff_eq.mpr c10
                 have c10b1 : (((rd_L4 l0 x4_1).length : Int) != (x3_1.length : Int)) = false := bne_eq_false_iff_eq.mpr c10
                 have c10b2 : ((rd_L4 l0 x4_1).length == x3_1.length) = true := by first | simpa using c10 | (simp at c10 ⊢; omega)
                 clear c10
                 have H' := Aside0.mk H
                 clear H
                 have p139 : 0 ≤ (x4_1 : Int) := oT_ (by assumption)
                 have q139 : x4_1 < (l0.length : Int) := oT_ (by assumption)
                 obtain ⟨ad139, A139_0, c139_0, e139, hx139_0, hl139_0, hi139_0⟩ := at_L4 HR0.out x4_1 p139 q139
                 obtain rfl : ad135 = ad139 := (by injection e139)
                 replace hx139_0 := (HB.out.cell (bLC_ w _ hx139_0)).trans hx139_0
                 have HR139_0 := Aside0.mk hi139_0
                 have HC139_0 := Aside0.mk hl139_0
                 clear hi139_0 hl139_0
                 replace p139 := eq_true p139
                 replace q139 := eq_true q139
                 obtain ⟨Ao11, co11, eo11⟩ := Kd.R_slice HO_3.out
                 subst eo11
                 go_wp2
                 go_loopg [5] k1 (fun kq v5 w' => ∃ (x3_2 : List Int) (x5_2 : Int), v5 = .int .i64 x5_2 ∧ Aside0 (r6_Valid.l1 kq l0 x3_2 x4_1 x5_2 = some r) ∧ Aside0 (kq ≤ k1) ∧ Aside0 (Kd.R (Kd.int .u8) 34 w' w.heap.size (fun _ => True) (.slice Ao11 x3_1.length co11) x3_2) ∧ Aside0 (Below w.heap.size w w'))
                 case atStart => exact ⟨(x3_1), (0), (by first | rfl | (simp; done) | (simp [*]; done)), H', ⟨Nat.le_refl _⟩, ⟨by (with_reducible repeat (first | apply Kd.R_alloc | apply Kd.R_drewN | apply Kd.R_drew)); exact HO_3.out⟩, ⟨by repeat (first | (with_reducible first | exact HB.out | apply bA_ | apply bN_ | apply b1_) | exact HB.out)⟩⟩
                 case round =>
                  clear H'
                  try clear c1
                  try clear p1
                  try clear q1
                  try clear hx1
                  try clear qi1
                  try clear c2
                  try clear c2b0
                  try clear c2b1
                  try clear c2b2
                  try clear p2
                  try clear c3
                  try clear c3b0
                  try clear c3b1
                  try clear c4
                  try clear c4b0
                  try clear c4b1
                  try clear c5
                  try clear c5b0
                  try clear c5b1
                  try clear c8
                  try clear c8b0
                  try clear c9
                  try clear c9b0
                  try clear c10
                  try clear c10b0
                  try clear c10b1
                  try clear c10b2
                  try clear c11
                  try clear hx135_0
                  try clear hx139_0
                  try clear p1
                  try clear p135
                  try clear p139
                  try clear p2
                  try clear q1
                  try clear q135
                  try clear q139
                  obtain ⟨x3_2, x5_2, rfl, HA, HK2, HO_3, HB⟩ := hrel
                  have hl3_2 := (Kd.R_reads' HO_3.out).1
                  rw [hl3_2] at HO_3
                  (try simp only [hl3_2])
                  cases gk with
                  | zero => exact absurd HA.out (by simp [r6_Valid.l1])
                  | succ k2 =>
                   have H := HA.out
                   clear HA
                   simp only [r6_Valid.l1] at H
                   by_cases c12 : 0 ≤ x4_1
                   · rw [if_pos c12] at H
                     have c12b0 : decide (0 ≤ x4_1) = true := dT_ c12
                     clear c12
                     by_cases c13 : x4_1 < (l0.length : Int)
                     · rw [if_pos c13] at H
                       have c13b0 : decide (x4_1 < (l0.length : Int)) = true := dT_ c13
                       clear c13
                       by_cases c14 : x5_2 < ((rd_L4 l0 x4_1).length : Int)
                       · rw [if_pos c14] at H
                         have c14b0 : decide (x5_2 < ((rd_L4 l0 x4_1).length : Int)) = true := dT_ c14
                         clear c14
                         by_cases c15 : 0 ≤ x5_2
                         · rw [if_pos c15] at H
                           have c15b0 : decide (0 ≤ x5_2) = true := dT_ c15
                           clear c15
                           have HC16 := Aside0.mk H
                           clear H
                           have p140 : 0 ≤ (x4_1 : Int) := oT_ (by assumption)
                           have q140 : x4_1 < (l0.length : Int) := oT_ (by assumption)
                           obtain ⟨ad140, A140_0, c140_0, e140, hx140_0, hl140_0, hi140_0⟩ := at_L4 HR0.out x4_1 p140 q140
                           obtain rfl : ad135 = ad140 := (by injection e140)
                           replace hx140_0 := (HB.out.cell (bLC_ w _ hx140_0)).trans hx140_0
                           have HR140_0 := Aside0.mk hi140_0
                           have HC140_0 := Aside0.mk hl140_0
                           clear hi140_0 hl140_0
                           replace p140 := eq_true p140
                           replace q140 := eq_true q140
                           have p141 : 0 ≤ (x4_1 : Int) := oT_ (by assumption)
                           have q141 : x4_1 < (l0.length : Int) := oT_ (by assumption)
                           obtain ⟨ad141, A141_0, c141_0, e141, hx141_0, hl141_0, hi141_0⟩ := at_L4 HR0.out x4_1 p141 q141
                           obtain rfl : ad135 = ad141 := (by injection e141)
                           replace hx141_0 := (HB.out.cell (bLC_ w _ hx141_0)).trans hx141_0
                           have HR141_0 := Aside0.mk hi141_0
                           have HC141_0 := Aside0.mk hl141_0
                           clear hi141_0 hl141_0
                           replace p141 := eq_true p141
                           replace q141 := eq_true q141
                           have ea_ := Option.some.inj (hx140_0.symm.trans hx141_0)
                           injection ea_ with ea_ en_ ec_
                           subst ea_
                           subst ec_
                           clear en_
                           have p142 : 0 ≤ (x5_2 : Int) := oT_ (by assumption)
                           have q142 : x5_2 < ((rd_L4 l0 x4_1).length : Int) := oT_ (by assumption)
                           obtain ⟨ad142, e142, hx142_0, hx142_1, hx142_2⟩ := at_T36 HR141_0.out x5_2 p142 q142
                           cases e142
                           replace hx142_0 := (HB.out.cell (bLC_ w _ hx142_0)).trans hx142_0
                           replace hx142_1 := (HB.out.cell (bLC_ w _ hx142_1)).trans hx142_1
                           replace hx142_2 := (HB.out.cell (bLC_ w _ hx142_2)).trans hx142_2
                           replace p142 := eq_true p142
                           replace q142 := eq_true q142
                           go_upto_region 13 with (first | ((with_reducible refine gate_dst (N := 6) rfl ?_); refine box_event ?hg (N := 6) ?hd (cs := #[.int .u8 0, .int .i64 0, .string (⟨#[]⟩ : ByteArray)]) (t := 36) ?hr ?_; (case hd => rfl); (case hg => rfl); (case hr => first | (go_simp; done) | (go_simp; rfl)); intro gb143 hg w17 hbox hb; have n0_ := Aside0.mk (Kd.R_below (by (with_reducible repeat (first | apply Kd.R_alloc | apply Kd.R_drewN | apply Kd.R_drew)); exact HO_3.out) hb); have n1_ := Aside0.mk (below_step (by repeat (first | (with_reducible first | exact HB.out | apply bA_ | apply bN_ | apply b1_) | exact HB.out)) hb); have n2_ := Aside0.mk (hbox); have n3_ := Aside0.mk ((by rw [hg]; exact (below_size (by repeat (first | (with_reducible first | exact HB.out | apply bA_ | apply bN_ | apply b1_) | exact HB.out))) : w.heap.size ≤ gb143)); have n4_ := Aside0.mk ((by rw [hg]; exact (below_size (by repeat (first | (with_reducible first | exact HB.out | apply bA_ | apply bN_ | apply b1_) | exact HB.out))) : w.heap.size ≤ gb143)); clear HO_3; clear HB; have HO_3 := n0_; have HB := n1_; have BK143 := n2_; have GW143 := n3_; have GE143 := n4_; clear n0_ n1_ n2_ n3_ n4_; clear hb hbox hg; have hcz18_0 : w17.cell? ⟨gb143, 0, none⟩ = some (.int .u8 0) := (blk_cell BK143.out 0).trans rfl; have hcz18_1 : w17.cell? ⟨gb143, 1, none⟩ = some (.int .i64 0) := (blk_cell BK143.out 1).trans rfl; have hcz18_2 : w17.cell? ⟨gb143, 2, none⟩ = some (.string (⟨#[]⟩ : ByteArray)) := (blk_cell BK143.out 2).trans rfl; have hfz18_0 := blk_frozen BK143.out 0; have hfz18_1 := blk_frozen BK143.out 1; have hfz18_2 := blk_frozen BK143.out 2))
                           (try simp only [Act.put, sTA_, sCZ_, sCS_])
                           go_cut [56] (fun v56 wc => ∃ (kq : Nat) (x56_15 : Bool), v56 = .bool x56_15 ∧ Aside0 (r6_Valid.j2 kq l0 x3_2 x4_1 x5_2 x56_15 ((rd_T36 (rd_L4 l0 x4_1) x5_2).f0) ((rd_T36 (rd_L4 l0 x4_1) x5_2).f1) ((rd_T36 (rd_L4 l0 x4_1) x5_2).f2) = some r) ∧ Aside0 (kq ≤ k2) ∧ Aside0 (Kd.R (Kd.int .u8) 34 wc w.heap.size (fun _ => True) (.slice Ao11 x3_2.length co11) x3_2) ∧ Aside0 (wc.heap[gb143]? = some (.cells #[.int .u8 ((rd_T36 (rd_L4 l0 x4_1) x5_2).f0), .int .i64 ((rd_T36 (rd_L4 l0 x4_1) x5_2).f1), .string ((rd_T36 (rd_L4 l0 x4_1) x5_2).f2)] 36 (0, 0))) ∧ Aside0 (Below w.heap.size w wc))
                           case first =>
                            have H := HC16.out
                            clear HC16
                            replace H := Option.bind_eq_some_iff.mp H
                            obtain ⟨t144, A190, H⟩ := H
                            replace H : (if t144 = true then (if x5_2 < (x3_2.length : Int) then ((r6_fits.f ((rd_T36 (rd_L4 l0 x4_1) x5_2).f0) ((rd_T36 (rd_L4 l0 x4_1) x5_2).f1) ((rd_T36 (rd_L4 l0 x4_1) x5_2).f2) (rd x3_2 x5_2)).bind fun t146 => (r6_Valid.j2 k2 l0 x3_2 x4_1 x5_2 (!t146) ((rd_T36 (rd_L4 l0 x4_1) x5_2).f0) ((rd_T36 (rd_L4 l0 x4_1) x5_2).f1) ((rd_T36 (rd_L4 l0 x4_1) x5_2).f2))) else (none)) else (r6_Valid.j2 k2 l0 x3_2 x4_1 x5_2 true ((rd_T36 (rd_L4 l0 x4_1) x5_2).f0) ((rd_T36 (rd_L4 l0 x4_1) x5_2).f1) ((rd_T36 (rd_L4 l0 x4_1) x5_2).f2))) = some r := H
                            have A19 := Aside0.mk A190
                            clear A190
                            by_cases c20 : t144 = true
                            · subst c20
                              have H1 : (if x5_2 < (x3_2.length : Int) then ((r6_fits.f ((rd_T36 (rd_L4 l0 x4_1) x5_2).f0) ((rd_T36 (rd_L4 l0 x4_1) x5_2).f1) ((rd_T36 (rd_L4 l0 x4_1) x5_2).f2) (rd x3_2 x5_2)).bind fun t146 => (r6_Valid.j2 k2 l0 x3_2 x4_1 x5_2 (!t146) ((rd_T36 (rd_L4 l0 x4_1) x5_2).f0) ((rd_T36 (rd_L4 l0 x4_1) x5_2).f1) ((rd_T36 (rd_L4 l0 x4_1) x5_2).f2))) else (none)) = some r := by rw [if_pos rfl] at H; exact H
                              clear H
                              have H := H1
                              clear H1
                              by_cases c21 : x5_2 < (x3_2.length : Int)
                              · rw [if_pos c21] at H
                                have c21b0 : decide (x5_2 < (x3_2.length : Int)) = true := dT_ c21
                                clear c21
                                (first | rw [c21b0] | (simp only [i64_w, i32_w]; rw [c21b0]) | skip)
                                replace H := Option.bind_eq_some_iff.mp H
                                obtain ⟨t146, A220, H⟩ := H
                                replace H : (r6_Valid.j2 k2 l0 x3_2 x4_1 x5_2 (!t146) ((rd_T36 (rd_L4 l0 x4_1) x5_2).f0) ((rd_T36 (rd_L4 l0 x4_1) x5_2).f1) ((rd_T36 (rd_L4 l0 x4_1) x5_2).f2)) = some r := H
                                have A22 := Aside0.mk A220
                                clear A220
                                have H' := Aside0.mk H
                                clear H
                                try go_wp2
                                have n0_ : Aside0 (Kd.R (Kd.int .u8) 34 (((w17.setCell ⟨gb143, 0, none⟩ (.int .u8 ((rd_T36 (rd_L4 l0 x4_1) x5_2).f0))).setCell ⟨gb143, 1, none⟩ (.int .i64 ((rd_T36 (rd_L4 l0 x4_1) x5_2).f1))).setCell ⟨gb143, 2, none⟩ (.string ((rd_T36 (rd_L4 l0 x4_1) x5_2).f2))) w.heap.size (fun _ => True) (.slice Ao11 x3_2.length co11) x3_2) := ⟨by (with_reducible repeat (first | apply Kd.R_alloc | apply Kd.R_drewN | apply Kd.R_drew)); exact Kd.R_mono (Kd.R_far (p := ⟨gb143, 2, none⟩) (Kd.R_far (p := ⟨gb143, 1, none⟩) (Kd.R_far (p := ⟨gb143, 0, none⟩) (Kd.R_types HO_3.out BK143.out (by decide)) (fun _ hk => hk.2) (.int .u8 ((rd_T36 (rd_L4 l0 x4_1) x5_2).f0))) (fun _ hk => hk.2) (.int .i64 ((rd_T36 (rd_L4 l0 x4_1) x5_2).f1))) (fun _ hk => hk.2) (.string ((rd_T36 (rd_L4 l0 x4_1) x5_2).f2))) (fun _ hk => trivial)⟩
                                have n1_ : Aside0 ((((w17.setCell ⟨gb143, 0, none⟩ (.int .u8 ((rd_T36 (rd_L4 l0 x4_1) x5_2).f0))).setCell ⟨gb143, 1, none⟩ (.int .i64 ((rd_T36 (rd_L4 l0 x4_1) x5_2).f1))).setCell ⟨gb143, 2, none⟩ (.string ((rd_T36 (rd_L4 l0 x4_1) x5_2).f2))).heap[gb143]? = some (.cells #[.int .u8 ((rd_T36 (rd_L4 l0 x4_1) x5_2).f0), .int .i64 ((rd_T36 (rd_L4 l0 x4_1) x5_2).f1), .string ((rd_T36 (rd_L4 l0 x4_1) x5_2).f2)] 36 (0, 0))) := ⟨by (with_reducible repeat (first | refine blk_drewN ?_ _ | refine blk_drew ?_ | refine blk_alloc ?_ _)); refine blk_put (cs := #[.int .u8 ((rd_T36 (rd_L4 l0 x4_1) x5_2).f0), .int .i64 ((rd_T36 (rd_L4 l0 x4_1) x5_2).f1), .string (⟨#[]⟩ : ByteArray)]) ?_ 2 _ rfl; (with_reducible repeat (first | refine blk_drewN ?_ _ | refine blk_drew ?_ | refine blk_alloc ?_ _)); refine blk_put (cs := #[.int .u8 ((rd_T36 (rd_L4 l0 x4_1) x5_2).f0), .int .i64 0, .string (⟨#[]⟩ : ByteArray)]) ?_ 1 _ rfl; (with_reducible repeat (first | refine blk_drewN ?_ _ | refine blk_drew ?_ | refine blk_alloc ?_ _)); refine blk_put (cs := #[.int .u8 0, .int .i64 0, .string (⟨#[]⟩ : ByteArray)]) ?_ 0 _ rfl; (with_reducible repeat (first | refine blk_drewN ?_ _ | refine blk_drew ?_ | refine blk_alloc ?_ _)); exact BK143.out⟩
                                have n2_ : Aside0 (Below w.heap.size w (((w17.setCell ⟨gb143, 0, none⟩ (.int .u8 ((rd_T36 (rd_L4 l0 x4_1) x5_2).f0))).setCell ⟨gb143, 1, none⟩ (.int .i64 ((rd_T36 (rd_L4 l0 x4_1) x5_2).f1))).setCell ⟨gb143, 2, none⟩ (.string ((rd_T36 (rd_L4 l0 x4_1) x5_2).f2)))) := ⟨by repeat (first | (with_reducible first | exact HB.out | apply bA_ | apply bN_ | apply b1_ | refine below_set ?_ GE143.out) | exact HB.out)⟩
                                (try clear HO_3)
                                (try clear BK143)
                                (try clear HB)
                                generalize (((w17.setCell ⟨gb143, 0, none⟩ (.int .u8 ((rd_T36 (rd_L4 l0 x4_1) x5_2).f0))).setCell ⟨gb143, 1, none⟩ (.int .i64 ((rd_T36 (rd_L4 l0 x4_1) x5_2).f1))).setCell ⟨gb143, 2, none⟩ (.string ((rd_T36 (rd_L4 l0 x4_1) x5_2).f2))) = w23 at n0_ n1_ n2_ ⊢
                                have HO_3 := n0_
                                have BK143 := n1_
                                have HB := n2_
                                clear n0_ n1_ n2_
                                have n0_ := Aside0.mk (Kd.R_drew HO_3.out)
                                have n1_ := Aside0.mk (blk_drew BK143.out)
                                have n2_ := Aside0.mk (b1_ HB.out)
                                clear HO_3
                                clear BK143
                                clear HB
                                have HO_3 := n0_
                                have BK143 := n1_
                                have HB := n2_
                                clear n0_ n1_ n2_
                                have p145 : 0 ≤ (x5_2 : Int) := oT_ (by assumption)
                                have q145 : x5_2 < (x3_2.length : Int) := oT_ (by assumption)
                                obtain ⟨ad145, e145, hx145_0⟩ := Kd.at_int (Kd.R_reads' HO_3.out).2.2 x5_2 p145 q145
                                cases e145
                                replace p145 := eq_true p145
                                replace q145 := eq_true q145
                                refine start_ (n := 12) (S := fun w' => w'.cell? ⟨gb143, 0, none⟩ = some (.int .u8 ((rd_T36 (rd_L4 l0 x4_1) x5_2).f0)) ∧ w'.cell? ⟨gb143, 1, none⟩ = some (.int .i64 ((rd_T36 (rd_L4 l0 x4_1) x5_2).f1)) ∧ w'.cell? ⟨gb143, 2, none⟩ = some (.string ((rd_T36 (rd_L4 l0 x4_1) x5_2).f2)) ∧ w'.cell? (ad145.add (x5_2).toNat) = some (.int .u8 (rd x3_2 x5_2))) (ds := []) #[X_,X_,X_,X_,X_,X_,X_,X_,X_,X_,X_,X_] (by kernel_rfl) rfl rfl ⟨(blk_cell BK143.out 0).trans rfl, (blk_cell BK143.out 1).trans rfl, (blk_cell BK143.out 2).trans rfl, hx145_0⟩ (fun hHeld => ?_); refine with_tabW r6_Valid.tab13 r6_Valid.bits13 (fun HT_ HW_ => ?_)
                                generalize w23.drew = w24 at HO_3 BK143 HB hx145_0 hHeld ⊢
                                refine take_ (i := 0) (N := some 45) (v := ?_) (a' := ?_) #[Y_,X_,X_,X_,X_,X_,X_,X_,X_,X_,X_,X_] rfl rfl (take_ofW HT_.out HW_.out (by kernel_rfl)) (fun _ _ _ h => h) (Or.inl ⟨by rfl, ?_⟩) hHeld ?_ ?_
                                rotate_left
                                · rintro w' ⟨s0, s1, s2, s3⟩
                                  go_simp
                                  with_reducible rfl
                                rotate_left
                                · simp only [Act.put, sTA_, sCZ_, sCS_, i64_w, i32_w]
                                  rfl
                                refine one_ (i := 1) (N := some 46) #[Y_,Y_,X_,X_,X_,X_,X_,X_,X_,X_,X_,X_] rfl rfl (one_of HT_.out (by kernel_rfl)) (by decide) (fun K hK => ?_)
                                refine goes_ Tryz.func40 (by kernel_rfl) rfl #[.agg #[.int .u8 ((rd_T36 (rd_L4 l0 x4_1) x5_2).f0), .int .i64 ((rd_T36 (rd_L4 l0 x4_1) x5_2).f1), .string ((rd_T36 (rd_L4 l0 x4_1) x5_2).f2)]] (by rfl) rfl rfl (by (try simp only [List.map_toArray, List.map_cons, List.map_nil]); first | done | rfl | (simp only [List.length_drop, List.length_take]; rfl)) ?_
                                with_reducible refine (r1_Valid.calls ((rd_T36 (rd_L4 l0 x4_1) x5_2).f0) ((rd_T36 (rd_L4 l0 x4_1) x5_2).f1) ((rd_T36 (rd_L4 l0 x4_1) x5_2).f2) true _ A19.out).mono ?_
                                rintro e w25 ⟨rfl, hb⟩
                                have HS3_ := (hb.cell (bLC_ _ _ (hHeld.2.2.2))).trans (hHeld.2.2.2)
                                refine ⟨_, rfl, ?_⟩
                                have n0_ := Aside0.mk (Kd.R_below (by (with_reducible repeat (first | apply Kd.R_alloc | apply Kd.R_drewN | apply Kd.R_drew)); exact HO_3.out) hb)
                                have n1_ := Aside0.mk (blk_below (g := gb143) (o := .cells #[.int .u8 ((rd_T36 (rd_L4 l0 x4_1) x5_2).f0), .int .i64 ((rd_T36 (rd_L4 l0 x4_1) x5_2).f1), .string ((rd_T36 (rd_L4 l0 x4_1) x5_2).f2)] 36 (0, 0)) (by (with_reducible repeat (first | refine blk_drewN ?_ _ | refine blk_drew ?_ | refine blk_alloc ?_ _)); exact BK143.out) hb)
                                have n2_ := Aside0.mk (below_step (by repeat (first | (with_reducible first | exact HB.out | apply bA_ | apply bN_ | apply b1_ | refine below_set ?_ GE143.out) | exact HB.out)) hb)
                                clear HO_3
                                clear BK143
                                clear HB
                                have HO_3 := n0_
                                have BK143 := n1_
                                have HB := n2_
                                clear n0_ n1_ n2_
                                (try clear hb)
                                (try clear hb2)
                                (try clear hk)
                                (try clear hi)
                                refine hK.out _ _ ⟨(blk_cell BK143.out 0).trans rfl, (blk_cell BK143.out 1).trans rfl, (blk_cell BK143.out 2).trans rfl, HS3_⟩ (fun hHeld => ?_)
                                clear hK K
                                refine norm_ (a' := ?_) ?_ ?_
                                rotate_left
                                · show Act.put _ (some 46) _ = _
                                  simp only [Act.put, sTA_, sCZ_, sCS_, i64_w, i32_w]
                                  rfl
                                refine pure_ (i := 2) (N := some 47) (v := ?_) (a' := ?_) #[Y_,Y_,Y_,X_,X_,X_,X_,X_,X_,X_,X_,X_] rfl rfl (any_of HT_.out (by kernel_rfl)) (fun _ _ _ h => h) (Or.inl ⟨by rfl, ?_⟩) ?_ ?_
                                rotate_left
                                · intro w'
                                  go_simp
                                  with_reducible rfl
                                rotate_left
                                · simp only [Act.put, sTA_, sCZ_, sCS_, i64_w, i32_w]
                                  rfl
                                refine pure_ (i := 3) (N := some 48) (v := ?_) (a' := ?_) #[Y_,Y_,Y_,Y_,X_,X_,X_,X_,X_,X_,X_,X_] rfl rfl (any_of HT_.out (by kernel_rfl)) (fun _ _ _ h => h) (Or.inl ⟨by rfl, ?_⟩) ?_ ?_
                                rotate_left
                                · intro w'
                                  go_simp
                                  with_reducible rfl
                                rotate_left
                                · simp only [Act.put, sTA_, sCZ_, sCS_, i64_w, i32_w]
                                  rfl
                                refine pure_ (i := 5) (N := some 50) (v := ?_) (a' := ?_) #[Y_,Y_,Y_,Y_,X_,Y_,X_,X_,X_,X_,X_,X_] rfl rfl (any_of HT_.out (by kernel_rfl)) (fun _ _ _ h => h) (Or.inl ⟨by rfl, ?_⟩) ?_ ?_
                                rotate_left
                                · intro w'
                                  go_simp
                                  with_reducible rfl
                                rotate_left
                                · simp only [Act.put, sTA_, sCZ_, sCS_, i64_w, i32_w]
                                  rfl
                                refine pure_ (i := 6) (N := some 51) (v := ?_) (a' := ?_) #[Y_,Y_,Y_,Y_,X_,Y_,Y_,X_,X_,X_,X_,X_] rfl rfl (any_of HT_.out (by kernel_rfl)) (fun _ _ _ h => h) (Or.inl ⟨by rfl, ?_⟩) ?_ ?_
                                rotate_left
                                · intro w'
                                  go_simp
                                  with_reducible rfl
                                rotate_left
                                · simp only [Act.put, sTA_, sCZ_, sCS_, i64_w, i32_w]
                                  rfl
                                refine pure_ (i := 7) (N := some 52) (v := ?_) (a' := ?_) #[Y_,Y_,Y_,Y_,X_,Y_,Y_,Y_,X_,X_,X_,X_] rfl rfl (any_of HT_.out (by kernel_rfl)) (fun _ _ _ h => h) (Or.inl ⟨by rfl, ?_⟩) ?_ ?_
                                rotate_left
                                · intro w'
                                  go_simp
                                  with_reducible rfl
                                rotate_left
                                · simp only [Act.put, sTA_, sCZ_, sCS_, i64_w, i32_w]
                                  rfl
                                refine take_ (i := 4) (N := some 49) (v := ?_) (a' := ?_) #[Y_,Y_,Y_,Y_,Y_,Y_,Y_,Y_,X_,X_,X_,X_] rfl rfl (take_ofW HT_.out HW_.out (by kernel_rfl)) (fun _ _ _ h => h) (Or.inl ⟨by rfl, ?_⟩) hHeld ?_ ?_
                                rotate_left
                                · rintro w' ⟨s0, s1, s2, s3⟩
                                  go_simp
                                  with_reducible rfl
                                rotate_left
                                · simp only [Act.put, sTA_, sCZ_, sCS_, i64_w, i32_w]
                                  rfl
                                refine take_ (i := 8) (N := some 53) (v := ?_) (a' := ?_) #[Y_,Y_,Y_,Y_,Y_,Y_,Y_,Y_,Y_,X_,X_,X_] rfl rfl (take_ofW HT_.out HW_.out (by kernel_rfl)) (fun _ _ _ h => h) (Or.inl ⟨by rfl, ?_⟩) hHeld ?_ ?_
                                rotate_left
                                · rintro w' ⟨s0, s1, s2, s3⟩
                                  go_simp
                                  with_reducible rfl
                                rotate_left
                                · simp only [Act.put, sTA_, sCZ_, sCS_, i64_w, i32_w]
                                  rfl
                                refine one_ (i := 9) (N := some 54) #[Y_,Y_,Y_,Y_,Y_,Y_,Y_,Y_,Y_,Y_,X_,X_] rfl rfl (one_of HT_.out (by kernel_rfl)) (by decide) (fun K hK => ?_)
                                refine goes_ Tryz.func41 (by kernel_rfl) rfl #[.agg #[.int .u8 ((rd_T36 (rd_L4 l0 x4_1) x5_2).f0), .int .i64 ((rd_T36 (rd_L4 l0 x4_1) x5_2).f1), .string ((rd_T36 (rd_L4 l0 x4_1) x5_2).f2)], .int .u8 (rd x3_2 x5_2)] (by rfl) rfl rfl (by (try simp only [List.map_toArray, List.map_cons, List.map_nil]); first | done | rfl | (simp only [List.length_drop, List.length_take]; rfl)) ?_
                                with_reducible refine (r6_fits.calls ((rd_T36 (rd_L4 l0 x4_1) x5_2).f0) ((rd_T36 (rd_L4 l0 x4_1) x5_2).f1) ((rd_T36 (rd_L4 l0 x4_1) x5_2).f2) (rd x3_2 x5_2) t146 _ A22.out).mono ?_
                                rintro e w26 ⟨rfl, hb⟩
                                have HS3_ := (hb.cell (bLC_ _ _ (hHeld.2.2.2))).trans (hHeld.2.2.2)
                                refine ⟨_, rfl, ?_⟩
                                have n0_ := Aside0.mk (Kd.R_below (by (with_reducible repeat (first | apply Kd.R_alloc | apply Kd.R_drewN | apply Kd.R_drew)); exact HO_3.out) hb)
                                have n1_ := Aside0.mk (blk_below (g := gb143) (o := .cells #[.int .u8 ((rd_T36 (rd_L4 l0 x4_1) x5_2).f0), .int .i64 ((rd_T36 (rd_L4 l0 x4_1) x5_2).f1), .string ((rd_T36 (rd_L4 l0 x4_1) x5_2).f2)] 36 (0, 0)) (by (with_reducible repeat (first | refine blk_drewN ?_ _ | refine blk_drew ?_ | refine blk_alloc ?_ _)); exact BK143.out) hb)
                                have n2_ := Aside0.mk (below_step (by repeat (first | (with_reducible first | exact HB.out | apply bA_ | apply bN_ | apply b1_ | refine below_set ?_ GE143.out) | exact HB.out)) hb)
                                clear HO_3
                                clear BK143
                                clear HB
                                have HO_3 := n0_
                                have BK143 := n1_
                                have HB := n2_
                                clear n0_ n1_ n2_
                                (try clear hb)
                                (try clear hb2)
                                (try clear hk)
                                (try clear hi)
                                refine hK.out _ _ ⟨(blk_cell BK143.out 0).trans rfl, (blk_cell BK143.out 1).trans rfl, (blk_cell BK143.out 2).trans rfl, HS3_⟩ (fun hHeld => ?_)
                                clear hK K
                                refine norm_ (a' := ?_) ?_ ?_
                                rotate_left
                                · show Act.put _ (some 54) _ = _
                                  simp only [Act.put, sTA_, sCZ_, sCS_, i64_w, i32_w]
                                  rfl
                                refine pure_ (i := 10) (N := some 55) (v := ?_) (a' := ?_) #[Y_,Y_,Y_,Y_,Y_,Y_,Y_,Y_,Y_,Y_,Y_,X_] rfl rfl (any_of HT_.out (by kernel_rfl)) (fun _ _ _ h => h) (Or.inl ⟨by rfl, ?_⟩) ?_ ?_
                                rotate_left
                                · intro w'
                                  go_simp
                                  with_reducible rfl
                                rotate_left
                                · simp only [Act.put, sTA_, sCZ_, sCS_, i64_w, i32_w]
                                  rfl
                                refine pure_ (i := 11) (N := some 56) (v := ?_) (a' := ?_) #[Y_,Y_,Y_,Y_,Y_,Y_,Y_,Y_,Y_,Y_,Y_,Y_] rfl rfl (any_of HT_.out (by kernel_rfl)) (fun _ _ _ h => h) (Or.inl ⟨by rfl, ?_⟩) ?_ ?_
                                rotate_left
                                · intro w'
                                  go_simp
                                  with_reducible rfl
                                rotate_left
                                · simp only [Act.put, sTA_, sCZ_, sCS_, i64_w, i32_w]
                                  rfl
                                refine done_ (done_of HT_.out (by kernel_rfl)) ?_
                                try go_wp2
                                go_meet
                                case rel => exact ⟨_, (!t146), (by first | rfl | (simp; done) | (simp [*]; done)), H', ⟨by have := HK1.out; have := HK2.out; first | omega | exact Nat.le_refl _⟩, ⟨by (try simp only [hl3_2]); (with_reducible repeat (first | apply Kd.R_alloc | apply Kd.R_drewN | apply Kd.R_drew)); exact HO_3.out⟩, ⟨by (try simp only [hl3_2]); (with_reducible repeat (first | refine blk_drewN ?_ _ | refine blk_drew ?_ | refine blk_alloc ?_ _)); exact BK143.out⟩, ⟨by repeat (first | (with_reducible first | exact HB.out | apply bA_ | apply bN_ | apply b1_ | refine below_set ?_ GE143.out) | exact HB.out)⟩⟩
                              · rw [if_neg c21] at H
                                exact absurd H (by simp)
                            · replace c20 := Bool.eq_false_iff.mpr c20
                              subst c20
                              have H1 : (r6_Valid.j2 k2 l0 x3_2 x4_1 x5_2 true ((rd_T36 (rd_L4 l0 x4_1) x5_2).f0) ((rd_T36 (rd_L4 l0 x4_1) x5_2).f1) ((rd_T36 (rd_L4 l0 x4_1) x5_2).f2)) = some r := by rw [if_neg (show ¬ (false = true) by decide)] at H; exact H
                              clear H
                              have H := H1
                              clear H1
                              have H' := Aside0.mk H
                              clear H
                              try go_wp2
                              have n0_ : Aside0 (Kd.R (Kd.int .u8) 34 (((w17.setCell ⟨gb143, 0, none⟩ (.int .u8 ((rd_T36 (rd_L4 l0 x4_1) x5_2).f0))).setCell ⟨gb143, 1, none⟩ (.int .i64 ((rd_T36 (rd_L4 l0 x4_1) x5_2).f1))).setCell ⟨gb143, 2, none⟩ (.string ((rd_T36 (rd_L4 l0 x4_1) x5_2).f2))) w.heap.size (fun _ => True) (.slice Ao11 x3_2.length co11) x3_2) := ⟨by (with_reducible repeat (first | apply Kd.R_alloc | apply Kd.R_drewN | apply Kd.R_drew)); exact Kd.R_mono (Kd.R_far (p := ⟨gb143, 2, none⟩) (Kd.R_far (p := ⟨gb143, 1, none⟩) (Kd.R_far (p := ⟨gb143, 0, none⟩) (Kd.R_types HO_3.out BK143.out (by decide)) (fun _ hk => hk.2) (.int .u8 ((rd_T36 (rd_L4 l0 x4_1) x5_2).f0))) (fun _ hk => hk.2) (.int .i64 ((rd_T36 (rd_L4 l0 x4_1) x5_2).f1))) (fun _ hk => hk.2) (.string ((rd_T36 (rd_L4 l0 x4_1) x5_2).f2))) (fun _ hk => trivial)⟩
                              have n1_ : Aside0 ((((w17.setCell ⟨gb143, 0, none⟩ (.int .u8 ((rd_T36 (rd_L4 l0 x4_1) x5_2).f0))).setCell ⟨gb143, 1, none⟩ (.int .i64 ((rd_T36 (rd_L4 l0 x4_1) x5_2).f1))).setCell ⟨gb143, 2, none⟩ (.string ((rd_T36 (rd_L4 l0 x4_1) x5_2).f2))).heap[gb143]? = some (.cells #[.int .u8 ((rd_T36 (rd_L4 l0 x4_1) x5_2).f0), .int .i64 ((rd_T36 (rd_L4 l0 x4_1) x5_2).f1), .string ((rd_T36 (rd_L4 l0 x4_1) x5_2).f2)] 36 (0, 0))) := ⟨by (with_reducible repeat (first | refine blk_drewN ?_ _ | refine blk_drew ?_ | refine blk_alloc ?_ _)); refine blk_put (cs := #[.int .u8 ((rd_T36 (rd_L4 l0 x4_1) x5_2).f0), .int .i64 ((rd_T36 (rd_L4 l0 x4_1) x5_2).f1), .string (⟨#[]⟩ : ByteArray)]) ?_ 2 _ rfl; (with_reducible repeat (first | refine blk_drewN ?_ _ | refine blk_drew ?_ | refine blk_alloc ?_ _)); refine blk_put (cs := #[.int .u8 ((rd_T36 (rd_L4 l0 x4_1) x5_2).f0), .int .i64 0, .string (⟨#[]⟩ : ByteArray)]) ?_ 1 _ rfl; (with_reducible repeat (first | refine blk_drewN ?_ _ | refine blk_drew ?_ | refine blk_alloc ?_ _)); refine blk_put (cs := #[.int .u8 0, .int .i64 0, .string (⟨#[]⟩ : ByteArray)]) ?_ 0 _ rfl; (with_reducible repeat (first | refine blk_drewN ?_ _ | refine blk_drew ?_ | refine blk_alloc ?_ _)); exact BK143.out⟩
                              have n2_ : Aside0 (Below w.heap.size w (((w17.setCell ⟨gb143, 0, none⟩ (.int .u8 ((rd_T36 (rd_L4 l0 x4_1) x5_2).f0))).setCell ⟨gb143, 1, none⟩ (.int .i64 ((rd_T36 (rd_L4 l0 x4_1) x5_2).f1))).setCell ⟨gb143, 2, none⟩ (.string ((rd_T36 (rd_L4 l0 x4_1) x5_2).f2)))) := ⟨by repeat (first | (with_reducible first | exact HB.out | apply bA_ | apply bN_ | apply b1_ | refine below_set ?_ GE143.out) | exact HB.out)⟩
                              (try clear HO_3)
                              (try clear BK143)
                              (try clear HB)
                              generalize (((w17.setCell ⟨gb143, 0, none⟩ (.int .u8 ((rd_T36 (rd_L4 l0 x4_1) x5_2).f0))).setCell ⟨gb143, 1, none⟩ (.int .i64 ((rd_T36 (rd_L4 l0 x4_1) x5_2).f1))).setCell ⟨gb143, 2, none⟩ (.string ((rd_T36 (rd_L4 l0 x4_1) x5_2).f2))) = w27 at n0_ n1_ n2_ ⊢
                              have HO_3 := n0_
                              have BK143 := n1_
                              have HB := n2_
                              clear n0_ n1_ n2_
                              have n0_ := Aside0.mk (Kd.R_drew HO_3.out)
                              have n1_ := Aside0.mk (blk_drew BK143.out)
                              have n2_ := Aside0.mk (b1_ HB.out)
                              clear HO_3
                              clear BK143
                              clear HB
                              have HO_3 := n0_
                              have BK143 := n1_
                              have HB := n2_
                              clear n0_ n1_ n2_
                              refine start_ (n := 12) (S := fun w' => w'.cell? ⟨gb143, 0, none⟩ = some (.int .u8 ((rd_T36 (rd_L4 l0 x4_1) x5_2).f0)) ∧ w'.cell? ⟨gb143, 1, none⟩ = some (.int .i64 ((rd_T36 (rd_L4 l0 x4_1) x5_2).f1)) ∧ w'.cell? ⟨gb143, 2, none⟩ = some (.string ((rd_T36 (rd_L4 l0 x4_1) x5_2).f2))) (ds := []) #[X_,X_,X_,X_,X_,X_,X_,X_,X_,X_,X_,X_] (by kernel_rfl) rfl rfl ⟨(blk_cell BK143.out 0).trans rfl, (blk_cell BK143.out 1).trans rfl, (blk_cell BK143.out 2).trans rfl⟩ (fun hHeld => ?_); refine with_tabW r6_Valid.tab13 r6_Valid.bits13 (fun HT_ HW_ => ?_)
                              generalize w27.drew = w28 at HO_3 BK143 HB hHeld ⊢
                              refine take_ (i := 0) (N := some 45) (v := ?_) (a' := ?_) #[Y_,X_,X_,X_,X_,X_,X_,X_,X_,X_,X_,X_] rfl rfl (take_ofW HT_.out HW_.out (by kernel_rfl)) (fun _ _ _ h => h) (Or.inl ⟨by rfl, ?_⟩) hHeld ?_ ?_
                              rotate_left
                              · rintro w' ⟨s0, s1, s2⟩
                                go_simp
                                with_reducible rfl
                              rotate_left
                              · simp only [Act.put, sTA_, sCZ_, sCS_, i64_w, i32_w]
                                rfl
                              refine one_ (i := 1) (N := some 46) #[Y_,Y_,X_,X_,X_,X_,X_,X_,X_,X_,X_,X_] rfl rfl (one_of HT_.out (by kernel_rfl)) (by decide) (fun K hK => ?_)
                              refine goes_ Tryz.func40 (by kernel_rfl) rfl #[.agg #[.int .u8 ((rd_T36 (rd_L4 l0 x4_1) x5_2).f0), .int .i64 ((rd_T36 (rd_L4 l0 x4_1) x5_2).f1), .string ((rd_T36 (rd_L4 l0 x4_1) x5_2).f2)]] (by rfl) rfl rfl (by (try simp only [List.map_toArray, List.map_cons, List.map_nil]); first | done | rfl | (simp only [List.length_drop, List.length_take]; rfl)) ?_
                              with_reducible refine (r1_Valid.calls ((rd_T36 (rd_L4 l0 x4_1) x5_2).f0) ((rd_T36 (rd_L4 l0 x4_1) x5_2).f1) ((rd_T36 (rd_L4 l0 x4_1) x5_2).f2) false _ A19.out).mono ?_
                              rintro e w29 ⟨rfl, hb⟩
                              refine ⟨_, rfl, ?_⟩
                              have n0_ := Aside0.mk (Kd.R_below (by (with_reducible repeat (first | apply Kd.R_alloc | apply Kd.R_drewN | apply Kd.R_drew)); exact HO_3.out) hb)
                              have n1_ := Aside0.mk (blk_below (g := gb143) (o := .cells #[.int .u8 ((rd_T36 (rd_L4 l0 x4_1) x5_2).f0), .int .i64 ((rd_T36 (rd_L4 l0 x4_1) x5_2).f1), .string ((rd_T36 (rd_L4 l0 x4_1) x5_2).f2)] 36 (0, 0)) (by (with_reducible repeat (first | refine blk_drewN ?_ _ | refine blk_drew ?_ | refine blk_alloc ?_ _)); exact BK143.out) hb)
                              have n2_ := Aside0.mk (below_step (by repeat (first | (with_reducible first | exact HB.out | apply bA_ | apply bN_ | apply b1_ | refine below_set ?_ GE143.out) | exact HB.out)) hb)
                              clear HO_3
                              clear BK143
                              clear HB
                              have HO_3 := n0_
                              have BK143 := n1_
                              have HB := n2_
                              clear n0_ n1_ n2_
                              (try clear hb)
                              (try clear hb2)
                              (try clear hk)
                              (try clear hi)
                              refine hK.out _ _ ⟨(blk_cell BK143.out 0).trans rfl, (blk_cell BK143.out 1).trans rfl, (blk_cell BK143.out 2).trans rfl⟩ (fun hHeld => ?_)
                              clear hK K
                              refine norm_ (a' := ?_) ?_ ?_
                              rotate_left
                              · show Act.put _ (some 46) _ = _
                                simp only [Act.put, sTA_, sCZ_, sCS_, i64_w, i32_w]
                                rfl
                              refine pure_ (i := 2) (N := some 47) (v := ?_) (a' := ?_) #[Y_,Y_,Y_,X_,X_,X_,X_,X_,X_,X_,X_,X_] rfl rfl (any_of HT_.out (by kernel_rfl)) (fun _ _ _ h => h) (Or.inl ⟨by rfl, ?_⟩) ?_ ?_
                              rotate_left
                              · intro w'
                                go_simp
                                with_reducible rfl
                              rotate_left
                              · simp only [Act.put, sTA_, sCZ_, sCS_, i64_w, i32_w]
                                rfl
                              refine pure_ (i := 3) (N := some 48) (v := ?_) (a' := ?_) #[Y_,Y_,Y_,Y_,X_,X_,X_,X_,X_,X_,X_,X_] rfl rfl (any_of HT_.out (by kernel_rfl)) (fun _ _ _ h => h) (Or.inl ⟨by rfl, ?_⟩) ?_ ?_
                              rotate_left
                              · intro w'
                                go_simp
                                with_reducible rfl
                              rotate_left
                              · simp only [Act.put, sTA_, sCZ_, sCS_, i64_w, i32_w]
                                rfl
                              refine pure_ (i := 4) (N := some 49) (v := undef) (a' := ?_) #[Y_,Y_,Y_,Y_,Y_,X_,X_,X_,X_,X_,X_,X_] rfl rfl (any_of HT_.out (by kernel_rfl)) (fun _ _ _ h => h) (Or.inr ⟨by rfl, rfl⟩) ?_ ?_
                              rotate_left
                              · simp only [Act.put, sTA_, sCZ_, sCS_, i64_w, i32_w]
                                rfl
                              refine pure_ (i := 5) (N := some 50) (v := undef) (a' := ?_) #[Y_,Y_,Y_,Y_,Y_,Y_,X_,X_,X_,X_,X_,X_] rfl rfl (any_of HT_.out (by kernel_rfl)) (fun _ _ _ h => h) (Or.inr ⟨by rfl, rfl⟩) ?_ ?_
                              rotate_left
                              · simp only [Act.put, sTA_, sCZ_, sCS_, i64_w, i32_w]
                                rfl
                              refine pure_ (i := 6) (N := some 51) (v := undef) (a' := ?_) #[Y_,Y_,Y_,Y_,Y_,Y_,Y_,X_,X_,X_,X_,X_] rfl rfl (any_of HT_.out (by kernel_rfl)) (fun _ _ _ h => h) (Or.inr ⟨by rfl, rfl⟩) ?_ ?_
                              rotate_left
                              · simp only [Act.put, sTA_, sCZ_, sCS_, i64_w, i32_w]
                                rfl
                              refine pure_ (i := 7) (N := some 52) (v := undef) (a' := ?_) #[Y_,Y_,Y_,Y_,Y_,Y_,Y_,Y_,X_,X_,X_,X_] rfl rfl (any_of HT_.out (by kernel_rfl)) (fun _ _ _ h => h) (Or.inr ⟨by rfl, rfl⟩) ?_ ?_
                              rotate_left
                              · simp only [Act.put, sTA_, sCZ_, sCS_, i64_w, i32_w]
                                rfl
                              refine pure_ (i := 8) (N := some 53) (v := undef) (a' := ?_) #[Y_,Y_,Y_,Y_,Y_,Y_,Y_,Y_,Y_,X_,X_,X_] rfl rfl (any_of HT_.out (by kernel_rfl)) (fun _ _ _ h => h) (Or.inr ⟨by rfl, rfl⟩) ?_ ?_
                              rotate_left
                              · simp only [Act.put, sTA_, sCZ_, sCS_, i64_w, i32_w]
                                rfl
                              refine pure_ (i := 9) (N := some 54) (v := undef) (a' := ?_) #[Y_,Y_,Y_,Y_,Y_,Y_,Y_,Y_,Y_,Y_,X_,X_] rfl rfl (any_of HT_.out (by kernel_rfl)) (fun _ _ _ h => h) (Or.inr ⟨by rfl, rfl⟩) ?_ ?_
                              rotate_left
                              · simp only [Act.put, sTA_, sCZ_, sCS_, i64_w, i32_w]
                                rfl
                              refine pure_ (i := 10) (N := some 55) (v := undef) (a' := ?_) #[Y_,Y_,Y_,Y_,Y_,Y_,Y_,Y_,Y_,Y_,Y_,X_] rfl rfl (any_of HT_.out (by kernel_rfl)) (fun _ _ _ h => h) (Or.inr ⟨by rfl, rfl⟩) ?_ ?_
                              rotate_left
                              · simp only [Act.put, sTA_, sCZ_, sCS_, i64_w, i32_w]
                                rfl
                              refine pure_ (i := 11) (N := some 56) (v := ?_) (a' := ?_) #[Y_,Y_,Y_,Y_,Y_,Y_,Y_,Y_,Y_,Y_,Y_,Y_] rfl rfl (any_of HT_.out (by kernel_rfl)) (fun _ _ _ h => h) (Or.inl ⟨by rfl, ?_⟩) ?_ ?_
                              rotate_left
                              · intro w'
                                go_simp
                                with_reducible rfl
                              rotate_left
                              · simp only [Act.put, sTA_, sCZ_, sCS_, i64_w, i32_w]
                                rfl
                              refine done_ (done_of HT_.out (by kernel_rfl)) ?_
                              try go_wp2
                              go_meet
                              case rel => exact ⟨_, (true), (by first | rfl | (simp; done) | (simp [*]; done)), H', ⟨by have := HK1.out; have := HK2.out; first | omega | exact Nat.le_refl _⟩, ⟨by (try simp only [hl3_2]); (with_reducible repeat (first | apply Kd.R_alloc | apply Kd.R_drewN | apply Kd.R_drew)); exact HO_3.out⟩, ⟨by (try simp only [hl3_2]); (with_reducible repeat (first | refine blk_drewN ?_ _ | refine blk_drew ?_ | refine blk_alloc ?_ _)); exact BK143.out⟩, ⟨by repeat (first | (with_reducible first | exact HB.out | apply bA_ | apply bN_ | apply b1_ | refine below_set ?_ GE143.out) | exact HB.out)⟩⟩
                           case rest =>
                            clear HC16
                            try clear c1
                            try clear p1
                            try clear q1
                            try clear hx1
                            try clear qi1
                            try clear c2
                            try clear c2b0
                            try clear c2b1
                            try clear c2b2
                            try clear p2
                            try clear c3
                            try clear c3b0
                            try clear c3b1
                            try clear c4
                            try clear c4b0
                            try clear c4b1
                            try clear c5
                            try clear c5b0
                            try clear c5b1
                            try clear c8
                            try clear c8b0
                            try clear c9
                            try clear c9b0
                            try clear c10
                            try clear c10b0
                            try clear c10b1
                            try clear c10b2
                            try clear c11
                            try clear c12
                            try clear c12b0
                            try clear c13
                            try clear c13b0
                            try clear p13
                            try clear q13
                            try clear hx13
                            try clear qi13
                            try clear c14
                            try clear c14b0
                            try clear p14
                            try clear q14
                            try clear hx14
                            try clear c15
                            try clear c15b0
                            try clear c20
                            try clear c21
                            try clear c21b0
                            try clear hcz18_0
                            try clear hcz18_1
                            try clear hcz18_2
                            try clear hfz18_0
                            try clear hfz18_1
                            try clear hfz18_2
                            try clear hx135_0
                            try clear hx139_0
                            try clear hx140_0
                            try clear hx141_0
                            try clear hx142_0
                            try clear hx142_1
                            try clear hx142_2
                            try clear hx145_0
                            try clear p1
                            try clear p135
                            try clear p139
                            try clear p140
                            try clear p141
                            try clear p142
                            try clear p145
                            try clear p2
                            try clear q1
                            try clear q135
                            try clear q139
                            try clear q140
                            try clear q141
                            try clear q142
                            try clear q145
                            obtain ⟨kq, x56_15, rfl, HA, HJ15, HO_3, BK143, HB⟩ := hcut
                            cases kq with
                            | zero => exact absurd HA.out (by simp [r6_Valid.j2])
                            | succ kj15 =>
                             have H := HA.out
                             clear HA
                             simp only [r6_Valid.j2] at H
                             by_cases c30 : x56_15 = true
                             · subst c30
                               have H1 : (some false) = some r := by rw [if_pos rfl] at H; exact H
                               clear H
                               have H := H1
                               clear H1
                               obtain rfl := Option.some.inj H
                               go_wp2
                               go_ret
                               exact ⟨by first | rfl | (simp [*, errW_none, errW_some] <;> rfl), by repeat (first | (with_reducible first | exact HB.out | apply bA_ | apply bN_ | apply b1_ | refine below_set ?_ GE143.out) | exact HB.out)⟩
                             · replace c30 := Bool.eq_false_iff.mpr c30
                               subst c30
                               have H1 : (if ((rd_T36 (rd_L4 l0 x4_1) x5_2).f0) = 0 then (r6_Valid.l1 kj15 l0 x3_2 x4_1 (wrap64 (x5_2 + 1))) else (if 0 ≤ x5_2 then (if x5_2 < (x3_2.length : Int) then (r6_Valid.l1 kj15 l0 (x3_2.set (x5_2 : Int).toNat ((rd_T36 (rd_L4 l0 x4_1) x5_2).f0)) x4_1 (wrap64 (x5_2 + 1))) else (none)) else (none))) = some r := by rw [if_neg (show ¬ (false = true) by decide)] at H; exact H
                               clear H
                               have H := H1
                               clear H1
                               by_cases c31 : ((rd_T36 (rd_L4 l0 x4_1) x5_2).f0) = 0
                               · rw [if_pos c31] at H
                                 have c31b0 : (((rd_T36 (rd_L4 l0 x4_1) x5_2).f0) == 0) = true := beq_iff_eq.mpr c31
                                 have c31b1 : (((rd_T36 (rd_L4 l0 x4_1) x5_2).f0) != 0) = false := bne_eq_false_iff_eq.mpr c31
                                 clear c31
                                 have H' := Aside0.mk H
                                 clear H
                                 have hcz32_0 : wc.cell? ⟨gb143, 0, none⟩ = some (.int .u8 ((rd_T36 (rd_L4 l0 x4_1) x5_2).f0)) := (blk_cell BK143.out 0).trans rfl
                                 have hcz32_1 : wc.cell? ⟨gb143, 1, none⟩ = some (.int .i64 ((rd_T36 (rd_L4 l0 x4_1) x5_2).f1)) := (blk_cell BK143.out 1).trans rfl
                                 have hcz32_2 : wc.cell? ⟨gb143, 2, none⟩ = some (.string ((rd_T36 (rd_L4 l0 x4_1) x5_2).f2)) := (blk_cell BK143.out 2).trans rfl
                                 have hfz32_0 := blk_frozen BK143.out 0
                                 have hfz32_1 := blk_frozen BK143.out 1
                                 have hfz32_2 := blk_frozen BK143.out 2
                                 go_wp2
                                 (try simp only [← hl3_2])
                                 go_roundg kj15
                                 case measure => have := HK1.out; have := HK2.out; have := HJ15.out; omega
                                 case rel => exact ⟨(x3_2), (wrap64 (x5_2 + 1)), (by first | rfl | (simp; done) | (simp [*]; done)), H', ⟨by have := HK1.out; have := HK2.out; have := HJ15.out; omega⟩, ⟨by (try simp only [hl3_2]); (with_reducible repeat (first | apply Kd.R_alloc | apply Kd.R_drewN | apply Kd.R_drew)); exact HO_3.out⟩, ⟨by repeat (first | (with_reducible first | exact HB.out | apply bA_ | apply bN_ | apply b1_ | refine below_set ?_ GE143.out) | exact HB.out)⟩⟩
                               · rw [if_neg c31] at H
                                 have c31b0 : (((rd_T36 (rd_L4 l0 x4_1) x5_2).f0) == 0) = false := beq_eq_false_iff_ne.mpr c31
                                 have c31b1 : (((rd_T36 (rd_L4 l0 x4_1) x5_2).f0) != 0) = true := bne_iff_ne.mpr c31
                                 by_cases c33 : 0 ≤ x5_2
                                 · rw [if_pos c33] at H
                                   have c33b0 : decide (0 ≤ x5_2) = true := dT_ c33
                                   clear c33
                                   by_cases c34 : x5_2 < (x3_2.length : Int)
                                   · rw [if_pos c34] at H
                                     have c34b0 : decide (x5_2 < (x3_2.length : Int)) = true := dT_ c34
                                     clear c34
                                     obtain ⟨y147, hy147⟩ : ∃ y_ : List Int, y_ = (x3_2.set (x5_2 : Int).toNat ((rd_T36 (rd_L4 l0 x4_1) x5_2).f0)) := ⟨_, rfl⟩
                                     replace H : (r6_Valid.l1 kj15 l0 y147 x4_1 (wrap64 (x5_2 + 1))) = some r := by first | (rw [hy147]; with_reducible exact H) | (have H2_ := (Option.bind_some _ _).symm.trans H; rw [hy147]; with_reducible exact H2_) | (have H2_ := (Option.bind_some _ _).symm.trans H; with_reducible exact H2_) | with_reducible exact H | (rw [hy147]; exact H) | exact H
                                     have Ny147 := Aside0.mk hy147
                                     clear hy147
                                     have H' := Aside0.mk H
                                     clear H
                                     have hcz36_0 : wc.cell? ⟨gb143, 0, none⟩ = some (.int .u8 ((rd_T36 (rd_L4 l0 x4_1) x5_2).f0)) := (blk_cell BK143.out 0).trans rfl
                                     have hcz36_1 : wc.cell? ⟨gb143, 1, none⟩ = some (.int .i64 ((rd_T36 (rd_L4 l0 x4_1) x5_2).f1)) := (blk_cell BK143.out 1).trans rfl
                                     have hcz36_2 : wc.cell? ⟨gb143, 2, none⟩ = some (.string ((rd_T36 (rd_L4 l0 x4_1) x5_2).f2)) := (blk_cell BK143.out 2).trans rfl
                                     have hfz36_0 := blk_frozen BK143.out 0
                                     have hfz36_1 := blk_frozen BK143.out 1
                                     have hfz36_2 := blk_frozen BK143.out 2
                                     have p35 : 0 ≤ (x5_2 : Int) := oT_ (by assumption)
                                     have q35 : (x5_2 : Int) < ((x3_2.length : Int) : Int) := oT_ (by assumption)
                                     obtain ⟨go35, co35, eo35, gb35, gl35, cl35, HG35⟩ := Kd.R_form HO_3.out (by omega)
                                     (first | cases eo35 | (injection eo35 with ea_ en_ ec_; (first | subst ea_ | (injection ea_ with ea_; subst ea_)); subst ec_; clear en_))
                                     have GB35 := Aside0.mk gb35
                                     have GG35 := Aside0.mk HG35
                                     clear gb35 gl35 HG35
                                     obtain ⟨hx35_0, hf35_0⟩ := Kd.R_celln 0 HO_3.out (x5_2 : Int) p35 q35
                                     replace p35 := eq_true p35
                                     replace q35 := eq_true q35
                                     have HP37 := Kd.R_putg HO_3.out (x5_2 : Int) ((rd_T36 (rd_L4 l0 x4_1) x5_2).f0)
                                     go_wp2_with (first | ((with_reducible refine gate_store (t := 34) (p := 64) rfl ?_); refine store_event (t := 34) (p := 64) (v := ?vo_w38) (w1 := (wc.setCell ⟨go35, (x5_2 : Int).toNat, none⟩ (.int .u8 ((rd_T36 (rd_L4 l0 x4_1) x5_2).f0)))) ?hg ?ho ?hn ?hr ?_; (case ho => rfl); (case hg => rfl); (case hn => rfl); (case hr => first | (go_simp; done) | (go_simp; rfl)); intro w38 hw; have hg : wc.grownBy w38 (some go35) := (by rw [hw]; exact HP37.2); have hp_ : Kd.R (Kd.int .u8) 34 w38 w.heap.size (fun _ => True) (.slice (some ⟨go35, 0, none⟩) x3_2.length co11) y147 := (by rw [hw, Ny147.out]; exact HP37.1); clear HP37; have n0_ := Aside0.mk (hp_); have n1_ := Aside0.mk (blk_grown (g := gb143) (o := .cells #[.int .u8 ((rd_T36 (rd_L4 l0 x4_1) x5_2).f0), .int .i64 ((rd_T36 (rd_L4 l0 x4_1) x5_2).f1), .string ((rd_T36 (rd_L4 l0 x4_1) x5_2).f2)] 36 (0, 0)) (by (with_reducible repeat (first | refine blk_drewN ?_ _ | refine blk_drew ?_ | refine blk_alloc ?_ _)); exact BK143.out) hg (Kd.R_ne HO_3.out BK143.out (by decide))); have n2_ := Aside0.mk ((by rw [hw]; exact below_set (HB.out) GB35.out : Below w.heap.size w w38)); clear HO_3; clear BK143; clear HB; have HO_3 := n0_; have BK143 := n1_; have HB := n2_; clear n0_ n1_ n2_; clear hg hw hp_))
                                     (try simp only [← hl3_2])
                                     go_roundg kj15
                                     case measure => have := HK1.out; have := HK2.out; have := HJ15.out; omega
                                     case rel => exact ⟨(y147), (wrap64 (x5_2 + 1)), (by first | rfl | (simp; done) | (simp [*]; done)), H', ⟨by have := HK1.out; have := HK2.out; have := HJ15.out; omega⟩, ⟨by (try simp only [hl3_2]); (with_reducible repeat (first | apply Kd.R_alloc | apply Kd.R_drewN | apply Kd.R_drew)); exact HO_3.out⟩, ⟨by repeat (first | (with_reducible first | exact HB.out | apply bA_ | apply bN_ | apply b1_ | refine below_set ?_ GE143.out) | exact HB.out)⟩⟩
                                   · rw [if_neg c34] at H
                                     exact absurd H (by simp)
                                 · rw [if_neg c33] at H
                                   exact absurd H (by simp)
                         · rw [if_neg c15] at H
                           exact absurd H (by simp)
                       · rw [if_neg c14] at H
                         have c14b0 : decide (x5_2 < ((rd_L4 l0 x4_1).length : Int)) = false := dF_ c14
                         clear c14
                         have H' := Aside0.mk H
                         clear H
                         have p140 : 0 ≤ (x4_1 : Int) := oT_ (by assumption)
                         have q140 : x4_1 < (l0.length : Int) := oT_ (by assumption)
                         obtain ⟨ad140, A140_0, c140_0, e140, hx140_0, hl140_0, hi140_0⟩ := at_L4 HR0.out x4_1 p140 q140
                         obtain rfl : ad135 = ad140 := (by injection e140)
                         replace hx140_0 := (HB.out.cell (bLC_ w _ hx140_0)).trans hx140_0
                         have HR140_0 := Aside0.mk hi140_0
                         have HC140_0 := Aside0.mk hl140_0
                         clear hi140_0 hl140_0
                         replace p140 := eq_true p140
                         replace q140 := eq_true q140
                         go_wp2
                         (try simp only [← hl3_2])
                         go_roundg k2
                         case measure => have := HK1.out; have := HK2.out; omega
                         case rel => exact ⟨(x3_2), (wrap64 (x4_1 + 1)), (by first | rfl | (simp; done) | (simp [*]; done)), H', ⟨by have := HK1.out; have := HK2.out; omega⟩, ⟨by (try simp only [hl3_2]); (with_reducible repeat (first | apply Kd.R_alloc | apply Kd.R_drewN | apply Kd.R_drew)); exact HO_3.out⟩, ⟨by repeat (first | (with_reducible first | exact HB.out | apply bA_ | apply bN_ | apply b1_) | exact HB.out)⟩⟩
                     · rw [if_neg c13] at H
                       exact absurd H (by simp)
                   · rw [if_neg c12] at H
                     exact absurd H (by simp)
               · rw [if_neg c10] at H
                 have c10b0 : (((rd_L4 l0 x4_1).length : Int) == (x3_1.length : Int)) = false := beq_eq_false_iff_ne.mpr c10
                 have c10b1 : (((rd_L4 l0 x4_1).length : Int) != (x3_1.length : Int)) = true := bne_iff_ne.mpr c10
                 have c10b2 : ((rd_L4 l0 x4_1).length == x3_1.length) = false := by first | simpa using c10 | (simp at c10 ⊢; omega)
                 obtain rfl := Option.some.inj H
                 have p139 : 0 ≤ (x4_1 : Int) := oT_ (by assumption)
                 have q139 : x4_1 < (l0.length : Int) := oT_ (by assumption)
                 obtain ⟨ad139, A139_0, c139_0, e139, hx139_0, hl139_0, hi139_0⟩ := at_L4 HR0.out x4_1 p139 q139
                 obtain rfl : ad135 = ad139 := (by injection e139)
                 replace hx139_0 := (HB.out.cell (bLC_ w _ hx139_0)).trans hx139_0
                 have HR139_0 := Aside0.mk hi139_0
                 have HC139_0 := Aside0.mk hl139_0
                 clear hi139_0 hl139_0
                 replace p139 := eq_true p139
                 replace q139 := eq_true q139
                 obtain ⟨Ao39, co39, eo39⟩ := Kd.R_slice HO_3.out
                 subst eo39
                 go_wp2
                 go_ret
                 exact ⟨by first | rfl | (simp [*, errW_none, errW_some] <;> rfl), by repeat (first | (with_reducible first | exact HB.out | apply bA_ | apply bN_ | apply b1_) | exact HB.out)⟩
             · rw [if_neg c9] at H
               exact absurd H (by simp)
           · rw [if_neg c8] at H
             have c8b0 : decide (x4_1 < (l0.length : Int)) = false := dF_ c8
             clear c8
             obtain rfl := Option.some.inj H
             go_wp2
             go_ret
             exact ⟨by first | rfl | (simp [*, errW_none, errW_some] <;> rfl), by repeat (first | (with_reducible first | exact HB.out | apply bA_ | apply bN_ | apply b1_) | exact HB.out)⟩
       · rw [if_neg c5] at H
         exact absurd H (by simp)
     · rw [if_neg c4] at H
       exact absurd H (by simp)
   · rw [if_neg c3] at H
     exact absurd H (by simp)
end Go.Proofs.YtecgkcgfeghhgaaGreatDoor.PAll
set_option linter.unusedVariables false
set_option linter.unusedSimpArgs false
namespace Go.Proofs.YtecgkcgfeghhgaaGreatDoor.PAll
open Go.RowKit Go.Proofs.YtecgkcgfeghhgaaGreatDoorW.PrintWords Go.Proofs.YtecgkcgfeghhgaaGreatDoorW.PrintLast Go.Proofs.YtecgkcgfeghhgaaGreatDoorW.PrintMore
theorem ref_value (v : V) : r1_Valid.f v.f0 v.f1 v.f2 = some (validV v) := by
 unfold r1_Valid.f validV noText
 by_cases c0 : v.f0 = 0
 · by_cases c1 : v.f1 = 0 <;> simp [c0, c1]
 · by_cases c1 : v.f0 = 1
   · simp [c1]
   · by_cases c2 : v.f0 = 2
     · by_cases c3 : v.f1 = 0 <;> simp [c2, c3]
     · by_cases c3 : v.f0 = 3
       · by_cases c4 : v.f1 = 0
         · simp [c3, c4]
         · by_cases c5 : v.f1 = 1
           · simp [c3, c5]
           · have : ¬ (0 ≤ v.f1 ∧ v.f1 ≤ 1) := by omega
             simp [c3, c4, c5, this]
       · simp [c0, c1, c2, c3]
theorem rvalid_l1 (l : List (List V)) (i : Nat) (hi : i < l.length) (hn : (l[i]).length ≤ 1099511627776) (b : Bool) : ∀ (d j : Nat) (ks : List Int), j + d = l[i].length → ks.length = l[i].length →
 (∀ ks', rowStep (ks.drop j) (l[i].drop j) = some ks' → Ev (fun k => r6_Valid.l0 k l (ks.take j ++ ks') (wrap64 ((i : Int) + 1))) b → Ev (fun k => r6_Valid.l1 k l ks (i : Int) (j : Int)) b) ∧
 (rowStep (ks.drop j) (l[i].drop j) = none → Ev (fun k => r6_Valid.l1 k l ks (i : Int) (j : Int)) false) := by
 intro d
 induction d with
 | zero =>
  intro j ks hj hk
  have e1 : l[i].drop j = [] := List.drop_eq_nil_of_le (by omega)
  have e2 : ks.drop j = [] := List.drop_eq_nil_of_le (by omega)
  rw [e1, e2]
  refine ⟨fun ks' h hE => ?_, fun h => by simp [rowStep] at h⟩
  simp [rowStep] at h
  subst h
  rw [List.append_nil, List.take_of_length_le (by omega)] at hE
  refine Ev.step (f := fun k => r6_Valid.l0 k l ks (wrap64 ((i : Int) + 1))) (fun k => ?_) hE
  simp only [r6_Valid.l1]
  rw [if_pos (by omega), if_pos (by omega), rdL_at hi, if_neg (by omega)]
 | succ d ih =>
  intro j ks hj hk
  have hlt : j < l[i].length := by omega
  have hltk : j < ks.length := by omega
  rw [drop_cons l[i] j hlt, drop_cons ks j hltk]
  have hv := ref_value l[i][j]
  obtain ⟨v, hvv⟩ : ∃ v, v = l[i][j] := ⟨_, rfl⟩
  have one : ∀ k, r6_Valid.l1 (k + 1) l ks (i : Int) (j : Int) = if validV v = true then ((r6_fits.f v.f0 v.f1 v.f2 ks[j]).bind fun t => r6_Valid.j2 k l ks (i : Int) (j : Int) (!t) v.f0 v.f1 v.f2) else r6_Valid.j2 k l ks (i : Int) (j : Int) true v.f0 v.f1 v.f2 := fun k => by
   simp only [r6_Valid.l1]
   rw [if_pos (by omega), if_pos (by omega), rdL_at hi, if_pos (by omega), if_pos (by omega), rdV_at hlt, hv, ← hvv]
   simp only [Option.bind_some]
   rw [if_pos (show (j : Int) < (ks.length : Int) by omega), rd_at hltk]
  rw [← hvv]
  have bad : Ev (fun k => r6_Valid.j2 k l ks (i : Int) (j : Int) true v.f0 v.f1 v.f2) false := Ev.step (f := fun _ => some false) (fun k => by simp [r6_Valid.j2]) (Ev.now _)
  by_cases c0 : validV v = true
  · by_cases c1 : ks[j] = 0 ∨ ks[j] = v.f0 ∨ v.f0 = 0
    · have hfit : r6_fits.f v.f0 v.f1 v.f2 ks[j] = some true := by
       unfold r6_fits.f
       by_cases d0 : v.f0 = 0
       · rw [if_pos d0]
       · rw [if_neg d0]
         by_cases d1 : ks[j] = 0
         · rw [if_pos d1]
         · rw [if_neg d1]
           have : v.f0 = ks[j] := by omega
           simp [this]
      obtain ⟨ks2, hks2⟩ : ∃ ks2, ks2 = ks.set j (if ks[j] = 0 then v.f0 else ks[j]) := ⟨_, rfl⟩
      have hl2 : ks2.length = l[i].length := by rw [hks2]; simpa using hk
      have hd2 : ks2.drop (j + 1) = ks.drop (j + 1) := by rw [hks2, List.drop_set]; simp
      have ht2 : ks2.take (j + 1) = ks.take j ++ [if ks[j] = 0 then v.f0 else ks[j]] := by
       rw [hks2, take_snoc _ _ (by simpa using hltk)]
       rw [List.take_set, List.set_eq_of_length_le (by rw [List.length_take]; omega)]
       simp
      have step : ∀ k, r6_Valid.l1 (k + 2) l ks (i : Int) (j : Int) = r6_Valid.l1 k l ks2 (i : Int) ((j + 1 : Nat) : Int) := fun k => by
       rw [one, if_pos c0, hfit]
       simp only [Option.bind_some, Bool.not_true, r6_Valid.j2]
       rw [if_neg (by simp), w64 _ (by omega) (by omega)]
       by_cases d0 : v.f0 = 0
       · rw [if_pos d0]
         have : ks2 = ks := by
          rw [hks2]
          have e : (if ks[j] = 0 then v.f0 else ks[j]) = ks[j] := by split <;> omega
          rw [e]
          exact List.set_getElem_self hltk
         rw [this]; rfl
       · rw [if_neg d0, if_pos (by omega), if_pos (by omega), Int.toNat_natCast]
         have e : (if ks[j] = 0 then v.f0 else ks[j]) = v.f0 := by split <;> omega
         rw [hks2, e]; rfl
      have two : ∀ r, Ev (fun k => r6_Valid.l1 k l ks2 (i : Int) ((j + 1 : Nat) : Int)) r → Ev (fun k => r6_Valid.l1 k l ks (i : Int) (j : Int)) r := fun r h =>
       Ev.step (f := fun k => r6_Valid.l1 (k + 1) l ks (i : Int) (j : Int)) (fun k => rfl) (Ev.step (f := fun k => r6_Valid.l1 k l ks2 (i : Int) ((j + 1 : Nat) : Int)) step h)
      obtain ⟨i1, i2⟩ := ih (j + 1) ks2 (by omega) hl2
      rw [hd2] at i1 i2
      refine ⟨fun ks' h hE => ?_, fun h => ?_⟩
      · simp only [rowStep] at h
        rw [if_pos ⟨c0, c1⟩] at h
        obtain ⟨t, ht, rfl⟩ := Option.map_eq_some_iff.1 h
        refine two _ (i1 t ht ?_)
        rw [ht2, List.append_assoc]
        exact hE
      · simp only [rowStep] at h
        rw [if_pos ⟨c0, c1⟩] at h
        exact two _ (i2 (Option.map_eq_none_iff.1 h))
    · have hfit : r6_fits.f v.f0 v.f1 v.f2 ks[j] = some false := by
       unfold r6_fits.f
       rw [if_neg (by omega), if_neg (by omega)]
       congr 1
       rw [beq_eq_false_iff_ne]
       omega
      refine ⟨fun ks' h hE => ?_, fun h => ?_⟩
      · simp only [rowStep] at h
        rw [if_neg (fun h => c1 h.2)] at h
        cases h
      · exact Ev.step (f := fun k => r6_Valid.j2 k l ks (i : Int) (j : Int) true v.f0 v.f1 v.f2) (fun k => by rw [one, if_pos c0, hfit]; rfl) bad
  · refine ⟨fun ks' h hE => ?_, fun h => ?_⟩
    · simp only [rowStep] at h
      rw [if_neg (fun h => c0 h.1)] at h
      cases h
    · exact Ev.step (f := fun k => r6_Valid.j2 k l ks (i : Int) (j : Int) true v.f0 v.f1 v.f2) (fun k => by rw [one, if_neg c0]) bad
theorem rvalid_l0 (l : List (List V)) (hl : RowsV l) : ∀ (d i : Nat) (ks : List Int), i + d = l.length → Ev (fun k => r6_Valid.l0 k l ks (i : Int)) (validFrom ks (l.drop i)) := by
 intro d
 induction d with
 | zero =>
  intro i ks hi
  rw [List.drop_eq_nil_of_le (by omega)]
  refine Ev.step (f := fun _ => some true) (fun k => ?_) (Ev.now true)
  simp only [r6_Valid.l0]
  rw [if_neg (by omega)]
 | succ d ih =>
  intro i ks hi
  have hlt : i < l.length := by omega
  have hr := hl.1 l[i] (List.getElem_mem hlt)
  have hn := hl.2
  rw [drop_cons l i hlt]
  simp only [validFrom]
  by_cases c : l[i].length = ks.length
  · have one : ∀ k, r6_Valid.l0 (k + 1) l ks (i : Int) = r6_Valid.l1 k l ks (i : Int) ((0 : Nat) : Int) := fun k => by
     simp only [r6_Valid.l0]
     rw [if_pos (by omega), if_pos (by omega), rdL_at hlt, if_pos (by omega)]
     rfl
    cases hrs : rowStep ks l[i] with
    | none =>
     obtain ⟨_, i2⟩ := rvalid_l1 l i hlt hr.2 false l[i].length 0 ks (by omega) c.symm
     exact Ev.step (fun k => one k) (i2 (by simpa using hrs))
    | some t =>
     obtain ⟨i1, _⟩ := rvalid_l1 l i hlt hr.2 (validFrom t (l.drop (i + 1))) l[i].length 0 ks (by omega) c.symm
     refine Ev.step (fun k => one k) (i1 t (by simpa using hrs) ?_)
     rw [w64 _ (by omega) (by omega)]
     exact ih (i + 1) t (by omega)
  · have one : ∀ k, r6_Valid.l0 (k + 1) l ks (i : Int) = some false := fun k => by
     simp only [r6_Valid.l0]
     rw [if_pos (by omega), if_pos (by omega), rdL_at hlt, if_neg (by omega)]
    rw [rowStep_ne ks l[i] c]
    exact Ev.step (fun k => one k) (Ev.now false)
theorem rvalid_ev (l : List (List V)) (hl : RowsV l) : Ev (fun k => r6_Valid.f k l) (validB l) := by
 cases l with
 | nil => exact Ev.congr (f := fun _ => some true) (fun k => by simp [r6_Valid.f]) (Ev.now _)
 | cons r rs =>
  have hr := hl.1 r (by simp)
  have h := rvalid_l0 (r :: rs) hl (r :: rs).length 0 (List.replicate r.length 0) (by omega)
  rw [List.drop_zero] at h
  refine Ev.congr (f := fun k => r6_Valid.l0 k (r :: rs) (List.replicate r.length 0) ((0 : Nat) : Int)) (fun k => ?_) h
  unfold r6_Valid.f
  have e : rd_L4 (r :: rs) 0 = r := rfl
  rw [e, if_neg (by simp; omega), if_pos (by simp), if_pos (by omega), Int.toNat_natCast, if_pos (by omega)]
  rfl
end Go.Proofs.YtecgkcgfeghhgaaGreatDoor.PAll
set_option linter.unusedVariables false
set_option linter.unusedSimpArgs false
namespace Go.Proofs.YtecgkcgfeghhgaaGreatDoor.PAll
open Go.RowKit Go.Proofs.YtecgkcgfeghhgaaGreatDoorW.PrintWords Go.Proofs.YtecgkcgfeghhgaaGreatDoorW.PrintLast Go.Proofs.YtecgkcgfeghhgaaGreatDoorW.PrintMore
attribute [local go_sem] max2_int min2_int max_two min_two
def fitsB (l : List (List V)) (ks : List KeyT) : Bool := validB l && keysB l ks
theorem fits_good {l : List (List V)} {ks : List KeyT} (hv : RowsV l) (h : fitsB l ks = true) : ∀ row ∈ l, RowGood ks row := by
 unfold fitsB at h
 rw [Bool.and_eq_true] at h
 obtain ⟨h1, h2⟩ := h
 intro row hrow
 refine ⟨validB_valid h1 row hrow, fun k hk => ?_, (hv.1 row hrow).2⟩
 have hk2 : hasB l k.f0 = true := List.all_eq_true.1 h2 k hk
 cases l with
 | nil => cases hrow
 | cons r rs =>
  have hl := validB_len h1 row hrow
  have := of_decide_eq_true hk2
  omega
def cutR (l : List (List V)) (a n : Int) : List (List V) := (l.drop a.toNat).take n.toNat
theorem cutR_eq (l : List (List V)) (a n f g : Int) (h0 : 0 ≤ a) (h1 : 0 ≤ n) (hf : (if (l.length : Int) < a then (l.length : Int) else a) = f) (hg : (if (l.length : Int) - f < n then (l.length : Int) - f else n) = g) : (l.take (f + g).toNat).drop f.toNat = cutR l a n := by
 unfold cutR
 rw [List.drop_take]
 by_cases c : (l.length : Int) < a
 · rw [if_pos c] at hf
   subst hf
   rw [List.drop_eq_nil_of_le (by omega), List.drop_eq_nil_of_le (by omega)]
   simp
 · rw [if_neg c] at hf
   subst hf
   by_cases c2 : (l.length : Int) - a < n
   · rw [if_pos c2] at hg
     rw [List.take_of_length_le (by rw [List.length_drop]; omega), List.take_of_length_le (by rw [List.length_drop]; omega)]
   · rw [if_neg c2] at hg
     subst hg
     congr 1
     omega
open Classical in
noncomputable def bag_Cut.f (l0 : List (List V)) (l1 : List KeyT) (a2 a3 : Int) : Option (List (List V) × Int) := if RowsV l0 ∧ l1.length ≤ 1099511627776 ∧ a2 ≤ 9223372036854775807 ∧ a3 ≤ 9223372036854775807 then some (if fitsB l0 l1 = true ∧ 0 ≤ a2 ∧ 0 ≤ a3 then (cutR (sortR l1 l0) a2 a3, 0) else ([], 1)) else none
theorem bag_Cut.calls (A0 : Option Addr) (c0 : Nat) (l0 : List (List V)) (A1 : Option Addr) (c1 : Nat) (l1 : List KeyT) (a2 a3 : Int) (r1 : List (List V)) (r2 : Int) (w : World) (hr0 : Kd.C kRow w A0 l0.length l0) (hc0 : l0.length ≤ c0) (hr1 : Kd.C kKey w A1 l1.length l1) (hc1 : l1.length ≤ c1) (h : bag_Cut.f l0 l1 a2 a3 = some (r1, r2)) :
 Calls Tryz.prog 18 #[.slice A0 l0.length c0, .slice A1 l1.length c1, .int .i64 a2, .int .i64 a3] w fun e w' => ∃ v0_ : Value, e = .returned (.tuple #[v0_, .int .i64 r2]) ∧ Kd.V kRow 53 w' w.heap.size (fun k_ => (w.heap.size ≤ k_)) v0_ r1 ∧ Below w.heap.size w w' := by
 unfold bag_Cut.f at h
 split at h
 case isFalse => cases h
 rename_i hv
 obtain ⟨hv, hk, h2, h3⟩ := hv
 have H := Aside0.mk (Option.some.inj h)
 have HV := Aside0.mk hv
 have HKN := Aside0.mk hk
 have H2 := Aside0.mk h2
 have H3 := Aside0.mk h3
 have HF := Aside0.mk (fits_calls A0 c0 l0 A1 c1 l1 w hr0 hc0 hr1 hc1 hv hk)
 have HR0 := Aside0.mk hr0
 have HR1 := Aside0.mk hr1
 clear h hv hk h2 h3 hr0 hr1 hc0 hc1
 change Aside0 (Calls _ _ _ _ fun e w' => e = .returned (.bool (fitsB l0 l1)) ∧ Below w.heap.size w w') at HF
 have bad : ∀ (P : Prop) [Decidable P], ¬ P → Aside0 ((if P then (cutR (sortR l1 l0) a2 a3, 0) else ([], 1)) = (r1, r2)) → r1 = [] ∧ r2 = 1 := fun P _ hP hh => by
  have := hh.out
  rw [if_neg hP] at this
  obtain ⟨e1, e2⟩ := Prod.mk.inj this
  exact ⟨e1.symm, e2.symm⟩
 cases hq : fitsB l0 l1 with
 | false =>
  have HN := Aside0.mk (bad _ (by rw [hq]; simp) H)
  rw [hq] at HF
  clear hq bad H
  go_enter Tryz.func18, Tryz.ntmps18
  go_wp2_with fail
  refine HF.out.mono ?_
  rintro e w1 ⟨rfl, hb1⟩
  have HB := Aside0.mk hb1
  clear hb1
  go_wp2
  go_ret2
  refine ⟨.slice none 0 0, by rw [HN.out.2]; rfl, ?_, HB.out⟩
  rw [HN.out.1]
  exact Kd.V_nil _ _ _ _ _
 | true =>
  rw [hq] at HF
  by_cases hn2 : a2 < 0
  · have HN := Aside0.mk (bad _ (by omega) H)
    have d2 : decide (a2 < 0) = true := decide_eq_true hn2
    clear hq bad H hn2
    go_enter Tryz.func18, Tryz.ntmps18
    go_wp2_with fail
    refine HF.out.mono ?_
    rintro e w1 ⟨rfl, hb1⟩
    have HB := Aside0.mk hb1
    clear hb1
    go_wp2
    go_ret2
    refine ⟨.slice none 0 0, by rw [HN.out.2]; rfl, ?_, HB.out⟩
    rw [HN.out.1]
    exact Kd.V_nil _ _ _ _ _
  · have d2 : decide (a2 < 0) = false := decide_eq_false hn2
    by_cases hn3 : a3 < 0
    · have HN := Aside0.mk (bad _ (by omega) H)
      have d3 : decide (a3 < 0) = true := decide_eq_true hn3
      clear hq bad H hn2 hn3
      go_enter Tryz.func18, Tryz.ntmps18
      go_wp2_with fail
      refine HF.out.mono ?_
      rintro e w1 ⟨rfl, hb1⟩
      have HB := Aside0.mk hb1
      clear hb1
      go_wp2
      go_ret2
      refine ⟨.slice none 0 0, by rw [HN.out.2]; rfl, ?_, HB.out⟩
      rw [HN.out.1]
      exact Kd.V_nil _ _ _ _ _
    · have d3 : decide (a3 < 0) = false := decide_eq_false hn3
      have hgood : Aside0 (r1 = cutR (sortR l1 l0) a2 a3 ∧ r2 = 0) := ⟨by
       have := H.out
       rw [if_pos ⟨hq, by omega, by omega⟩] at this
       obtain ⟨e1, e2⟩ := Prod.mk.inj this
       exact ⟨e1.symm, e2.symm⟩⟩
      have HG := Aside0.mk (fits_good HV.out hq)
      have HLR : Aside0 ((sortR l1 l0).length ≤ 1099511627776) := ⟨by rw [(sortR_perm l1 l0).length_eq]; exact HV.out.2⟩
      have HN2 := Aside0.mk hn2
      have HN3 := Aside0.mk hn3
      have HA := Aside0.mk (fun w1 (hb : Below w.heap.size w w1) => arranged_calls A0 c0 l0 A1 c1 l1 w1 (Kd.C_below HR0.out hb) (Kd.C_below HR1.out hb) HG.out HV.out.2 HKN.out)
      obtain ⟨rs, hrs⟩ : ∃ rs, rs = sortR l1 l0 := ⟨_, rfl⟩
      rw [← hrs] at hgood HLR
      simp only [← hrs] at HA
      obtain ⟨f, hf⟩ : ∃ f, (if (rs.length : Int) < a2 then (rs.length : Int) else a2) = f := ⟨_, rfl⟩
      obtain ⟨g, hg⟩ : ∃ g, (if (rs.length : Int) - f < a3 then (rs.length : Int) - f else a3) = g := ⟨_, rfl⟩
      have HCUT := Aside0.mk (cutR_eq rs a2 a3 f g (by omega) (by omega) hf hg)
      have hf0 : 0 ≤ f ∧ f ≤ rs.length := by rw [← hf]; split <;> omega
      have hg0 : 0 ≤ g ∧ g ≤ rs.length - f := by rw [← hg]; split <;> omega
      have HFB := Aside0.mk hf0
      have HGB := Aside0.mk hg0
      have hw1 : wrap64 ((rs.length : Int) - f) = (rs.length : Int) - f := by have := HLR.out; unfold wrap64; omega
      have hw2 : wrap64 (f + g) = f + g := by have := HLR.out; unfold wrap64; omega
      clear hq bad H hn2 hn3 hf0 hg0 hrs
      go_enter Tryz.func18, Tryz.ntmps18
      go_wp2_with fail
      refine HF.out.mono ?_
      rintro e w1 ⟨rfl, hb1⟩
      have HB := Aside0.mk hb1
      clear hb1
      go_wp2_with fail
      refine (HA.out w1 HB.out).mono ?_
      rintro e w2 ⟨v2, rfl, hR2, hb2⟩
      obtain ⟨Av, cv, ev, hlc, hC⟩ := Kd.R_reads hR2
      subst ev
      have HB2 := Aside0.mk (HB.out.trans (hb2.mono HB.out.size))
      have HM := Aside0.mk (C_relM hR2)
      obtain ⟨i0, hi, hzz⟩ := Option.map_eq_some_iff.1 infoRow
      simp only [Prod.mk.injEq] at hzz
      have hcut := cut_mid (P := Tryz.prog) 22 53 .i64 .i64 Tryz.underlying22 hi 1 hzz.2.1 Av rs.length cv f (f + g) HFB.out.1 (by have := HGB.out; omega) (by have := HGB.out; omega) hlc
      have hcm := (Kd.C_mid (lo := f.toNat) (hi := (f + g).toNat) HM.out (by have := HGB.out; omega) (by have := HGB.out; have := HFB.out; omega) hlc)
      change Kd.C (relM w2 w1.heap.size).kd w2 (if cv = f.toNat then Av else Av.map (·.add (f.toNat * 1))) _ _ at hcm
      obtain ⟨A', hA'⟩ : ∃ A', A' = (if cv = f.toNat then Av else Av.map (·.add (f.toNat * 1))) := ⟨_, rfl⟩
      have hlm : ((rs.take (f + g).toNat).drop f.toNat).length = (f + g).toNat - f.toNat := by
       rw [List.length_drop, List.length_take]
       have := HGB.out
       have := HFB.out
       omega
      rw [← hA'] at hcm hcut
      rw [hlm, HCUT.out] at hcm
      rw [HCUT.out] at hlm
      obtain ⟨n', hn'⟩ : ∃ n', n' = (f + g).toNat - f.toNat := ⟨_, rfl⟩
      rw [← hn'] at hcm hcut hlm
      have HCM := Aside0.mk hcm
      have HLM : Aside0 ((cutR rs a2 a3).length ≤ 2199023255552) := ⟨by
       have h1 : (cutR rs a2 a3).length ≤ rs.length := by unfold cutR; rw [List.length_take, List.length_drop]; omega
       have := HLR.out
       omega⟩
      have HB1S := Aside0.mk HB.out.size
      have HB2S := Aside0.mk hb2.size
      clear hR2 hb2 hC hlc hzz hi hcm hA' hlm hn'
      go_wp2_with fail
      refine (cloneRows_calls _ A' n' (cv - f.toNat) (cutR rs a2 a3) w2 HCM.out HLM.out).mono ?_
      rintro e w3 ⟨v3, rfl, hR3, hb3⟩
      have HR3 := Aside0.mk (R_relM hR3 hb3 HB2S.out (Nat.le_refl _))
      have HB3 := Aside0.mk (HB2.out.trans (hb3.mono HB2.out.size))
      clear hR3 hb3
      go_wp2
      go_ret2
      refine ⟨v3, by rw [hgood.out.2]; rfl, ?_, HB3.out⟩
      rw [hgood.out.1]
      exact Kd.R_V (base' := w.heap.size) (Kd.R_mono (Kd.R_bound HR3.out) (fun k hk => Nat.le_trans HB1S.out hk.2.1))
end Go.Proofs.YtecgkcgfeghhgaaGreatDoor.PAll
namespace Go.Proofs.YtecgkcgfeghhgaaGreatDoor.PAll
open Go.RowKit Go.Proofs.YtecgkcgfeghhgaaGreatDoorW.PrintWords Go.Proofs.YtecgkcgfeghhgaaGreatDoorW.PrintLast Go.Proofs.YtecgkcgfeghhgaaGreatDoorW.PrintMore
attribute [local go_sem] max2_int min2_int max_two min_two max_three min_three max_four min_four
set_option linter.unusedVariables false
set_option linter.unusedSimpArgs false
def r6_copyOf.l0 : Nat → List (S36) → List (S36) → Int → Option ((List (S36)))
 | 0, _, _, _ => none
 | k + 1, x0, x3, x4 => if x4 < (x0.length : Int) then (if 0 ≤ x4 then (if x3.length < 4398046511104 then (r6_copyOf.l0 k x0 (x3 ++ [(⟨(rd_T36 x0 x4).f0, (rd_T36 x0 x4).f1, (rd_T36 x0 x4).f2⟩ : S36)]) (wrap64 (x4 + 1))) else (none)) else (none)) else (some x3)
def r6_copyOf.f (k : Nat) (l0 : List (S36)) : Option ((List (S36))) := r6_copyOf.l0 k l0 ([] : List (S36)) 0
theorem r6_copyOf.calls (k : Nat) (A0 : Option Addr) (c0 : Nat) (l0 : List (S36)) (r : List (S36)) (w : World) (hr0 : Kd.C k36 w A0 l0.length l0) (hc0 : l0.length ≤ c0) (h : r6_copyOf.f k l0 = some r) :
 Calls Tryz.prog 88 #[.slice A0 l0.length c0] w fun e w' => ∃ v0_ : Value, e = .returned (v0_) ∧ Kd.R k36 36 w' w.heap.size (fun _ => True) v0_ r ∧ Below w.heap.size w w' := by
 have hu36 := Tryz.underlying36
 have HR0 := Aside0.mk hr0
 have HC0 := Aside0.mk hc0
 clear hr0 hc0
 have HB := Aside0.mk (Below.refl w.heap.size w)
 have H : (r6_copyOf.l0 k l0 ([] : List (S36)) 0) = some r := h
 clear h
 have H' := Aside0.mk H
 clear H
 go_enter Tryz.func88, Tryz.ntmps88
 go_wp2
 go_loopg [3, 4] k (fun kq v3 v4 w' => ∃ (x3_1 : List (S36)) (x4_1 : Int), v4 = .int .i64 x4_1 ∧ Aside0 (r6_copyOf.l0 kq l0 x3_1 x4_1 = some r) ∧ Aside0 (kq ≤ k) ∧ Aside0 (Kd.R k36 36 w' w.heap.size (fun _ => True) v3 x3_1) ∧ Aside0 (Below w.heap.size w w'))
 case atStart => exact ⟨(([] : List (S36))), (0), (by first | rfl | (simp; done) | (simp [*]; done)), H', ⟨Nat.le_refl _⟩, ⟨by first | exact Kd.R_nil _ _ _ _ _ | exact Kd.N_nil _ _ _ _ _ | exact Kd.V_nil _ _ _ _ _ | exact Kd.Q_nil _ _ _ _ _ | exact Kd.S_nil _ _ _ _ _⟩, ⟨by repeat (first | (with_reducible first | exact HB.out | apply bA_ | apply bN_ | apply b1_) | exact HB.out)⟩⟩
 case round =>
  clear H'
  obtain ⟨x3_1, x4_1, rfl, HA, HK1, HO_3, HB⟩ := hrel
  cases gk with
  | zero => exact absurd HA.out (by simp [r6_copyOf.l0])
  | succ k1 =>
   have H := HA.out
   clear HA
   simp only [r6_copyOf.l0] at H
   by_cases c2 : x4_1 < (l0.length : Int)
   · rw [if_pos c2] at H
     have c2b0 : decide (x4_1 < (l0.length : Int)) = true := dT_ c2
     clear c2
     by_cases c3 : 0 ≤ x4_1
     · rw [if_pos c3] at H
       have c3b0 : decide (0 ≤ x4_1) = true := dT_ c3
       clear c3
       by_cases c4 : x3_1.length < 4398046511104
       · rw [if_pos c4] at H
         have LMc4 := Aside0.mk c4
         clear c4
         obtain ⟨y177, hy177⟩ : ∃ y_ : List (S36), y_ = (x3_1 ++ [(⟨(rd_T36 l0 x4_1).f0, (rd_T36 l0 x4_1).f1, (rd_T36 l0 x4_1).f2⟩ : S36)]) := ⟨_, rfl⟩
         replace H : (r6_copyOf.l0 k1 l0 y177 (wrap64 (x4_1 + 1))) = some r := by first | (rw [hy177]; with_reducible exact H) | (have H2_ := (Option.bind_some _ _).symm.trans H; rw [hy177]; with_reducible exact H2_) | (have H2_ := (Option.bind_some _ _).symm.trans H; with_reducible exact H2_) | with_reducible exact H | (rw [hy177]; exact H) | exact H
         have Ny177 := Aside0.mk hy177
         clear hy177
         have H' := Aside0.mk H
         clear H
         have p176 : 0 ≤ (x4_1 : Int) := oT_ (by assumption)
         have q176 : x4_1 < (l0.length : Int) := oT_ (by assumption)
         obtain ⟨ad176, e176, hx176_0, hx176_1, hx176_2⟩ := at_T36 HR0.out x4_1 p176 q176
         cases e176
         replace hx176_0 := (HB.out.cell (bLC_ w _ hx176_0)).trans hx176_0
         replace hx176_1 := (HB.out.cell (bLC_ w _ hx176_1)).trans hx176_1
         replace hx176_2 := (HB.out.cell (bLC_ w _ hx176_2)).trans hx176_2
         replace p176 := eq_true p176
         replace q176 := eq_true q176
         go_wp2_with (first | ((with_reducible refine gate_builtin (b := .append) (xs := #[.tmp 11, .tmp 16]) rfl ?_); at_builtin; refine Kd.R_append k36 (w0 := w) w.heap.size rfl (.tmp 11) (.tmp 16) 53 36 (.agg #[(.int .u8 0), (.int .i64 0), (.string ⟨#[]⟩)]) 32 rfl Tryz.underlying53 info36 rfl (by decide) (by omega) u3 x3_1 (⟨(rd_T36 l0 x4_1).f0, (rd_T36 l0 x4_1).f1, (rd_T36 l0 x4_1).f2⟩ : S36) [.int .u8 ((rd_T36 l0 x4_1).f0), .int .i64 ((rd_T36 l0 x4_1).f1), .string ((rd_T36 l0 x4_1).f2)] (fun _ => True) (fun _ => False) rfl rfl ?aP (fun _ hk => hk.elim) ?aF ?aO ?aB ?aS ?aL ?_; (case aP => exact k36_mkM _ _ _ (⟨(rd_T36 l0 x4_1).f0, (rd_T36 l0 x4_1).f1, (rd_T36 l0 x4_1).f2⟩ : S36)); (case aB => exact (by repeat (first | (with_reducible first | exact HB.out | apply bA_ | apply bN_ | apply b1_) | exact HB.out))); (case aF => exact (fun _ _ => trivial)); (case aO => exact (by (with_reducible repeat (first | apply Kd.R_alloc | apply Kd.R_drewN | apply Kd.R_drew)); exact HO_3.out)); (case aS => exact (below_size (by repeat (first | (with_reducible first | exact HB.out | apply bA_ | apply bN_ | apply b1_) | exact HB.out)))); (case aL => have := LMc4.out; omega); intro v178 w5 ho hb hg hat; rw [← Ny177.out] at ho; have n0_ := Aside0.mk (hb); have n1_ := Aside0.mk (ho); clear HB; clear HO_3; have HB := n0_; have HO179 := n1_; clear n0_ n1_; clear ho hb hg hat))
         go_roundg k1
         case measure => have := HK1.out; omega
         case rel => exact ⟨(y177), (wrap64 (x4_1 + 1)), (by first | rfl | (simp; done) | (simp [*]; done)), H', ⟨by have := HK1.out; omega⟩, ⟨by (with_reducible repeat (first | apply Kd.R_alloc | apply Kd.R_drewN | apply Kd.R_drew)); exact HO179.out⟩, ⟨by repeat (first | (with_reducible first | exact HB.out | apply bA_ | apply bN_ | apply b1_) | exact HB.out)⟩⟩
       · rw [if_neg c4] at H
         exact absurd H (by simp)
     · rw [if_neg c3] at H
       exact absurd H (by simp)
   · rw [if_neg c2] at H
     have c2b0 : decide (x4_1 < (l0.length : Int)) = false := dF_ c2
     clear c2
     obtain rfl := Option.some.inj H
     go_wp2
     go_ret
     exact ⟨_, by first | rfl | (simp [*, errW_none, errW_some] <;> rfl), by (with_reducible repeat (first | apply Kd.R_alloc | apply Kd.R_drewN | apply Kd.R_drew)); exact HO_3.out, by repeat (first | (with_reducible first | exact HB.out | apply bA_ | apply bN_ | apply b1_) | exact HB.out)⟩
def r1_ints.f (a0 : Int) (a1 : Int) : Option (Int) := if a0 < a1 then (some (-1)) else (if a0 > a1 then (some 1) else (some 0))
theorem r1_ints.calls (a0 : Int) (a1 : Int) (r : Int) (w : World) (h : r1_ints.f a0 a1 = some r) :
 Calls Tryz.prog 100 #[.int .i64 a0, .int .i64 a1] w fun e w' => e = .returned (.int .i64 r) ∧ Drawn0 w w' := by
 have H : (if a0 < a1 then (some (-1)) else (if a0 > a1 then (some 1) else (some 0))) = some r := h
 clear h
 by_cases c3 : a0 < a1
 · rw [if_pos c3] at H
   have c3b0 : decide (a0 < a1) = true := dT_ c3
   clear c3
   obtain rfl := Option.some.inj H
   go_enter Tryz.func100, Tryz.ntmps100
   go_wp2
   go_ret
   exact ⟨by first | rfl | (simp; done) | (simp [*]; done), by repeat (first | exact Drawn0.refl _ | apply Drawn0.step)⟩
 · rw [if_neg c3] at H
   have c3b0 : decide (a0 < a1) = false := dF_ c3
   clear c3
   by_cases c4 : a0 > a1
   · rw [if_pos c4] at H
     have c4b0 : decide (a1 < a0) = true := dT_ c4
     clear c4
     obtain rfl := Option.some.inj H
     go_enter Tryz.func100, Tryz.ntmps100
     go_wp2
     go_ret
     exact ⟨by first | rfl | (simp; done) | (simp [*]; done), by repeat (first | exact Drawn0.refl _ | apply Drawn0.step)⟩
   · rw [if_neg c4] at H
     have c4b0 : decide (a1 < a0) = false := dF_ c4
     clear c4
     obtain rfl := Option.some.inj H
     go_enter Tryz.func100, Tryz.ntmps100
     go_wp2
     go_ret
     exact ⟨by first | rfl | (simp; done) | (simp [*]; done), by repeat (first | exact Drawn0.refl _ | apply Drawn0.step)⟩
mutual
def r1_texts.l0 : Nat → ByteArray → ByteArray → Int → Option (Int)
 | 0, _, _, _ => none
 | k + 1, x0, x1, x5 => if x5 < (x0.size : Int) then (r1_texts.j1 k x0 x1 x5 (decide (x5 < (x1.size : Int)))) else (r1_texts.j1 k x0 x1 x5 false)
def r1_texts.j1 : Nat → ByteArray → ByteArray → Int → Bool → Option (Int)
 | 0, _, _, _, _ => none
 | k + 1, x0, x1, x5, x15 => if x15 = true then (if 0 ≤ x5 then (if x5 < (x0.size : Int) then (if x5 < (x1.size : Int) then (if (bt x0 x5) < (bt x1 x5) then (some (-1)) else (if (bt x0 x5) > (bt x1 x5) then (some 1) else (r1_texts.l0 k x0 x1 (wrap64 (x5 + 1))))) else (none)) else (none)) else (none)) else (if (x0.size : Int) < (x1.size : Int) then (some (-1)) else (if (x0.size : Int) > (x1.size : Int) then (some 1) else (some 0)))
end
def r1_texts.f (k : Nat) (a0 : ByteArray) (a1 : ByteArray) : Option (Int) := r1_texts.l0 k a0 a1 0
theorem r1_texts.calls (k : Nat) (a0 : ByteArray) (a1 : ByteArray) (r : Int) (w : World) (h : r1_texts.f k a0 a1 = some r) :
 Calls Tryz.prog 101 #[.string a0, .string a1] w fun e w' => e = .returned (.int .i64 r) ∧ Drawn0 w w' := by
 have H : (r1_texts.l0 k a0 a1 0) = some r := h
 clear h
 have H' := Aside0.mk H
 clear H
 go_enter Tryz.func101, Tryz.ntmps101
 go_wp2
 repeat (go_quiet (fail); try go_wp2)
 go_loopg [5] k (fun kq v5 w' => ∃ (x5_1 : Int), v5 = .int .i64 x5_1 ∧ Aside0 (r1_texts.l0 kq a0 a1 x5_1 = some r) ∧ Aside0 (kq ≤ k) ∧ Drawn0 w w')
 case atStart => exact ⟨(0), (by first | rfl | (simp; done) | (simp [*]; done)), H', ⟨Nat.le_refl _⟩, by repeat (first | exact Drawn0.refl _ | apply Drawn0.step)⟩
 case round =>
  clear H'
  try clear c1
  try clear p2
  obtain ⟨x5_1, rfl, HA, HK1, ⟨m1, rfl⟩⟩ := hrel
  cases gk with
  | zero => exact absurd HA.out (by simp [r1_texts.l0])
  | succ k1 =>
   have H := HA.out
   clear HA
   simp only [r1_texts.l0] at H
   have HC3 := Aside0.mk H
   clear H
   go_upto_region 2 with (fail)
   repeat (go_quiet (fail); go_upto_region 2 with (fail))
   go_cut [15] (fun v15 wc => ∃ (kq : Nat) (x15_2 : Bool), v15 = .bool x15_2 ∧ Aside0 (r1_texts.j1 kq a0 a1 x5_1 x15_2 = some r) ∧ Aside0 (kq ≤ k1) ∧ Drawn0 w wc)
   case first =>
    have H := HC3.out
    clear HC3
    by_cases c4 : x5_1 < (a0.size : Int)
    · rw [if_pos c4] at H
      have c4b0 : decide (x5_1 < (a0.size : Int)) = true := dT_ c4
      clear c4
      (first | rw [c4b0] | (simp only [i64_w, i32_w]; rw [c4b0]) | skip)
      have H' := Aside0.mk H
      clear H
      go_wp2
      repeat (go_quiet (fail); try go_wp2)
      go_meet
      case rel => exact ⟨_, (decide (x5_1 < (a1.size : Int))), (by first | rfl | (simp; done) | (simp [*]; done)), H', ⟨by have := HK1.out; first | omega | exact Nat.le_refl _⟩, by repeat (first | exact Drawn0.refl _ | apply Drawn0.step)⟩
    · rw [if_neg c4] at H
      have c4b0 : decide (x5_1 < (a0.size : Int)) = false := dF_ c4
      clear c4
      (first | rw [c4b0] | (simp only [i64_w, i32_w]; rw [c4b0]) | skip)
      have H' := Aside0.mk H
      clear H
      go_wp2
      repeat (go_quiet (fail); try go_wp2)
      go_meet
      case rel => exact ⟨_, (false), (by first | rfl | (simp; done) | (simp [*]; done)), H', ⟨by have := HK1.out; first | omega | exact Nat.le_refl _⟩, by repeat (first | exact Drawn0.refl _ | apply Drawn0.step)⟩
   case rest =>
    clear HC3
    try clear c1
    try clear p2
    try clear c4
    try clear c4b0
    try clear p2
    obtain ⟨kq, x15_2, rfl, HA, HJ2, ⟨mc2, rfl⟩⟩ := hcut
    cases kq with
    | zero => exact absurd HA.out (by simp [r1_texts.j1])
    | succ kj2 =>
     have H := HA.out
     clear HA
     simp only [r1_texts.j1] at H
     by_cases c5 : x15_2 = true
     · subst c5
       have H1 : (if 0 ≤ x5_1 then (if x5_1 < (a0.size : Int) then (if x5_1 < (a1.size : Int) then (if (bt a0 x5_1) < (bt a1 x5_1) then (some (-1)) else (if (bt a0 x5_1) > (bt a1 x5_1) then (some 1) else (r1_texts.l0 kj2 a0 a1 (wrap64 (x5_1 + 1))))) else (none)) else (none)) else (none)) = some r := by rw [if_pos rfl] at H; exact H
       clear H
       have H := H1
       clear H1
       by_cases c6 : 0 ≤ x5_1
       · rw [if_pos c6] at H
         have c6b0 : decide (0 ≤ x5_1) = true := dT_ c6
         clear c6
         by_cases c7 : x5_1 < (a0.size : Int)
         · rw [if_pos c7] at H
           have c7b0 : decide (x5_1 < (a0.size : Int)) = true := dT_ c7
           clear c7
           by_cases c9 : x5_1 < (a1.size : Int)
           · rw [if_pos c9] at H
             have c9b0 : decide (x5_1 < (a1.size : Int)) = true := dT_ c9
             clear c9
             by_cases c11 : (bt a0 x5_1) < (bt a1 x5_1)
             · rw [if_pos c11] at H
               have c11b0 : decide ((bt a0 x5_1) < (bt a1 x5_1)) = true := dT_ c11
               clear c11
               obtain rfl := Option.some.inj H
               have p8 : 0 ≤ (x5_1 : Int) := oT_ (by assumption)
               have q8 : x5_1 < (a0.size : Int) := oT_ (by assumption)
               have hx8 := bt_at a0 x5_1
               replace p8 := eq_true p8
               replace q8 := eq_true q8
               have p10 : 0 ≤ (x5_1 : Int) := oT_ (by assumption)
               have q10 : x5_1 < (a1.size : Int) := oT_ (by assumption)
               have hx10 := bt_at a1 x5_1
               replace p10 := eq_true p10
               replace q10 := eq_true q10
               go_wp2
               repeat (go_quiet (fail); try go_wp2)
               go_ret
               exact ⟨by first | rfl | (simp; done) | (simp [*]; done), by repeat (first | exact Drawn0.refl _ | apply Drawn0.step)⟩
             · rw [if_neg c11] at H
               have c11b0 : decide ((bt a0 x5_1) < (bt a1 x5_1)) = false := dF_ c11
               clear c11
               by_cases c14 : (bt a0 x5_1) > (bt a1 x5_1)
               · rw [if_pos c14] at H
                 have c14b0 : decide ((bt a1 x5_1) < (bt a0 x5_1)) = true := dT_ c14
                 clear c14
                 obtain rfl := Option.some.inj H
                 have p8 : 0 ≤ (x5_1 : Int) := oT_ (by assumption)
                 have q8 : x5_1 < (a0.size : Int) := oT_ (by assumption)
                 have hx8 := bt_at a0 x5_1
                 replace p8 := eq_true p8
                 replace q8 := eq_true q8
                 have p10 : 0 ≤ (x5_1 : Int) := oT_ (by assumption)
                 have q10 : x5_1 < (a1.size : Int) := oT_ (by assumption)
                 have hx10 := bt_at a1 x5_1
                 replace p10 := eq_true p10
                 replace q10 := eq_true q10
                 have p12 : 0 ≤ (x5_1 : Int) := oT_ (by assumption)
                 have q12 : x5_1 < (a0.size : Int) := oT_ (by assumption)
                 have hx12 := bt_at a0 x5_1
                 replace p12 := eq_true p12
                 replace q12 := eq_true q12
                 have p13 : 0 ≤ (x5_1 : Int) := oT_ (by assumption)
                 have q13 : x5_1 < (a1.size : Int) := oT_ (by assumption)
                 have hx13 := bt_at a1 x5_1
                 replace p13 := eq_true p13
                 replace q13 := eq_true q13
                 go_wp2
                 repeat (go_quiet (fail); try go_wp2)
                 go_ret
                 exact ⟨by first | rfl | (simp; done) | (simp [*]; done), by repeat (first | exact Drawn0.refl _ | apply Drawn0.step)⟩
               · rw [if_neg c14] at H
                 have c14b0 : decide ((bt a1 x5_1) < (bt a0 x5_1)) = false := dF_ c14
                 clear c14
                 have H' := Aside0.mk H
                 clear H
                 have p8 : 0 ≤ (x5_1 : Int) := oT_ (by assumption)
                 have q8 : x5_1 < (a0.size : Int) := oT_ (by assumption)
                 have hx8 := bt_at a0 x5_1
                 replace p8 := eq_true p8
                 replace q8 := eq_true q8
                 have p10 : 0 ≤ (x5_1 : Int) := oT_ (by assumption)
                 have q10 : x5_1 < (a1.size : Int) := oT_ (by assumption)
                 have hx10 := bt_at a1 x5_1
                 replace p10 := eq_true p10
                 replace q10 := eq_true q10
                 have p12 : 0 ≤ (x5_1 : Int) := oT_ (by assumption)
                 have q12 : x5_1 < (a0.size : Int) := oT_ (by assumption)
                 have hx12 := bt_at a0 x5_1
                 replace p12 := eq_true p12
                 replace q12 := eq_true q12
                 have p13 : 0 ≤ (x5_1 : Int) := oT_ (by assumption)
                 have q13 : x5_1 < (a1.size : Int) := oT_ (by assumption)
                 have hx13 := bt_at a1 x5_1
                 replace p13 := eq_true p13
                 replace q13 := eq_true q13
                 go_wp2
                 repeat (go_quiet (fail); try go_wp2)
                 go_roundg kj2
                 case measure => have := HK1.out; have := HJ2.out; omega
                 case rel => exact ⟨(wrap64 (x5_1 + 1)), (by first | rfl | (simp; done) | (simp [*]; done)), H', ⟨by have := HK1.out; have := HJ2.out; omega⟩, by repeat (first | exact Drawn0.refl _ | apply Drawn0.step)⟩
           · rw [if_neg c9] at H
             exact absurd H (by simp)
         · rw [if_neg c7] at H
           exact absurd H (by simp)
       · rw [if_neg c6] at H
         exact absurd H (by simp)
     · replace c5 := Bool.eq_false_iff.mpr c5
       subst c5
       have H1 : (if (a0.size : Int) < (a1.size : Int) then (some (-1)) else (if (a0.size : Int) > (a1.size : Int) then (some 1) else (some 0))) = some r := by rw [if_neg (show ¬ (false = true) by decide)] at H; exact H
       clear H
       have H := H1
       clear H1
       by_cases c15 : (a0.size : Int) < (a1.size : Int)
       · rw [if_pos c15] at H
         have c15b0 : decide ((a0.size : Int) < (a1.size : Int)) = true := dT_ c15
         have c15b1 : decide (a0.size < a1.size) = true := dT_ (Int.ofNat_lt.mp c15)
         clear c15
         obtain rfl := Option.some.inj H
         go_wp2
         repeat (go_quiet (fail); try go_wp2)
         go_ret
         exact ⟨by first | rfl | (simp; done) | (simp [*]; done), by repeat (first | exact Drawn0.refl _ | apply Drawn0.step)⟩
       · rw [if_neg c15] at H
         have c15b0 : decide ((a0.size : Int) < (a1.size : Int)) = false := dF_ c15
         have c15b1 : decide (a0.size < a1.size) = false := dF_ (fun h => c15 (Int.ofNat_lt.mpr h))
         clear c15
         by_cases c16 : (a0.size : Int) > (a1.size : Int)
         · rw [if_pos c16] at H
           have c16b0 : decide ((a1.size : Int) < (a0.size : Int)) = true := dT_ c16
           have c16b1 : decide (a1.size < a0.size) = true := dT_ (Int.ofNat_lt.mp c16)
           clear c16
           obtain rfl := Option.some.inj H
           go_wp2
           repeat (go_quiet (fail); try go_wp2)
           go_ret
           exact ⟨by first | rfl | (simp; done) | (simp [*]; done), by repeat (first | exact Drawn0.refl _ | apply Drawn0.step)⟩
         · rw [if_neg c16] at H
           have c16b0 : decide ((a1.size : Int) < (a0.size : Int)) = false := dF_ c16
           have c16b1 : decide (a1.size < a0.size) = false := dF_ (fun h => c16 (Int.ofNat_lt.mpr h))
           clear c16
           obtain rfl := Option.some.inj H
           go_wp2
           repeat (go_quiet (fail); try go_wp2)
           go_ret
           exact ⟨by first | rfl | (simp; done) | (simp [*]; done), by repeat (first | exact Drawn0.refl _ | apply Drawn0.step)⟩
def r1_Compare.j0 : Nat → Int → Bool → Int → Int → ByteArray → Int → Int → ByteArray → Option (Int)
 | 0, _, _, _, _, _, _, _, _ => none
 | k + 1, x19, x22, x181000, x181001, x181002, x182000, x182001, x182002 => if x22 = true then ((r1_ints.f x181001 x182001).bind fun t183 => (some t183)) else (if x19 = 2 then ((r1_texts.f k x181002 x182002).bind fun t184 => (some t184)) else ((r1_ints.f x181001 x182001).bind fun t185 => (if t185 = 0 then ((r1_texts.f k x181002 x182002).bind fun t186 => (some t186)) else (some t185))))
def r1_Compare.f (k : Nat) (a0_0 : Int) (a0_1 : Int) (a0_2 : ByteArray) (a1_0 : Int) (a1_1 : Int) (a1_2 : ByteArray) : Option (Int) := if a0_0 = a1_0 then (if a0_0 = 0 then (some 0) else (if a0_0 = 1 then (r1_Compare.j0 k a0_0 (a0_0 == 1) a0_0 a0_1 a0_2 a1_0 a1_1 a1_2) else (r1_Compare.j0 k a0_0 (a0_0 == 3) a0_0 a0_1 a0_2 a1_0 a1_1 a1_2))) else ((r1_ints.f (wrap64 (a0_0)) (wrap64 (a1_0))).bind fun t182 => (some t182))
theorem r1_Compare.calls (k : Nat) (a0_0 : Int) (a0_1 : Int) (a0_2 : ByteArray) (a1_0 : Int) (a1_1 : Int) (a1_2 : ByteArray) (r : Int) (w : World) (h : r1_Compare.f k a0_0 a0_1 a0_2 a1_0 a1_1 a1_2 = some r) :
 Calls Tryz.prog 85 #[.agg #[.int .u8 a0_0, .int .i64 a0_1, .string a0_2], .agg #[.int .u8 a1_0, .int .i64 a1_1, .string a1_2]] w fun e w' => e = .returned (.int .i64 r) ∧ Below w.heap.size w w' := by
 have hu36 := Tryz.underlying36
 have HB := Aside0.mk (Below.refl w.heap.size w)
 have H : (if a0_0 = a1_0 then (if a0_0 = 0 then (some 0) else (if a0_0 = 1 then (r1_Compare.j0 k a0_0 (a0_0 == 1) a0_0 a0_1 a0_2 a1_0 a1_1 a1_2) else (r1_Compare.j0 k a0_0 (a0_0 == 3) a0_0 a0_1 a0_2 a1_0 a1_1 a1_2))) else ((r1_ints.f (wrap64 (a0_0)) (wrap64 (a1_0))).bind fun t182 => (some t182))) = some r := h
 clear h
 by_cases c3 : a0_0 = a1_0
 · rw [if_pos c3] at H
   have c3b0 : (a0_0 == a1_0) = true := beq_iff_eq.mpr c3
   have c3b1 : (a0_0 != a1_0) = false := bne_eq_false_iff_eq.mpr c3
   clear c3
   by_cases c4 : a0_0 = 0
   · rw [if_pos c4] at H
     have c4b0 : (a0_0 == 0) = true := beq_iff_eq.mpr c4
     have c4b1 : (a0_0 != 0) = false := bne_eq_false_iff_eq.mpr c4
     clear c4
     obtain rfl := Option.some.inj H
     go_enter Tryz.func85, Tryz.ntmps85
     go_wp2_with (first | ((with_reducible refine gate_dst (N := 2) rfl ?_); refine box_event ?hg (N := 2) ?hd (cs := #[.int .u8 a0_0, .int .i64 a0_1, .string a0_2]) (t := 36) ?hr ?_; (case hd => rfl); (case hg => rfl); (case hr => first | (go_simp; done) | (go_simp; rfl)); intro gb180 hg w5 hbox hb; have n0_ := Aside0.mk (below_step (by repeat (first | (with_reducible first | exact HB.out | apply bA_ | apply bN_ | apply b1_) | exact HB.out)) hb); have n1_ := Aside0.mk (hbox); have n2_ := Aside0.mk ((by rw [hg]; exact (below_size (by repeat (first | (with_reducible first | exact HB.out | apply bA_ | apply bN_ | apply b1_) | exact HB.out))) : w.heap.size ≤ gb180)); have n3_ := Aside0.mk ((by rw [hg]; exact (below_size (by repeat (first | (with_reducible first | exact HB.out | apply bA_ | apply bN_ | apply b1_) | exact HB.out))) : w.heap.size ≤ gb180)); clear HB; have HB := n0_; have BK180 := n1_; have GW180 := n2_; have GE180 := n3_; clear n0_ n1_ n2_ n3_; clear hb hbox hg) | ((with_reducible refine gate_dst (N := 3) rfl ?_); refine box_event ?hg (N := 3) ?hd (cs := #[.int .u8 a1_0, .int .i64 a1_1, .string a1_2]) (t := 36) ?hr ?_; (case hd => rfl); (case hg => rfl); (case hr => first | (go_simp; done) | (go_simp; rfl)); intro gb181 hg w6 hbox hb; have n0_ := Aside0.mk (blk_below (g := gb180) (o := .cells #[.int .u8 a0_0, .int .i64 a0_1, .string a0_2] 36 (0, 0)) (by (with_reducible repeat (first | refine blk_drewN ?_ _ | refine blk_drew ?_ | refine blk_alloc ?_ _)); exact BK180.out) hb); have n1_ := Aside0.mk (below_step (by repeat (first | (with_reducible first | exact HB.out | apply bA_ | apply bN_ | apply b1_ | refine below_set ?_ GE180.out) | exact HB.out)) hb); have n2_ := Aside0.mk (hbox); have n3_ := Aside0.mk ((by rw [hg]; exact (below_size (by repeat (first | (with_reducible first | exact HB.out | apply bA_ | apply bN_ | apply b1_ | refine below_set ?_ GE180.out) | exact HB.out))) : w.heap.size ≤ gb181)); have n4_ := Aside0.mk ((by rw [hg]; exact (below_size (by repeat (first | (with_reducible first | exact HB.out | apply bA_ | apply bN_ | apply b1_ | refine below_set ?_ GE180.out) | exact HB.out))) : w.heap.size ≤ gb181)); have n5_ := Aside0.mk ((by rw [hg]; exact Nat.ne_of_lt (blk_lt (g := gb180) (o := .cells #[.int .u8 a0_0, .int .i64 a0_1, .string a0_2] 36 (0, 0)) (by (with_reducible repeat (first | refine blk_drewN ?_ _ | refine blk_drew ?_ | refine blk_alloc ?_ _)); exact BK180.out)) : gb180 ≠ gb181)); have n6_ := Aside0.mk ((by rw [hg]; exact Nat.ne_of_gt (blk_lt (g := gb180) (o := .cells #[.int .u8 a0_0, .int .i64 a0_1, .string a0_2] 36 (0, 0)) (by (with_reducible repeat (first | refine blk_drewN ?_ _ | refine blk_drew ?_ | refine blk_alloc ?_ _)); exact BK180.out)) : gb181 ≠ gb180)); clear BK180; clear HB; have BK180 := n0_; have HB := n1_; have BK181 := n2_; have GW181 := n3_; have GE181 := n4_; have NB180_181 := n5_; have NB181_180 := n6_; clear n0_ n1_ n2_ n3_ n4_ n5_ n6_; clear hb hbox hg; have hnb7 := NB180_181.out; have hnc7 := NB181_180.out; have hcz8_0 : w6.cell? ⟨gb180, 0, none⟩ = some (.int .u8 a0_0) := (blk_cell BK180.out 0).trans rfl; have hcz8_1 : w6.cell? ⟨gb180, 1, none⟩ = some (.int .i64 a0_1) := (blk_cell BK180.out 1).trans rfl; have hcz8_2 : w6.cell? ⟨gb180, 2, none⟩ = some (.string a0_2) := (blk_cell BK180.out 2).trans rfl; have hfz8_0 := blk_frozen BK180.out 0; have hfz8_1 := blk_frozen BK180.out 1; have hfz8_2 := blk_frozen BK180.out 2; have hcz9_0 : w6.cell? ⟨gb181, 0, none⟩ = some (.int .u8 a1_0) := (blk_cell BK181.out 0).trans rfl; have hcz9_1 : w6.cell? ⟨gb181, 1, none⟩ = some (.int .i64 a1_1) := (blk_cell BK181.out 1).trans rfl; have hcz9_2 : w6.cell? ⟨gb181, 2, none⟩ = some (.string a1_2) := (blk_cell BK181.out 2).trans rfl; have hfz9_0 := blk_frozen BK181.out 0; have hfz9_1 := blk_frozen BK181.out 1; have hfz9_2 := blk_frozen BK181.out 2))
     go_ret
     exact ⟨by first | rfl | (simp [*, errW_none, errW_some] <;> rfl), by repeat (first | (with_reducible first | exact HB.out | apply bA_ | apply bN_ | apply b1_ | refine below_set ?_ GE180.out | refine below_set ?_ GE181.out) | exact HB.out)⟩
   · rw [if_neg c4] at H
     have c4b0 : (a0_0 == 0) = false := beq_eq_false_iff_ne.mpr c4
     have c4b1 : (a0_0 != 0) = true := bne_iff_ne.mpr c4
     have HC10 := Aside0.mk H
     clear H
     go_enter Tryz.func85, Tryz.ntmps85
     go_upto_if 22 with (first | ((with_reducible refine gate_dst (N := 2) rfl ?_); refine box_event ?hg (N := 2) ?hd (cs := #[.int .u8 a0_0, .int .i64 a0_1, .string a0_2]) (t := 36) ?hr ?_; (case hd => rfl); (case hg => rfl); (case hr => first | (go_simp; done) | (go_simp; rfl)); intro gb180 hg w11 hbox hb; have n0_ := Aside0.mk (below_step (by repeat (first | (with_reducible first | exact HB.out | apply bA_ | apply bN_ | apply b1_) | exact HB.out)) hb); have n1_ := Aside0.mk (hbox); have n2_ := Aside0.mk ((by rw [hg]; exact (below_size (by repeat (first | (with_reducible first | exact HB.out | apply bA_ | apply bN_ | apply b1_) | exact HB.out))) : w.heap.size ≤ gb180)); have n3_ := Aside0.mk ((by rw [hg]; exact (below_size (by repeat (first | (with_reducible first | exact HB.out | apply bA_ | apply bN_ | apply b1_) | exact HB.out))) : w.heap.size ≤ gb180)); clear HB; have HB := n0_; have BK180 := n1_; have GW180 := n2_; have GE180 := n3_; clear n0_ n1_ n2_ n3_; clear hb hbox hg) | ((with_reducible refine gate_dst (N := 3) rfl ?_); refine box_event ?hg (N := 3) ?hd (cs := #[.int .u8 a1_0, .int .i64 a1_1, .string a1_2]) (t := 36) ?hr ?_; (case hd => rfl); (case hg => rfl); (case hr => first | (go_simp; done) | (go_simp; rfl)); intro gb181 hg w12 hbox hb; have n0_ := Aside0.mk (blk_below (g := gb180) (o := .cells #[.int .u8 a0_0, .int .i64 a0_1, .string a0_2] 36 (0, 0)) (by (with_reducible repeat (first | refine blk_drewN ?_ _ | refine blk_drew ?_ | refine blk_alloc ?_ _)); exact BK180.out) hb); have n1_ := Aside0.mk (below_step (by repeat (first | (with_reducible first | exact HB.out | apply bA_ | apply bN_ | apply b1_ | refine below_set ?_ GE180.out) | exact HB.out)) hb); have n2_ := Aside0.mk (hbox); have n3_ := Aside0.mk ((by rw [hg]; exact (below_size (by repeat (first | (with_reducible first | exact HB.out | apply bA_ | apply bN_ | apply b1_ | refine below_set ?_ GE180.out) | exact HB.out))) : w.heap.size ≤ gb181)); have n4_ := Aside0.mk ((by rw [hg]; exact (below_size (by repeat (first | (with_reducible first | exact HB.out | apply bA_ | apply bN_ | apply b1_ | refine below_set ?_ GE180.out) | exact HB.out))) : w.heap.size ≤ gb181)); have n5_ := Aside0.mk ((by rw [hg]; exact Nat.ne_of_lt (blk_lt (g := gb180) (o := .cells #[.int .u8 a0_0, .int .i64 a0_1, .string a0_2] 36 (0, 0)) (by (with_reducible repeat (first | refine blk_drewN ?_ _ | refine blk_drew ?_ | refine blk_alloc ?_ _)); exact BK180.out)) : gb180 ≠ gb181)); have n6_ := Aside0.mk ((by rw [hg]; exact Nat.ne_of_gt (blk_lt (g := gb180) (o := .cells #[.int .u8 a0_0, .int .i64 a0_1, .string a0_2] 36 (0, 0)) (by (with_reducible repeat (first | refine blk_drewN ?_ _ | refine blk_drew ?_ | refine blk_alloc ?_ _)); exact BK180.out)) : gb181 ≠ gb180)); clear BK180; clear HB; have BK180 := n0_; have HB := n1_; have BK181 := n2_; have GW181 := n3_; have GE181 := n4_; have NB180_181 := n5_; have NB181_180 := n6_; clear n0_ n1_ n2_ n3_ n4_ n5_ n6_; clear hb hbox hg; have hnb13 := NB180_181.out; have hnc13 := NB181_180.out; have hcz14_0 : w12.cell? ⟨gb180, 0, none⟩ = some (.int .u8 a0_0) := (blk_cell BK180.out 0).trans rfl; have hcz14_1 : w12.cell? ⟨gb180, 1, none⟩ = some (.int .i64 a0_1) := (blk_cell BK180.out 1).trans rfl; have hcz14_2 : w12.cell? ⟨gb180, 2, none⟩ = some (.string a0_2) := (blk_cell BK180.out 2).trans rfl; have hfz14_0 := blk_frozen BK180.out 0; have hfz14_1 := blk_frozen BK180.out 1; have hfz14_2 := blk_frozen BK180.out 2; have hcz15_0 : w12.cell? ⟨gb181, 0, none⟩ = some (.int .u8 a1_0) := (blk_cell BK181.out 0).trans rfl; have hcz15_1 : w12.cell? ⟨gb181, 1, none⟩ = some (.int .i64 a1_1) := (blk_cell BK181.out 1).trans rfl; have hcz15_2 : w12.cell? ⟨gb181, 2, none⟩ = some (.string a1_2) := (blk_cell BK181.out 2).trans rfl; have hfz15_0 := blk_frozen BK181.out 0; have hfz15_1 := blk_frozen BK181.out 1; have hfz15_2 := blk_frozen BK181.out 2))
     (try simp only [Act.put, sTA_, sCZ_, sCS_])
     go_cut [22] (fun v22 wc => ∃ (kq : Nat) (x22_9 : Bool), v22 = .bool x22_9 ∧ Aside0 (r1_Compare.j0 kq a0_0 x22_9 a0_0 a0_1 a0_2 a1_0 a1_1 a1_2 = some r) ∧ Aside0 (kq ≤ k) ∧ Aside0 (wc.heap[gb180]? = some (.cells #[.int .u8 a0_0, .int .i64 a0_1, .string a0_2] 36 (0, 0))) ∧ Aside0 (wc.heap[gb181]? = some (.cells #[.int .u8 a1_0, .int .i64 a1_1, .string a1_2] 36 (0, 0))) ∧ Aside0 (Below w.heap.size w wc))
     case first =>
      have H := HC10.out
      clear HC10
      by_cases c16 : a0_0 = 1
      · rw [if_pos c16] at H
        have c16b0 : (a0_0 == 1) = true := beq_iff_eq.mpr c16
        have c16b1 : (a0_0 != 1) = false := bne_eq_false_iff_eq.mpr c16
        clear c16
        (first | rw [c16b0] | (simp only [i64_w, i32_w]; rw [c16b0]) | skip)
        have H' := Aside0.mk H
        clear H
        go_wp2
        go_meet
        case rel => exact ⟨_, ((a0_0 == 1)), (by first | rfl | (simp; done) | (simp [*]; done)), H', ⟨by first | omega | exact Nat.le_refl _⟩, ⟨by (with_reducible repeat (first | refine blk_drewN ?_ _ | refine blk_drew ?_ | refine blk_alloc ?_ _)); exact BK180.out⟩, ⟨by (with_reducible repeat (first | refine blk_drewN ?_ _ | refine blk_drew ?_ | refine blk_alloc ?_ _)); exact BK181.out⟩, ⟨by repeat (first | (with_reducible first | exact HB.out | apply bA_ | apply bN_ | apply b1_ | refine below_set ?_ GE180.out | refine below_set ?_ GE181.out) | exact HB.out)⟩⟩
      · rw [if_neg c16] at H
        have c16b0 : (a0_0 == 1) = false := beq_eq_false_iff_ne.mpr c16
        have c16b1 : (a0_0 != 1) = true := bne_iff_ne.mpr c16
        (first | rw [c16b0] | (simp only [i64_w, i32_w]; rw [c16b0]) | skip)
        have H' := Aside0.mk H
        clear H
        go_wp2
        go_meet
        case rel => exact ⟨_, ((a0_0 == 3)), (by first | rfl | (simp; done) | (simp [*]; done)), H', ⟨by first | omega | exact Nat.le_refl _⟩, ⟨by (with_reducible repeat (first | refine blk_drewN ?_ _ | refine blk_drew ?_ | refine blk_alloc ?_ _)); exact BK180.out⟩, ⟨by (with_reducible repeat (first | refine blk_drewN ?_ _ | refine blk_drew ?_ | refine blk_alloc ?_ _)); exact BK181.out⟩, ⟨by repeat (first | (with_reducible first | exact HB.out | apply bA_ | apply bN_ | apply b1_ | refine below_set ?_ GE180.out | refine below_set ?_ GE181.out) | exact HB.out)⟩⟩
     case rest =>
      clear HC10
      try clear c1
      try clear p2
      try clear c3
      try clear c3b0
      try clear c3b1
      try clear c4
      try clear c4b0
      try clear c4b1
      try clear p6
      try clear c7
      try clear c8
      try clear c13
      try clear c16
      try clear c16b0
      try clear c16b1
      try clear hcz14_0
      try clear hcz14_1
      try clear hcz14_2
      try clear hcz15_0
      try clear hcz15_1
      try clear hcz15_2
      try clear hcz8_0
      try clear hcz8_1
      try clear hcz8_2
      try clear hcz9_0
      try clear hcz9_1
      try clear hcz9_2
      try clear hfz14_0
      try clear hfz14_1
      try clear hfz14_2
      try clear hfz15_0
      try clear hfz15_1
      try clear hfz15_2
      try clear hfz8_0
      try clear hfz8_1
      try clear hfz8_2
      try clear hfz9_0
      try clear hfz9_1
      try clear hfz9_2
      obtain ⟨kq, x22_9, rfl, HA, HJ9, BK180, BK181, HB⟩ := hcut
      cases kq with
      | zero => exact absurd HA.out (by simp [r1_Compare.j0])
      | succ kj9 =>
       have H := HA.out
       clear HA
       simp only [r1_Compare.j0] at H
       by_cases c17 : x22_9 = true
       · subst c17
         have H1 : ((r1_ints.f a0_1 a1_1).bind fun t183 => (some t183)) = some r := by rw [if_pos rfl] at H; exact H
         clear H
         have H := H1
         clear H1
         replace H := Option.bind_eq_some_iff.mp H
         obtain ⟨t183, A180, H⟩ := H
         replace H : (some t183) = some r := H
         have A18 := Aside0.mk A180
         clear A180
         obtain rfl := Option.some.inj H
         have hnb19 := NB180_181.out
         have hnc19 := NB181_180.out
         have hcz20_0 : wc.cell? ⟨gb180, 0, none⟩ = some (.int .u8 a0_0) := (blk_cell BK180.out 0).trans rfl
         have hcz20_1 : wc.cell? ⟨gb180, 1, none⟩ = some (.int .i64 a0_1) := (blk_cell BK180.out 1).trans rfl
         have hcz20_2 : wc.cell? ⟨gb180, 2, none⟩ = some (.string a0_2) := (blk_cell BK180.out 2).trans rfl
         have hfz20_0 := blk_frozen BK180.out 0
         have hfz20_1 := blk_frozen BK180.out 1
         have hfz20_2 := blk_frozen BK180.out 2
         have hcz21_0 : wc.cell? ⟨gb181, 0, none⟩ = some (.int .u8 a1_0) := (blk_cell BK181.out 0).trans rfl
         have hcz21_1 : wc.cell? ⟨gb181, 1, none⟩ = some (.int .i64 a1_1) := (blk_cell BK181.out 1).trans rfl
         have hcz21_2 : wc.cell? ⟨gb181, 2, none⟩ = some (.string a1_2) := (blk_cell BK181.out 2).trans rfl
         have hfz21_0 := blk_frozen BK181.out 0
         have hfz21_1 := blk_frozen BK181.out 1
         have hfz21_2 := blk_frozen BK181.out 2
         go_wp2_with (first | ((with_reducible refine gate_callee (f := 100) rfl ?_); refine goesL_ (some 29) rfl rfl Tryz.func100 (by kernel_rfl) rfl #[.int .i64 a0_1, .int .i64 a1_1] rfl (by (try simp only [List.map_toArray, List.map_cons, List.map_nil]); first | done | rfl | (simp only [List.length_drop, List.length_take]; rfl)) ?_; (with_reducible refine (r1_ints.calls a0_1 a1_1 t183 _ A18.out).mono ?_); rintro e w' ⟨rfl, ⟨nd, rfl⟩⟩; refine ⟨_, rfl, ?_⟩))
         go_ret
         exact ⟨by first | rfl | (simp [*, errW_none, errW_some] <;> rfl), by repeat (first | (with_reducible first | exact HB.out | apply bA_ | apply bN_ | apply b1_ | refine below_set ?_ GE180.out | refine below_set ?_ GE181.out) | exact HB.out)⟩
       · replace c17 := Bool.eq_false_iff.mpr c17
         subst c17
         have H1 : (if a0_0 = 2 then ((r1_texts.f kj9 a0_2 a1_2).bind fun t184 => (some t184)) else ((r1_ints.f a0_1 a1_1).bind fun t185 => (if t185 = 0 then ((r1_texts.f kj9 a0_2 a1_2).bind fun t186 => (some t186)) else (some t185)))) = some r := by rw [if_neg (show ¬ (false = true) by decide)] at H; exact H
         clear H
         have H := H1
         clear H1
         by_cases c22 : a0_0 = 2
         · rw [if_pos c22] at H
           have c22b0 : (a0_0 == 2) = true := beq_iff_eq.mpr c22
           have c22b1 : (a0_0 != 2) = false := bne_eq_false_iff_eq.mpr c22
           clear c22
           replace H := Option.bind_eq_some_iff.mp H
           obtain ⟨t184, A230, H⟩ := H
           replace H : (some t184) = some r := H
           have A23 := Aside0.mk A230
           clear A230
           obtain rfl := Option.some.inj H
           have hnb24 := NB180_181.out
           have hnc24 := NB181_180.out
           have hcz25_0 : wc.cell? ⟨gb180, 0, none⟩ = some (.int .u8 a0_0) := (blk_cell BK180.out 0).trans rfl
           have hcz25_1 : wc.cell? ⟨gb180, 1, none⟩ = some (.int .i64 a0_1) := (blk_cell BK180.out 1).trans rfl
           have hcz25_2 : wc.cell? ⟨gb180, 2, none⟩ = some (.string a0_2) := (blk_cell BK180.out 2).trans rfl
           have hfz25_0 := blk_frozen BK180.out 0
           have hfz25_1 := blk_frozen BK180.out 1
           have hfz25_2 := blk_frozen BK180.out 2
           have hcz26_0 : wc.cell? ⟨gb181, 0, none⟩ = some (.int .u8 a1_0) := (blk_cell BK181.out 0).trans rfl
           have hcz26_1 : wc.cell? ⟨gb181, 1, none⟩ = some (.int .i64 a1_1) := (blk_cell BK181.out 1).trans rfl
           have hcz26_2 : wc.cell? ⟨gb181, 2, none⟩ = some (.string a1_2) := (blk_cell BK181.out 2).trans rfl
           have hfz26_0 := blk_frozen BK181.out 0
           have hfz26_1 := blk_frozen BK181.out 1
           have hfz26_2 := blk_frozen BK181.out 2
           go_wp2_with (first | ((with_reducible refine gate_callee (f := 101) rfl ?_); refine goesL_ (some 36) rfl rfl Tryz.func101 (by kernel_rfl) rfl #[.string a0_2, .string a1_2] rfl (by (try simp only [List.map_toArray, List.map_cons, List.map_nil]); first | done | rfl | (simp only [List.length_drop, List.length_take]; rfl)) ?_; (with_reducible refine (r1_texts.calls kj9 a0_2 a1_2 t184 _ A23.out).mono ?_); rintro e w' ⟨rfl, ⟨nd, rfl⟩⟩; refine ⟨_, rfl, ?_⟩))
           go_ret
           exact ⟨by first | rfl | (simp [*, errW_none, errW_some] <;> rfl), by repeat (first | (with_reducible first | exact HB.out | apply bA_ | apply bN_ | apply b1_ | refine below_set ?_ GE180.out | refine below_set ?_ GE181.out) | exact HB.out)⟩
         · rw [if_neg c22] at H
           have c22b0 : (a0_0 == 2) = false := beq_eq_false_iff_ne.mpr c22
           have c22b1 : (a0_0 != 2) = true := bne_iff_ne.mpr c22
           replace H := Option.bind_eq_some_iff.mp H
           obtain ⟨t185, A270, H⟩ := H
           replace H : (if t185 = 0 then ((r1_texts.f kj9 a0_2 a1_2).bind fun t186 => (some t186)) else (some t185)) = some r := H
           have A27 := Aside0.mk A270
           clear A270
           by_cases c28 : t185 = 0
           · rw [if_pos c28] at H
             have c28b0 : (t185 == 0) = true := beq_iff_eq.mpr c28
             have c28b1 : (t185 != 0) = false := bne_eq_false_iff_eq.mpr c28
             clear c28
             replace H := Option.bind_eq_some_iff.mp H
             obtain ⟨t186, A290, H⟩ := H
             replace H : (some t186) = some r := H
             have A29 := Aside0.mk A290
             clear A290
             obtain rfl := Option.some.inj H
             have hnb30 := NB180_181.out
             have hnc30 := NB181_180.out
             have hcz31_0 : wc.cell? ⟨gb180, 0, none⟩ = some (.int .u8 a0_0) := (blk_cell BK180.out 0).trans rfl
             have hcz31_1 : wc.cell? ⟨gb180, 1, none⟩ = some (.int .i64 a0_1) := (blk_cell BK180.out 1).trans rfl
             have hcz31_2 : wc.cell? ⟨gb180, 2, none⟩ = some (.string a0_2) := (blk_cell BK180.out 2).trans rfl
             have hfz31_0 := blk_frozen BK180.out 0
             have hfz31_1 := blk_frozen BK180.out 1
             have hfz31_2 := blk_frozen BK180.out 2
             have hcz32_0 : wc.cell? ⟨gb181, 0, none⟩ = some (.int .u8 a1_0) := (blk_cell BK181.out 0).trans rfl
             have hcz32_1 : wc.cell? ⟨gb181, 1, none⟩ = some (.int .i64 a1_1) := (blk_cell BK181.out 1).trans rfl
             have hcz32_2 : wc.cell? ⟨gb181, 2, none⟩ = some (.string a1_2) := (blk_cell BK181.out 2).trans rfl
             have hfz32_0 := blk_frozen BK181.out 0
             have hfz32_1 := blk_frozen BK181.out 1
             have hfz32_2 := blk_frozen BK181.out 2
             go_wp2_with (first | ((with_reducible refine gate_callee (f := 100) rfl ?_); refine goesL_ (some 41) rfl rfl Tryz.func100 (by kernel_rfl) rfl #[.int .i64 a0_1, .int .i64 a1_1] rfl (by (try simp only [List.map_toArray, List.map_cons, List.map_nil]); first | done | rfl | (simp only [List.length_drop, List.length_take]; rfl)) ?_; (with_reducible refine (r1_ints.calls a0_1 a1_1 t185 _ A27.out).mono ?_); rintro e w' ⟨rfl, ⟨nd, rfl⟩⟩; refine ⟨_, rfl, ?_⟩) | ((with_reducible refine gate_callee (f := 101) rfl ?_); refine goesL_ (some 49) rfl rfl Tryz.func101 (by kernel_rfl) rfl #[.string a0_2, .string a1_2] rfl (by (try simp only [List.map_toArray, List.map_cons, List.map_nil]); first | done | rfl | (simp only [List.length_drop, List.length_take]; rfl)) ?_; (with_reducible refine (r1_texts.calls kj9 a0_2 a1_2 t186 _ A29.out).mono ?_); rintro e w' ⟨rfl, ⟨nd, rfl⟩⟩; refine ⟨_, rfl, ?_⟩))
             go_ret
             exact ⟨by first | rfl | (simp [*, errW_none, errW_some] <;> rfl), by repeat (first | (with_reducible first | exact HB.out | apply bA_ | apply bN_ | apply b1_ | refine below_set ?_ GE180.out | refine below_set ?_ GE181.out) | exact HB.out)⟩
           · rw [if_neg c28] at H
             have c28b0 : (t185 == 0) = false := beq_eq_false_iff_ne.mpr c28
             have c28b1 : (t185 != 0) = true := bne_iff_ne.mpr c28
             obtain rfl := Option.some.inj H
             have hnb33 := NB180_181.out
             have hnc33 := NB181_180.out
             have hcz34_0 : wc.cell? ⟨gb180, 0, none⟩ = some (.int .u8 a0_0) := (blk_cell BK180.out 0).trans rfl
             have hcz34_1 : wc.cell? ⟨gb180, 1, none⟩ = some (.int .i64 a0_1) := (blk_cell BK180.out 1).trans rfl
             have hcz34_2 : wc.cell? ⟨gb180, 2, none⟩ = some (.string a0_2) := (blk_cell BK180.out 2).trans rfl
             have hfz34_0 := blk_frozen BK180.out 0
             have hfz34_1 := blk_frozen BK180.out 1
             have hfz34_2 := blk_frozen BK180.out 2
             have hcz35_0 : wc.cell? ⟨gb181, 0, none⟩ = some (.int .u8 a1_0) := (blk_cell BK181.out 0).trans rfl
             have hcz35_1 : wc.cell? ⟨gb181, 1, none⟩ = some (.int .i64 a1_1) := (blk_cell BK181.out 1).trans rfl
             have hcz35_2 : wc.cell? ⟨gb181, 2, none⟩ = some (.string a1_2) := (blk_cell BK181.out 2).trans rfl
             have hfz35_0 := blk_frozen BK181.out 0
             have hfz35_1 := blk_frozen BK181.out 1
             have hfz35_2 := blk_frozen BK181.out 2
             go_wp2_with (first | ((with_reducible refine gate_callee (f := 100) rfl ?_); refine goesL_ (some 41) rfl rfl Tryz.func100 (by kernel_rfl) rfl #[.int .i64 a0_1, .int .i64 a1_1] rfl (by (try simp only [List.map_toArray, List.map_cons, List.map_nil]); first | done | rfl | (simp only [List.length_drop, List.length_take]; rfl)) ?_; (with_reducible refine (r1_ints.calls a0_1 a1_1 t185 _ A27.out).mono ?_); rintro e w' ⟨rfl, ⟨nd, rfl⟩⟩; refine ⟨_, rfl, ?_⟩))
             go_ret
             exact ⟨by first | rfl | (simp [*, errW_none, errW_some] <;> rfl), by repeat (first | (with_reducible first | exact HB.out | apply bA_ | apply bN_ | apply b1_ | refine below_set ?_ GE180.out | refine below_set ?_ GE181.out) | exact HB.out)⟩
 · rw [if_neg c3] at H
   have c3b0 : (a0_0 == a1_0) = false := beq_eq_false_iff_ne.mpr c3
   have c3b1 : (a0_0 != a1_0) = true := bne_iff_ne.mpr c3
   replace H := Option.bind_eq_some_iff.mp H
   obtain ⟨t182, A360, H⟩ := H
   replace H : (some t182) = some r := H
   have A36 := Aside0.mk A360
   clear A360
   obtain rfl := Option.some.inj H
   go_enter Tryz.func85, Tryz.ntmps85
   go_wp2_with (first | ((with_reducible refine gate_dst (N := 2) rfl ?_); refine box_event ?hg (N := 2) ?hd (cs := #[.int .u8 a0_0, .int .i64 a0_1, .string a0_2]) (t := 36) ?hr ?_; (case hd => rfl); (case hg => rfl); (case hr => first | (go_simp; done) | (go_simp; rfl)); intro gb180 hg w37 hbox hb; have n0_ := Aside0.mk (below_step (by repeat (first | (with_reducible first | exact HB.out | apply bA_ | apply bN_ | apply b1_) | exact HB.out)) hb); have n1_ := Aside0.mk (hbox); have n2_ := Aside0.mk ((by rw [hg]; exact (below_size (by repeat (first | (with_reducible first | exact HB.out | apply bA_ | apply bN_ | apply b1_) | exact HB.out))) : w.heap.size ≤ gb180)); have n3_ := Aside0.mk ((by rw [hg]; exact (below_size (by repeat (first | (with_reducible first | exact HB.out | apply bA_ | apply bN_ | apply b1_) | exact HB.out))) : w.heap.size ≤ gb180)); clear HB; have HB := n0_; have BK180 := n1_; have GW180 := n2_; have GE180 := n3_; clear n0_ n1_ n2_ n3_; clear hb hbox hg) | ((with_reducible refine gate_dst (N := 3) rfl ?_); refine box_event ?hg (N := 3) ?hd (cs := #[.int .u8 a1_0, .int .i64 a1_1, .string a1_2]) (t := 36) ?hr ?_; (case hd => rfl); (case hg => rfl); (case hr => first | (go_simp; done) | (go_simp; rfl)); intro gb181 hg w38 hbox hb; have n0_ := Aside0.mk (blk_below (g := gb180) (o := .cells #[.int .u8 a0_0, .int .i64 a0_1, .string a0_2] 36 (0, 0)) (by (with_reducible repeat (first | refine blk_drewN ?_ _ | refine blk_drew ?_ | refine blk_alloc ?_ _)); exact BK180.out) hb); have n1_ := Aside0.mk (below_step (by repeat (first | (with_reducible first | exact HB.out | apply bA_ | apply bN_ | apply b1_ | refine below_set ?_ GE180.out) | exact HB.out)) hb); have n2_ := Aside0.mk (hbox); have n3_ := Aside0.mk ((by rw [hg]; exact (below_size (by repeat (first | (with_reducible first | exact HB.out | apply bA_ | apply bN_ | apply b1_ | refine below_set ?_ GE180.out) | exact HB.out))) : w.heap.size ≤ gb181)); have n4_ := Aside0.mk ((by rw [hg]; exact (below_size (by repeat (first | (with_reducible first | exact HB.out | apply bA_ | apply bN_ | apply b1_ | refine below_set ?_ GE180.out) | exact HB.out))) : w.heap.size ≤ gb181)); have n5_ := Aside0.mk ((by rw [hg]; exact Nat.ne_of_lt (blk_lt (g := gb180) (o := .cells #[.int .u8 a0_0, .int .i64 a0_1, .string a0_2] 36 (0, 0)) (by (with_reducible repeat (first | refine blk_drewN ?_ _ | refine blk_drew ?_ | refine blk_alloc ?_ _)); exact BK180.out)) : gb180 ≠ gb181)); have n6_ := Aside0.mk ((by rw [hg]; exact Nat.ne_of_gt (blk_lt (g := gb180) (o := .cells #[.int .u8 a0_0, .int .i64 a0_1, .string a0_2] 36 (0, 0)) (by (with_reducible repeat (first | refine blk_drewN ?_ _ | refine blk_drew ?_ | refine blk_alloc ?_ _)); exact BK180.out)) : gb181 ≠ gb180)); clear BK180; clear HB; have BK180 := n0_; have HB := n1_; have BK181 := n2_; have GW181 := n3_; have GE181 := n4_; have NB180_181 := n5_; have NB181_180 := n6_; clear n0_ n1_ n2_ n3_ n4_ n5_ n6_; clear hb hbox hg; have hnb39 := NB180_181.out; have hnc39 := NB181_180.out; have hcz40_0 : w38.cell? ⟨gb180, 0, none⟩ = some (.int .u8 a0_0) := (blk_cell BK180.out 0).trans rfl; have hcz40_1 : w38.cell? ⟨gb180, 1, none⟩ = some (.int .i64 a0_1) := (blk_cell BK180.out 1).trans rfl; have hcz40_2 : w38.cell? ⟨gb180, 2, none⟩ = some (.string a0_2) := (blk_cell BK180.out 2).trans rfl; have hfz40_0 := blk_frozen BK180.out 0; have hfz40_1 := blk_frozen BK180.out 1; have hfz40_2 := blk_frozen BK180.out 2; have hcz41_0 : w38.cell? ⟨gb181, 0, none⟩ = some (.int .u8 a1_0) := (blk_cell BK181.out 0).trans rfl; have hcz41_1 : w38.cell? ⟨gb181, 1, none⟩ = some (.int .i64 a1_1) := (blk_cell BK181.out 1).trans rfl; have hcz41_2 : w38.cell? ⟨gb181, 2, none⟩ = some (.string a1_2) := (blk_cell BK181.out 2).trans rfl; have hfz41_0 := blk_frozen BK181.out 0; have hfz41_1 := blk_frozen BK181.out 1; have hfz41_2 := blk_frozen BK181.out 2) | ((with_reducible refine gate_callee (f := 100) rfl ?_); refine goesL_ (some 17) rfl rfl Tryz.func100 (by kernel_rfl) rfl #[.int .i64 (wrap64 (a0_0)), .int .i64 (wrap64 (a1_0))] rfl (by (try simp only [List.map_toArray, List.map_cons, List.map_nil]); first | done | rfl | (simp only [List.length_drop, List.length_take]; rfl)) ?_; (with_reducible refine (r1_ints.calls (wrap64 (a0_0)) (wrap64 (a1_0)) t182 _ A36.out).mono ?_); rintro e w' ⟨rfl, ⟨nd, rfl⟩⟩; refine ⟨_, rfl, ?_⟩))
   go_ret
   exact ⟨by first | rfl | (simp [*, errW_none, errW_some] <;> rfl), by repeat (first | (with_reducible first | exact HB.out | apply bA_ | apply bN_ | apply b1_ | refine below_set ?_ GE180.out | refine below_set ?_ GE181.out) | exact HB.out)⟩
end Go.Proofs.YtecgkcgfeghhgaaGreatDoor.PAll
