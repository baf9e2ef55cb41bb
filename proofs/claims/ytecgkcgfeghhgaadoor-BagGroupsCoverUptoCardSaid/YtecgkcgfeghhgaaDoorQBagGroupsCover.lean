/- The row of BagGroupsCover (second form: what it reads is of bulk at most 2^20) and its card. Joined by a program of this session out of its texts. -/
import Derived.Test.YtecgkcgfeghhgaaDoorQBagGroupsCover3
import Derived.Below
import Derived.Deep.Draws
import Derived.Deep.AppendLies
import Derived.Maps.AppendAt
import Derived.OwnWalk
import Derived.Laws.BytesArg
import Derived.Laws.MakeOwn
import Derived.Laws.OwnMore
import Derived.Deep.OwnRows
import Derived.Tactics
import Derived.Lib.ConvBytes
import Derived.Laws.Slices
import Derived.WalkKit
import Derived.KernelRfl
import Derived.RowKit3
import Derived.Deep.LoopGhost
import Derived.Deep.QuietTactic
import Derived.BigQuiet
import Derived.WideLaws
import Derived.Deep.DeepCutAuto
import Derived.Deep.CutBlock
import Derived.Deep.RegionHeld3
import Derived.Laws.Rows
import Derived.Lib.AppendStr
import Derived.ArgAppend
import Derived.Laws.IdiomCopy
import Derived.RowKit
import Derived.OrdersHeld
import Derived.Laws.BitsLemmas
import Derived.Laws.StructEq
import Derived.Shelf.Strings.BuilderK
import Derived.Shelf.Spec.SlicesGrow
import Derived.Shelf.SlGeneric
import Derived.Ground.Names8Prog
import Derived.Shelf.SlSortCmp.NoneTotal
import Derived.Ground.SlsfProg
import Derived.Ground.NamesProg
import Derived.Shelf.Spec.BitsCarry
import Derived.Ground.Names7Prog
import Derived.Shelf.Strings.Builder1
import Derived.Shelf.Small.Bits
import Derived.Shelf.Small.Strs
import Derived.Shelf.Strings.BuilderF
import Derived.Shelf.Strconv.Itoa0
import Derived.Shelf.Strconv.Itoa1
import Derived.Shelf.LaysM
import Derived.Shelf.Strconv.Itoa2
import Derived.Shelf.Strconv.Itoa3
import Derived.Shelf.Strconv.Itoa4
import Derived.Shelf.Strings.BuilderCap
import Derived.Maps.OwnOps
import Derived.ChangeArms
import Derived.Deep.Slices
import Derived.Deep.Strs
import Derived.Lib.ItoaLen
import Derived.BigRegion
import Derived.RegionTactic
import Derived.Sort.Statements
import Derived.WalkSpells
import Derived.WalkMore
import Derived.Lib.ItoaNum
import Derived.Lib.BitFns
import Derived.Handy
import Derived.ProofKit
import Derived.OpenShut
import Derived.Carry
import Derived.Deep.DeepHandedRow
import Derived.Lib.LaidTab
set_option maxHeartbeats 8000000
set_option maxRecDepth 100000
set_option linter.unusedVariables false
set_option linter.unusedSimpArgs false
namespace Go.Proofs.YtecgkcgfeghhgaaDoor.PAll
open Go.RowKit Go.Proofs.YtecgkcgfeghhgaaDoorW.PrintWords Go.Proofs.YtecgkcgfeghhgaaDoorW.PrintLast Go.Proofs.YtecgkcgfeghhgaaDoorW.PrintMore
theorem group_good (A0 : Option Addr) (c0 : Nat) (l0 : List (List V)) (A1 : Option Addr) (c1 : Nat) (l1 : List Int) (A2 : Option Addr) (c2 : Nat) (l2 : List AggT) (w : World) (hr0 : Kd.C kRow w A0 l0.length l0) (hc0 : l0.length ≤ c0) (hr1 : Kd.C (Kd.int .i64) w A1 l1.length l1) (hr2 : Kd.C kAgg w A2 l2.length l2) (hT : LaidT w) (hok : GroupOk l0 l1 l2) (hg : groupableB l0 l1 l2 = true) (grs : List (List V)) (ger : Int) (hG : groupG l0 l1 l2 = (grs, ger)) :
 Calls Tryd.prog 15 #[.slice A0 l0.length c0, .slice A1 l1.length c1, .slice A2 l2.length c2] w fun e w' => ∃ v0_ : Value, e = .returned (.agg #[v0_, .int .i64 ger]) ∧ Kd.V kRow 58 w' w.heap.size (fun k_ => (w.heap.size ≤ k_)) v0_ grs ∧ Below w.heap.size w w' := by
 obtain ⟨hv, hin, hag⟩ := groupable_parts hg
 have HGG : Aside0 (rowsOf l1 l0 l2 (keysR l1 l0) [] = (grs, ger)) := ⟨by rw [← hG]; unfold groupG; rw [if_pos hg]⟩
 have HAG := Aside0.mk hag
 clear hag hg hG
 obtain ⟨k, hk⟩ := (valid_ev l0 hok.rows.v).rounds
 rw [hv] at hk
 have HK := Aside0.mk hk
 have HV := Aside0.mk hv
 have HIN := Aside0.mk hin
 have HOK := Aside0.mk hok
 have HT := Aside0.mk hT
 have HR0 := Aside0.mk hr0
 have HC0 := Aside0.mk hc0
 have HR1 := Aside0.mk hr1
 have HR2 := Aside0.mk hr2
 clear hk hv hin hok hT hr0 hc0 hr1 hr2
 go_enter Tryd.func15, Tryd.ntmps15
 go_wp2_with (first
  | ((with_reducible refine gate_dst (N := 6) rfl ?_); refine box_event ?hg (N := 6) ?hd (cs := #[.slice none 0 0, .int .i64 0]) (t := 41) ?hr ?_; (case hd => rfl); (case hg => rfl); (case hr => first | (go_simp; done) | (go_simp; rfl)); intro q hq W hN hb1; have HB1 := Aside0.mk hb1; have HQ := Aside0.mk hq; have HN0 := Aside0.mk hN; clear hb1 hq hN)
  | ((with_reducible refine gate_dst (N := 7) rfl ?_); refine box_event ?hg (N := 7) ?hd (cs := #[.slice none 0 0, .int .i64 0]) (t := 41) ?hr ?_; (case hd => rfl); (case hg => rfl); (case hr => first | (go_simp; done) | (go_simp; rfl)); intro q2 hq2 W2 hN2 hb2; have HN1 := Aside0.mk ((hb2.block q (blk_lt HN0.out)).trans HN0.out); have HB2 := Aside0.mk (HB1.out.trans (hb2.mono HB1.out.size)); have HQ2 := Aside0.mk hq2; have HN2 := Aside0.mk hN2; have X0 : W2.cell? ⟨q2, 0, none⟩ = some (.slice none 0 0) := (blk_cell hN2 0).trans rfl; have X1 : W2.cell? ⟨q2, 1, none⟩ = some (.int .i64 0) := (blk_cell hN2 1).trans rfl; have X2 : ∀ j, W2.frozen? ⟨q2, j, none⟩ = false := (fun j => by simp [World.frozen?, hN2]); clear hb2 hq2 hN2))
 have hB3 : Below w.heap.size w ((W2.setCell ⟨q2, 0, none⟩ (.slice none 0 0)).setCell ⟨q2, 1, none⟩ (.int .i64 1)) := out2_below HB2.out (by rw [HQ2.out]; exact HB1.out.size) _ _
 have hq12 : q ≠ q2 := fun e => by have := blk_lt HN0.out; have := HQ2.out; omega
 have hN3 : ((W2.setCell ⟨q2, 0, none⟩ (.slice none 0 0)).setCell ⟨q2, 1, none⟩ (.int .i64 1)).heap[q]? = some (.cells #[.slice none 0 0, .int .i64 0] 41 (0, 0)) := (Below.heap_setCell _ _ _ q hq12).trans ((Below.heap_setCell _ _ _ q hq12).trans HN1.out)
 have HB3 := Aside0.mk hB3
 have HN3 := Aside0.mk hN3
 clear hB3 hq12 hN3 X0 X1 X2 HN1 HN2 HB2 HN0
 refine (bag_Valid.calls k _ _ l0 true _ (Kd.C_below HR0.out HB3.out) HC0.out HK.out).mono ?_
 rintro e w3 ⟨rfl, hb3⟩
 have HN4 := Aside0.mk ((hb3.block q (blk_lt HN3.out)).trans HN3.out)
 have HB4 := Aside0.mk (HB3.out.trans (hb3.mono HB3.out.size))
 have HQW : Aside0 (w.heap.size ≤ q) := ⟨Nat.le_of_eq HQ.out.symm⟩
 clear hb3 HN3 HB3 HB1 HQ2 HQ
 go_wp2
 go_loopg [29] l1.length (fun kq v29 W => ∃ x : Int, v29 = .int .i64 x ∧ Aside0 (0 ≤ x ∧ x ≤ l1.length ∧ (kq : Int) = l1.length - x) ∧ Aside0 (W.heap[q]? = some (.cells #[.slice none 0 0, .int .i64 0] 41 (0, 0))) ∧ Aside0 (Below w.heap.size w W))
 case atStart => exact ⟨0, rfl, ⟨by omega⟩, HN4, HB4⟩
 case round =>
  clear HN4 HB4
  obtain ⟨x, rfl, HX, HN, HB⟩ := hrel
  obtain ⟨hx0, hx1, hkq⟩ := HX.out
  by_cases hlt : x < (l1.length : Int)
  · have d1 : decide (x < (l1.length : Int)) = true := decide_eq_true hlt
    have d2 : decide (0 ≤ x) = true := decide_eq_true hx0
    obtain ⟨ad, e, hx_0⟩ := Kd.at_int HR1.out x hx0 hlt
    cases e
    replace hx_0 := (HB.out.cell (World.block_lt_of_cell? w _ hx_0)).trans hx_0
    have hj : x.toNat < l1.length := by omega
    have hrd : rd l1 x = l1[x.toNat] := by simp [rd, List.getElem?_eq_getElem hj]
    have hh := HIN.out (rd l1 x) (by rw [hrd]; exact List.getElem_mem hj)
    obtain ⟨n, hn⟩ : ∃ n, n = rd l1 x := ⟨_, rfl⟩
    rw [← hn] at hx_0 hh
    have HH := Aside0.mk hh
    have HLT := Aside0.mk hlt
    have HKQ := Aside0.mk hkq
    have HX0 := Aside0.mk hx0
    have HWR : Aside0 (wrap64 (x + 1) = x + 1) := ⟨by have := HOK.out.cn; unfold wrap64; omega⟩
    clear hn hrd hj hh hkq
    go_wp2_with fail
    refine (bag_has.calls A0 c0 l0 n true wr (Kd.C_below HR0.out HB.out) HC0.out (by rw [has_eq, HH.out])).mono ?_
    rintro e w5 ⟨rfl, ⟨nd, rfl⟩⟩
    go_wp2
    have hlt := HLT.out
    have hk := HKQ.out
    have hx0 := HX0.out
    cases gk with
    | zero => omega
    | succ k1 =>
     go_roundg k1
     case measure => omega
     case rel => exact ⟨x + 1, by rw [HWR.out], ⟨by omega⟩, HN, ⟨bN_ HB.out nd⟩⟩
  · have d1 : decide (x < (l1.length : Int)) = false := decide_eq_false hlt
    clear HX hx0 hx1 hkq hlt
    go_wp2
    go_loopg [41] l2.length (fun kq v41 W => ∃ x : Int, v41 = .int .i64 x ∧ Aside0 (0 ≤ x ∧ x ≤ l2.length ∧ (kq : Int) = l2.length - x) ∧ Aside0 (W.heap[q]? = some (.cells #[.slice none 0 0, .int .i64 0] 41 (0, 0))) ∧ Aside0 (Below w.heap.size w W))
    case atStart => exact ⟨0, rfl, ⟨by omega⟩, HN, HB⟩
    case round =>
     clear HN HB
     obtain ⟨x, rfl, HX, HN, HB⟩ := hrel
     obtain ⟨hx0, hx1, hkq⟩ := HX.out
     by_cases hlt : x < (l2.length : Int)
     · have d1 : decide (x < (l2.length : Int)) = true := decide_eq_true hlt
       have d2 : decide (0 ≤ x) = true := decide_eq_true hx0
       obtain ⟨ad, e, hx_0, hx_1, hx_2⟩ := at_T47 HR2.out x hx0 hlt
       cases e
       replace hx_0 := (HB.out.cell (World.block_lt_of_cell? w _ hx_0)).trans hx_0
       replace hx_1 := (HB.out.cell (World.block_lt_of_cell? w _ hx_1)).trans hx_1
       replace hx_2 := (HB.out.cell (World.block_lt_of_cell? w _ hx_2)).trans hx_2
       have hj : x.toNat < l2.length := by omega
       have hrd : rd_T47 l2 x = l2[x.toNat] := by simp [rd_T47, List.getElem?_eq_getElem hj]
       have hao := HAG.out (rd_T47 l2 x) (by rw [hrd]; exact List.getElem_mem hj)
       have hfn := HOK.out.fn (rd_T47 l2 x) (by rw [hrd]; exact List.getElem_mem hj)
       have hvals := HOK.out.vals (rd_T47 l2 x) (by rw [hrd]; exact List.getElem_mem hj)
       obtain ⟨a, ha⟩ : ∃ a, a = rd_T47 l2 x := ⟨_, rfl⟩
       rw [← ha] at hx_0 hx_1 hx_2 hao hfn hvals
       obtain ⟨f0, f1, f2⟩ := a
       dsimp only at hx_0 hx_1 hx_2
       have HLT := Aside0.mk hlt
       have HKQ := Aside0.mk hkq
       have HX0 := Aside0.mk hx0
       have HWR : Aside0 (wrap64 (x + 1) = x + 1) := ⟨by have := HOK.out.an; unfold wrap64; omega⟩
       clear hrd hj hkq ha
       by_cases h0 : f0 = 0
       · have h12 : f1 = 0 ∧ f2 = false := by
          unfold aggOkB at hao
          rw [if_pos h0] at hao
          exact of_decide_eq_true hao
         obtain ⟨rfl, rfl⟩ := h12
         subst h0
         clear hao hfn hvals
         go_wp2
         have hlt := HLT.out
         have hk := HKQ.out
         have hx0 := HX0.out
         cases gk with
         | zero => omega
         | succ k1 =>
          go_roundg k1
          case measure => omega
          case rel => exact ⟨x + 1, by rw [HWR.out], ⟨by omega⟩, ⟨(Below.heap_alloc wr _ q (blk_lt HN.out)).trans HN.out⟩, ⟨HB.out.alloc HB.out.size _⟩⟩
       · unfold aggOkB at hao
         rw [if_neg h0, Bool.and_eq_true] at hao
         have HHE : Aside0 (bag_has.f l0 f1 = some true) := ⟨by rw [has_eq]; exact congrArg some hao.1⟩
         obtain ⟨kc, hkc⟩ := (columnOf_ev l0 f1 (by
          have h1 := hao.1
          unfold hasB at h1
          cases hl : l0 with
          | nil => rw [hl] at h1; exact (of_decide_eq_true h1).1
          | cons r rs => rw [hl] at h1; exact (of_decide_eq_true h1).1) HOK.out.rows.2).rounds
         obtain ⟨ka, hka⟩ := (allowed_ev f0 f2 (columnR l0 f1) (fun v hv => by
          obtain ⟨row, hrow, rfl⟩ := List.mem_map.1 hv
          exact (hvals row hrow).1 _ (by simp)) (by rw [columnR, List.length_map]; exact HOK.out.rows.2)).rounds
         rw [hao.2] at hka
         have HKC2 := Aside0.mk hkc
         have HKA := Aside0.mk hka
         have z1 : (f0 == 0) = false := by simp [h0]
         have z2 : decide (f0 = 0) = false := decide_eq_false h0
         clear hkc hka hao hfn hvals h0
         obtain ⟨W5, hW5⟩ : ∃ W5, W5 = wr.alloc (.cells #[.int .u8 f0, .int .i64 f1, .bool f2] 47) := ⟨_, rfl⟩
         have HD5 : Aside0 (W5.cell? ⟨wr.heap.size, 0, none⟩ = some (.int .u8 f0) ∧ W5.cell? ⟨wr.heap.size, 1, none⟩ = some (.int .i64 f1) ∧ W5.cell? ⟨wr.heap.size, 2, none⟩ = some (.bool f2)) := ⟨by
          rw [hW5]
          exact ⟨(blk_cell (heap_alloc_new _ _) 0).trans rfl, (blk_cell (heap_alloc_new _ _) 1).trans rfl, (blk_cell (heap_alloc_new _ _) 2).trans rfl⟩⟩
         have HB5 : Aside0 (Below wr.heap.size wr W5) := ⟨by rw [hW5]; exact (Below.refl _ wr).alloc (Nat.le_refl _) _⟩
         have HE5 : Aside0 (W5.drew.cell? ⟨wr.heap.size, 0, none⟩ = some (.int .u8 f0) ∧ W5.drew.cell? ⟨wr.heap.size, 1, none⟩ = some (.int .i64 f1) ∧ W5.drew.cell? ⟨wr.heap.size, 2, none⟩ = some (.bool f2)) := ⟨HD5.out⟩
         have HC5 : Aside0 (∀ W', Below W5.heap.size W5 W' → kRow.C W' A0 l0.length l0) := ⟨fun W' hb => Kd.C_below HR0.out (HB.out.trans ((HB5.out.trans (hb.mono HB5.out.size)).mono HB.out.size))⟩
         have HBE : Aside0 (Below W5.heap.size W5 W5.drew) := ⟨(Below.refl _ W5).drew⟩
         go_wp2_with fail
         rw [← hW5]
         have HW5 := Aside0.mk hW5
         clear hW5
         go_region_held3 (fun W' => (W'.cell? ⟨wr.heap.size, 0, none⟩ = some (.int .u8 f0) ∧ W'.cell? ⟨wr.heap.size, 1, none⟩ = some (.int .i64 f1) ∧ W'.cell? ⟨wr.heap.size, 2, none⟩ = some (.bool f2))) (first | (with_reducible exact HD5.out) | (with_reducible exact HE5.out) | (with_reducible exact HS6.out) | (with_reducible exact HS7.out) | (with_reducible exact HS8.out)) (first
          | (go_at_call 30; (with_reducible refine (bag_has.calls A0 c0 l0 f1 true W5.drew (HC5.out _ HBE.out) HC0.out HHE.out).mono ?_); rintro e w6 ⟨rfl, ⟨nd, hd6⟩⟩; have HB6 : Aside0 (Below W5.heap.size W5 w6) := ⟨by rw [hd6]; exact bN_ HBE.out nd⟩; have HS6 : Aside0 (w6.cell? ⟨wr.heap.size, 0, none⟩ = some (.int .u8 f0) ∧ w6.cell? ⟨wr.heap.size, 1, none⟩ = some (.int .i64 f1) ∧ w6.cell? ⟨wr.heap.size, 2, none⟩ = some (.bool f2)) := ⟨cells3 HB6.out HD5.out⟩; clear hd6)
          | (go_at_call 31; (with_reducible refine (bag_columnOf.calls kc A0 c0 l0 f1 (columnR l0 f1) w6 (HC5.out _ HB6.out) HC0.out HKC2.out).mono ?_); rintro e w7 ⟨vc, rfl, hRc, hb7⟩; obtain ⟨Ac, cc, ec, hcc, hCc⟩ := Kd.R_reads hRc; subst ec; have hb57 : Below W5.heap.size W5 w7 := HB6.out.trans (hb7.mono HB6.out.size); have HS7 : Aside0 (w7.cell? ⟨wr.heap.size, 0, none⟩ = some (.int .u8 f0) ∧ w7.cell? ⟨wr.heap.size, 1, none⟩ = some (.int .i64 f1) ∧ w7.cell? ⟨wr.heap.size, 2, none⟩ = some (.bool f2)) := ⟨cells3 hb57 HD5.out⟩; have HCC := Aside0.mk hCc; have HCN := Aside0.mk hcc; have HB7 := Aside0.mk hb57; clear hb57 hRc hb7 hcc hCc)
          | (go_at_call 27; (with_reducible refine (bag_allowed.calls ka f0 f2 Ac cc (columnR l0 f1) true w7 HCC.out HCN.out HKA.out).mono ?_); rintro e w8 ⟨rfl, hb8⟩; have hb58 : Below W5.heap.size W5 w8 := HB7.out.trans (hb8.mono HB7.out.size); have HS8 : Aside0 (w8.cell? ⟨wr.heap.size, 0, none⟩ = some (.int .u8 f0) ∧ w8.cell? ⟨wr.heap.size, 1, none⟩ = some (.int .i64 f1) ∧ w8.cell? ⟨wr.heap.size, 2, none⟩ = some (.bool f2)) := ⟨cells3 hb58 HD5.out⟩; have HB8 := Aside0.mk hb58; clear hb58 hb8))
         go_wp2
         have hlt := HLT.out
         have hk := HKQ.out
         have hx0 := HX0.out
         have HBR := Aside0.mk (HB5.out.trans (HB8.out.mono HB5.out.size))
         cases gk with
         | zero => omega
         | succ k1 =>
          go_roundg k1
          case measure => omega
          case rel => exact ⟨x + 1, by rw [HWR.out], ⟨by omega⟩, ⟨(HBR.out.block q (blk_lt HN.out)).trans HN.out⟩, ⟨HB.out.trans (HBR.out.mono HB.out.size)⟩⟩
     · have d1 : decide (x < (l2.length : Int)) = false := decide_eq_false hlt
       clear HX hx0 hx1 hkq hlt
       have hlen : ∀ row ∈ l0, ∀ n ∈ l1, 0 ≤ n ∧ n < (row.length : Int) := fun row hrow n hn => by
        have h1 := HIN.out n hn
        cases hl : l0 with
        | nil => rw [hl] at hrow; cases hrow
        | cons r rs =>
         rw [hl] at h1 hrow
         have h2 := validB_len (hl ▸ HV.out) row hrow
         have := of_decide_eq_true h1
         omega
       have hval : ∀ row ∈ l0, ∀ v ∈ keyOf l1 row, validV v = true := fun row hrow v hv => by
        obtain ⟨n, hn, rfl⟩ := List.mem_map.1 hv
        have h1 := hlen row hrow n hn
        have h2 : n.toNat < row.length := by omega
        have : rd_T27 row n = row[n.toNat] := by simp [rd_T27, List.getElem?_eq_getElem h2]
        rw [this]
        exact validB_valid HV.out row hrow _ (List.getElem_mem h2)
       have HGC := Aside0.mk (groups_all A0 c0 l0 A1 c1 l1 wr (HT.out.below HB.out) (Kd.C_below HR0.out HB.out) HC0.out (Kd.C_below HR1.out HB.out) HOK.out.rows.2 HOK.out.cn hlen (fun row hrow => ⟨HOK.out.keys row hrow, hval row hrow⟩))
       clear hlen hval
       go_wp2_with fail
       refine HGC.out.mono ?_
       rintro e wK ⟨vk, m, kv, rfl, hRk, hIs, hCk, hLk, hbK⟩
       have HRK := Aside0.mk hRk
       have HIS := Aside0.mk hIs
       have HCL : Aside0 (∀ s, ∃ A c, ((KV.get kv s).map (fun p : LV => p.1)).getD (.slice none 0 0) = .slice A (listR l1 l0 s).length c ∧ (listR l1 l0 s).length ≤ c ∧ kRow.C wK A (listR l1 l0 s).length (listR l1 l0 s)) := ⟨fun s => by
        rw [← hLk s]
        cases hg : KV.get kv s with
        | none => exact ⟨none, 0, rfl, Nat.le_refl _, Kd.C_nil _ _⟩
        | some p =>
         obtain ⟨A, c, h1, h2, h3⟩ := hCk s p hg
         exact ⟨A, c, h1, h2, h3⟩⟩
       have HNK := Aside0.mk ((hbK.block q (blk_lt HN.out)).trans HN.out)
       have HBK := Aside0.mk (HB.out.trans (hbK.mono HB.out.size))
       clear hRk hIs hCk hLk hbK HGC HN HB
       obtain ⟨Ak, ck, ek, hlk, hKC⟩ := Kd.R_reads HRK.out
       subst ek
       have HKC := Aside0.mk hKC
       clear hlk hKC HRK
       obtain ⟨keys, hkeys⟩ : ∃ keys, keys = keysR l1 l0 := ⟨_, rfl⟩
       have HKO := Aside0.mk HOK.out.keyn
       have HKN := Aside0.mk HOK.out.keysn
       rw [← hkeys] at HKC HKO HKN HGG
       rw [← hkeys]
       have HKS := Aside0.mk hkeys
       clear hkeys
       go_wp2
       go_loopg [91, 14] keys.length (fun kq v91 v14 W => ∃ x : Int, v91 = .int .i64 x ∧ Aside0 (0 ≤ x ∧ x ≤ keys.length ∧ (kq : Int) = keys.length - x) ∧ Aside0 (∃ acc : List (List V), kRow.R 58 W wK.heap.size (fun _ => True) v14 acc ∧ rowsOf l1 l0 l2 (keys.drop x.toNat) acc = (grs, ger) ∧ acc.length ≤ x.toNat) ∧ Aside0 (Below wK.heap.size wK W))
       case atStart => exact ⟨0, rfl, ⟨by omega⟩, ⟨[], Kd.R_nil _ _ _ _ _, by simpa using HGG.out, Nat.le_refl _⟩, ⟨Below.refl _ _⟩⟩
       case round =>
        clear HGG
        obtain ⟨x, rfl, HX, HE, HB⟩ := hrel
        obtain ⟨acc, hO, hacc, hal⟩ := HE.out
        have HO := Aside0.mk hO
        have HACC := Aside0.mk hacc
        have HAL := Aside0.mk hal
        clear HE hO hacc hal
        obtain ⟨hx0, hx1, hkq⟩ := HX.out
        by_cases hlt : x < (keys.length : Int)
        · have d1 : decide (x < (keys.length : Int)) = true := decide_eq_true hlt
          have d2 : decide (0 ≤ x) = true := decide_eq_true hx0
          obtain ⟨ad, Ar, cr, e, hx_0, hlc, hrow⟩ := at_L4 HKC.out x hx0 hlt
          cases e
          replace hx_0 := (HB.out.cell (World.block_lt_of_cell? wK _ hx_0)).trans hx_0
          have hi : x.toNat < keys.length := by omega
          have hrd : rd_L4 keys x = keys[x.toNat] := by simp [rd_L4, List.getElem?_eq_getElem hi]
          have hky := HKO.out (rd_L4 keys x) (by rw [hrd]; exact List.getElem_mem hi)
          have htk : keys.drop x.toNat = rd_L4 keys x :: keys.drop (x + 1).toNat := by
           rw [drop_cons _ _ hi, hrd, show (x + 1).toNat = x.toNat + 1 by omega]
          obtain ⟨key, hkey⟩ : ∃ key, key = rd_L4 keys x := ⟨_, rfl⟩
          rw [← hkey] at hx_0 hlc hrow hky htk
          have HROW := Aside0.mk hrow
          have HLC := Aside0.mk hlc
          have HKY := Aside0.mk hky
          rw [htk] at HACC
          have HLT := Aside0.mk hlt
          have HKQ := Aside0.mk hkq
          have HX0 := Aside0.mk hx0
          have HWR : Aside0 (wrap64 (x + 1) = x + 1) := ⟨by have := HKN.out; unfold wrap64; omega⟩
          clear hrow hlc hky htk hkey hrd hi hkq
          have HBW := Aside0.mk (HBK.out.trans (HB.out.mono HBK.out.size))
          go_wp2_with fail
          refine (name_calls Ar cr key wr (HT.out.below HBW.out) (Kd.C_below HROW.out HB.out) HLC.out HKY.out.1 HKY.out.2.1 HKY.out.2.2).mono ?_
          rintro e wN ⟨rfl, hbn⟩
          obtain ⟨wO, hwO⟩ : ∃ wO, wO = wr := ⟨_, rfl⟩
          subst hwO
          obtain ⟨gO, hgO⟩ : ∃ gO, gO = gk := ⟨_, rfl⟩
          subst hgO
          have HBN := Aside0.mk hbn
          have HISN := Aside0.mk (HIS.out.below (HB.out.trans (hbn.mono HB.out.size)))
          obtain ⟨Al, cl, hul, hlc2, hcl2⟩ := HCL.out (nameOf key)
          obtain ⟨ls, hls⟩ : ∃ ls, ls = listR l1 l0 (nameOf key) := ⟨_, rfl⟩
          rw [← hls] at hul hlc2 hcl2
          have HUL := Aside0.mk hul
          have HLC2 := Aside0.mk hlc2
          have HCL2 := Aside0.mk hcl2
          have HLS := Aside0.mk hls
          have HKEYN : Aside0 (kV.C wN Ar key.length key) := ⟨Kd.C_below HROW.out (HB.out.trans (hbn.mono HB.out.size))⟩
          clear hul hlc2 hcl2 hls hbn
          have HE0 : Aside0 (Kd.R kV 27 (wN.alloc (.cells #[] 27)) wN.heap.size (fun _ => True) (.slice (some ⟨wN.heap.size, 0, none⟩) 0 0) []) := ⟨R_empty kV 27 wN⟩
          have HE1 := Aside0.mk ((Below.refl wN.heap.size wN).alloc (Nat.le_refl _) (.cells #[] 27))
          go_wp2_with (first
           | (at_lookup; refine KV.law_lookup _ rfl _ _ 74 rfl 9 37 Tryd.underlying9 Tryd.underlying74 (.slice none 0 0) (zeroRows _) m (fun p : LV => p.1) kv rfl HISN.out (nameOf key) rfl (.slice Al ls.length cl) HUL.out ?_)
           | (at_builtin; refine Kd.R_append_rows kV (w0 := wN) wN.heap.size rfl (.tmp 99) (.tmp 100) 58 27 (.agg #[(.int .u8 0), (.int .i64 0), (.string ⟨#[]⟩)]) 32 rfl Tryd.underlying58 infoV rfl (by decide) (by decide) _ [] key Ar key.length cr (fun _ => True) (fun _ => False) rfl rfl HE0.out (Kd.C_below HKEYN.out HE1.out) (fun x cs h => by obtain rfl := k27_open h; exact k27_mkM _ _ _ x) (fun _ h => h.elim) (fun _ _ => trivial) HE1.out HE1.out.size (by have := HKY.out.2.2; simp; omega) ?_; intro v1 w1 hR hb hg hat; have HK1 := Aside0.mk hR; have HBI := Aside0.mk hb; clear hR hb hg hat))
          have HLSUB : Aside0 (∀ row ∈ ls, row ∈ l0) := ⟨fun row hrow => by
           rw [HLS.out] at hrow
           exact (List.mem_filter.1 hrow).1⟩
          have HLLEN : Aside0 (ls.length ≤ l0.length) := ⟨by rw [HLS.out]; exact List.length_filter_le _ _⟩
          have HACC2 : Aside0 ((if (rowOf ls l2 key).2 = 0 then rowsOf l1 l0 l2 (keys.drop (x + 1).toNat) (acc ++ [(rowOf ls l2 key).1]) else ([], (rowOf ls l2 key).2)) = (grs, ger)) := ⟨by
           have := HACC.out
           simp only [rowsOf] at this
           rw [← HLS.out] at this
           exact this⟩
          clear HACC
          have HBO : Aside0 (Below wK.heap.size wK wN) := ⟨HB.out.trans (HBN.out.mono HB.out.size)⟩
          go_loopg [104, 18] l2.length (fun kq v104 v18 W => ∃ y : Int, v104 = .int .i64 y ∧ Aside0 (0 ≤ y ∧ y ≤ l2.length ∧ (kq : Int) = l2.length - y) ∧ Aside0 (∃ r : List V, kV.R 27 W wN.heap.size (fun _ => True) v18 r ∧ rowOf ls (l2.drop y.toNat) r = rowOf ls l2 key ∧ (r.length : Int) = key.length + y) ∧ Aside0 (Below wN.heap.size wN W))
          case atStart => exact ⟨0, rfl, ⟨by omega⟩, ⟨key, by simpa using HK1.out, rfl, by omega⟩, HBI⟩
          case round =>
           clear HK1 HBI
           obtain ⟨y, rfl, HY, HE, HBI⟩ := hrel
           obtain ⟨r, hR, hro, hrl⟩ := HE.out
           have HKR := Aside0.mk hR
           have HRO := Aside0.mk hro
           have HRL := Aside0.mk hrl
           clear HE hR hro hrl
           obtain ⟨hy0, hy1, hkq⟩ := HY.out
           by_cases hly : y < (l2.length : Int)
           · have d1 : decide (y < (l2.length : Int)) = true := decide_eq_true hly
             have d2 : decide (0 ≤ y) = true := decide_eq_true hy0
             have hbww : Below w.heap.size w wr := HBK.out.trans ((HBO.out.trans (HBI.out.mono HBO.out.size)).mono HBK.out.size)
             obtain ⟨ad2, e, hx_0, hx_1, hx_2⟩ := at_T47 HR2.out y hy0 hly
             cases e
             replace hx_0 := (hbww.cell (World.block_lt_of_cell? w _ hx_0)).trans hx_0
             replace hx_1 := (hbww.cell (World.block_lt_of_cell? w _ hx_1)).trans hx_1
             replace hx_2 := (hbww.cell (World.block_lt_of_cell? w _ hx_2)).trans hx_2
             have hj : y.toNat < l2.length := by omega
             have hrd : rd_T47 l2 y = l2[y.toNat] := by simp [rd_T47, List.getElem?_eq_getElem hj]
             have hmem : rd_T47 l2 y ∈ l2 := by rw [hrd]; exact List.getElem_mem hj
             have hdr : l2.drop y.toNat = rd_T47 l2 y :: l2.drop (y + 1).toNat := by
              rw [drop_cons _ _ hj, hrd, show (y + 1).toNat = y.toNat + 1 by omega]
             have hag := agg_ok HOK.out HV.out hmem HLSUB.out HLLEN.out
             have hcol := aggOk_col (HAG.out _ hmem)
             obtain ⟨a, ha⟩ : ∃ a, a = rd_T47 l2 y := ⟨_, rfl⟩
             rw [← ha] at hx_0 hx_1 hx_2 hag hcol hdr
             obtain ⟨⟨r0, r1, r2, r3⟩, hr⟩ : ∃ R, aggR a.f0 a.f2 (columnR ls a.f1) = R := ⟨_, rfl⟩
             have hro := HRO.out
             rw [hdr, rowOf_snoc hr] at hro
             rw [hr] at hag
             obtain ⟨f0, f1, f2⟩ := a
             dsimp only at hx_0 hx_1 hx_2 hag hcol
             have HAGG := Aside0.mk hag
             have HRO2 := Aside0.mk hro
             obtain ⟨kc, hkc⟩ := (columnOf_ev ls f1 hcol (Nat.le_trans HLLEN.out HOK.out.rows.2)).rounds
             have HKC2 := Aside0.mk hkc
             clear hkc hag hro hr ha hdr hmem hcol HRO
             have HLY := Aside0.mk hly
             have HKQ2 := Aside0.mk hkq
             have HY0 := Aside0.mk hy0
             have HWY : Aside0 (wrap64 (y + 1) = y + 1) := ⟨by have := HOK.out.an; unfold wrap64; omega⟩
             have HBWW := Aside0.mk hbww
             clear hrd hj hkq hbww
             obtain ⟨W5, hW5⟩ : ∃ W5, W5 = wr.alloc (.cells #[.int .u8 f0, .int .i64 f1, .bool f2] 47) := ⟨_, rfl⟩
             have D0 : W5.cell? ⟨wr.heap.size, 0, none⟩ = some (.int .u8 f0) := by rw [hW5]; exact (blk_cell (heap_alloc_new _ _) 0).trans rfl
             have D1 : W5.cell? ⟨wr.heap.size, 1, none⟩ = some (.int .i64 f1) := by rw [hW5]; exact (blk_cell (heap_alloc_new _ _) 1).trans rfl
             have D2 : W5.cell? ⟨wr.heap.size, 2, none⟩ = some (.bool f2) := by rw [hW5]; exact (blk_cell (heap_alloc_new _ _) 2).trans rfl
             have HB5 : Aside0 (Below wr.heap.size wr W5) := ⟨by rw [hW5]; exact (Below.refl _ wr).alloc (Nat.le_refl _) _⟩
             have HLEN : Aside0 ((r.length + 1) * 32 ≤ 140737488355328) := ⟨by
              have h1 := HKY.out.2.2
              have h2 := HOK.out.an
              have h3 := HLY.out
              have h4 := HRL.out
              omega⟩
             have HS5 : Aside0 (W5.heap.size = wr.heap.size + 1) := ⟨by rw [hW5]; simp⟩
             have HNE5 : Aside0 (wr.heap.size ≠ W5.heap.size) := ⟨by have := HS5.out; omega⟩
             have HD5 : Aside0 (W5.cell? ⟨wr.heap.size, 0, none⟩ = some (.int .u8 f0) ∧ W5.cell? ⟨wr.heap.size, 1, none⟩ = some (.int .i64 f1) ∧ W5.cell? ⟨wr.heap.size, 2, none⟩ = some (.bool f2)) := ⟨⟨D0, D1, D2⟩⟩
             have HE5 : Aside0 (W5.drew.cell? ⟨wr.heap.size, 0, none⟩ = some (.int .u8 f0) ∧ W5.drew.cell? ⟨wr.heap.size, 1, none⟩ = some (.int .i64 f1) ∧ W5.drew.cell? ⟨wr.heap.size, 2, none⟩ = some (.bool f2)) := ⟨⟨D0, D1, D2⟩⟩
             have HE6 : Aside0 (∀ o, ((W5.alloc o).cell? ⟨wr.heap.size, 0, none⟩ = some (.int .u8 f0) ∧ (W5.alloc o).cell? ⟨wr.heap.size, 1, none⟩ = some (.int .i64 f1) ∧ (W5.alloc o).cell? ⟨wr.heap.size, 2, none⟩ = some (.bool f2))) := ⟨fun o => cells3 ((Below.refl _ W5).alloc (Nat.le_refl _) o) HD5.out⟩
             have HE7 : Aside0 (∀ o, ((W5.alloc o).drew.cell? ⟨wr.heap.size, 0, none⟩ = some (.int .u8 f0) ∧ (W5.alloc o).drew.cell? ⟨wr.heap.size, 1, none⟩ = some (.int .i64 f1) ∧ (W5.alloc o).drew.cell? ⟨wr.heap.size, 2, none⟩ = some (.bool f2))) := ⟨fun o => HE6.out o⟩
             clear D0 D1 D2
             have HX5 : Aside0 ((W5.alloc (.cells #[.int .u8 0, .int .i64 0, .string ⟨#[]⟩, .int .i64 0] 31)).drew.heap[W5.heap.size]? = some (.cells #[.int .u8 0, .int .i64 0, .string ⟨#[]⟩, .int .i64 0] 31 (0, 0)) ∧ W5.heap.size < (W5.alloc (.cells #[.int .u8 0, .int .i64 0, .string ⟨#[]⟩, .int .i64 0] 31)).drew.heap.size) := ⟨heap_alloc_new W5 _, blk_lt (heap_alloc_new W5 (.cells #[.int .u8 0, .int .i64 0, .string ⟨#[]⟩, .int .i64 0] 31))⟩
             have HBEL : Aside0 (Below W5.heap.size W5 (W5.alloc (.cells #[.int .u8 0, .int .i64 0, .string ⟨#[]⟩, .int .i64 0] 31)).drew) := ⟨((Below.refl _ W5).alloc (Nat.le_refl _) _).drew⟩
             have HBE : Aside0 (Below W5.heap.size W5 W5.drew) := ⟨(Below.refl _ W5).drew⟩
             have HLIST : Aside0 (∀ W', Below W5.heap.size W5 W' → kRow.C W' Al ls.length ls) := ⟨fun W' hb => Kd.C_below HCL2.out (HBO.out.trans ((HBI.out.trans ((HB5.out.trans (hb.mono HB5.out.size)).mono HBI.out.size)).mono HBO.out.size))⟩
             have HT5 : Aside0 (∀ W', Below W5.heap.size W5 W' → LaidT W') := ⟨fun W' hb => HT.out.below (HBWW.out.trans ((HB5.out.trans (hb.mono HB5.out.size)).mono HBWW.out.size))⟩
             go_wp2_with fail
             rw [← hW5]
             have HW5 := Aside0.mk hW5
             clear hW5
             go_region_held3 (fun W' => (W'.cell? ⟨wr.heap.size, 0, none⟩ = some (.int .u8 f0) ∧ W'.cell? ⟨wr.heap.size, 1, none⟩ = some (.int .i64 f1) ∧ W'.cell? ⟨wr.heap.size, 2, none⟩ = some (.bool f2))) (first | (with_reducible exact HD5.out) | (with_reducible exact HE5.out) | (with_reducible exact HE7.out _) | (with_reducible exact HE6.out _) | (with_reducible exact HR7.out) | (with_reducible exact HR7a.out _) | (with_reducible exact HS8.out) | (with_reducible exact HS8a.out _) | (with_reducible exact far3 HNE7.out HS8.out) | (with_reducible exact far3 HNE5.out HS8.out)) (first
              | (go_at_call 31; (with_reducible refine (bag_columnOf.calls kc Al cl ls f1 (columnR ls f1) W5.drew (HLIST.out _ HBE.out) HLC2.out HKC2.out).mono ?_); rintro e w7 ⟨vc, rfl, hRc, hb7⟩; obtain ⟨Ac, cc, ec, hcc, hCc⟩ := Kd.R_reads hRc; subst ec; have hb57 : Below W5.heap.size W5 w7 := (HBE.out).trans (hb7.mono (HBE.out).size); have HR7 : Aside0 (w7.cell? ⟨wr.heap.size, 0, none⟩ = some (.int .u8 f0) ∧ w7.cell? ⟨wr.heap.size, 1, none⟩ = some (.int .i64 f1) ∧ w7.cell? ⟨wr.heap.size, 2, none⟩ = some (.bool f2)) := ⟨cells3 hb57 HD5.out⟩; have HR7a : Aside0 (∀ o, ((w7.alloc o).cell? ⟨wr.heap.size, 0, none⟩ = some (.int .u8 f0) ∧ (w7.alloc o).cell? ⟨wr.heap.size, 1, none⟩ = some (.int .i64 f1) ∧ (w7.alloc o).cell? ⟨wr.heap.size, 2, none⟩ = some (.bool f2))) := ⟨fun o => cells3 ((Below.refl _ w7).alloc (Nat.le_refl _) o) HR7.out⟩; have HCC := Aside0.mk hCc; have HCN := Aside0.mk hcc; have HB7 := Aside0.mk hb57; have HNE7 : Aside0 (wr.heap.size ≠ w7.heap.size) := ⟨by have := HB7.out.size; have := HS5.out; omega⟩; clear hb57 hRc hb7 hcc hCc)
              | (go_at_call 31; (with_reducible refine (bag_columnOf.calls kc Al cl ls f1 (columnR ls f1) (W5.alloc (.cells #[.int .u8 0, .int .i64 0, .string ⟨#[]⟩, .int .i64 0] 31)).drew (HLIST.out _ HBEL.out) HLC2.out HKC2.out).mono ?_); rintro e w7 ⟨vc, rfl, hRc, hb7⟩; obtain ⟨Ac, cc, ec, hcc, hCc⟩ := Kd.R_reads hRc; subst ec; have hb57 : Below W5.heap.size W5 w7 := (HBEL.out).trans (hb7.mono (HBEL.out).size); have HR7 : Aside0 (w7.cell? ⟨wr.heap.size, 0, none⟩ = some (.int .u8 f0) ∧ w7.cell? ⟨wr.heap.size, 1, none⟩ = some (.int .i64 f1) ∧ w7.cell? ⟨wr.heap.size, 2, none⟩ = some (.bool f2)) := ⟨cells3 hb57 HD5.out⟩; have HR7a : Aside0 (∀ o, ((w7.alloc o).cell? ⟨wr.heap.size, 0, none⟩ = some (.int .u8 f0) ∧ (w7.alloc o).cell? ⟨wr.heap.size, 1, none⟩ = some (.int .i64 f1) ∧ (w7.alloc o).cell? ⟨wr.heap.size, 2, none⟩ = some (.bool f2))) := ⟨fun o => cells3 ((Below.refl _ w7).alloc (Nat.le_refl _) o) HR7.out⟩; have HCC := Aside0.mk hCc; have HCN := Aside0.mk hcc; have HX7 := Aside0.mk ((hb7.block W5.heap.size HX5.out.2).trans HX5.out.1); have HB7 := Aside0.mk hb57; have HNE7 : Aside0 (wr.heap.size ≠ w7.heap.size) := ⟨by have := HB7.out.size; have := HS5.out; omega⟩; clear hb57 hRc hb7 hcc hCc)
              | (go_at_call 13; have hx7 := HX7.out; (with_reducible refine (bag_Aggregate.calls f0 f2 Ac cc (columnR ls f1) r0 r1 r2 r3 w7 HCC.out HCN.out (HT5.out w7 HB7.out) HAGG.out).mono ?_); rintro e w8 ⟨rfl, hb8⟩; have hb78 : Below w7.heap.size w7 w8 := hb8; have HS8 : Aside0 (w8.cell? ⟨wr.heap.size, 0, none⟩ = some (.int .u8 f0) ∧ w8.cell? ⟨wr.heap.size, 1, none⟩ = some (.int .i64 f1) ∧ w8.cell? ⟨wr.heap.size, 2, none⟩ = some (.bool f2)) := ⟨cells3 hb78 HR7.out⟩; have HS8a : Aside0 (∀ o, ((w8.alloc o).cell? ⟨wr.heap.size, 0, none⟩ = some (.int .u8 f0) ∧ (w8.alloc o).cell? ⟨wr.heap.size, 1, none⟩ = some (.int .i64 f1) ∧ (w8.alloc o).cell? ⟨wr.heap.size, 2, none⟩ = some (.bool f2))) := ⟨fun o => cells3 ((Below.refl _ w8).alloc (Nat.le_refl _) o) HS8.out⟩; have HB8 := Aside0.mk (HB7.out.trans (hb78.mono HB7.out.size)); have hX8 := (hb8.block W5.heap.size (blk_lt hx7)).trans hx7; have x0 : w8.cell? ⟨W5.heap.size, 0, none⟩ = some (.int .u8 0) := (blk_cell hX8 0).trans rfl; have x1 : w8.cell? ⟨W5.heap.size, 1, none⟩ = some (.int .i64 0) := (blk_cell hX8 1).trans rfl; have x2 : w8.cell? ⟨W5.heap.size, 2, none⟩ = some (.string ⟨#[]⟩) := (blk_cell hX8 2).trans rfl; have x3 : w8.cell? ⟨W5.heap.size, 3, none⟩ = some (.int .i64 0) := (blk_cell hX8 3).trans rfl; have xf : ∀ j, w8.frozen? ⟨W5.heap.size, j, none⟩ = false := (fun j => by simp [World.frozen?, hX8]); have HX8 := Aside0.mk hX8; clear hX8; clear hb8 hb78 hx7)
              | (go_at_call 13; have hb9 : Below w7.heap.size w7 (w7.alloc (.cells #[.int .u8 0, .int .i64 0, .string ⟨#[]⟩, .int .i64 0] 31)) := (Below.refl _ w7).alloc (Nat.le_refl _) _; have hbx : Below W5.heap.size W5 (w7.alloc (.cells #[.int .u8 0, .int .i64 0, .string ⟨#[]⟩, .int .i64 0] 31)) := HB7.out.trans (hb9.mono HB7.out.size); (with_reducible refine (bag_Aggregate.calls f0 f2 Ac cc (columnR ls f1) r0 r1 r2 r3 (w7.alloc (.cells #[.int .u8 0, .int .i64 0, .string ⟨#[]⟩, .int .i64 0] 31)) (Kd.C_below HCC.out hb9) HCN.out (HT5.out _ hbx) HAGG.out).mono ?_); rintro e w8 ⟨rfl, hb8⟩; have hb78 : Below w7.heap.size w7 w8 := hb9.trans (hb8.mono hb9.size); have HS8 : Aside0 (w8.cell? ⟨wr.heap.size, 0, none⟩ = some (.int .u8 f0) ∧ w8.cell? ⟨wr.heap.size, 1, none⟩ = some (.int .i64 f1) ∧ w8.cell? ⟨wr.heap.size, 2, none⟩ = some (.bool f2)) := ⟨cells3 hb78 HR7.out⟩; have HS8a : Aside0 (∀ o, ((w8.alloc o).cell? ⟨wr.heap.size, 0, none⟩ = some (.int .u8 f0) ∧ (w8.alloc o).cell? ⟨wr.heap.size, 1, none⟩ = some (.int .i64 f1) ∧ (w8.alloc o).cell? ⟨wr.heap.size, 2, none⟩ = some (.bool f2))) := ⟨fun o => cells3 ((Below.refl _ w8).alloc (Nat.le_refl _) o) HS8.out⟩; have hX8 := (hb8.block w7.heap.size (blk_lt (heap_alloc_new w7 _))).trans (heap_alloc_new w7 _); have x0 : w8.cell? ⟨w7.heap.size, 0, none⟩ = some (.int .u8 0) := (blk_cell hX8 0).trans rfl; have x1 : w8.cell? ⟨w7.heap.size, 1, none⟩ = some (.int .i64 0) := (blk_cell hX8 1).trans rfl; have x2 : w8.cell? ⟨w7.heap.size, 2, none⟩ = some (.string ⟨#[]⟩) := (blk_cell hX8 2).trans rfl; have x3 : w8.cell? ⟨w7.heap.size, 3, none⟩ = some (.int .i64 0) := (blk_cell hX8 3).trans rfl; have xf : ∀ j, w8.frozen? ⟨w7.heap.size, j, none⟩ = false := (fun j => by simp [World.frozen?, hX8]); have HX8 := Aside0.mk hX8; clear hX8; have HB8 := Aside0.mk (HB7.out.trans (hb78.mono HB7.out.size)); clear hb8 hb9 hb78 hbx)
              | (go_at_call 13; (with_reducible refine (bag_Aggregate.calls f0 f2 Ac cc (columnR ls f1) r0 r1 r2 r3 w7 HCC.out HCN.out (HT5.out w7 HB7.out) HAGG.out).mono ?_); rintro e w8 ⟨rfl, hb8⟩; have hb78 : Below w7.heap.size w7 w8 := hb8; have HS8 : Aside0 (w8.cell? ⟨wr.heap.size, 0, none⟩ = some (.int .u8 f0) ∧ w8.cell? ⟨wr.heap.size, 1, none⟩ = some (.int .i64 f1) ∧ w8.cell? ⟨wr.heap.size, 2, none⟩ = some (.bool f2)) := ⟨cells3 hb78 HR7.out⟩; have HS8a : Aside0 (∀ o, ((w8.alloc o).cell? ⟨wr.heap.size, 0, none⟩ = some (.int .u8 f0) ∧ (w8.alloc o).cell? ⟨wr.heap.size, 1, none⟩ = some (.int .i64 f1) ∧ (w8.alloc o).cell? ⟨wr.heap.size, 2, none⟩ = some (.bool f2))) := ⟨fun o => cells3 ((Below.refl _ w8).alloc (Nat.le_refl _) o) HS8.out⟩; have HB8 := Aside0.mk (HB7.out.trans (hb78.mono HB7.out.size)); clear hb8 hb78))
             · obtain ⟨W9, hW9⟩ : ∃ W9, W9 = (w8.alloc (.cells #[.int .u8 r0, .int .i64 r1, .string r2, .int .i64 r3] 31)) := ⟨_, rfl⟩
               rw [← hW9]
               have hO9 : W9.heap[w8.heap.size]? = some (.cells #[.int .u8 r0, .int .i64 r1, .string r2, .int .i64 r3] 31 (0, 0)) := by rw [hW9]; exact heap_alloc_new _ _
               have HB9 : Aside0 (Below wr.heap.size wr W9) := ⟨by rw [hW9]; exact (HB5.out.trans (HB8.out.mono HB5.out.size)).alloc (HB5.out.trans (HB8.out.mono HB5.out.size)).size _⟩
               have o0 : W9.cell? ⟨w8.heap.size, 0, none⟩ = some (.int .u8 r0) := (blk_cell hO9 0).trans rfl
               have o1 : W9.cell? ⟨w8.heap.size, 1, none⟩ = some (.int .i64 r1) := (blk_cell hO9 1).trans rfl
               have o2 : W9.cell? ⟨w8.heap.size, 2, none⟩ = some (.string r2) := (blk_cell hO9 2).trans rfl
               have o3 : W9.cell? ⟨w8.heap.size, 3, none⟩ = some (.int .i64 r3) := (blk_cell hO9 3).trans rfl
               clear hO9 hW9
               try clear x0 x1 x2 x3 xf
               have HK9 := Aside0.mk (Kd.R_below HKR.out HB9.out)
               have HI9 := Aside0.mk (HBI.out.trans (HB9.out.mono HBI.out.size))
               by_cases hr3 : r3 = 0
               · subst hr3
                 go_wp2_with (at_builtin; refine Kd.R_append kV (w0 := wN) wN.heap.size rfl (.tmp 123) (.tmp 126) 58 27 (.agg #[(.int .u8 0), (.int .i64 0), (.string ⟨#[]⟩)]) 32 rfl Tryd.underlying58 infoV rfl (by decide) (by decide) _ _ (⟨r0, r1, r2⟩ : V) [.int .u8 r0, .int .i64 r1, .string r2] (fun _ => True) (fun _ => False) rfl rfl (k27_mkM _ _ _ (⟨r0, r1, r2⟩ : V)) (fun _ h => h.elim) (fun _ _ => trivial) HK9.out HI9.out HI9.out.size HLEN.out ?_; intro v6 w6 hR4 hb4 hg4 hat4; have HO4 := Aside0.mk hR4; have HB4 := Aside0.mk hb4; clear hR4 hb4 hg4 hat4)
                 have hk := HKQ2.out
                 have hly := HLY.out
                 have hy0 := HY0.out
                 cases gk with
                 | zero => omega
                 | succ k1 =>
                  go_roundg k1
                  case measure => omega
                  case rel => exact ⟨y + 1, by rw [HWY.out], ⟨by omega⟩, ⟨_, HO4.out, by have h := HRO2.out; rw [if_pos trivial] at h; exact h, by have h := HRL.out; rw [List.length_append]; simp only [List.length_cons, List.length_nil]; omega⟩, HB4⟩
               · obtain ⟨hgr, hge⟩ : grs = [] ∧ r3 = ger := by
                  have h := HRO2.out
                  rw [if_neg hr3] at h
                  have h2 := HACC2.out
                  rw [← h, if_neg hr3] at h2
                  simp only [Prod.mk.injEq] at h2
                  exact ⟨h2.1.symm, h2.2⟩
                 subst hgr
                 have z3 : (r3 != 0) = true := by simp [hr3]
                 have z4 : decide (r3 = 0) = false := decide_eq_false hr3
                 have hbq : Below wK.heap.size wK W9 := HBO.out.trans ((HBI.out.trans (HB9.out.mono HBI.out.size)).mono HBO.out.size)
                 have HN9 := Aside0.mk ((hbq.block q (blk_lt HNK.out)).trans HNK.out)
                 have HBZ := Aside0.mk (HBK.out.trans (hbq.mono HBK.out.size))
                 have y0 : W9.cell? ⟨q, 0, none⟩ = some (.slice none 0 0) := (blk_cell HN9.out 0).trans rfl
                 have y1 : W9.cell? ⟨q, 1, none⟩ = some (.int .i64 0) := (blk_cell HN9.out 1).trans rfl
                 have yf : ∀ j, W9.frozen? ⟨q, j, none⟩ = false := fun j => by have := HN9.out; simp [World.frozen?, this]
                 clear hbq hr3
                 have HGE := Aside0.mk hge
                 clear hge
                 go_wp2
                 refine bodyPost_ret (results_cell_row rfl _ _ q 41 _ (0, 0) _ rfl (out2_cells HN9.out _ _) Tryd.underlying41 rfl (by kernel_rfl)) rfl ?_
                 exact ⟨_, by rw [HGE.out], Kd.V_nil _ _ _ _ _, out2_below HBZ.out HQW.out _ _⟩
             · obtain ⟨W9, hW9⟩ : ∃ W9, W9 = ((((w8.setCell ⟨w7.heap.size, 0, none⟩ (.int .u8 r0)).setCell ⟨w7.heap.size, 1, none⟩ (.int .i64 r1)).setCell ⟨w7.heap.size, 2, none⟩ (.string r2)).setCell ⟨w7.heap.size, 3, none⟩ (.int .i64 r3)) := ⟨_, rfl⟩
               rw [← hW9]
               have hO9 : W9.heap[w7.heap.size]? = some (.cells #[.int .u8 r0, .int .i64 r1, .string r2, .int .i64 r3] 31 (0, 0)) := by rw [hW9]; exact out_cells HX8.out _ _ _ _
               have HB9 : Aside0 (Below wr.heap.size wr W9) := ⟨by rw [hW9]; exact out_belowB (HB5.out.trans (HB8.out.mono HB5.out.size)) (Nat.le_trans HB5.out.size HB7.out.size) _ _ _ _⟩
               have o0 : W9.cell? ⟨w7.heap.size, 0, none⟩ = some (.int .u8 r0) := (blk_cell hO9 0).trans rfl
               have o1 : W9.cell? ⟨w7.heap.size, 1, none⟩ = some (.int .i64 r1) := (blk_cell hO9 1).trans rfl
               have o2 : W9.cell? ⟨w7.heap.size, 2, none⟩ = some (.string r2) := (blk_cell hO9 2).trans rfl
               have o3 : W9.cell? ⟨w7.heap.size, 3, none⟩ = some (.int .i64 r3) := (blk_cell hO9 3).trans rfl
               clear hO9 hW9
               try clear x0 x1 x2 x3 xf
               have HK9 := Aside0.mk (Kd.R_below HKR.out HB9.out)
               have HI9 := Aside0.mk (HBI.out.trans (HB9.out.mono HBI.out.size))
               by_cases hr3 : r3 = 0
               · subst hr3
                 go_wp2_with (at_builtin; refine Kd.R_append kV (w0 := wN) wN.heap.size rfl (.tmp 123) (.tmp 126) 58 27 (.agg #[(.int .u8 0), (.int .i64 0), (.string ⟨#[]⟩)]) 32 rfl Tryd.underlying58 infoV rfl (by decide) (by decide) _ _ (⟨r0, r1, r2⟩ : V) [.int .u8 r0, .int .i64 r1, .string r2] (fun _ => True) (fun _ => False) rfl rfl (k27_mkM _ _ _ (⟨r0, r1, r2⟩ : V)) (fun _ h => h.elim) (fun _ _ => trivial) HK9.out HI9.out HI9.out.size HLEN.out ?_; intro v6 w6 hR4 hb4 hg4 hat4; have HO4 := Aside0.mk hR4; have HB4 := Aside0.mk hb4; clear hR4 hb4 hg4 hat4)
                 have hk := HKQ2.out
                 have hly := HLY.out
                 have hy0 := HY0.out
                 cases gk with
                 | zero => omega
                 | succ k1 =>
                  go_roundg k1
                  case measure => omega
                  case rel => exact ⟨y + 1, by rw [HWY.out], ⟨by omega⟩, ⟨_, HO4.out, by have h := HRO2.out; rw [if_pos trivial] at h; exact h, by have h := HRL.out; rw [List.length_append]; simp only [List.length_cons, List.length_nil]; omega⟩, HB4⟩
               · obtain ⟨hgr, hge⟩ : grs = [] ∧ r3 = ger := by
                  have h := HRO2.out
                  rw [if_neg hr3] at h
                  have h2 := HACC2.out
                  rw [← h, if_neg hr3] at h2
                  simp only [Prod.mk.injEq] at h2
                  exact ⟨h2.1.symm, h2.2⟩
                 subst hgr
                 have z3 : (r3 != 0) = true := by simp [hr3]
                 have z4 : decide (r3 = 0) = false := decide_eq_false hr3
                 have hbq : Below wK.heap.size wK W9 := HBO.out.trans ((HBI.out.trans (HB9.out.mono HBI.out.size)).mono HBO.out.size)
                 have HN9 := Aside0.mk ((hbq.block q (blk_lt HNK.out)).trans HNK.out)
                 have HBZ := Aside0.mk (HBK.out.trans (hbq.mono HBK.out.size))
                 have y0 : W9.cell? ⟨q, 0, none⟩ = some (.slice none 0 0) := (blk_cell HN9.out 0).trans rfl
                 have y1 : W9.cell? ⟨q, 1, none⟩ = some (.int .i64 0) := (blk_cell HN9.out 1).trans rfl
                 have yf : ∀ j, W9.frozen? ⟨q, j, none⟩ = false := fun j => by have := HN9.out; simp [World.frozen?, this]
                 clear hbq hr3
                 have HGE := Aside0.mk hge
                 clear hge
                 go_wp2
                 refine bodyPost_ret (results_cell_row rfl _ _ q 41 _ (0, 0) _ rfl (out2_cells HN9.out _ _) Tryd.underlying41 rfl (by kernel_rfl)) rfl ?_
                 exact ⟨_, by rw [HGE.out], Kd.V_nil _ _ _ _ _, out2_below HBZ.out HQW.out _ _⟩
             · obtain ⟨W9, hW9⟩ : ∃ W9, W9 = ((((w8.setCell ⟨W5.heap.size, 0, none⟩ (.int .u8 r0)).setCell ⟨W5.heap.size, 1, none⟩ (.int .i64 r1)).setCell ⟨W5.heap.size, 2, none⟩ (.string r2)).setCell ⟨W5.heap.size, 3, none⟩ (.int .i64 r3)) := ⟨_, rfl⟩
               rw [← hW9]
               have hO9 : W9.heap[W5.heap.size]? = some (.cells #[.int .u8 r0, .int .i64 r1, .string r2, .int .i64 r3] 31 (0, 0)) := by rw [hW9]; exact out_cells HX8.out _ _ _ _
               have HB9 : Aside0 (Below wr.heap.size wr W9) := ⟨by rw [hW9]; exact out_belowB (HB5.out.trans (HB8.out.mono HB5.out.size)) HB5.out.size _ _ _ _⟩
               have o0 : W9.cell? ⟨W5.heap.size, 0, none⟩ = some (.int .u8 r0) := (blk_cell hO9 0).trans rfl
               have o1 : W9.cell? ⟨W5.heap.size, 1, none⟩ = some (.int .i64 r1) := (blk_cell hO9 1).trans rfl
               have o2 : W9.cell? ⟨W5.heap.size, 2, none⟩ = some (.string r2) := (blk_cell hO9 2).trans rfl
               have o3 : W9.cell? ⟨W5.heap.size, 3, none⟩ = some (.int .i64 r3) := (blk_cell hO9 3).trans rfl
               clear hO9 hW9
               try clear x0 x1 x2 x3 xf
               have HK9 := Aside0.mk (Kd.R_below HKR.out HB9.out)
               have HI9 := Aside0.mk (HBI.out.trans (HB9.out.mono HBI.out.size))
               by_cases hr3 : r3 = 0
               · subst hr3
                 go_wp2_with (at_builtin; refine Kd.R_append kV (w0 := wN) wN.heap.size rfl (.tmp 123) (.tmp 126) 58 27 (.agg #[(.int .u8 0), (.int .i64 0), (.string ⟨#[]⟩)]) 32 rfl Tryd.underlying58 infoV rfl (by decide) (by decide) _ _ (⟨r0, r1, r2⟩ : V) [.int .u8 r0, .int .i64 r1, .string r2] (fun _ => True) (fun _ => False) rfl rfl (k27_mkM _ _ _ (⟨r0, r1, r2⟩ : V)) (fun _ h => h.elim) (fun _ _ => trivial) HK9.out HI9.out HI9.out.size HLEN.out ?_; intro v6 w6 hR4 hb4 hg4 hat4; have HO4 := Aside0.mk hR4; have HB4 := Aside0.mk hb4; clear hR4 hb4 hg4 hat4)
                 have hk := HKQ2.out
                 have hly := HLY.out
                 have hy0 := HY0.out
                 cases gk with
                 | zero => omega
                 | succ k1 =>
                  go_roundg k1
                  case measure => omega
                  case rel => exact ⟨y + 1, by rw [HWY.out], ⟨by omega⟩, ⟨_, HO4.out, by have h := HRO2.out; rw [if_pos trivial] at h; exact h, by have h := HRL.out; rw [List.length_append]; simp only [List.length_cons, List.length_nil]; omega⟩, HB4⟩
               · obtain ⟨hgr, hge⟩ : grs = [] ∧ r3 = ger := by
                  have h := HRO2.out
                  rw [if_neg hr3] at h
                  have h2 := HACC2.out
                  rw [← h, if_neg hr3] at h2
                  simp only [Prod.mk.injEq] at h2
                  exact ⟨h2.1.symm, h2.2⟩
                 subst hgr
                 have z3 : (r3 != 0) = true := by simp [hr3]
                 have z4 : decide (r3 = 0) = false := decide_eq_false hr3
                 have hbq : Below wK.heap.size wK W9 := HBO.out.trans ((HBI.out.trans (HB9.out.mono HBI.out.size)).mono HBO.out.size)
                 have HN9 := Aside0.mk ((hbq.block q (blk_lt HNK.out)).trans HNK.out)
                 have HBZ := Aside0.mk (HBK.out.trans (hbq.mono HBK.out.size))
                 have y0 : W9.cell? ⟨q, 0, none⟩ = some (.slice none 0 0) := (blk_cell HN9.out 0).trans rfl
                 have y1 : W9.cell? ⟨q, 1, none⟩ = some (.int .i64 0) := (blk_cell HN9.out 1).trans rfl
                 have yf : ∀ j, W9.frozen? ⟨q, j, none⟩ = false := fun j => by have := HN9.out; simp [World.frozen?, this]
                 clear hbq hr3
                 have HGE := Aside0.mk hge
                 clear hge
                 go_wp2
                 refine bodyPost_ret (results_cell_row rfl _ _ q 41 _ (0, 0) _ rfl (out2_cells HN9.out _ _) Tryd.underlying41 rfl (by kernel_rfl)) rfl ?_
                 exact ⟨_, by rw [HGE.out], Kd.V_nil _ _ _ _ _, out2_below HBZ.out HQW.out _ _⟩
           · have d1 : decide (y < (l2.length : Int)) = false := decide_eq_false hly
             have HNX : Aside0 (rowsOf l1 l0 l2 (keys.drop (x + 1).toNat) (acc ++ [r]) = (grs, ger)) := ⟨by
              have h := HRO.out
              rw [List.drop_of_length_le (by omega)] at h
              have h2 := HACC2.out
              rw [← h] at h2
              exact h2⟩
             clear HY hy0 hy1 hkq hly HRO HACC2
             obtain ⟨Ag, cg, eg, _⟩ := Kd.R_reads HKR.out
             subst eg
             have hNW : Below wN.heap.size wN wr := HBI.out
             have HBOK := Aside0.mk (HBO.out.trans (hNW.mono HBO.out.size))
             have HO9 := Aside0.mk (Kd.R_below (Kd.R_below HO.out HBN.out) hNW)
             have HM9 := Aside0.mk (Kd.R_mono (Kd.R_lower (Kd.R_bound HKR.out) HBO.out.size) (ok' := fun k => wN.heap.size ≤ k) (fun k hk => hk.2.1))
             have HFR : Aside0 (∀ k, wN.heap.size ≤ k → True ∧ some k ≠ u14.ownBlock) := ⟨fun k hk => ⟨trivial, fun e => by have h1 := Kd.R_lt HO.out k e.symm; have h2 := HBN.out.size; omega⟩⟩
             have HLEN2 : Aside0 ((acc.length + 1) * 24 ≤ 140737488355328) := ⟨by
              have := HKN.out
              have := HAL.out
              have := HLT.out
              omega⟩
             clear hNW
             go_wp2_with (at_builtin; refine Kd.R_append kRow (w0 := wK) wK.heap.size rfl (.tmp 129) (.tmp 131) 37 58 (.slice none 0 0) 24 rfl Tryd.underlying37 infoRow rfl (Nat.le_refl 1) (by decide) _ _ r [.slice Ag r.length cg] (fun _ => True) (fun k => wN.heap.size ≤ k) rfl rfl ⟨_, rfl, HM9.out⟩ HFR.out (fun _ _ => trivial) HO9.out HBOK.out HBOK.out.size HLEN2.out ?_; intro v6 w6 hR4 hb4 hg4 hat4; have HO4 := Aside0.mk hR4; have HB4 := Aside0.mk hb4; clear hR4 hb4 hg4 hat4)
             have hk := HKQ.out
             have hlt := HLT.out
             have hx0 := HX0.out
             cases gO with
             | zero => omega
             | succ k1 =>
              go_roundg k1
              case measure => omega
              case rel => exact ⟨x + 1, by rw [HWR.out], ⟨by omega⟩, ⟨_, HO4.out, HNX.out, by have h1 := HAL.out; have h2 := HX0.out; rw [List.length_append]; simp only [List.length_cons, List.length_nil]; omega⟩, HB4⟩
        · have d1 : decide (x < (keys.length : Int)) = false := decide_eq_false hlt
          obtain ⟨hf1, hf2⟩ : acc = grs ∧ 0 = ger := by
           have h := HACC.out
           rw [List.drop_of_length_le (by omega)] at h
           simpa [rowsOf] using h
          subst hf1
          subst hf2
          have HN9 := Aside0.mk ((HB.out.block q (blk_lt HNK.out)).trans HNK.out)
          have HB9 := Aside0.mk (HBK.out.trans (HB.out.mono HBK.out.size))
          have HKS2 := Aside0.mk HBK.out.size
          clear hx0 hx1 hkq hlt HX HACC HAL
          have y0 : wr.cell? ⟨q, 0, none⟩ = some (.slice none 0 0) := (blk_cell HN9.out 0).trans rfl
          have y1 : wr.cell? ⟨q, 1, none⟩ = some (.int .i64 0) := (blk_cell HN9.out 1).trans rfl
          have yf : ∀ j, wr.frozen? ⟨q, j, none⟩ = false := fun j => by have := HN9.out; simp [World.frozen?, this]
          obtain ⟨Ag, cg, eg, _⟩ := Kd.R_reads HO.out
          subst eg
          go_wp2
          refine bodyPost_ret (results_cell_row rfl _ _ q 41 _ (0, 0) _ rfl (out2_cells HN9.out _ _) Tryd.underlying41 rfl (by kernel_rfl)) rfl ?_
          refine ⟨_, rfl, ?_, out2_below HB9.out HQW.out _ _⟩
          have hqk := blk_lt HNK.out
          have h1 := Kd.R_mono (Kd.R_bound HO.out) (ok' := fun k => wK.heap.size ≤ k) (fun k hk => hk.2.1)
          have h2 := Kd.R_far (p := ⟨q, 0, none⟩) h1 (fun k hk e => by
           have e : k = q := e
           omega) (Value.slice Ag acc.length cg)
          have h3 := Kd.R_far (p := ⟨q, 1, none⟩) h2 (fun k hk e => by
           have e : k = q := e
           omega) (Value.int .i64 0)
          exact Kd.R_V (base' := w.heap.size) (Kd.R_mono h3 (fun k hk => Nat.le_trans HKS2.out hk))
end Go.Proofs.YtecgkcgfeghhgaaDoor.PAll
namespace Go.Proofs.YtecgkcgfeghhgaaDoor.PAll
open Go.RowKit Go.Proofs.YtecgkcgfeghhgaaDoorW.PrintWords Go.Proofs.YtecgkcgfeghhgaaDoorW.PrintLast Go.Proofs.YtecgkcgfeghhgaaDoorW.PrintMore
attribute [local go_sem] max2_int min2_int max_two min_two max_three min_three max_four min_four
set_option linter.unusedVariables false
set_option linter.unusedSimpArgs false
def r1_Int.f (a0 : Int) : Option (Int × Int × ByteArray) := some (1, a0, (⟨#[]⟩ : ByteArray))
theorem r1_Int.calls (a0 : Int) (r1 : Int) (r2 : Int) (r3 : ByteArray) (w : World) (h : r1_Int.f a0 = some (r1, r2, r3)) :
 Calls Tryd.prog 12 #[.int .i64 a0] w fun e w' => e = .returned (.agg #[.int .u8 r1, .int .i64 r2, .string r3]) ∧ Below w.heap.size w w' := by
 have hu27 := Tryd.underlying27
 have HB := Aside0.mk (Below.refl w.heap.size w)
 have H : (some (1, a0, (⟨#[]⟩ : ByteArray))) = some (r1, r2, r3) := h
 clear h
 simp only [Option.some.injEq, Prod.mk.injEq] at H
 obtain ⟨rfl, rfl, rfl⟩ := H
 go_enter Tryd.func12, Tryd.ntmps12
 go_wp2_with (first | ((with_reducible refine gate_dst (N := 2) rfl ?_); refine box_event ?hg (N := 2) ?hd (cs := #[.int .u8 0, .int .i64 0, .string (⟨#[]⟩ : ByteArray)]) (t := 27) ?hr ?_; (case hd => rfl); (case hg => rfl); (case hr => first | (go_simp; done) | (go_simp; rfl)); intro gb124 hg w2 hbox hb; have n0_ := Aside0.mk (below_step (by repeat (first | (with_reducible first | exact HB.out | apply bA_ | apply bN_ | apply b1_) | exact HB.out)) hb); have n1_ := Aside0.mk (hbox); have n2_ := Aside0.mk ((by rw [hg]; exact (below_size (by repeat (first | (with_reducible first | exact HB.out | apply bA_ | apply bN_ | apply b1_) | exact HB.out))) : w.heap.size ≤ gb124)); have n3_ := Aside0.mk ((by rw [hg]; exact (below_size (by repeat (first | (with_reducible first | exact HB.out | apply bA_ | apply bN_ | apply b1_) | exact HB.out))) : w.heap.size ≤ gb124)); clear HB; have HB := n0_; have BK124 := n1_; have GW124 := n2_; have GE124 := n3_; clear n0_ n1_ n2_ n3_; clear hb hbox hg; have hcz3_0 : w2.cell? ⟨gb124, 0, none⟩ = some (.int .u8 0) := (blk_cell BK124.out 0).trans rfl; have hcz3_1 : w2.cell? ⟨gb124, 1, none⟩ = some (.int .i64 0) := (blk_cell BK124.out 1).trans rfl; have hcz3_2 : w2.cell? ⟨gb124, 2, none⟩ = some (.string (⟨#[]⟩ : ByteArray)) := (blk_cell BK124.out 2).trans rfl; have hfz3_0 := blk_frozen BK124.out 0; have hfz3_1 := blk_frozen BK124.out 1; have hfz3_2 := blk_frozen BK124.out 2))
 refine bodyPost_ret (results_cell_row rfl _ _ gb124 27 #[.int .u8 1, .int .i64 a0, .string (⟨#[]⟩ : ByteArray)] (0, 0) _ rfl (by (with_reducible repeat (first | refine blk_drewN ?_ _ | refine blk_drew ?_ | refine blk_alloc ?_ _)); refine blk_put (cs := #[.int .u8 1, .int .i64 a0, .string (⟨#[]⟩ : ByteArray)]) ?_ 2 _ rfl; (with_reducible repeat (first | refine blk_drewN ?_ _ | refine blk_drew ?_ | refine blk_alloc ?_ _)); refine blk_put (cs := #[.int .u8 1, .int .i64 0, .string (⟨#[]⟩ : ByteArray)]) ?_ 1 _ rfl; (with_reducible repeat (first | refine blk_drewN ?_ _ | refine blk_drew ?_ | refine blk_alloc ?_ _)); refine blk_put (cs := #[.int .u8 0, .int .i64 0, .string (⟨#[]⟩ : ByteArray)]) ?_ 0 _ rfl; (with_reducible repeat (first | refine blk_drewN ?_ _ | refine blk_drew ?_ | refine blk_alloc ?_ _)); exact BK124.out) Tryd.underlying27 rfl (by kernel_rfl)) rfl ?_
 exact ⟨by first | rfl | (simp [*, errW_none, errW_some] <;> rfl), by repeat (first | (with_reducible first | exact HB.out | apply bA_ | apply bN_ | apply b1_ | refine below_set ?_ GE124.out) | exact HB.out)⟩
def r1_Same.f (a0_0 : Int) (a0_1 : Int) (a0_2 : ByteArray) (a1_0 : Int) (a1_1 : Int) (a1_2 : ByteArray) : Option (Bool) := if a0_0 = a1_0 then (if a0_1 = a1_1 then (some (a0_2.toList == a1_2.toList)) else (some false)) else (some false)
theorem r1_Same.calls (a0_0 : Int) (a0_1 : Int) (a0_2 : ByteArray) (a1_0 : Int) (a1_1 : Int) (a1_2 : ByteArray) (r : Bool) (w : World) (h : r1_Same.f a0_0 a0_1 a0_2 a1_0 a1_1 a1_2 = some r) :
 Calls Tryd.prog 14 #[.agg #[.int .u8 a0_0, .int .i64 a0_1, .string a0_2], .agg #[.int .u8 a1_0, .int .i64 a1_1, .string a1_2]] w fun e w' => e = .returned (.bool r) ∧ Below w.heap.size w w' := by
 have hu27 := Tryd.underlying27
 have HB := Aside0.mk (Below.refl w.heap.size w)
 have H : (if a0_0 = a1_0 then (if a0_1 = a1_1 then (some (a0_2.toList == a1_2.toList)) else (some false)) else (some false)) = some r := h
 clear h
 by_cases c3 : a0_0 = a1_0
 · rw [if_pos c3] at H
   have c3b0 : (a0_0 == a1_0) = true := beq_iff_eq.mpr c3
   have c3b1 : (a0_0 != a1_0) = false := bne_eq_false_iff_eq.mpr c3
   clear c3
   by_cases c4 : a0_1 = a1_1
   · rw [if_pos c4] at H
     have c4b0 : (a0_1 == a1_1) = true := beq_iff_eq.mpr c4
     have c4b1 : (a0_1 != a1_1) = false := bne_eq_false_iff_eq.mpr c4
     clear c4
     obtain rfl := Option.some.inj H
     go_enter Tryd.func14, Tryd.ntmps14
     go_wp2_with (first | ((with_reducible refine gate_dst (N := 2) rfl ?_); refine box_event ?hg (N := 2) ?hd (cs := #[.int .u8 a0_0, .int .i64 a0_1, .string a0_2]) (t := 27) ?hr ?_; (case hd => rfl); (case hg => rfl); (case hr => first | (go_simp; done) | (go_simp; rfl)); intro gb125 hg w5 hbox hb; have n0_ := Aside0.mk (below_step (by repeat (first | (with_reducible first | exact HB.out | apply bA_ | apply bN_ | apply b1_) | exact HB.out)) hb); have n1_ := Aside0.mk (hbox); have n2_ := Aside0.mk ((by rw [hg]; exact (below_size (by repeat (first | (with_reducible first | exact HB.out | apply bA_ | apply bN_ | apply b1_) | exact HB.out))) : w.heap.size ≤ gb125)); have n3_ := Aside0.mk ((by rw [hg]; exact (below_size (by repeat (first | (with_reducible first | exact HB.out | apply bA_ | apply bN_ | apply b1_) | exact HB.out))) : w.heap.size ≤ gb125)); clear HB; have HB := n0_; have BK125 := n1_; have GW125 := n2_; have GE125 := n3_; clear n0_ n1_ n2_ n3_; clear hb hbox hg) | ((with_reducible refine gate_dst (N := 3) rfl ?_); refine box_event ?hg (N := 3) ?hd (cs := #[.int .u8 a1_0, .int .i64 a1_1, .string a1_2]) (t := 27) ?hr ?_; (case hd => rfl); (case hg => rfl); (case hr => first | (go_simp; done) | (go_simp; rfl)); intro gb126 hg w6 hbox hb; have n0_ := Aside0.mk (blk_below (g := gb125) (o := .cells #[.int .u8 a0_0, .int .i64 a0_1, .string a0_2] 27 (0, 0)) (by (with_reducible repeat (first | refine blk_drewN ?_ _ | refine blk_drew ?_ | refine blk_alloc ?_ _)); exact BK125.out) hb); have n1_ := Aside0.mk (below_step (by repeat (first | (with_reducible first | exact HB.out | apply bA_ | apply bN_ | apply b1_ | refine below_set ?_ GE125.out) | exact HB.out)) hb); have n2_ := Aside0.mk (hbox); have n3_ := Aside0.mk ((by rw [hg]; exact (below_size (by repeat (first | (with_reducible first | exact HB.out | apply bA_ | apply bN_ | apply b1_ | refine below_set ?_ GE125.out) | exact HB.out))) : w.heap.size ≤ gb126)); have n4_ := Aside0.mk ((by rw [hg]; exact (below_size (by repeat (first | (with_reducible first | exact HB.out | apply bA_ | apply bN_ | apply b1_ | refine below_set ?_ GE125.out) | exact HB.out))) : w.heap.size ≤ gb126)); have n5_ := Aside0.mk ((by rw [hg]; exact Nat.ne_of_lt (blk_lt (g := gb125) (o := .cells #[.int .u8 a0_0, .int .i64 a0_1, .string a0_2] 27 (0, 0)) (by (with_reducible repeat (first | refine blk_drewN ?_ _ | refine blk_drew ?_ | refine blk_alloc ?_ _)); exact BK125.out)) : gb125 ≠ gb126)); have n6_ := Aside0.mk ((by rw [hg]; exact Nat.ne_of_gt (blk_lt (g := gb125) (o := .cells #[.int .u8 a0_0, .int .i64 a0_1, .string a0_2] 27 (0, 0)) (by (with_reducible repeat (first | refine blk_drewN ?_ _ | refine blk_drew ?_ | refine blk_alloc ?_ _)); exact BK125.out)) : gb126 ≠ gb125)); clear BK125; clear HB; have BK125 := n0_; have HB := n1_; have BK126 := n2_; have GW126 := n3_; have GE126 := n4_; have NB125_126 := n5_; have NB126_125 := n6_; clear n0_ n1_ n2_ n3_ n4_ n5_ n6_; clear hb hbox hg; have hnb7 := NB125_126.out; have hnc7 := NB126_125.out; have hcz8_0 : w6.cell? ⟨gb125, 0, none⟩ = some (.int .u8 a0_0) := (blk_cell BK125.out 0).trans rfl; have hcz8_1 : w6.cell? ⟨gb125, 1, none⟩ = some (.int .i64 a0_1) := (blk_cell BK125.out 1).trans rfl; have hcz8_2 : w6.cell? ⟨gb125, 2, none⟩ = some (.string a0_2) := (blk_cell BK125.out 2).trans rfl; have hfz8_0 := blk_frozen BK125.out 0; have hfz8_1 := blk_frozen BK125.out 1; have hfz8_2 := blk_frozen BK125.out 2; have hcz9_0 : w6.cell? ⟨gb126, 0, none⟩ = some (.int .u8 a1_0) := (blk_cell BK126.out 0).trans rfl; have hcz9_1 : w6.cell? ⟨gb126, 1, none⟩ = some (.int .i64 a1_1) := (blk_cell BK126.out 1).trans rfl; have hcz9_2 : w6.cell? ⟨gb126, 2, none⟩ = some (.string a1_2) := (blk_cell BK126.out 2).trans rfl; have hfz9_0 := blk_frozen BK126.out 0; have hfz9_1 := blk_frozen BK126.out 1; have hfz9_2 := blk_frozen BK126.out 2))
     go_ret
     exact ⟨by first | rfl | (simp [*, errW_none, errW_some] <;> rfl), by repeat (first | (with_reducible first | exact HB.out | apply bA_ | apply bN_ | apply b1_ | refine below_set ?_ GE125.out | refine below_set ?_ GE126.out) | exact HB.out)⟩
   · rw [if_neg c4] at H
     have c4b0 : (a0_1 == a1_1) = false := beq_eq_false_iff_ne.mpr c4
     have c4b1 : (a0_1 != a1_1) = true := bne_iff_ne.mpr c4
     obtain rfl := Option.some.inj H
     go_enter Tryd.func14, Tryd.ntmps14
     go_wp2_with (first | ((with_reducible refine gate_dst (N := 2) rfl ?_); refine box_event ?hg (N := 2) ?hd (cs := #[.int .u8 a0_0, .int .i64 a0_1, .string a0_2]) (t := 27) ?hr ?_; (case hd => rfl); (case hg => rfl); (case hr => first | (go_simp; done) | (go_simp; rfl)); intro gb125 hg w10 hbox hb; have n0_ := Aside0.mk (below_step (by repeat (first | (with_reducible first | exact HB.out | apply bA_ | apply bN_ | apply b1_) | exact HB.out)) hb); have n1_ := Aside0.mk (hbox); have n2_ := Aside0.mk ((by rw [hg]; exact (below_size (by repeat (first | (with_reducible first | exact HB.out | apply bA_ | apply bN_ | apply b1_) | exact HB.out))) : w.heap.size ≤ gb125)); have n3_ := Aside0.mk ((by rw [hg]; exact (below_size (by repeat (first | (with_reducible first | exact HB.out | apply bA_ | apply bN_ | apply b1_) | exact HB.out))) : w.heap.size ≤ gb125)); clear HB; have HB := n0_; have BK125 := n1_; have GW125 := n2_; have GE125 := n3_; clear n0_ n1_ n2_ n3_; clear hb hbox hg) | ((with_reducible refine gate_dst (N := 3) rfl ?_); refine box_event ?hg (N := 3) ?hd (cs := #[.int .u8 a1_0, .int .i64 a1_1, .string a1_2]) (t := 27) ?hr ?_; (case hd => rfl); (case hg => rfl); (case hr => first | (go_simp; done) | (go_simp; rfl)); intro gb126 hg w11 hbox hb; have n0_ := Aside0.mk (blk_below (g := gb125) (o := .cells #[.int .u8 a0_0, .int .i64 a0_1, .string a0_2] 27 (0, 0)) (by (with_reducible repeat (first | refine blk_drewN ?_ _ | refine blk_drew ?_ | refine blk_alloc ?_ _)); exact BK125.out) hb); have n1_ := Aside0.mk (below_step (by repeat (first | (with_reducible first | exact HB.out | apply bA_ | apply bN_ | apply b1_ | refine below_set ?_ GE125.out) | exact HB.out)) hb); have n2_ := Aside0.mk (hbox); have n3_ := Aside0.mk ((by rw [hg]; exact (below_size (by repeat (first | (with_reducible first | exact HB.out | apply bA_ | apply bN_ | apply b1_ | refine below_set ?_ GE125.out) | exact HB.out))) : w.heap.size ≤ gb126)); have n4_ := Aside0.mk ((by rw [hg]; exact (below_size (by repeat (first | (with_reducible first | exact HB.out | apply bA_ | apply bN_ | apply b1_ | refine below_set ?_ GE125.out) | exact HB.out))) : w.heap.size ≤ gb126)); have n5_ := Aside0.mk ((by rw [hg]; exact Nat.ne_of_lt (blk_lt (g := gb125) (o := .cells #[.int .u8 a0_0, .int .i64 a0_1, .string a0_2] 27 (0, 0)) (by (with_reducible repeat (first | refine blk_drewN ?_ _ | refine blk_drew ?_ | refine blk_alloc ?_ _)); exact BK125.out)) : gb125 ≠ gb126)); have n6_ := Aside0.mk ((by rw [hg]; exact Nat.ne_of_gt (blk_lt (g := gb125) (o := .cells #[.int .u8 a0_0, .int .i64 a0_1, .string a0_2] 27 (0, 0)) (by (with_reducible repeat (first | refine blk_drewN ?_ _ | refine blk_drew ?_ | refine blk_alloc ?_ _)); exact BK125.out)) : gb126 ≠ gb125)); clear BK125; clear HB; have BK125 := n0_; have HB := n1_; have BK126 := n2_; have GW126 := n3_; have GE126 := n4_; have NB125_126 := n5_; have NB126_125 := n6_; clear n0_ n1_ n2_ n3_ n4_ n5_ n6_; clear hb hbox hg; have hnb12 := NB125_126.out; have hnc12 := NB126_125.out; have hcz13_0 : w11.cell? ⟨gb125, 0, none⟩ = some (.int .u8 a0_0) := (blk_cell BK125.out 0).trans rfl; have hcz13_1 : w11.cell? ⟨gb125, 1, none⟩ = some (.int .i64 a0_1) := (blk_cell BK125.out 1).trans rfl; have hcz13_2 : w11.cell? ⟨gb125, 2, none⟩ = some (.string a0_2) := (blk_cell BK125.out 2).trans rfl; have hfz13_0 := blk_frozen BK125.out 0; have hfz13_1 := blk_frozen BK125.out 1; have hfz13_2 := blk_frozen BK125.out 2; have hcz14_0 : w11.cell? ⟨gb126, 0, none⟩ = some (.int .u8 a1_0) := (blk_cell BK126.out 0).trans rfl; have hcz14_1 : w11.cell? ⟨gb126, 1, none⟩ = some (.int .i64 a1_1) := (blk_cell BK126.out 1).trans rfl; have hcz14_2 : w11.cell? ⟨gb126, 2, none⟩ = some (.string a1_2) := (blk_cell BK126.out 2).trans rfl; have hfz14_0 := blk_frozen BK126.out 0; have hfz14_1 := blk_frozen BK126.out 1; have hfz14_2 := blk_frozen BK126.out 2))
     go_ret
     exact ⟨by first | rfl | (simp [*, errW_none, errW_some] <;> rfl), by repeat (first | (with_reducible first | exact HB.out | apply bA_ | apply bN_ | apply b1_ | refine below_set ?_ GE125.out | refine below_set ?_ GE126.out) | exact HB.out)⟩
 · rw [if_neg c3] at H
   have c3b0 : (a0_0 == a1_0) = false := beq_eq_false_iff_ne.mpr c3
   have c3b1 : (a0_0 != a1_0) = true := bne_iff_ne.mpr c3
   obtain rfl := Option.some.inj H
   go_enter Tryd.func14, Tryd.ntmps14
   go_wp2_with (first | ((with_reducible refine gate_dst (N := 2) rfl ?_); refine box_event ?hg (N := 2) ?hd (cs := #[.int .u8 a0_0, .int .i64 a0_1, .string a0_2]) (t := 27) ?hr ?_; (case hd => rfl); (case hg => rfl); (case hr => first | (go_simp; done) | (go_simp; rfl)); intro gb125 hg w15 hbox hb; have n0_ := Aside0.mk (below_step (by repeat (first | (with_reducible first | exact HB.out | apply bA_ | apply bN_ | apply b1_) | exact HB.out)) hb); have n1_ := Aside0.mk (hbox); have n2_ := Aside0.mk ((by rw [hg]; exact (below_size (by repeat (first | (with_reducible first | exact HB.out | apply bA_ | apply bN_ | apply b1_) | exact HB.out))) : w.heap.size ≤ gb125)); have n3_ := Aside0.mk ((by rw [hg]; exact (below_size (by repeat (first | (with_reducible first | exact HB.out | apply bA_ | apply bN_ | apply b1_) | exact HB.out))) : w.heap.size ≤ gb125)); clear HB; have HB := n0_; have BK125 := n1_; have GW125 := n2_; have GE125 := n3_; clear n0_ n1_ n2_ n3_; clear hb hbox hg) | ((with_reducible refine gate_dst (N := 3) rfl ?_); refine box_event ?hg (N := 3) ?hd (cs := #[.int .u8 a1_0, .int .i64 a1_1, .string a1_2]) (t := 27) ?hr ?_; (case hd => rfl); (case hg => rfl); (case hr => first | (go_simp; done) | (go_simp; rfl)); intro gb126 hg w16 hbox hb; have n0_ := Aside0.mk (blk_below (g := gb125) (o := .cells #[.int .u8 a0_0, .int .i64 a0_1, .string a0_2] 27 (0, 0)) (by (with_reducible repeat (first | refine blk_drewN ?_ _ | refine blk_drew ?_ | refine blk_alloc ?_ _)); exact BK125.out) hb); have n1_ := Aside0.mk (below_step (by repeat (first | (with_reducible first | exact HB.out | apply bA_ | apply bN_ | apply b1_ | refine below_set ?_ GE125.out) | exact HB.out)) hb); have n2_ := Aside0.mk (hbox); have n3_ := Aside0.mk ((by rw [hg]; exact (below_size (by repeat (first | (with_reducible first | exact HB.out | apply bA_ | apply bN_ | apply b1_ | refine below_set ?_ GE125.out) | exact HB.out))) : w.heap.size ≤ gb126)); have n4_ := Aside0.mk ((by rw [hg]; exact (below_size (by repeat (first | (with_reducible first | exact HB.out | apply bA_ | apply bN_ | apply b1_ | refine below_set ?_ GE125.out) | exact HB.out))) : w.heap.size ≤ gb126)); have n5_ := Aside0.mk ((by rw [hg]; exact Nat.ne_of_lt (blk_lt (g := gb125) (o := .cells #[.int .u8 a0_0, .int .i64 a0_1, .string a0_2] 27 (0, 0)) (by (with_reducible repeat (first | refine blk_drewN ?_ _ | refine blk_drew ?_ | refine blk_alloc ?_ _)); exact BK125.out)) : gb125 ≠ gb126)); have n6_ := Aside0.mk ((by rw [hg]; exact Nat.ne_of_gt (blk_lt (g := gb125) (o := .cells #[.int .u8 a0_0, .int .i64 a0_1, .string a0_2] 27 (0, 0)) (by (with_reducible repeat (first | refine blk_drewN ?_ _ | refine blk_drew ?_ | refine blk_alloc ?_ _)); exact BK125.out)) : gb126 ≠ gb125)); clear BK125; clear HB; have BK125 := n0_; have HB := n1_; have BK126 := n2_; have GW126 := n3_; have GE126 := n4_; have NB125_126 := n5_; have NB126_125 := n6_; clear n0_ n1_ n2_ n3_ n4_ n5_ n6_; clear hb hbox hg; have hnb17 := NB125_126.out; have hnc17 := NB126_125.out; have hcz18_0 : w16.cell? ⟨gb125, 0, none⟩ = some (.int .u8 a0_0) := (blk_cell BK125.out 0).trans rfl; have hcz18_1 : w16.cell? ⟨gb125, 1, none⟩ = some (.int .i64 a0_1) := (blk_cell BK125.out 1).trans rfl; have hcz18_2 : w16.cell? ⟨gb125, 2, none⟩ = some (.string a0_2) := (blk_cell BK125.out 2).trans rfl; have hfz18_0 := blk_frozen BK125.out 0; have hfz18_1 := blk_frozen BK125.out 1; have hfz18_2 := blk_frozen BK125.out 2; have hcz19_0 : w16.cell? ⟨gb126, 0, none⟩ = some (.int .u8 a1_0) := (blk_cell BK126.out 0).trans rfl; have hcz19_1 : w16.cell? ⟨gb126, 1, none⟩ = some (.int .i64 a1_1) := (blk_cell BK126.out 1).trans rfl; have hcz19_2 : w16.cell? ⟨gb126, 2, none⟩ = some (.string a1_2) := (blk_cell BK126.out 2).trans rfl; have hfz19_0 := blk_frozen BK126.out 0; have hfz19_1 := blk_frozen BK126.out 1; have hfz19_2 := blk_frozen BK126.out 2))
   go_ret
   exact ⟨by first | rfl | (simp [*, errW_none, errW_some] <;> rfl), by repeat (first | (with_reducible first | exact HB.out | apply bA_ | apply bN_ | apply b1_ | refine below_set ?_ GE125.out | refine below_set ?_ GE126.out) | exact HB.out)⟩
def r1_SameRows.l0 : Nat → List (S27) → List (S27) → Int → Option (Bool)
 | 0, _, _, _ => none
 | k + 1, x0, x1, x5 => if x5 < (x0.length : Int) then (if 0 ≤ x5 then (if x5 < (x1.length : Int) then ((r1_Same.f ((rd_T27 x0 x5).f0) ((rd_T27 x0 x5).f1) ((rd_T27 x0 x5).f2) ((rd_T27 x1 x5).f0) ((rd_T27 x1 x5).f1) ((rd_T27 x1 x5).f2)).bind fun t129 => (if t129 = true then (r1_SameRows.l0 k x0 x1 (wrap64 (x5 + 1))) else (some false))) else (none)) else (none)) else (some true)
def r1_SameRows.f (k : Nat) (l0 : List (S27)) (l1 : List (S27)) : Option (Bool) := if (l0.length : Int) = (l1.length : Int) then (r1_SameRows.l0 k l0 l1 0) else (some false)
def r1_SameRows.T6 : Bool × List (List Nat × List Nat) := (true, [([], []), ([], []), ([0, 1], [0, 1]), ([2], [2]), ([], []), ([], []), ([4, 5], [4, 5]), ([6], [6]), ([3, 7], [3, 7]), ([8], [8])])
def r1_SameRows.B6 : List Nat := [0, 0, 3, 7, 0, 0, 48, 112, 255, 511]
theorem r1_SameRows.tab6 : rtab .any (opsOf Tryd.f35 6) = r1_SameRows.T6 := by kernel_rfl
theorem r1_SameRows.bits6 : waitsOk r1_SameRows.T6.2 r1_SameRows.B6 = true := by kernel_rfl
theorem r1_SameRows.calls (k : Nat) (A0 : Option Addr) (c0 : Nat) (l0 : List (S27)) (A1 : Option Addr) (c1 : Nat) (l1 : List (S27)) (r : Bool) (w : World) (hr0 : Kd.C k27 w A0 l0.length l0) (hc0 : l0.length ≤ c0) (hr1 : Kd.C k27 w A1 l1.length l1) (hc1 : l1.length ≤ c1) (h : r1_SameRows.f k l0 l1 = some r) :
 Calls Tryd.prog 35 #[.slice A0 l0.length c0, .slice A1 l1.length c1] w fun e w' => e = .returned (.bool r) ∧ Below w.heap.size w w' := by
 have hu27 := Tryd.underlying27
 have HR0 := Aside0.mk hr0
 have HC0 := Aside0.mk hc0
 clear hr0 hc0
 have HR1 := Aside0.mk hr1
 have HC1 := Aside0.mk hc1
 clear hr1 hc1
 have HB := Aside0.mk (Below.refl w.heap.size w)
 have H : (if (l0.length : Int) = (l1.length : Int) then (r1_SameRows.l0 k l0 l1 0) else (some false)) = some r := h
 clear h
 by_cases c3 : (l0.length : Int) = (l1.length : Int)
 · rw [if_pos c3] at H
   have c3b0 : ((l0.length : Int) == (l1.length : Int)) = true := beq_iff_eq.mpr c3
   have c3b1 : ((l0.length : Int) != (l1.length : Int)) = false := bne_eq_false_iff_eq.mpr c3
   have c3b2 : (l0.length == l1.length) = true := by first | simpa using c3 | (simp at c3 ⊢; omega)
   clear c3
   have H' := Aside0.mk H
   clear H
   go_enter Tryd.func35, Tryd.ntmps35
   go_wp2
   go_loopg [5] k (fun kq v5 w' => ∃ (x5_1 : Int), v5 = .int .i64 x5_1 ∧ Aside0 (r1_SameRows.l0 kq l0 l1 x5_1 = some r) ∧ Aside0 (kq ≤ k) ∧ Aside0 (Below w.heap.size w w'))
   case atStart => exact ⟨(0), (by first | rfl | (simp; done) | (simp [*]; done)), H', ⟨Nat.le_refl _⟩, ⟨by repeat (first | (with_reducible first | exact HB.out | apply bA_ | apply bN_ | apply b1_) | exact HB.out)⟩⟩
   case round =>
    clear H'
    try clear c1
    try clear p2
    try clear c3
    try clear c3b0
    try clear c3b1
    try clear c3b2
    obtain ⟨x5_1, rfl, HA, HK1, HB⟩ := hrel
    cases gk with
    | zero => exact absurd HA.out (by simp [r1_SameRows.l0])
    | succ k1 =>
     have H := HA.out
     clear HA
     simp only [r1_SameRows.l0] at H
     by_cases c4 : x5_1 < (l0.length : Int)
     · rw [if_pos c4] at H
       have c4b0 : decide (x5_1 < (l0.length : Int)) = true := dT_ c4
       clear c4
       by_cases c5 : 0 ≤ x5_1
       · rw [if_pos c5] at H
         have c5b0 : decide (0 ≤ x5_1) = true := dT_ c5
         clear c5
         by_cases c6 : x5_1 < (l1.length : Int)
         · rw [if_pos c6] at H
           have c6b0 : decide (x5_1 < (l1.length : Int)) = true := dT_ c6
           clear c6
           replace H := Option.bind_eq_some_iff.mp H
           obtain ⟨t129, A70, H⟩ := H
           replace H : (if t129 = true then (r1_SameRows.l0 k1 l0 l1 (wrap64 (x5_1 + 1))) else (some false)) = some r := H
           have A7 := Aside0.mk A70
           clear A70
           by_cases c8 : t129 = true
           · subst c8
             have H1 : (r1_SameRows.l0 k1 l0 l1 (wrap64 (x5_1 + 1))) = some r := by rw [if_pos rfl] at H; exact H
             clear H
             have H := H1
             clear H1
             have H' := Aside0.mk H
             clear H
             try go_wp2
             have n0_ := Aside0.mk (b1_ HB.out)
             clear HB
             have HB := n0_
             clear n0_
             have p127 : 0 ≤ (x5_1 : Int) := oT_ (by assumption)
             have q127 : x5_1 < (l0.length : Int) := oT_ (by assumption)
             obtain ⟨ad127, e127, hx127_0, hx127_1, hx127_2⟩ := at_T27 HR0.out x5_1 p127 q127
             have hw127_2 := hx127_2
             have hw127_1 := hx127_1
             have hw127_0 := hx127_0
             cases e127
             replace hx127_0 := (HB.out.cell (bLC_ w _ hx127_0)).trans hx127_0
             replace hx127_1 := (HB.out.cell (bLC_ w _ hx127_1)).trans hx127_1
             replace hx127_2 := (HB.out.cell (bLC_ w _ hx127_2)).trans hx127_2
             replace p127 := eq_true p127
             replace q127 := eq_true q127
             have p128 : 0 ≤ (x5_1 : Int) := oT_ (by assumption)
             have q128 : x5_1 < (l1.length : Int) := oT_ (by assumption)
             obtain ⟨ad128, e128, hx128_0, hx128_1, hx128_2⟩ := at_T27 HR1.out x5_1 p128 q128
             have hw128_2 := hx128_2
             have hw128_1 := hx128_1
             have hw128_0 := hx128_0
             cases e128
             replace hx128_0 := (HB.out.cell (bLC_ w _ hx128_0)).trans hx128_0
             replace hx128_1 := (HB.out.cell (bLC_ w _ hx128_1)).trans hx128_1
             replace hx128_2 := (HB.out.cell (bLC_ w _ hx128_2)).trans hx128_2
             replace p128 := eq_true p128
             replace q128 := eq_true q128
             refine start_ (n := 10) (S := fun w' => w'.cell? (ad127.add ((x5_1).toNat * 3)) = some (.int .u8 ((rd_T27 l0 x5_1).f0)) ∧ w'.cell? ⟨(ad127.add ((x5_1).toNat * 3)).block, (ad127.add ((x5_1).toNat * 3)).off + 1, none⟩ = some (.int .i64 ((rd_T27 l0 x5_1).f1)) ∧ w'.cell? ⟨(ad127.add ((x5_1).toNat * 3)).block, (ad127.add ((x5_1).toNat * 3)).off + 2, none⟩ = some (.string ((rd_T27 l0 x5_1).f2)) ∧ w'.cell? (ad128.add ((x5_1).toNat * 3)) = some (.int .u8 ((rd_T27 l1 x5_1).f0)) ∧ w'.cell? ⟨(ad128.add ((x5_1).toNat * 3)).block, (ad128.add ((x5_1).toNat * 3)).off + 1, none⟩ = some (.int .i64 ((rd_T27 l1 x5_1).f1)) ∧ w'.cell? ⟨(ad128.add ((x5_1).toNat * 3)).block, (ad128.add ((x5_1).toNat * 3)).off + 2, none⟩ = some (.string ((rd_T27 l1 x5_1).f2))) (ds := []) #[X_,X_,X_,X_,X_,X_,X_,X_,X_,X_] (by kernel_rfl) rfl rfl ⟨((HB.out.cell (bLC_ w _ hw127_0)).trans hw127_0), ((HB.out.cell (bLC_ w _ hw127_1)).trans hw127_1), ((HB.out.cell (bLC_ w _ hw127_2)).trans hw127_2), ((HB.out.cell (bLC_ w _ hw128_0)).trans hw128_0), ((HB.out.cell (bLC_ w _ hw128_1)).trans hw128_1), ((HB.out.cell (bLC_ w _ hw128_2)).trans hw128_2)⟩ (fun hHeld => ?_); refine with_tabW r1_SameRows.tab6 r1_SameRows.bits6 (fun HT_ HW_ => ?_)
             generalize wr.drew = w9 at HB hx127_0 hx127_1 hx127_2 hx128_0 hx128_1 hx128_2 hHeld ⊢
             refine pure_ (i := 0) (N := some 17) (v := ?_) (a' := ?_) #[Y_,X_,X_,X_,X_,X_,X_,X_,X_,X_] rfl rfl (any_of HT_.out (by kernel_rfl)) (fun _ _ _ h => h) (Or.inl ⟨by rfl, ?_⟩) ?_ ?_
             rotate_left
             · intro w'
               go_simp
               with_reducible rfl
             rotate_left
             · simp only [Act.put, sTA_, sCZ_, sCS_, i64_w, i32_w]
               rfl
             refine pure_ (i := 1) (N := some 18) (v := ?_) (a' := ?_) #[Y_,Y_,X_,X_,X_,X_,X_,X_,X_,X_] rfl rfl (any_of HT_.out (by kernel_rfl)) (fun _ _ _ h => h) (Or.inl ⟨by rfl, ?_⟩) ?_ ?_
             rotate_left
             · intro w'
               go_simp
               with_reducible rfl
             rotate_left
             · simp only [Act.put, sTA_, sCZ_, sCS_, i64_w, i32_w]
               rfl
             refine pure_ (i := 2) (N := some 19) (v := ?_) (a' := ?_) #[Y_,Y_,Y_,X_,X_,X_,X_,X_,X_,X_] rfl rfl (any_of HT_.out (by kernel_rfl)) (fun _ _ _ h => h) (Or.inl ⟨by rfl, ?_⟩) ?_ ?_
             rotate_left
             · intro w'
               go_simp
               with_reducible rfl
             rotate_left
             · simp only [Act.put, sTA_, sCZ_, sCS_, i64_w, i32_w]
               rfl
             refine pure_ (i := 4) (N := some 21) (v := ?_) (a' := ?_) #[Y_,Y_,Y_,X_,Y_,X_,X_,X_,X_,X_] rfl rfl (any_of HT_.out (by kernel_rfl)) (fun _ _ _ h => h) (Or.inl ⟨by rfl, ?_⟩) ?_ ?_
             rotate_left
             · intro w'
               go_simp
               with_reducible rfl
             rotate_left
             · simp only [Act.put, sTA_, sCZ_, sCS_, i64_w, i32_w]
               rfl
             refine pure_ (i := 5) (N := some 22) (v := ?_) (a' := ?_) #[Y_,Y_,Y_,X_,Y_,Y_,X_,X_,X_,X_] rfl rfl (any_of HT_.out (by kernel_rfl)) (fun _ _ _ h => h) (Or.inl ⟨by rfl, ?_⟩) ?_ ?_
             rotate_left
             · intro w'
               go_simp
               with_reducible rfl
             rotate_left
             · simp only [Act.put, sTA_, sCZ_, sCS_, i64_w, i32_w]
               rfl
             refine pure_ (i := 6) (N := some 23) (v := ?_) (a' := ?_) #[Y_,Y_,Y_,X_,Y_,Y_,Y_,X_,X_,X_] rfl rfl (any_of HT_.out (by kernel_rfl)) (fun _ _ _ h => h) (Or.inl ⟨by rfl, ?_⟩) ?_ ?_
             rotate_left
             · intro w'
               go_simp
               with_reducible rfl
             rotate_left
             · simp only [Act.put, sTA_, sCZ_, sCS_, i64_w, i32_w]
               rfl
             refine take_ (i := 3) (N := some 20) (v := ?_) (a' := ?_) #[Y_,Y_,Y_,Y_,Y_,Y_,Y_,X_,X_,X_] rfl rfl (take_ofW HT_.out HW_.out (by kernel_rfl)) (fun _ _ _ h => h) (Or.inl ⟨by rfl, ?_⟩) hHeld ?_ ?_
             rotate_left
             · rintro w' ⟨s0, s1, s2, s3, s4, s5⟩
               go_simp
               with_reducible rfl
             rotate_left
             · simp only [Act.put, sTA_, sCZ_, sCS_, i64_w, i32_w]
               rfl
             refine take_ (i := 7) (N := some 24) (v := ?_) (a' := ?_) #[Y_,Y_,Y_,Y_,Y_,Y_,Y_,Y_,X_,X_] rfl rfl (take_ofW HT_.out HW_.out (by kernel_rfl)) (fun _ _ _ h => h) (Or.inl ⟨by rfl, ?_⟩) hHeld ?_ ?_
             rotate_left
             · rintro w' ⟨s0, s1, s2, s3, s4, s5⟩
               go_simp
               with_reducible rfl
             rotate_left
             · simp only [Act.put, sTA_, sCZ_, sCS_, i64_w, i32_w]
               rfl
             refine one_ (i := 8) (N := some 25) #[Y_,Y_,Y_,Y_,Y_,Y_,Y_,Y_,Y_,X_] rfl rfl (one_of HT_.out (by kernel_rfl)) (by decide) (fun K hK => ?_)
             refine goes_ Tryd.func14 (by kernel_rfl) rfl #[.agg #[.int .u8 ((rd_T27 l0 x5_1).f0), .int .i64 ((rd_T27 l0 x5_1).f1), .string ((rd_T27 l0 x5_1).f2)], .agg #[.int .u8 ((rd_T27 l1 x5_1).f0), .int .i64 ((rd_T27 l1 x5_1).f1), .string ((rd_T27 l1 x5_1).f2)]] (by rfl) rfl rfl (by (try simp only [List.map_toArray, List.map_cons, List.map_nil]); first | done | rfl | (simp only [List.length_drop, List.length_take]; rfl)) ?_
             with_reducible refine (r1_Same.calls ((rd_T27 l0 x5_1).f0) ((rd_T27 l0 x5_1).f1) ((rd_T27 l0 x5_1).f2) ((rd_T27 l1 x5_1).f0) ((rd_T27 l1 x5_1).f1) ((rd_T27 l1 x5_1).f2) true _ A7.out).mono ?_
             rintro e w10 ⟨rfl, hb⟩
             refine ⟨_, rfl, ?_⟩
             have n0_ := Aside0.mk (below_step (by repeat (first | (with_reducible first | exact HB.out | apply bA_ | apply bN_ | apply b1_) | exact HB.out)) hb)
             clear HB
             have HB := n0_
             clear n0_
             (try clear hb)
             (try clear hb2)
             (try clear hk)
             (try clear hi)
             refine hK.out _ _ ⟨((HB.out.cell (bLC_ w _ hw127_0)).trans hw127_0), ((HB.out.cell (bLC_ w _ hw127_1)).trans hw127_1), ((HB.out.cell (bLC_ w _ hw127_2)).trans hw127_2), ((HB.out.cell (bLC_ w _ hw128_0)).trans hw128_0), ((HB.out.cell (bLC_ w _ hw128_1)).trans hw128_1), ((HB.out.cell (bLC_ w _ hw128_2)).trans hw128_2)⟩ (fun hHeld => ?_)
             clear hK K
             refine norm_ (a' := ?_) ?_ ?_
             rotate_left
             · show Act.put _ (some 25) _ = _
               simp only [Act.put, sTA_, sCZ_, sCS_, i64_w, i32_w]
               rfl
             refine pure_ (i := 9) (N := some 26) (v := ?_) (a' := ?_) #[Y_,Y_,Y_,Y_,Y_,Y_,Y_,Y_,Y_,Y_] rfl rfl (any_of HT_.out (by kernel_rfl)) (fun _ _ _ h => h) (Or.inl ⟨by rfl, ?_⟩) ?_ ?_
             rotate_left
             · intro w'
               go_simp
               with_reducible rfl
             rotate_left
             · simp only [Act.put, sTA_, sCZ_, sCS_, i64_w, i32_w]
               rfl
             refine done_ (done_of HT_.out (by kernel_rfl)) ?_
             try go_wp2
             go_roundg k1
             case measure => have := HK1.out; omega
             case rel => exact ⟨(wrap64 (x5_1 + 1)), (by first | rfl | (simp; done) | (simp [*]; done)), H', ⟨by have := HK1.out; omega⟩, ⟨by repeat (first | (with_reducible first | exact HB.out | apply bA_ | apply bN_ | apply b1_) | exact HB.out)⟩⟩
           · replace c8 := Bool.eq_false_iff.mpr c8
             subst c8
             have H1 : (some false) = some r := by rw [if_neg (show ¬ (false = true) by decide)] at H; exact H
             clear H
             have H := H1
             clear H1
             obtain rfl := Option.some.inj H
             try go_wp2
             have n0_ := Aside0.mk (b1_ HB.out)
             clear HB
             have HB := n0_
             clear n0_
             have p127 : 0 ≤ (x5_1 : Int) := oT_ (by assumption)
             have q127 : x5_1 < (l0.length : Int) := oT_ (by assumption)
             obtain ⟨ad127, e127, hx127_0, hx127_1, hx127_2⟩ := at_T27 HR0.out x5_1 p127 q127
             have hw127_2 := hx127_2
             have hw127_1 := hx127_1
             have hw127_0 := hx127_0
             cases e127
             replace hx127_0 := (HB.out.cell (bLC_ w _ hx127_0)).trans hx127_0
             replace hx127_1 := (HB.out.cell (bLC_ w _ hx127_1)).trans hx127_1
             replace hx127_2 := (HB.out.cell (bLC_ w _ hx127_2)).trans hx127_2
             replace p127 := eq_true p127
             replace q127 := eq_true q127
             have p128 : 0 ≤ (x5_1 : Int) := oT_ (by assumption)
             have q128 : x5_1 < (l1.length : Int) := oT_ (by assumption)
             obtain ⟨ad128, e128, hx128_0, hx128_1, hx128_2⟩ := at_T27 HR1.out x5_1 p128 q128
             have hw128_2 := hx128_2
             have hw128_1 := hx128_1
             have hw128_0 := hx128_0
             cases e128
             replace hx128_0 := (HB.out.cell (bLC_ w _ hx128_0)).trans hx128_0
             replace hx128_1 := (HB.out.cell (bLC_ w _ hx128_1)).trans hx128_1
             replace hx128_2 := (HB.out.cell (bLC_ w _ hx128_2)).trans hx128_2
             replace p128 := eq_true p128
             replace q128 := eq_true q128
             refine start_ (n := 10) (S := fun w' => w'.cell? (ad127.add ((x5_1).toNat * 3)) = some (.int .u8 ((rd_T27 l0 x5_1).f0)) ∧ w'.cell? ⟨(ad127.add ((x5_1).toNat * 3)).block, (ad127.add ((x5_1).toNat * 3)).off + 1, none⟩ = some (.int .i64 ((rd_T27 l0 x5_1).f1)) ∧ w'.cell? ⟨(ad127.add ((x5_1).toNat * 3)).block, (ad127.add ((x5_1).toNat * 3)).off + 2, none⟩ = some (.string ((rd_T27 l0 x5_1).f2)) ∧ w'.cell? (ad128.add ((x5_1).toNat * 3)) = some (.int .u8 ((rd_T27 l1 x5_1).f0)) ∧ w'.cell? ⟨(ad128.add ((x5_1).toNat * 3)).block, (ad128.add ((x5_1).toNat * 3)).off + 1, none⟩ = some (.int .i64 ((rd_T27 l1 x5_1).f1)) ∧ w'.cell? ⟨(ad128.add ((x5_1).toNat * 3)).block, (ad128.add ((x5_1).toNat * 3)).off + 2, none⟩ = some (.string ((rd_T27 l1 x5_1).f2))) (ds := []) #[X_,X_,X_,X_,X_,X_,X_,X_,X_,X_] (by kernel_rfl) rfl rfl ⟨((HB.out.cell (bLC_ w _ hw127_0)).trans hw127_0), ((HB.out.cell (bLC_ w _ hw127_1)).trans hw127_1), ((HB.out.cell (bLC_ w _ hw127_2)).trans hw127_2), ((HB.out.cell (bLC_ w _ hw128_0)).trans hw128_0), ((HB.out.cell (bLC_ w _ hw128_1)).trans hw128_1), ((HB.out.cell (bLC_ w _ hw128_2)).trans hw128_2)⟩ (fun hHeld => ?_); refine with_tabW r1_SameRows.tab6 r1_SameRows.bits6 (fun HT_ HW_ => ?_)
             generalize wr.drew = w11 at HB hx127_0 hx127_1 hx127_2 hx128_0 hx128_1 hx128_2 hHeld ⊢
             refine pure_ (i := 0) (N := some 17) (v := ?_) (a' := ?_) #[Y_,X_,X_,X_,X_,X_,X_,X_,X_,X_] rfl rfl (any_of HT_.out (by kernel_rfl)) (fun _ _ _ h => h) (Or.inl ⟨by rfl, ?_⟩) ?_ ?_
             rotate_left
             · intro w'
               go_simp
               with_reducible rfl
             rotate_left
             · simp only [Act.put, sTA_, sCZ_, sCS_, i64_w, i32_w]
               rfl
             refine pure_ (i := 1) (N := some 18) (v := ?_) (a' := ?_) #[Y_,Y_,X_,X_,X_,X_,X_,X_,X_,X_] rfl rfl (any_of HT_.out (by kernel_rfl)) (fun _ _ _ h => h) (Or.inl ⟨by rfl, ?_⟩) ?_ ?_
             rotate_left
             · intro w'
               go_simp
               with_reducible rfl
             rotate_left
             · simp only [Act.put, sTA_, sCZ_, sCS_, i64_w, i32_w]
               rfl
             refine pure_ (i := 2) (N := some 19) (v := ?_) (a' := ?_) #[Y_,Y_,Y_,X_,X_,X_,X_,X_,X_,X_] rfl rfl (any_of HT_.out (by kernel_rfl)) (fun _ _ _ h => h) (Or.inl ⟨by rfl, ?_⟩) ?_ ?_
             rotate_left
             · intro w'
               go_simp
               with_reducible rfl
             rotate_left
             · simp only [Act.put, sTA_, sCZ_, sCS_, i64_w, i32_w]
               rfl
             refine pure_ (i := 4) (N := some 21) (v := ?_) (a' := ?_) #[Y_,Y_,Y_,X_,Y_,X_,X_,X_,X_,X_] rfl rfl (any_of HT_.out (by kernel_rfl)) (fun _ _ _ h => h) (Or.inl ⟨by rfl, ?_⟩) ?_ ?_
             rotate_left
             · intro w'
               go_simp
               with_reducible rfl
             rotate_left
             · simp only [Act.put, sTA_, sCZ_, sCS_, i64_w, i32_w]
               rfl
             refine pure_ (i := 5) (N := some 22) (v := ?_) (a' := ?_) #[Y_,Y_,Y_,X_,Y_,Y_,X_,X_,X_,X_] rfl rfl (any_of HT_.out (by kernel_rfl)) (fun _ _ _ h => h) (Or.inl ⟨by rfl, ?_⟩) ?_ ?_
             rotate_left
             · intro w'
               go_simp
               with_reducible rfl
             rotate_left
             · simp only [Act.put, sTA_, sCZ_, sCS_, i64_w, i32_w]
               rfl
             refine pure_ (i := 6) (N := some 23) (v := ?_) (a' := ?_) #[Y_,Y_,Y_,X_,Y_,Y_,Y_,X_,X_,X_] rfl rfl (any_of HT_.out (by kernel_rfl)) (fun _ _ _ h => h) (Or.inl ⟨by rfl, ?_⟩) ?_ ?_
             rotate_left
             · intro w'
               go_simp
               with_reducible rfl
             rotate_left
             · simp only [Act.put, sTA_, sCZ_, sCS_, i64_w, i32_w]
               rfl
             refine take_ (i := 3) (N := some 20) (v := ?_) (a' := ?_) #[Y_,Y_,Y_,Y_,Y_,Y_,Y_,X_,X_,X_] rfl rfl (take_ofW HT_.out HW_.out (by kernel_rfl)) (fun _ _ _ h => h) (Or.inl ⟨by rfl, ?_⟩) hHeld ?_ ?_
             rotate_left
             · rintro w' ⟨s0, s1, s2, s3, s4, s5⟩
               go_simp
               with_reducible rfl
             rotate_left
             · simp only [Act.put, sTA_, sCZ_, sCS_, i64_w, i32_w]
               rfl
             refine take_ (i := 7) (N := some 24) (v := ?_) (a' := ?_) #[Y_,Y_,Y_,Y_,Y_,Y_,Y_,Y_,X_,X_] rfl rfl (take_ofW HT_.out HW_.out (by kernel_rfl)) (fun _ _ _ h => h) (Or.inl ⟨by rfl, ?_⟩) hHeld ?_ ?_
             rotate_left
             · rintro w' ⟨s0, s1, s2, s3, s4, s5⟩
               go_simp
               with_reducible rfl
             rotate_left
             · simp only [Act.put, sTA_, sCZ_, sCS_, i64_w, i32_w]
               rfl
             refine one_ (i := 8) (N := some 25) #[Y_,Y_,Y_,Y_,Y_,Y_,Y_,Y_,Y_,X_] rfl rfl (one_of HT_.out (by kernel_rfl)) (by decide) (fun K hK => ?_)
             refine goes_ Tryd.func14 (by kernel_rfl) rfl #[.agg #[.int .u8 ((rd_T27 l0 x5_1).f0), .int .i64 ((rd_T27 l0 x5_1).f1), .string ((rd_T27 l0 x5_1).f2)], .agg #[.int .u8 ((rd_T27 l1 x5_1).f0), .int .i64 ((rd_T27 l1 x5_1).f1), .string ((rd_T27 l1 x5_1).f2)]] (by rfl) rfl rfl (by (try simp only [List.map_toArray, List.map_cons, List.map_nil]); first | done | rfl | (simp only [List.length_drop, List.length_take]; rfl)) ?_
             with_reducible refine (r1_Same.calls ((rd_T27 l0 x5_1).f0) ((rd_T27 l0 x5_1).f1) ((rd_T27 l0 x5_1).f2) ((rd_T27 l1 x5_1).f0) ((rd_T27 l1 x5_1).f1) ((rd_T27 l1 x5_1).f2) false _ A7.out).mono ?_
             rintro e w12 ⟨rfl, hb⟩
             refine ⟨_, rfl, ?_⟩
             have n0_ := Aside0.mk (below_step (by repeat (first | (with_reducible first | exact HB.out | apply bA_ | apply bN_ | apply b1_) | exact HB.out)) hb)
             clear HB
             have HB := n0_
             clear n0_
             (try clear hb)
             (try clear hb2)
             (try clear hk)
             (try clear hi)
             refine hK.out _ _ ⟨((HB.out.cell (bLC_ w _ hw127_0)).trans hw127_0), ((HB.out.cell (bLC_ w _ hw127_1)).trans hw127_1), ((HB.out.cell (bLC_ w _ hw127_2)).trans hw127_2), ((HB.out.cell (bLC_ w _ hw128_0)).trans hw128_0), ((HB.out.cell (bLC_ w _ hw128_1)).trans hw128_1), ((HB.out.cell (bLC_ w _ hw128_2)).trans hw128_2)⟩ (fun hHeld => ?_)
             clear hK K
             refine norm_ (a' := ?_) ?_ ?_
             rotate_left
             · show Act.put _ (some 25) _ = _
               simp only [Act.put, sTA_, sCZ_, sCS_, i64_w, i32_w]
               rfl
             refine pure_ (i := 9) (N := some 26) (v := ?_) (a' := ?_) #[Y_,Y_,Y_,Y_,Y_,Y_,Y_,Y_,Y_,Y_] rfl rfl (any_of HT_.out (by kernel_rfl)) (fun _ _ _ h => h) (Or.inl ⟨by rfl, ?_⟩) ?_ ?_
             rotate_left
             · intro w'
               go_simp
               with_reducible rfl
             rotate_left
             · simp only [Act.put, sTA_, sCZ_, sCS_, i64_w, i32_w]
               rfl
             refine done_ (done_of HT_.out (by kernel_rfl)) ?_
             try go_wp2
             go_ret
             exact ⟨by first | rfl | (simp [*, errW_none, errW_some] <;> rfl), by repeat (first | (with_reducible first | exact HB.out | apply bA_ | apply bN_ | apply b1_) | exact HB.out)⟩
         · rw [if_neg c6] at H
           exact absurd H (by simp)
       · rw [if_neg c5] at H
         exact absurd H (by simp)
     · rw [if_neg c4] at H
       have c4b0 : decide (x5_1 < (l0.length : Int)) = false := dF_ c4
       clear c4
       obtain rfl := Option.some.inj H
       go_wp2
       go_ret
       exact ⟨by first | rfl | (simp [*, errW_none, errW_some] <;> rfl), by repeat (first | (with_reducible first | exact HB.out | apply bA_ | apply bN_ | apply b1_) | exact HB.out)⟩
 · rw [if_neg c3] at H
   have c3b0 : ((l0.length : Int) == (l1.length : Int)) = false := beq_eq_false_iff_ne.mpr c3
   have c3b1 : ((l0.length : Int) != (l1.length : Int)) = true := bne_iff_ne.mpr c3
   have c3b2 : (l0.length == l1.length) = false := by first | simpa using c3 | (simp at c3 ⊢; omega)
   obtain rfl := Option.some.inj H
   go_enter Tryd.func35, Tryd.ntmps35
   go_wp2
   go_ret
   exact ⟨by first | rfl | (simp [*, errW_none, errW_some] <;> rfl), by repeat (first | (with_reducible first | exact HB.out | apply bA_ | apply bN_ | apply b1_) | exact HB.out)⟩
def r6_SameLists.l0 : Nat → List (List (S27)) → List (List (S27)) → Int → Option (Bool)
 | 0, _, _, _ => none
 | k + 1, x0, x1, x5 => if x5 < (x0.length : Int) then (if 0 ≤ x5 then (if x5 < (x1.length : Int) then ((r1_SameRows.f k (rd_L4 x0 x5) (rd_L4 x1 x5)).bind fun t132 => (if t132 = true then (r6_SameLists.l0 k x0 x1 (wrap64 (x5 + 1))) else (some false))) else (none)) else (none)) else (some true)
def r6_SameLists.f (k : Nat) (l0 : List (List (S27))) (l1 : List (List (S27))) : Option (Bool) := if (l0.length : Int) = (l1.length : Int) then (r6_SameLists.l0 k l0 l1 0) else (some false)
def r6_SameLists.T6 : Bool × List (List Nat × List Nat) := (true, [([], []), ([], []), ([0, 1], [0, 1]), ([2], [2]), ([], []), ([], []), ([4, 5], [4, 5]), ([6], [6]), ([3, 7], [3, 7]), ([8], [8])])
def r6_SameLists.B6 : List Nat := [0, 0, 3, 7, 0, 0, 48, 112, 255, 511]
theorem r6_SameLists.tab6 : rtab .any (opsOf Tryd.f19 6) = r6_SameLists.T6 := by kernel_rfl
theorem r6_SameLists.bits6 : waitsOk r6_SameLists.T6.2 r6_SameLists.B6 = true := by kernel_rfl
theorem r6_SameLists.calls (k : Nat) (A0 : Option Addr) (c0 : Nat) (l0 : List (List (S27))) (A1 : Option Addr) (c1 : Nat) (l1 : List (List (S27))) (r : Bool) (w : World) (hr0 : Kd.C (Kd.slice 27 k27) w A0 l0.length l0) (hc0 : l0.length ≤ c0) (hr1 : Kd.C (Kd.slice 27 k27) w A1 l1.length l1) (hc1 : l1.length ≤ c1) (h : r6_SameLists.f k l0 l1 = some r) :
 Calls Tryd.prog 19 #[.slice A0 l0.length c0, .slice A1 l1.length c1] w fun e w' => e = .returned (.bool r) ∧ Below w.heap.size w w' := by
 have HR0 := Aside0.mk hr0
 have HC0 := Aside0.mk hc0
 clear hr0 hc0
 have HR1 := Aside0.mk hr1
 have HC1 := Aside0.mk hc1
 clear hr1 hc1
 have HB := Aside0.mk (Below.refl w.heap.size w)
 have H : (if (l0.length : Int) = (l1.length : Int) then (r6_SameLists.l0 k l0 l1 0) else (some false)) = some r := h
 clear h
 by_cases c3 : (l0.length : Int) = (l1.length : Int)
 · rw [if_pos c3] at H
   have c3b0 : ((l0.length : Int) == (l1.length : Int)) = true := beq_iff_eq.mpr c3
   have c3b1 : ((l0.length : Int) != (l1.length : Int)) = false := bne_eq_false_iff_eq.mpr c3
   have c3b2 : (l0.length == l1.length) = true := by first | simpa using c3 | (simp at c3 ⊢; omega)
   clear c3
   have H' := Aside0.mk H
   clear H
   go_enter Tryd.func19, Tryd.ntmps19
   go_wp2
   go_loopg [5] k (fun kq v5 w' => ∃ (x5_1 : Int), v5 = .int .i64 x5_1 ∧ Aside0 (r6_SameLists.l0 kq l0 l1 x5_1 = some r) ∧ Aside0 (kq ≤ k) ∧ Aside0 (Below w.heap.size w w'))
   case atStart => exact ⟨(0), (by first | rfl | (simp; done) | (simp [*]; done)), H', ⟨Nat.le_refl _⟩, ⟨by repeat (first | (with_reducible first | exact HB.out | apply bA_ | apply bN_ | apply b1_) | exact HB.out)⟩⟩
   case round =>
    clear H'
    try clear c1
    try clear p2
    try clear c3
    try clear c3b0
    try clear c3b1
    try clear c3b2
    obtain ⟨x5_1, rfl, HA, HK1, HB⟩ := hrel
    cases gk with
    | zero => exact absurd HA.out (by simp [r6_SameLists.l0])
    | succ k1 =>
     have H := HA.out
     clear HA
     simp only [r6_SameLists.l0] at H
     by_cases c4 : x5_1 < (l0.length : Int)
     · rw [if_pos c4] at H
       have c4b0 : decide (x5_1 < (l0.length : Int)) = true := dT_ c4
       clear c4
       by_cases c5 : 0 ≤ x5_1
       · rw [if_pos c5] at H
         have c5b0 : decide (0 ≤ x5_1) = true := dT_ c5
         clear c5
         by_cases c6 : x5_1 < (l1.length : Int)
         · rw [if_pos c6] at H
           have c6b0 : decide (x5_1 < (l1.length : Int)) = true := dT_ c6
           clear c6
           replace H := Option.bind_eq_some_iff.mp H
           obtain ⟨t132, A70, H⟩ := H
           replace H : (if t132 = true then (r6_SameLists.l0 k1 l0 l1 (wrap64 (x5_1 + 1))) else (some false)) = some r := H
           have A7 := Aside0.mk A70
           clear A70
           by_cases c8 : t132 = true
           · subst c8
             have H1 : (r6_SameLists.l0 k1 l0 l1 (wrap64 (x5_1 + 1))) = some r := by rw [if_pos rfl] at H; exact H
             clear H
             have H := H1
             clear H1
             have H' := Aside0.mk H
             clear H
             try go_wp2
             have n0_ := Aside0.mk (b1_ HB.out)
             clear HB
             have HB := n0_
             clear n0_
             have p130 : 0 ≤ (x5_1 : Int) := oT_ (by assumption)
             have q130 : x5_1 < (l0.length : Int) := oT_ (by assumption)
             obtain ⟨ad130, A130_0, c130_0, e130, hx130_0, hl130_0, hi130_0⟩ := at_L4 HR0.out x5_1 p130 q130
             have hw130_0 := hx130_0
             cases e130
             replace hx130_0 := (HB.out.cell (bLC_ w _ hx130_0)).trans hx130_0
             have HR130_0 := Aside0.mk hi130_0
             have HC130_0 := Aside0.mk hl130_0
             clear hi130_0 hl130_0
             replace p130 := eq_true p130
             replace q130 := eq_true q130
             have p131 : 0 ≤ (x5_1 : Int) := oT_ (by assumption)
             have q131 : x5_1 < (l1.length : Int) := oT_ (by assumption)
             obtain ⟨ad131, A131_0, c131_0, e131, hx131_0, hl131_0, hi131_0⟩ := at_L4 HR1.out x5_1 p131 q131
             have hw131_0 := hx131_0
             cases e131
             replace hx131_0 := (HB.out.cell (bLC_ w _ hx131_0)).trans hx131_0
             have HR131_0 := Aside0.mk hi131_0
             have HC131_0 := Aside0.mk hl131_0
             clear hi131_0 hl131_0
             replace p131 := eq_true p131
             replace q131 := eq_true q131
             refine start_ (n := 10) (S := fun w' => w'.cell? (ad130.add (x5_1).toNat) = some (.slice A130_0 (rd_L4 l0 x5_1).length c130_0) ∧ w'.cell? (ad131.add (x5_1).toNat) = some (.slice A131_0 (rd_L4 l1 x5_1).length c131_0)) (ds := []) #[X_,X_,X_,X_,X_,X_,X_,X_,X_,X_] (by kernel_rfl) rfl rfl ⟨((HB.out.cell (bLC_ w _ hw130_0)).trans hw130_0), ((HB.out.cell (bLC_ w _ hw131_0)).trans hw131_0)⟩ (fun hHeld => ?_); refine with_tabW r6_SameLists.tab6 r6_SameLists.bits6 (fun HT_ HW_ => ?_)
             generalize wr.drew = w9 at HB HR130_0 HR131_0 hx130_0 hx131_0 hHeld ⊢
             refine pure_ (i := 0) (N := some 17) (v := ?_) (a' := ?_) #[Y_,X_,X_,X_,X_,X_,X_,X_,X_,X_] rfl rfl (any_of HT_.out (by kernel_rfl)) (fun _ _ _ h => h) (Or.inl ⟨by rfl, ?_⟩) ?_ ?_
             rotate_left
             · intro w'
               go_simp
               with_reducible rfl
             rotate_left
             · simp only [Act.put, sTA_, sCZ_, sCS_, i64_w, i32_w]
               rfl
             refine pure_ (i := 1) (N := some 18) (v := ?_) (a' := ?_) #[Y_,Y_,X_,X_,X_,X_,X_,X_,X_,X_] rfl rfl (any_of HT_.out (by kernel_rfl)) (fun _ _ _ h => h) (Or.inl ⟨by rfl, ?_⟩) ?_ ?_
             rotate_left
             · intro w'
               go_simp
               with_reducible rfl
             rotate_left
             · simp only [Act.put, sTA_, sCZ_, sCS_, i64_w, i32_w]
               rfl
             refine pure_ (i := 2) (N := some 19) (v := ?_) (a' := ?_) #[Y_,Y_,Y_,X_,X_,X_,X_,X_,X_,X_] rfl rfl (any_of HT_.out (by kernel_rfl)) (fun _ _ _ h => h) (Or.inl ⟨by rfl, ?_⟩) ?_ ?_
             rotate_left
             · intro w'
               go_simp
               with_reducible rfl
             rotate_left
             · simp only [Act.put, sTA_, sCZ_, sCS_, i64_w, i32_w]
               rfl
             refine pure_ (i := 4) (N := some 21) (v := ?_) (a' := ?_) #[Y_,Y_,Y_,X_,Y_,X_,X_,X_,X_,X_] rfl rfl (any_of HT_.out (by kernel_rfl)) (fun _ _ _ h => h) (Or.inl ⟨by rfl, ?_⟩) ?_ ?_
             rotate_left
             · intro w'
               go_simp
               with_reducible rfl
             rotate_left
             · simp only [Act.put, sTA_, sCZ_, sCS_, i64_w, i32_w]
               rfl
             refine pure_ (i := 5) (N := some 22) (v := ?_) (a' := ?_) #[Y_,Y_,Y_,X_,Y_,Y_,X_,X_,X_,X_] rfl rfl (any_of HT_.out (by kernel_rfl)) (fun _ _ _ h => h) (Or.inl ⟨by rfl, ?_⟩) ?_ ?_
             rotate_left
             · intro w'
               go_simp
               with_reducible rfl
             rotate_left
             · simp only [Act.put, sTA_, sCZ_, sCS_, i64_w, i32_w]
               rfl
             refine pure_ (i := 6) (N := some 23) (v := ?_) (a' := ?_) #[Y_,Y_,Y_,X_,Y_,Y_,Y_,X_,X_,X_] rfl rfl (any_of HT_.out (by kernel_rfl)) (fun _ _ _ h => h) (Or.inl ⟨by rfl, ?_⟩) ?_ ?_
             rotate_left
             · intro w'
               go_simp
               with_reducible rfl
             rotate_left
             · simp only [Act.put, sTA_, sCZ_, sCS_, i64_w, i32_w]
               rfl
             refine take_ (i := 3) (N := some 20) (v := ?_) (a' := ?_) #[Y_,Y_,Y_,Y_,Y_,Y_,Y_,X_,X_,X_] rfl rfl (take_ofW HT_.out HW_.out (by kernel_rfl)) (fun _ _ _ h => h) (Or.inl ⟨by rfl, ?_⟩) hHeld ?_ ?_
             rotate_left
             · rintro w' ⟨s0, s1⟩
               go_simp
               with_reducible rfl
             rotate_left
             · simp only [Act.put, sTA_, sCZ_, sCS_, i64_w, i32_w]
               rfl
             refine take_ (i := 7) (N := some 24) (v := ?_) (a' := ?_) #[Y_,Y_,Y_,Y_,Y_,Y_,Y_,Y_,X_,X_] rfl rfl (take_ofW HT_.out HW_.out (by kernel_rfl)) (fun _ _ _ h => h) (Or.inl ⟨by rfl, ?_⟩) hHeld ?_ ?_
             rotate_left
             · rintro w' ⟨s0, s1⟩
               go_simp
               with_reducible rfl
             rotate_left
             · simp only [Act.put, sTA_, sCZ_, sCS_, i64_w, i32_w]
               rfl
             refine one_ (i := 8) (N := some 25) #[Y_,Y_,Y_,Y_,Y_,Y_,Y_,Y_,Y_,X_] rfl rfl (one_of HT_.out (by kernel_rfl)) (by decide) (fun K hK => ?_)
             refine goes_ Tryd.func35 (by kernel_rfl) rfl #[.slice A130_0 (rd_L4 l0 x5_1).length c130_0, .slice A131_0 (rd_L4 l1 x5_1).length c131_0] (by rfl) rfl rfl (by (try simp only [List.map_toArray, List.map_cons, List.map_nil]); first | done | rfl | (simp only [List.length_drop, List.length_take]; rfl)) ?_
             with_reducible refine (r1_SameRows.calls k1 _ _ (rd_L4 l0 x5_1) _ _ (rd_L4 l1 x5_1) true _ ?side1 ?side2 ?side3 ?side4 A7.out).mono ?_
             (case side1 => repeat (first | exact (Kd.C_below HR130_0.out HB.out) | (with_reducible refine Kd.cA_ ?_ _) | (with_reducible refine Kd.cN_ ?_ _) | (with_reducible refine Kd.cD_ ?_)))
             (case side2 => exact HC130_0.out)
             (case side3 => repeat (first | exact (Kd.C_below HR131_0.out HB.out) | (with_reducible refine Kd.cA_ ?_ _) | (with_reducible refine Kd.cN_ ?_ _) | (with_reducible refine Kd.cD_ ?_)))
             (case side4 => exact HC131_0.out)
             rintro e w10 ⟨rfl, hb⟩
             refine ⟨_, rfl, ?_⟩
             have n0_ := Aside0.mk (below_step (by repeat (first | (with_reducible first | exact HB.out | apply bA_ | apply bN_ | apply b1_) | exact HB.out)) hb)
             clear HB
             have HB := n0_
             clear n0_
             (try clear hb)
             (try clear hb2)
             (try clear hk)
             (try clear hi)
             refine hK.out _ _ ⟨((HB.out.cell (bLC_ w _ hw130_0)).trans hw130_0), ((HB.out.cell (bLC_ w _ hw131_0)).trans hw131_0)⟩ (fun hHeld => ?_)
             clear hK K
             refine norm_ (a' := ?_) ?_ ?_
             rotate_left
             · show Act.put _ (some 25) _ = _
               simp only [Act.put, sTA_, sCZ_, sCS_, i64_w, i32_w]
               rfl
             refine pure_ (i := 9) (N := some 26) (v := ?_) (a' := ?_) #[Y_,Y_,Y_,Y_,Y_,Y_,Y_,Y_,Y_,Y_] rfl rfl (any_of HT_.out (by kernel_rfl)) (fun _ _ _ h => h) (Or.inl ⟨by rfl, ?_⟩) ?_ ?_
             rotate_left
             · intro w'
               go_simp
               with_reducible rfl
             rotate_left
             · simp only [Act.put, sTA_, sCZ_, sCS_, i64_w, i32_w]
               rfl
             refine done_ (done_of HT_.out (by kernel_rfl)) ?_
             try go_wp2
             go_roundg k1
             case measure => have := HK1.out; omega
             case rel => exact ⟨(wrap64 (x5_1 + 1)), (by first | rfl | (simp; done) | (simp [*]; done)), H', ⟨by have := HK1.out; omega⟩, ⟨by repeat (first | (with_reducible first | exact HB.out | apply bA_ | apply bN_ | apply b1_) | exact HB.out)⟩⟩
           · replace c8 := Bool.eq_false_iff.mpr c8
             subst c8
             have H1 : (some false) = some r := by rw [if_neg (show ¬ (false = true) by decide)] at H; exact H
             clear H
             have H := H1
             clear H1
             obtain rfl := Option.some.inj H
             try go_wp2
             have n0_ := Aside0.mk (b1_ HB.out)
             clear HB
             have HB := n0_
             clear n0_
             have p130 : 0 ≤ (x5_1 : Int) := oT_ (by assumption)
             have q130 : x5_1 < (l0.length : Int) := oT_ (by assumption)
             obtain ⟨ad130, A130_0, c130_0, e130, hx130_0, hl130_0, hi130_0⟩ := at_L4 HR0.out x5_1 p130 q130
             have hw130_0 := hx130_0
             cases e130
             replace hx130_0 := (HB.out.cell (bLC_ w _ hx130_0)).trans hx130_0
             have HR130_0 := Aside0.mk hi130_0
             have HC130_0 := Aside0.mk hl130_0
             clear hi130_0 hl130_0
             replace p130 := eq_true p130
             replace q130 := eq_true q130
             have p131 : 0 ≤ (x5_1 : Int) := oT_ (by assumption)
             have q131 : x5_1 < (l1.length : Int) := oT_ (by assumption)
             obtain ⟨ad131, A131_0, c131_0, e131, hx131_0, hl131_0, hi131_0⟩ := at_L4 HR1.out x5_1 p131 q131
             have hw131_0 := hx131_0
             cases e131
             replace hx131_0 := (HB.out.cell (bLC_ w _ hx131_0)).trans hx131_0
             have HR131_0 := Aside0.mk hi131_0
             have HC131_0 := Aside0.mk hl131_0
             clear hi131_0 hl131_0
             replace p131 := eq_true p131
             replace q131 := eq_true q131
             refine start_ (n := 10) (S := fun w' => w'.cell? (ad130.add (x5_1).toNat) = some (.slice A130_0 (rd_L4 l0 x5_1).length c130_0) ∧ w'.cell? (ad131.add (x5_1).toNat) = some (.slice A131_0 (rd_L4 l1 x5_1).length c131_0)) (ds := []) #[X_,X_,X_,X_,X_,X_,X_,X_,X_,X_] (by kernel_rfl) rfl rfl ⟨((HB.out.cell (bLC_ w _ hw130_0)).trans hw130_0), ((HB.out.cell (bLC_ w _ hw131_0)).trans hw131_0)⟩ (fun hHeld => ?_); refine with_tabW r6_SameLists.tab6 r6_SameLists.bits6 (fun HT_ HW_ => ?_)
             generalize wr.drew = w11 at HB HR130_0 HR131_0 hx130_0 hx131_0 hHeld ⊢
             refine pure_ (i := 0) (N := some 17) (v := ?_) (a' := ?_) #[Y_,X_,X_,X_,X_,X_,X_,X_,X_,X_] rfl rfl (any_of HT_.out (by kernel_rfl)) (fun _ _ _ h => h) (Or.inl ⟨by rfl, ?_⟩) ?_ ?_
             rotate_left
             · intro w'
               go_simp
               with_reducible rfl
             rotate_left
             · simp only [Act.put, sTA_, sCZ_, sCS_, i64_w, i32_w]
               rfl
             refine pure_ (i := 1) (N := some 18) (v := ?_) (a' := ?_) #[Y_,Y_,X_,X_,X_,X_,X_,X_,X_,X_] rfl rfl (any_of HT_.out (by kernel_rfl)) (fun _ _ _ h => h) (Or.inl ⟨by rfl, ?_⟩) ?_ ?_
             rotate_left
             · intro w'
               go_simp
               with_reducible rfl
             rotate_left
             · simp only [Act.put, sTA_, sCZ_, sCS_, i64_w, i32_w]
               rfl
             refine pure_ (i := 2) (N := some 19) (v := ?_) (a' := ?_) #[Y_,Y_,Y_,X_,X_,X_,X_,X_,X_,X_] rfl rfl (any_of HT_.out (by kernel_rfl)) (fun _ _ _ h => h) (Or.inl ⟨by rfl, ?_⟩) ?_ ?_
             rotate_left
             · intro w'
               go_simp
               with_reducible rfl
             rotate_left
             · simp only [Act.put, sTA_, sCZ_, sCS_, i64_w, i32_w]
               rfl
             refine pure_ (i := 4) (N := some 21) (v := ?_) (a' := ?_) #[Y_,Y_,Y_,X_,Y_,X_,X_,X_,X_,X_] rfl rfl (any_of HT_.out (by kernel_rfl)) (fun _ _ _ h => h) (Or.inl ⟨by rfl, ?_⟩) ?_ ?_
             rotate_left
             · intro w'
               go_simp
               with_reducible rfl
             rotate_left
             · simp only [Act.put, sTA_, sCZ_, sCS_, i64_w, i32_w]
               rfl
             refine pure_ (i := 5) (N := some 22) (v := ?_) (a' := ?_) #[Y_,Y_,Y_,X_,Y_,Y_,X_,X_,X_,X_] rfl rfl (any_of HT_.out (by kernel_rfl)) (fun _ _ _ h => h) (Or.inl ⟨by rfl, ?_⟩) ?_ ?_
             rotate_left
             · intro w'
               go_simp
               with_reducible rfl
             rotate_left
             · simp only [Act.put, sTA_, sCZ_, sCS_, i64_w, i32_w]
               rfl
             refine pure_ (i := 6) (N := some 23) (v := ?_) (a' := ?_) #[Y_,Y_,Y_,X_,Y_,Y_,Y_,X_,X_,X_] rfl rfl (any_of HT_.out (by kernel_rfl)) (fun _ _ _ h => h) (Or.inl ⟨by rfl, ?_⟩) ?_ ?_
             rotate_left
             · intro w'
               go_simp
               with_reducible rfl
             rotate_left
             · simp only [Act.put, sTA_, sCZ_, sCS_, i64_w, i32_w]
               rfl
             refine take_ (i := 3) (N := some 20) (v := ?_) (a' := ?_) #[Y_,Y_,Y_,Y_,Y_,Y_,Y_,X_,X_,X_] rfl rfl (take_ofW HT_.out HW_.out (by kernel_rfl)) (fun _ _ _ h => h) (Or.inl ⟨by rfl, ?_⟩) hHeld ?_ ?_
             rotate_left
             · rintro w' ⟨s0, s1⟩
               go_simp
               with_reducible rfl
             rotate_left
             · simp only [Act.put, sTA_, sCZ_, sCS_, i64_w, i32_w]
               rfl
             refine take_ (i := 7) (N := some 24) (v := ?_) (a' := ?_) #[Y_,Y_,Y_,Y_,Y_,Y_,Y_,Y_,X_,X_] rfl rfl (take_ofW HT_.out HW_.out (by kernel_rfl)) (fun _ _ _ h => h) (Or.inl ⟨by rfl, ?_⟩) hHeld ?_ ?_
             rotate_left
             · rintro w' ⟨s0, s1⟩
               go_simp
               with_reducible rfl
             rotate_left
             · simp only [Act.put, sTA_, sCZ_, sCS_, i64_w, i32_w]
               rfl
             refine one_ (i := 8) (N := some 25) #[Y_,Y_,Y_,Y_,Y_,Y_,Y_,Y_,Y_,X_] rfl rfl (one_of HT_.out (by kernel_rfl)) (by decide) (fun K hK => ?_)
             refine goes_ Tryd.func35 (by kernel_rfl) rfl #[.slice A130_0 (rd_L4 l0 x5_1).length c130_0, .slice A131_0 (rd_L4 l1 x5_1).length c131_0] (by rfl) rfl rfl (by (try simp only [List.map_toArray, List.map_cons, List.map_nil]); first | done | rfl | (simp only [List.length_drop, List.length_take]; rfl)) ?_
             with_reducible refine (r1_SameRows.calls k1 _ _ (rd_L4 l0 x5_1) _ _ (rd_L4 l1 x5_1) false _ ?side1 ?side2 ?side3 ?side4 A7.out).mono ?_
             (case side1 => repeat (first | exact (Kd.C_below HR130_0.out HB.out) | (with_reducible refine Kd.cA_ ?_ _) | (with_reducible refine Kd.cN_ ?_ _) | (with_reducible refine Kd.cD_ ?_)))
             (case side2 => exact HC130_0.out)
             (case side3 => repeat (first | exact (Kd.C_below HR131_0.out HB.out) | (with_reducible refine Kd.cA_ ?_ _) | (with_reducible refine Kd.cN_ ?_ _) | (with_reducible refine Kd.cD_ ?_)))
             (case side4 => exact HC131_0.out)
             rintro e w12 ⟨rfl, hb⟩
             refine ⟨_, rfl, ?_⟩
             have n0_ := Aside0.mk (below_step (by repeat (first | (with_reducible first | exact HB.out | apply bA_ | apply bN_ | apply b1_) | exact HB.out)) hb)
             clear HB
             have HB := n0_
             clear n0_
             (try clear hb)
             (try clear hb2)
             (try clear hk)
             (try clear hi)
             refine hK.out _ _ ⟨((HB.out.cell (bLC_ w _ hw130_0)).trans hw130_0), ((HB.out.cell (bLC_ w _ hw131_0)).trans hw131_0)⟩ (fun hHeld => ?_)
             clear hK K
             refine norm_ (a' := ?_) ?_ ?_
             rotate_left
             · show Act.put _ (some 25) _ = _
               simp only [Act.put, sTA_, sCZ_, sCS_, i64_w, i32_w]
               rfl
             refine pure_ (i := 9) (N := some 26) (v := ?_) (a' := ?_) #[Y_,Y_,Y_,Y_,Y_,Y_,Y_,Y_,Y_,Y_] rfl rfl (any_of HT_.out (by kernel_rfl)) (fun _ _ _ h => h) (Or.inl ⟨by rfl, ?_⟩) ?_ ?_
             rotate_left
             · intro w'
               go_simp
               with_reducible rfl
             rotate_left
             · simp only [Act.put, sTA_, sCZ_, sCS_, i64_w, i32_w]
               rfl
             refine done_ (done_of HT_.out (by kernel_rfl)) ?_
             try go_wp2
             go_ret
             exact ⟨by first | rfl | (simp [*, errW_none, errW_some] <;> rfl), by repeat (first | (with_reducible first | exact HB.out | apply bA_ | apply bN_ | apply b1_) | exact HB.out)⟩
         · rw [if_neg c6] at H
           exact absurd H (by simp)
       · rw [if_neg c5] at H
         exact absurd H (by simp)
     · rw [if_neg c4] at H
       have c4b0 : decide (x5_1 < (l0.length : Int)) = false := dF_ c4
       clear c4
       obtain rfl := Option.some.inj H
       go_wp2
       go_ret
       exact ⟨by first | rfl | (simp [*, errW_none, errW_some] <;> rfl), by repeat (first | (with_reducible first | exact HB.out | apply bA_ | apply bN_ | apply b1_) | exact HB.out)⟩
 · rw [if_neg c3] at H
   have c3b0 : ((l0.length : Int) == (l1.length : Int)) = false := beq_eq_false_iff_ne.mpr c3
   have c3b1 : ((l0.length : Int) != (l1.length : Int)) = true := bne_iff_ne.mpr c3
   have c3b2 : (l0.length == l1.length) = false := by first | simpa using c3 | (simp at c3 ⊢; omega)
   obtain rfl := Option.some.inj H
   go_enter Tryd.func19, Tryd.ntmps19
   go_wp2
   go_ret
   exact ⟨by first | rfl | (simp [*, errW_none, errW_some] <;> rfl), by repeat (first | (with_reducible first | exact HB.out | apply bA_ | apply bN_ | apply b1_) | exact HB.out)⟩
end Go.Proofs.YtecgkcgfeghhgaaDoor.PAll
set_option linter.unusedVariables false
set_option linter.unusedSimpArgs false
namespace Go.Proofs.YtecgkcgfeghhgaaDoor.PAll
open Go.RowKit Go.Proofs.YtecgkcgfeghhgaaDoorW.PrintWords Go.Proofs.YtecgkcgfeghhgaaDoorW.PrintLast Go.Proofs.YtecgkcgfeghhgaaDoorW.PrintMore
abbrev iV (n : Int) : V := ⟨1, n, ⟨#[]⟩⟩
abbrev oneA_ : List (List V) := [[iV 2], [iV 1], [iV 1]]
abbrev twoA_ : List (List V) := [[iV 1], [iV 3]]
theorem C_row1 {W : World} {b : Nat} {t : TypeId} (v : V) (h : W.heap[b]? = some (.cells #[.int .u8 v.f0, .int .i64 v.f1, .string v.f2] t (0, 0))) : Kd.C kV W (some ⟨b, 0, none⟩) [v].length [v] := by
 refine ⟨rfl, by simp, fun _ => ⟨⟨b, 0, none⟩, rfl, fun j p hj => ?_⟩⟩
 cases j with
 | succ j => simp at hj
 | zero =>
  obtain rfl : v = p := by simpa using hj
  refine ⟨[.int .u8 v.f0, .int .i64 v.f1, .string v.f2], rfl, kV.K_of_M (base := 0) (ok := fun _ => True) (k27_mkM _ _ _ v), fun i u hi => ?_⟩
  have h := blk_cell h i
  rw [add_plain, Nat.zero_mul, Nat.zero_add]
  refine h.trans ?_
  simpa using hi
theorem C_rows {W : World} {g : Nat} {cs : Array Value} {t : TypeId} {l : List (List V)} (h : W.heap[g]? = some (.cells cs t (0, 0))) (hn : l.length ≤ 9223372036854775807) (hr : ∀ (j : Nat) (row : List V), l[j]? = some row → ∃ A c, cs[j]? = some (Value.slice A row.length c) ∧ row.length ≤ c ∧ Kd.C kV W A row.length row) : Kd.C kRow W (some ⟨g, 0, none⟩) l.length l := by
 refine ⟨rfl, hn, fun _ => ⟨⟨g, 0, none⟩, rfl, fun j p hj => ?_⟩⟩
 obtain ⟨A, c, h1, h2, h3⟩ := hr j p hj
 refine ⟨[.slice A p.length c], rfl, ⟨A, c, rfl, h2, h3⟩, fun i u hi => ?_⟩
 cases i with
 | succ i => simp at hi
 | zero =>
  obtain rfl : Value.slice A p.length c = u := by simpa using hi
  rw [add_plain]
  show W.cell? ⟨g, j * 1 + 0, none⟩ = _
  rw [Nat.mul_one, Nat.add_zero]
  exact (blk_cell h j).trans h1
theorem valid_iV (n : Int) : validV (iV n) = true := by
 unfold validV noText
 simp [ByteArray.toList_eq]
theorem ok_iV (n : Int) (h : -9223372036854775808 ≤ n ∧ n ≤ 9223372036854775807) : VOk (iV n) := ⟨by simp, by simp, h.1, h.2⟩
theorem rowOk_iV (l : List V) (h : ∀ v ∈ l, ∃ n : Int, -9223372036854775808 ≤ n ∧ n ≤ 9223372036854775807 ∧ v = iV n) (hn : l.length ≤ 2) : RowOk l := by
 have len1 : ∀ n : Int, -9223372036854775808 ≤ n → n ≤ 9223372036854775807 → (nameV (iV n)).length ≤ 100 := fun n h0 h1 => by
  have i1 := Lib.itoa_length_le 1 (by omega) (by omega)
  have i2 := Lib.itoa_length_le n (by omega) (by omega)
  have i3 := Lib.itoa_length_le 0 (by omega) (by omega)
  show (Lib.itoa 1 ++ ([32] ++ (Lib.itoa n ++ ([32] ++ (Lib.itoa 0 ++ ([58] ++ ([] : List UInt8))))))).length ≤ 100
  simp only [List.length_append, List.length_cons, List.length_nil]
  omega
 refine ⟨fun v hv => ?_, ?_, by omega⟩
 · obtain ⟨n, h0, h1, rfl⟩ := h v hv
   exact ok_iV n ⟨h0, h1⟩
 · match l, h, hn with
   | [], _, _ => simp [nameB]
   | [a], h, _ =>
    obtain ⟨n, h0, h1, rfl⟩ := h a (by simp)
    have := len1 n h0 h1
    simp only [nameB, List.append_nil]
    omega
   | [a, b], h, _ =>
    obtain ⟨n, h0, h1, rfl⟩ := h a (by simp)
    obtain ⟨m, h2, h3, rfl⟩ := h b (by simp)
    have e1 := len1 n h0 h1
    have e2 := len1 m h2 h3
    simp only [nameB, List.append_nil, List.length_append]
    omega
theorem one_ok : RowsOk oneA_ := ⟨fun r hr => by
 simp only [oneA_, List.mem_cons, List.not_mem_nil, or_false] at hr
 rcases hr with rfl | rfl | rfl
 · exact rowOk_iV _ (fun v hv => ⟨2, by omega, by omega, by simpa using hv⟩) (by simp)
 · exact rowOk_iV _ (fun v hv => ⟨1, by omega, by omega, by simpa using hv⟩) (by simp)
 · exact rowOk_iV _ (fun v hv => ⟨1, by omega, by omega, by simpa using hv⟩) (by simp), by simp⟩
theorem two_ok : RowsOk twoA_ := ⟨fun r hr => by
 simp only [twoA_, List.mem_cons, List.not_mem_nil, or_false] at hr
 rcases hr with rfl | rfl
 · exact rowOk_iV _ (fun v hv => ⟨1, by omega, by omega, by simpa using hv⟩) (by simp)
 · exact rowOk_iV _ (fun v hv => ⟨3, by omega, by omega, by simpa using hv⟩) (by simp), by simp⟩
theorem valid_ints (l : List (List V)) (h : ∀ r ∈ l, ∃ n, r = [iV n]) : validB l = true := by
 have key : ∀ (l : List (List V)) (k : Int), (k = 0 ∨ k = 1) → (∀ r ∈ l, ∃ n, r = [iV n]) → validFrom [k] l = true := by
  intro l
  induction l with
  | nil => intro k _ _; rfl
  | cons r rs ih =>
   intro k hk h
   obtain ⟨n, rfl⟩ := h r (by simp)
   have e : rowStep [k] [iV n] = some [1] := by
    simp only [rowStep]
    rw [if_pos ⟨valid_iV n, by show k = 0 ∨ k = 1 ∨ (1 : Int) = 0; omega⟩]
    rcases hk with rfl | rfl <;> rfl
   simp only [validFrom, e]
   exact ih 1 (.inr rfl) (fun r hr => h r (List.mem_cons_of_mem _ hr))
 cases l with
 | nil => rfl
 | cons r rs =>
  obtain ⟨n, hn⟩ := h r (by simp)
  unfold validB
  rw [hn]
  rw [hn] at h
  exact key _ 0 (.inl rfl) h
theorem one_valid : validB oneA_ = true := valid_ints _ (fun r hr => by
 simp only [oneA_, List.mem_cons, List.not_mem_nil, or_false] at hr
 rcases hr with rfl | rfl | rfl <;> exact ⟨_, rfl⟩)
theorem both_valid : validB (oneA_ ++ twoA_) = true := valid_ints _ (fun r hr => by
 simp only [oneA_, twoA_, List.cons_append, List.nil_append, List.mem_cons, List.not_mem_nil, or_false] at hr
 rcases hr with rfl | rfl | rfl | rfl | rfl <;> exact ⟨_, rfl⟩)
theorem ne_iV {a b : Int} (h : a ≠ b) : nameOf [iV a] ≠ nameOf [iV b] := fun e => by
 have h1 := name_inj e
 simp only [List.cons.injEq, and_true] at h1
 injection h1 with _ h2
 exact h h2
theorem awake_except : ∃ met left, bag_split.f oneA_ twoA_ = some (met, left, 0) ∧ left.length = 2 := by
 have hok : RowsOk (oneA_ ++ twoA_) := ⟨fun r hr => by
  rcases List.mem_append.1 hr with h | h
  · exact one_ok.1 r h
  · exact two_ok.1 r h, by simp⟩
 refine ⟨_, _, by unfold bag_split.f; rw [if_pos hok, if_pos both_valid], ?_⟩
 rw [(sortR_perm _ _).length_eq]
 have h21 : nameOf [iV 2] ≠ nameOf [iV 1] := ne_iV (by decide)
 have h13 : nameOf [iV 1] ≠ nameOf [iV 3] := ne_iV (by decide)
 have h23 : nameOf [iV 2] ≠ nameOf [iV 3] := ne_iV (by decide)
 have e1 : cnt (twoA_.map nameOf) (nameOf [iV 2]) = 0 := by simp [twoA_, cnt, h21.symm, h23.symm]
 have e2 : cnt (twoA_.map nameOf) (nameOf [iV 1]) = 1 := by simp [twoA_, cnt, h13.symm]
 obtain ⟨c, hc⟩ : ∃ c, c = cnt (twoA_.map nameOf) := ⟨_, rfl⟩
 rw [← hc] at e1 e2 ⊢
 have e3 : decAt c (nameOf [iV 1]) (nameOf [iV 1]) = 0 := by simp [decAt, e2]
 simp only [oneA_, splitR, e1, e2, e3]
 simp [splitR, e3]
theorem cmp_iV (a b : Int) : compareV (iV a) (iV b) = cmpI a b := by
 unfold compareV
 have : cmpI (iV a).f0 (iV b).f0 = 0 := rfl
 rw [if_pos this, if_neg (by show ¬ (1 : Int) = 0; decide), if_neg (by show ¬ (1 : Int) = 2; decide)]
theorem awake_cut : bag_Cut.f oneA_ [⟨0, true⟩] 0 1 = some ([[iV 2]], 0) := by
 have hk : keysB oneA_ [⟨0, true⟩] = true := by decide
 have hf : fitsB oneA_ [⟨0, true⟩] = true := by unfold fitsB; rw [one_valid, hk]; rfl
 unfold bag_Cut.f
 rw [if_pos ⟨one_ok.v, by simp, by decide, by decide⟩, if_pos ⟨hf, by decide, by decide⟩]
 have hs : sortR [⟨0, true⟩] oneA_ = oneA_ := by
  refine (sortR_unique (fun row hrow => validB_valid one_valid row hrow) (List.Perm.refl _) ?_).symm
  have c : ∀ a b : Int, cmpFull [⟨0, true⟩] [iV a] [iV b] = if cmpI a b = 0 then 0 else -cmpI a b := fun a b => by
   unfold cmpFull
   have e1 : cmpBy [⟨0, true⟩] [iV a] [iV b] = if cmpI a b = 0 then 0 else -cmpI a b := by
    simp only [cmpBy]
    show (if compareV (iV a) (iV b) = 0 then 0 else if True then -compareV (iV a) (iV b) else _) = _
    rw [cmp_iV, if_pos trivial]
   rw [e1]
   by_cases h : cmpI a b = 0
   · rw [if_pos h, if_pos rfl]
     simp [cmpRows, cmp_iV, h]
   · rw [if_neg h, if_neg (by omega)]
  refine List.Pairwise.cons (fun r hr => ?_) (List.Pairwise.cons (fun r hr => ?_) (List.Pairwise.cons (fun r hr => by cases hr) List.Pairwise.nil))
  · simp only [List.mem_cons, List.not_mem_nil, or_false] at hr
    rcases hr with rfl | rfl <;> (rw [c]; decide)
  · simp only [List.mem_cons, List.not_mem_nil, or_false] at hr
    subst hr
    rw [c]; decide
 rw [hs]
 rfl
theorem awake_agg : bag_Aggregate.f 2 false [iV 9223372036854775807, iV 1, iV (-1)] = some (1, 9223372036854775807, ⟨#[]⟩, 0) := by
 have hok : AggOk 2 [iV 9223372036854775807, iV 1, iV (-1)] := by
  refine ⟨by omega, fun h => by omega, fun v hv => ?_, by simp⟩
  simp only [List.mem_cons, List.not_mem_nil, or_false] at hv
  refine rowOk_iV [v] (fun u hu => ?_) (by simp)
  obtain rfl : u = v := by simpa using hu
  rcases hv with rfl | rfl | rfl
  · exact ⟨_, by omega, by omega, rfl⟩
  · exact ⟨_, by omega, by omega, rfl⟩
  · exact ⟨_, by omega, by omega, rfl⟩
 unfold bag_Aggregate.f
 rw [if_pos hok]
 have ha : allowedB 2 false [iV 9223372036854775807, iV 1, iV (-1)] = true := by
  unfold allowedB
  rw [if_neg (by simp)]
  simp only [kindFrom, valid_iV]
  rfl
 unfold aggR
 rw [if_pos ha]
 unfold aggV
 rw [if_pos rfl]
 have hp : pickV 2 false [] [iV 9223372036854775807, iV 1, iV (-1)] = [iV 9223372036854775807, iV 1, iV (-1)] := by
  simp [pickV]
 rw [hp]
 rfl
theorem awake_same : bag_Same.f oneA_ twoA_ = some false := by
 have hs : sameB oneA_ twoA_ = false := sameB_false (fun h => by have := h.1; simp at this)
 unfold bag_Same.f
 rw [if_pos ⟨one_ok, two_ok⟩, hs]
theorem awake_groupOk : GroupOk oneA_ [0] [⟨0, 0, false⟩] := by
 have hkeys : ∀ row ∈ oneA_, keyOf [0] row = row := fun row hrow => by
  simp only [oneA_, List.mem_cons, List.not_mem_nil, or_false] at hrow
  rcases hrow with rfl | rfl | rfl <;> rfl
 refine ⟨one_ok, by simp, by simp, by simp, fun a ha => ?_, fun row hrow => by rw [hkeys row hrow]; exact one_ok.1 row hrow, fun a ha row hrow => ?_⟩
 · obtain rfl : a = ⟨0, 0, false⟩ := by simpa using ha
   exact Int.le_refl _
 · obtain rfl : a = ⟨0, 0, false⟩ := by simpa using ha
   have : [rd_T27 row 0] = row := by
    simp only [oneA_, List.mem_cons, List.not_mem_nil, or_false] at hrow
    rcases hrow with rfl | rfl | rfl <;> rfl
   rw [this]
   exact one_ok.1 row hrow
theorem awake_groupable : groupableB oneA_ [0] [⟨0, 0, false⟩] = true := by
 unfold groupableB
 simp only [Bool.and_eq_true, List.all_eq_true]
 exact ⟨⟨one_valid, fun n hn => by
  obtain rfl : n = 0 := by simpa using hn
  decide⟩, fun a ha => by
  obtain rfl : a = ⟨0, 0, false⟩ := by simpa using ha
  rfl⟩
theorem awake_group : groupG oneA_ [0] [⟨0, 0, false⟩] = ([[iV 1, iV 2], [iV 2, iV 1]], 0) := by
 have h21 : nameOf [iV 2] ≠ nameOf [iV 1] := ne_iV (by decide)
 have hm : oneA_.map (keyOf [0]) = oneA_ := rfl
 have hd : distR [] oneA_ = [[iV 2], [iV 1]] := by
  simp only [oneA_, distR]
  simp [h21.symm]
 have hk : keysR [0] oneA_ = [[iV 1], [iV 2]] := by
  unfold keysR
  rw [if_neg (by simp), hm, hd]
  refine (sortR_unique (fun row hrow => ?_) (List.Perm.swap _ _ _) ?_).symm
  · exact validB_valid (valid_ints [[iV 2], [iV 1]] (fun r hr => by
     simp only [List.mem_cons, List.not_mem_nil, or_false] at hr
     rcases hr with rfl | rfl <;> exact ⟨_, rfl⟩)) row hrow
  · refine List.Pairwise.cons (fun r hr => ?_) (List.Pairwise.cons (fun r hr => by cases hr) List.Pairwise.nil)
    obtain rfl : r = [iV 2] := by simpa using hr
    unfold cmpFull
    simp only [cmpBy, cmpRows, cmp_iV]
    decide
 have l1 : (listR [0] oneA_ (nameOf [iV 1])).length = 2 := by
  unfold listR
  have e1 : nameOf (keyOf [0] [iV 2]) ≠ nameOf [iV 1] := h21
  have e2 : nameOf (keyOf [0] [iV 1]) = nameOf [iV 1] := rfl
  simp [oneA_, e1, e2]
 have l2 : (listR [0] oneA_ (nameOf [iV 2])).length = 1 := by
  unfold listR
  have e1 : nameOf (keyOf [0] [iV 2]) = nameOf [iV 2] := rfl
  have e2 : nameOf (keyOf [0] [iV 1]) ≠ nameOf [iV 2] := h21.symm
  simp [oneA_, e1, e2]
 rw [groupG_count one_valid (fun n hn => by
  obtain rfl : n = 0 := by simpa using hn
  decide), hk]
 simp only [List.map_cons, List.map_nil, l1, l2]
 rfl
open Classical in
theorem sameV_eq (a b : V) : r1_Same.f a.f0 a.f1 a.f2 b.f0 b.f1 b.f2 = some (decide (a = b)) := by
 unfold r1_Same.f
 by_cases h0 : a.f0 = b.f0
 · by_cases h1 : a.f1 = b.f1
   · rw [if_pos h0, if_pos h1]
     congr 1
     by_cases h2 : a.f2 = b.f2
     · rw [decide_eq_true (show a = b by cases a; cases b; simp_all), h2]
       simp
     · rw [decide_eq_false (fun e => h2 (by rw [e])), ByteArray.toList_eq, ByteArray.toList_eq, beq_eq_false_iff_ne]
       exact fun e => h2 (ByteArray.ext (Array.toList_inj.1 e))
   · rw [if_pos h0, if_neg h1, decide_eq_false (fun e => h1 (by rw [e]))]
 · rw [if_neg h0, decide_eq_false (fun e => h0 (by rw [e]))]
open Classical in
theorem sameRows_l0 (a b : List V) (hl : a.length = b.length) (hn : a.length ≤ 1099511627776) : ∀ (d i : Nat), i + d = a.length → Ev (fun k => r1_SameRows.l0 k a b (i : Int)) (decide (a.drop i = b.drop i)) := by
 intro d
 induction d with
 | zero =>
  intro i hi
  rw [List.drop_eq_nil_of_le (by omega), List.drop_eq_nil_of_le (by omega), decide_eq_true rfl]
  refine Ev.step (f := fun _ => some true) (fun k => ?_) (Ev.now _)
  simp only [r1_SameRows.l0]
  rw [if_neg (by omega)]
 | succ d ih =>
  intro i hi
  have h1 : i < a.length := by omega
  have h2 : i < b.length := by omega
  rw [drop_cons a i h1, drop_cons b i h2]
  have one : ∀ k, r1_SameRows.l0 (k + 1) a b (i : Int) = if decide (a[i] = b[i]) = true then r1_SameRows.l0 k a b ((i + 1 : Nat) : Int) else some false := fun k => by
   simp only [r1_SameRows.l0]
   rw [if_pos (by omega), if_pos (by omega), if_pos (by omega), rdV_at h1, rdV_at h2, sameV_eq, w64 _ (by omega) (by omega)]
   rfl
  by_cases c : a[i] = b[i]
  · refine Ev.step (f := fun k => r1_SameRows.l0 k a b ((i + 1 : Nat) : Int)) (fun k => by rw [one, if_pos (decide_eq_true c)]) ?_
    have h3 := ih (i + 1) (by omega)
    have e : decide (a[i] :: a.drop (i + 1) = b[i] :: b.drop (i + 1)) = decide (a.drop (i + 1) = b.drop (i + 1)) := by
     rw [decide_eq_decide, List.cons.injEq]
     exact ⟨fun h => h.2, fun h => ⟨c, h⟩⟩
    rw [e]
    exact h3
  · refine Ev.step (f := fun _ => some false) (fun k => by rw [one, if_neg (by simpa using c)]) ?_
    rw [decide_eq_false (fun e => c (List.cons.inj e).1)]
    exact Ev.now _
open Classical in
theorem sameRows_ev (a b : List V) (hn : a.length ≤ 1099511627776) : Ev (fun k => r1_SameRows.f k a b) (decide (a = b)) := by
 by_cases hl : a.length = b.length
 · have := sameRows_l0 a b hl hn a.length 0 (by omega)
   simp only [List.drop_zero] at this
   exact Ev.congr (fun k => by unfold r1_SameRows.f; rw [if_pos (by omega)]; rfl) this
 · rw [decide_eq_false (fun e => hl (by rw [e]))]
   exact Ev.congr (f := fun _ => some false) (fun k => by unfold r1_SameRows.f; rw [if_neg (by omega)]) (Ev.now _)
open Classical in
theorem sameLists_l0 (a b : List (List V)) (hl : a.length = b.length) (hn : a.length ≤ 1099511627776) (hr : ∀ r ∈ a, r.length ≤ 1099511627776) : ∀ (d i : Nat), i + d = a.length → Ev (fun k => r6_SameLists.l0 k a b (i : Int)) (decide (a.drop i = b.drop i)) := by
 intro d
 induction d with
 | zero =>
  intro i hi
  rw [List.drop_eq_nil_of_le (by omega), List.drop_eq_nil_of_le (by omega), decide_eq_true rfl]
  refine Ev.step (f := fun _ => some true) (fun k => ?_) (Ev.now _)
  simp only [r6_SameLists.l0]
  rw [if_neg (by omega)]
 | succ d ih =>
  intro i hi
  have h1 : i < a.length := by omega
  have h2 : i < b.length := by omega
  rw [drop_cons a i h1, drop_cons b i h2]
  have one : ∀ k, r6_SameLists.l0 (k + 1) a b (i : Int) = (r1_SameRows.f k a[i] b[i]).bind fun t => if t = true then r6_SameLists.l0 k a b ((i + 1 : Nat) : Int) else some false := fun k => by
   simp only [r6_SameLists.l0]
   rw [if_pos (by omega), if_pos (by omega), if_pos (by omega), rdL_at h1, rdL_at h2, w64 _ (by omega) (by omega)]
   rfl
  have hs := sameRows_ev a[i] b[i] (hr _ (List.getElem_mem h1))
  refine Ev.step one (Ev.bind hs ?_)
  by_cases c : a[i] = b[i]
  · refine Ev.congr (f := fun k => r6_SameLists.l0 k a b ((i + 1 : Nat) : Int)) (fun k => by rw [if_pos (decide_eq_true c)]) ?_
    have h3 := ih (i + 1) (by omega)
    have e : decide (a[i] :: a.drop (i + 1) = b[i] :: b.drop (i + 1)) = decide (a.drop (i + 1) = b.drop (i + 1)) := by
     rw [decide_eq_decide, List.cons.injEq]
     exact ⟨fun h => h.2, fun h => ⟨c, h⟩⟩
    rw [e]
    exact h3
  · refine Ev.congr (f := fun _ => some false) (fun k => by rw [if_neg (by simpa using c)]) ?_
    rw [decide_eq_false (fun e => c (List.cons.inj e).1)]
    exact Ev.now _
open Classical in
theorem sameLists_ev (a b : List (List V)) (hn : a.length ≤ 1099511627776) (hr : ∀ r ∈ a, r.length ≤ 1099511627776) : Ev (fun k => r6_SameLists.f k a b) (decide (a = b)) := by
 by_cases hl : a.length = b.length
 · have := sameLists_l0 a b hl hn hr a.length 0 (by omega)
   simp only [List.drop_zero] at this
   exact Ev.congr (fun k => by unfold r6_SameLists.f; rw [if_pos (by omega)]; rfl) this
 · rw [decide_eq_false (fun e => hl (by rw [e]))]
   exact Ev.congr (f := fun _ => some false) (fun k => by unfold r6_SameLists.f; rw [if_neg (by omega)]) (Ev.now _)
theorem sameLists_refl (a : List (List V)) (hn : a.length ≤ 1099511627776) (hr : ∀ r ∈ a, r.length ≤ 1099511627776) : Ev (fun k => r6_SameLists.f k a a) true := by
 classical
 have h := sameLists_ev a a hn hr
 rwa [decide_eq_true rfl] at h
theorem new_at (w : World) (cs : Array Value) (t : TypeId) : (w.alloc (.cells cs t)).heap[w.heap.size]? = some (.cells cs t (0, 0)) := heap_alloc_new _ _
theorem kept_at {w W : World} {b : Nat} {o : Obj} (h : w.heap[b]? = some o) (hb : Below w.heap.size w W) : W.heap[b]? = some o := (hb.block b (blk_lt h)).trans h
theorem new_at1 (w : World) (o : Obj) (cs : Array Value) (t : TypeId) : ((w.alloc o).alloc (.cells cs t)).heap[w.heap.size + 1]? = some (.cells cs t (0, 0)) := by
 have h := heap_alloc_new (w.alloc o) (.cells cs t)
 rw [show (w.alloc o).heap.size = w.heap.size + 1 by simp] at h
 exact h
theorem below2 (w : World) (o p : Obj) : Below w.heap.size w ((w.alloc o).alloc p) := ((Below.refl w.heap.size w).alloc (Nat.le_refl _) o).alloc (by simp) p
theorem kept_alloc {w : World} {b : Nat} {o : Obj} (h : w.heap[b]? = some o) (x : Obj) : (w.alloc x).heap[b]? = some o := (Below.heap_alloc w x b (blk_lt h)).trans h
theorem C_one {α : Type} {d : Kd α} {W : World} {b : Nat} {t : TypeId} {cs : Array Value} (x : α) (h : W.heap[b]? = some (.cells cs t (0, 0))) (hl : cs.toList.length = d.sz) (hk : d.K W x cs.toList) : Kd.C d W (some ⟨b, 0, none⟩) [x].length [x] := by
 refine ⟨rfl, by simp, fun _ => ⟨⟨b, 0, none⟩, rfl, fun j p hj => ?_⟩⟩
 cases j with
 | succ j => simp at hj
 | zero =>
  obtain rfl : x = p := by simpa using hj
  refine ⟨cs.toList, hl, hk, fun i u hi => ?_⟩
  have h := blk_cell h i
  rw [add_plain, Nat.zero_mul, Nat.zero_add]
  refine h.trans ?_
  simpa using hi
theorem C_three {W : World} {b : Nat} {t : TypeId} (x y z : Int) (h : W.heap[b]? = some (.cells #[.int .u8 1, .int .i64 x, .string ⟨#[]⟩, .int .u8 1, .int .i64 y, .string ⟨#[]⟩, .int .u8 1, .int .i64 z, .string ⟨#[]⟩] t (0, 0))) : Kd.C kV W (some ⟨b, 0, none⟩) [iV x, iV y, iV z].length [iV x, iV y, iV z] := by
 refine ⟨rfl, by simp, fun _ => ⟨⟨b, 0, none⟩, rfl, fun j p hj => ?_⟩⟩
 match j, hj with
 | 0, hj =>
  obtain rfl : iV x = p := by simpa using hj
  refine ⟨[.int .u8 1, .int .i64 x, .string ⟨#[]⟩], rfl, kV.K_of_M (base := 0) (ok := fun _ => True) (k27_mkM _ _ _ (iV x)), fun i u hi => ?_⟩
  have h := blk_cell h (0 * 3 + i)
  rw [add_plain]
  refine h.trans ?_
  match i, hi with
  | 0, hi => simpa using hi
  | 1, hi => simpa using hi
  | 2, hi => simpa using hi
  | i + 3, hi => simp at hi
 | 1, hj =>
  obtain rfl : iV y = p := by simpa using hj
  refine ⟨[.int .u8 1, .int .i64 y, .string ⟨#[]⟩], rfl, kV.K_of_M (base := 0) (ok := fun _ => True) (k27_mkM _ _ _ (iV y)), fun i u hi => ?_⟩
  have h := blk_cell h (1 * 3 + i)
  rw [add_plain]
  refine h.trans ?_
  match i, hi with
  | 0, hi => simpa using hi
  | 1, hi => simpa using hi
  | 2, hi => simpa using hi
  | i + 3, hi => simp at hi
 | 2, hj =>
  obtain rfl : iV z = p := by simpa using hj
  refine ⟨[.int .u8 1, .int .i64 z, .string ⟨#[]⟩], rfl, kV.K_of_M (base := 0) (ok := fun _ => True) (k27_mkM _ _ _ (iV z)), fun i u hi => ?_⟩
  have h := blk_cell h (2 * 3 + i)
  rw [add_plain]
  refine h.trans ?_
  match i, hi with
  | 0, hi => simpa using hi
  | 1, hi => simpa using hi
  | 2, hi => simpa using hi
  | i + 3, hi => simp at hi
 | j + 3, hj => simp at hj
theorem C_two {W : World} {b : Nat} {t : TypeId} (x y : Int) (h : W.heap[b]? = some (.cells #[.int .u8 1, .int .i64 x, .string ⟨#[]⟩, .int .u8 1, .int .i64 y, .string ⟨#[]⟩] t (0, 0))) : Kd.C kV W (some ⟨b, 0, none⟩) [iV x, iV y].length [iV x, iV y] := by
 refine ⟨rfl, by simp, fun _ => ⟨⟨b, 0, none⟩, rfl, fun j p hj => ?_⟩⟩
 match j, hj with
 | 0, hj =>
  obtain rfl : iV x = p := by simpa using hj
  refine ⟨[.int .u8 1, .int .i64 x, .string ⟨#[]⟩], rfl, kV.K_of_M (base := 0) (ok := fun _ => True) (k27_mkM _ _ _ (iV x)), fun i u hi => ?_⟩
  have h := blk_cell h (0 * 3 + i)
  rw [add_plain]
  refine h.trans ?_
  match i, hi with
  | 0, hi => simpa using hi
  | 1, hi => simpa using hi
  | 2, hi => simpa using hi
  | i + 3, hi => simp at hi
 | 1, hj =>
  obtain rfl : iV y = p := by simpa using hj
  refine ⟨[.int .u8 1, .int .i64 y, .string ⟨#[]⟩], rfl, kV.K_of_M (base := 0) (ok := fun _ => True) (k27_mkM _ _ _ (iV y)), fun i u hi => ?_⟩
  have h := blk_cell h (1 * 3 + i)
  rw [add_plain]
  refine h.trans ?_
  match i, hi with
  | 0, hi => simpa using hi
  | 1, hi => simpa using hi
  | 2, hi => simpa using hi
  | i + 3, hi => simp at hi
 | j + 2, hj => simp at hj
theorem awake_calls (w : World) (hT : LaidT w) : Calls Tryd.prog 11 #[] w fun e w' => e = .returned (.bool true) ∧ Below w.heap.size w w' := by
 have HT := Aside0.mk hT
 clear hT
 go_enter Tryd.func11, Tryd.ntmps11
 go_wp2_with fail
 refine (r1_Int.calls 2 1 2 ⟨#[]⟩ w rfl).mono ?_
 rintro e w1 ⟨rfl, hb1⟩
 have HB1 := Aside0.mk hb1; clear hb1
 go_wp2_with fail
 refine (r1_Int.calls 1 1 1 ⟨#[]⟩ _ rfl).mono ?_
 rintro e w2 ⟨rfl, hb2⟩
 have A1 := Aside0.mk (kept_at (new_at w1 _ _) hb2)
 have HB2 := Aside0.mk (HB1.out.trans (((Below.refl w1.heap.size w1).alloc (Nat.le_refl _) _ |>.trans (hb2.mono (by simp))).mono HB1.out.size)); clear hb2
 go_wp2_with fail
 refine (r1_Int.calls 1 1 1 ⟨#[]⟩ _ rfl).mono ?_
 rintro e w3 ⟨rfl, hb3⟩
 have A2 := Aside0.mk (kept_at (new_at w2 _ _) hb3)
 have A1' := Aside0.mk (kept_at (kept_alloc A1.out _) hb3)
 have HB3 := Aside0.mk (HB2.out.trans (((Below.refl w2.heap.size w2).alloc (Nat.le_refl _) _ |>.trans (hb3.mono (by simp))).mono HB2.out.size)); clear hb3 A1
 go_wp2_with fail
 refine (r1_Int.calls 1 1 1 ⟨#[]⟩ _ rfl).mono ?_
 rintro e w4 ⟨rfl, hb4⟩
 have HG := Aside0.mk (kept_at (new_at1 w3 (.cells #[.int .u8 1, .int .i64 1, .string ⟨#[]⟩] 27) _ _) hb4)
 have HA3 := Aside0.mk (kept_at (kept_alloc (new_at w3 _ _) (.cells #[.slice (some ⟨w1.heap.size, 0, none⟩) 1 1, .slice (some ⟨w2.heap.size, 0, none⟩) 1 1, .slice (some ⟨w3.heap.size, 0, none⟩) 1 1] 58)) hb4)
 have HA2 := Aside0.mk (kept_at (kept_alloc (kept_alloc A2.out (.cells #[.int .u8 1, .int .i64 1, .string ⟨#[]⟩] 27)) (.cells #[.slice (some ⟨w1.heap.size, 0, none⟩) 1 1, .slice (some ⟨w2.heap.size, 0, none⟩) 1 1, .slice (some ⟨w3.heap.size, 0, none⟩) 1 1] 58)) hb4)
 have HA1 := Aside0.mk (kept_at (kept_alloc (kept_alloc A1'.out (.cells #[.int .u8 1, .int .i64 1, .string ⟨#[]⟩] 27)) (.cells #[.slice (some ⟨w1.heap.size, 0, none⟩) 1 1, .slice (some ⟨w2.heap.size, 0, none⟩) 1 1, .slice (some ⟨w3.heap.size, 0, none⟩) 1 1] 58)) hb4)
 have HB4 := Aside0.mk (HB3.out.trans ((below2 w3 (.cells #[.int .u8 1, .int .i64 1, .string ⟨#[]⟩] 27) (.cells #[.slice (some ⟨w1.heap.size, 0, none⟩) 1 1, .slice (some ⟨w2.heap.size, 0, none⟩) 1 1, .slice (some ⟨w3.heap.size, 0, none⟩) 1 1] 58)).mono HB3.out.size |>.trans (hb4.mono (by have := HB3.out.size; simp; omega))))
 clear hb4 A1' A2
 have HONE : Aside0 (kRow.C w4 (some ⟨w3.heap.size + 1, 0, none⟩) oneA_.length oneA_) := ⟨C_rows HG.out (by simp) (fun j row hj => by
  match j, hj with
  | 0, hj =>
   obtain rfl : [iV 2] = row := by simpa [oneA_] using hj
   exact ⟨_, 1, rfl, by simp, C_row1 (iV 2) HA1.out⟩
  | 1, hj =>
   obtain rfl : [iV 1] = row := by simpa [oneA_] using hj
   exact ⟨_, 1, rfl, by simp, C_row1 (iV 1) HA2.out⟩
  | 2, hj =>
   obtain rfl : [iV 1] = row := by simpa [oneA_] using hj
   exact ⟨_, 1, rfl, by simp, C_row1 (iV 1) HA3.out⟩
  | j + 3, hj => simp [oneA_] at hj)⟩
 clear HG HA1 HA2 HA3
 obtain ⟨g1, hg1⟩ : ∃ g1, g1 = w3.heap.size + 1 := ⟨_, rfl⟩
 rw [← hg1] at HONE
 rw [← hg1]
 clear hg1
 go_wp2_with fail
 refine (r1_Int.calls 3 1 3 ⟨#[]⟩ _ rfl).mono ?_
 rintro e w5 ⟨rfl, hb5⟩
 have A4 := Aside0.mk (kept_at (new_at w4 _ _) hb5)
 have HB5 := Aside0.mk (HB4.out.trans (((Below.refl w4.heap.size w4).alloc (Nat.le_refl _) (.cells #[.int .u8 1, .int .i64 1, .string ⟨#[]⟩] 27) |>.trans (hb5.mono (by simp))).mono HB4.out.size))
 have HONE5 := Aside0.mk (Kd.C_below HONE.out ((Below.refl w4.heap.size w4).alloc (Nat.le_refl _) (.cells #[.int .u8 1, .int .i64 1, .string ⟨#[]⟩] 27) |>.trans (hb5.mono (by simp))))
 clear hb5 HONE
 go_wp2_with fail
 have HG := Aside0.mk (new_at1 w5 (.cells #[.int .u8 1, .int .i64 3, .string ⟨#[]⟩] 27) #[.slice (some ⟨w4.heap.size, 0, none⟩) 1 1, .slice (some ⟨w5.heap.size, 0, none⟩) 1 1] 58)
 have HA5 := Aside0.mk (kept_alloc (new_at w5 #[.int .u8 1, .int .i64 3, .string ⟨#[]⟩] 27) (.cells #[.slice (some ⟨w4.heap.size, 0, none⟩) 1 1, .slice (some ⟨w5.heap.size, 0, none⟩) 1 1] 58))
 have HA4 := Aside0.mk (kept_alloc (kept_alloc A4.out (.cells #[.int .u8 1, .int .i64 3, .string ⟨#[]⟩] 27)) (.cells #[.slice (some ⟨w4.heap.size, 0, none⟩) 1 1, .slice (some ⟨w5.heap.size, 0, none⟩) 1 1] 58))
 have HB6 := Aside0.mk (HB5.out.trans ((below2 w5 (.cells #[.int .u8 1, .int .i64 3, .string ⟨#[]⟩] 27) (.cells #[.slice (some ⟨w4.heap.size, 0, none⟩) 1 1, .slice (some ⟨w5.heap.size, 0, none⟩) 1 1] 58)).mono HB5.out.size))
 have HONE6 := Aside0.mk (Kd.C_below HONE5.out (below2 w5 (.cells #[.int .u8 1, .int .i64 3, .string ⟨#[]⟩] 27) (.cells #[.slice (some ⟨w4.heap.size, 0, none⟩) 1 1, .slice (some ⟨w5.heap.size, 0, none⟩) 1 1] 58)))
 have HTWO : Aside0 (kRow.C ((w5.alloc (.cells #[.int .u8 1, .int .i64 3, .string ⟨#[]⟩] 27)).alloc (.cells #[.slice (some ⟨w4.heap.size, 0, none⟩) 1 1, .slice (some ⟨w5.heap.size, 0, none⟩) 1 1] 58)) (some ⟨w5.heap.size + 1, 0, none⟩) twoA_.length twoA_) := ⟨C_rows HG.out (by simp) (fun j row hj => by
  match j, hj with
  | 0, hj =>
   obtain rfl : [iV 1] = row := by simpa [twoA_] using hj
   exact ⟨_, 1, rfl, by simp, C_row1 (iV 1) HA4.out⟩
  | 1, hj =>
   obtain rfl : [iV 3] = row := by simpa [twoA_] using hj
   exact ⟨_, 1, rfl, by simp, C_row1 (iV 3) HA5.out⟩
  | j + 2, hj => simp [twoA_] at hj)⟩
 clear HG HA4 HA5 A4 HONE5
 obtain ⟨g2, hg2⟩ : ∃ g2, g2 = w5.heap.size + 1 := ⟨_, rfl⟩
 rw [← hg2] at HTWO
 rw [← hg2]
 clear hg2
 obtain ⟨W6, hW6⟩ : ∃ W6, W6 = (w5.alloc (.cells #[.int .u8 1, .int .i64 3, .string ⟨#[]⟩] 27)).alloc (.cells #[.slice (some ⟨w4.heap.size, 0, none⟩) 1 1, .slice (some ⟨w5.heap.size, 0, none⟩) 1 1] 58) := ⟨_, rfl⟩
 rw [← hW6] at HTWO HONE6 HB6
 rw [← hW6]
 clear hW6
 obtain ⟨met, left, hsp, hll⟩ := awake_except
 have HLL := Aside0.mk hll
 refine (split_Except _ _ oneA_ _ _ twoA_ met left 0 W6 HONE6.out (by simp) HTWO.out (by simp) (HT.out.below HB6.out) hsp).mono ?_
 rintro e w7 ⟨v0, rfl, ⟨Av, cv, hv0, hlv, hF⟩, hb7⟩
 rw [HLL.out] at hv0
 subst hv0
 have HB7 := Aside0.mk (HB6.out.trans (hb7.mono HB6.out.size))
 have HONE7 := Aside0.mk (Kd.C_below HONE6.out hb7)
 have HTWO7 := Aside0.mk (Kd.C_below HTWO.out hb7)
 clear hsp hll hlv hF hb7 HONE6 HTWO
 go_wp2_with fail
 have hBK : Below w7.heap.size w7 (w7.alloc (.cells #[.int .i64 0, .bool true] 62)) := (Below.refl _ w7).alloc (Nat.le_refl _) _
 have HB8 := Aside0.mk (HB7.out.trans (hBK.mono HB7.out.size))
 have HKY : Aside0 (kKey.C (w7.alloc (.cells #[.int .i64 0, .bool true] 62)) (some ⟨w7.heap.size, 0, none⟩) [(⟨0, true⟩ : KeyT)].length [⟨0, true⟩]) := ⟨C_one (⟨0, true⟩ : KeyT) (new_at w7 _ _) rfl (kKey.K_of_M (base := 0) (ok := fun _ => True) (k62_mkM _ _ _ ⟨0, true⟩))⟩
 have HONE8 := Aside0.mk (Kd.C_below HONE7.out hBK)
 have HTWO8 := Aside0.mk (Kd.C_below HTWO7.out hBK)
 clear HONE7 HTWO7 hBK
 refine (bag_Cut.calls (some ⟨g1, 0, none⟩) 3 oneA_ (some ⟨w7.heap.size, 0, none⟩) 1 [⟨0, true⟩] 0 1 [[iV 2]] 0 _ HONE8.out (by simp) HKY.out (by simp) awake_cut).mono ?_
 rintro e w9 ⟨v1, rfl, ⟨Ac, cc, hv1, hlc, hFc⟩, hb9⟩
 have hv1 : v1 = .slice Ac 1 cc := hv1
 subst hv1
 have HCUT := Aside0.mk (Kd.F_now hFc)
 have HCL := Aside0.mk hlc
 have HB9 := Aside0.mk (HB8.out.trans (hb9.mono HB8.out.size))
 have HONE9 := Aside0.mk (Kd.C_below HONE8.out hb9)
 have HTWO9 := Aside0.mk (Kd.C_below HTWO8.out hb9)
 clear hlc hFc hb9 HONE8 HTWO8 HKY
 go_wp2_with fail
 have hBG : Below w9.heap.size w9 ((w9.alloc (.cells #[.int .i64 0] 3)).alloc (.cells #[.int .u8 0, .int .i64 0, .bool false] 47)) := below2 w9 _ _
 have HB10 := Aside0.mk (HB9.out.trans (hBG.mono HB9.out.size))
 have HCO : Aside0 ((Kd.int .i64).C ((w9.alloc (.cells #[.int .i64 0] 3)).alloc (.cells #[.int .u8 0, .int .i64 0, .bool false] 47)) (some ⟨w9.heap.size, 0, none⟩) [(0 : Int)].length [0]) := ⟨C_one (d := Kd.int .i64) (0 : Int) (kept_alloc (new_at w9 _ _) _) rfl rfl⟩
 have HAG : Aside0 (kAgg.C ((w9.alloc (.cells #[.int .i64 0] 3)).alloc (.cells #[.int .u8 0, .int .i64 0, .bool false] 47)) (some ⟨w9.heap.size + 1, 0, none⟩) [(⟨0, 0, false⟩ : AggT)].length [⟨0, 0, false⟩]) := ⟨C_one (⟨0, 0, false⟩ : AggT) (new_at1 w9 _ _ _) rfl (kAgg.K_of_M (base := 0) (ok := fun _ => True) (k47_mkM _ _ _ ⟨0, 0, false⟩))⟩
 have HONE10 := Aside0.mk (Kd.C_below HONE9.out hBG)
 have HTWO10 := Aside0.mk (Kd.C_below HTWO9.out hBG)
 have HCUT10 := Aside0.mk (Kd.C_below HCUT.out hBG)
 clear hBG HONE9 HTWO9 HCUT
 have hgr := group_good (some ⟨g1, 0, none⟩) 3 oneA_ (some ⟨w9.heap.size, 0, none⟩) 1 [0] (some ⟨w9.heap.size + 1, 0, none⟩) 1 [⟨0, 0, false⟩] _ HONE10.out (by simp) HCO.out HAG.out (HT.out.below HB10.out) awake_groupOk awake_groupable [[iV 1, iV 2], [iV 2, iV 1]] 0 awake_group
 clear HCO HAG
 refine hgr.mono ?_
 clear hgr
 rintro e w11 ⟨v2, rfl, ⟨Ag, cg, hv2, hlg, hFg⟩, hb11⟩
 have hg := Kd.F_now hFg
 have hv2 : v2 = .slice Ag 2 cg := hv2
 subst hv2
 have HGR := Aside0.mk hg
 have HGL := Aside0.mk hlg
 have HB11 := Aside0.mk (HB10.out.trans (hb11.mono HB10.out.size))
 have HONE11 := Aside0.mk (Kd.C_below HONE10.out hb11)
 have HTWO11 := Aside0.mk (Kd.C_below HTWO10.out hb11)
 have HCUT11 := Aside0.mk (Kd.C_below HCUT10.out hb11)
 clear hlg hFg hg hb11 HONE10 HTWO10 HCUT10
 go_wp2_with fail
 have hBO : Below w11.heap.size w11 (w11.alloc (.cells #[.slice Ag 2 cg, .int .i64 0] 41)) := (Below.refl _ w11).alloc (Nat.le_refl _) _
 have HOC := Aside0.mk (new_at w11 #[.slice Ag 2 cg, .int .i64 0] 41)
 obtain ⟨W12, hW12⟩ : ∃ W12, W12 = w11.alloc (.cells #[.slice Ag 2 cg, .int .i64 0] 41) := ⟨_, rfl⟩
 obtain ⟨go, hgo⟩ : ∃ go, go = w11.heap.size := ⟨_, rfl⟩
 rw [← hW12] at hBO HOC
 rw [← hgo] at HOC
 rw [← hW12, ← hgo]
 have HB12 := Aside0.mk (HB11.out.trans (hBO.mono HB11.out.size))
 have HBW : Aside0 (Below w11.heap.size w11 W12) := ⟨hBO⟩
 clear hBO hW12 hgo
 refine (r1_Int.calls 9223372036854775807 1 9223372036854775807 ⟨#[]⟩ _ rfl).mono ?_
 rintro e w13 ⟨rfl, hb13⟩
 have HB13 := Aside0.mk hb13
 clear hb13
 go_wp2_with fail
 refine (r1_Int.calls 1 1 1 ⟨#[]⟩ _ rfl).mono ?_
 rintro e w14 ⟨rfl, hb14⟩
 have HB14 := Aside0.mk (HB13.out.trans (hb14.mono HB13.out.size))
 clear hb14 HB13
 go_wp2_with fail
 refine (r1_Int.calls (-1) 1 (-1) ⟨#[]⟩ _ rfl).mono ?_
 rintro e w15 ⟨rfl, hb15⟩
 have HB15 := Aside0.mk (HB14.out.trans (hb15.mono HB14.out.size))
 clear hb15 HB14
 go_wp2_with fail
 have hb16 : Below w15.heap.size w15 (w15.alloc (.cells #[.int .u8 1, .int .i64 9223372036854775807, .string ⟨#[]⟩, .int .u8 1, .int .i64 1, .string ⟨#[]⟩, .int .u8 1, .int .i64 (-1), .string ⟨#[]⟩] 27)) := (Below.refl _ w15).alloc (Nat.le_refl _) _
 have HB16 : Aside0 (Below W12.heap.size W12 (w15.alloc (.cells #[.int .u8 1, .int .i64 9223372036854775807, .string ⟨#[]⟩, .int .u8 1, .int .i64 1, .string ⟨#[]⟩, .int .u8 1, .int .i64 (-1), .string ⟨#[]⟩] 27))) := ⟨HB15.out.trans (hb16.mono HB15.out.size)⟩
 have hc3 := C_three 9223372036854775807 1 (-1) (new_at w15 #[.int .u8 1, .int .i64 9223372036854775807, .string ⟨#[]⟩, .int .u8 1, .int .i64 1, .string ⟨#[]⟩, .int .u8 1, .int .i64 (-1), .string ⟨#[]⟩] 27)
 clear hb16
 refine (bag_Aggregate.calls 2 false (some ⟨w15.heap.size, 0, none⟩) 3 [iV 9223372036854775807, iV 1, iV (-1)] 1 9223372036854775807 ⟨#[]⟩ 0 _ hc3 (by simp) (HT.out.below (HB12.out.trans (HB16.out.mono HB12.out.size))) awake_agg).mono ?_
 clear hc3
 rintro e w17 ⟨rfl, hb17⟩
 have HB17 := Aside0.mk (HB16.out.trans (hb17.mono HB16.out.size))
 clear hb17 HB16 HB15
 have HOC17 := Aside0.mk (kept_at HOC.out HB17.out)
 have o1 : w17.cell? ⟨go, 1, none⟩ = some (.int .i64 0) := (blk_cell HOC17.out 1).trans rfl
 have o0 : w17.cell? ⟨go, 0, none⟩ = some (.slice Ag 2 cg) := (blk_cell HOC17.out 0).trans rfl
 have hgs : go ≠ w17.heap.size := by have := blk_lt HOC17.out; omega
 have o2 : (w17.alloc (.cells #[.int .u8 1, .int .i64 9223372036854775807, .string ⟨#[]⟩, .int .i64 0] 31)).cell? ⟨go, 1, none⟩ = some (.int .i64 0) := (blk_cell (kept_alloc HOC17.out _) 1).trans rfl
 have o3 : (w17.alloc (.cells #[.int .u8 1, .int .i64 9223372036854775807, .string ⟨#[]⟩, .int .i64 0] 31)).cell? ⟨go, 0, none⟩ = some (.slice Ag 2 cg) := (blk_cell (kept_alloc HOC17.out _) 0).trans rfl
 go_wp2_with fail
 clear o0 o1 o2 o3 hgs
 have HOC20 := Aside0.mk (kept_alloc HOC17.out (.cells #[.int .u8 1, .int .i64 9223372036854775807, .string ⟨#[]⟩, .int .i64 0] 31))
 have HSC20 := Aside0.mk (new_at w17 #[.int .u8 1, .int .i64 9223372036854775807, .string ⟨#[]⟩, .int .i64 0] 31)
 have hb20 : Below w17.heap.size w17 (w17.alloc (.cells #[.int .u8 1, .int .i64 9223372036854775807, .string ⟨#[]⟩, .int .i64 0] 31)) := (Below.refl _ w17).alloc (Nat.le_refl _) _
 have hb1120 : Below w11.heap.size w11 (w17.alloc (.cells #[.int .u8 1, .int .i64 9223372036854775807, .string ⟨#[]⟩, .int .i64 0] 31)) := HBW.out.trans ((HB17.out.trans (hb20.mono HB17.out.size)).mono HBW.out.size)
 have HB20 := Aside0.mk (HB11.out.trans (hb1120.mono HB11.out.size))
 have HONE20 := Aside0.mk (Kd.C_below HONE11.out hb1120)
 have HTWO20 := Aside0.mk (Kd.C_below HTWO11.out hb1120)
 have HCUT20 := Aside0.mk (Kd.C_below HCUT11.out hb1120)
 have HGR20 := Aside0.mk (Kd.C_below HGR.out hb1120)
 clear hb20 hb1120
 obtain ⟨W20, hW20⟩ : ∃ W20, W20 = w17.alloc (.cells #[.int .u8 1, .int .i64 9223372036854775807, .string ⟨#[]⟩, .int .i64 0] 31) := ⟨_, rfl⟩
 obtain ⟨so, hso⟩ : ∃ so, so = w17.heap.size := ⟨_, rfl⟩
 rw [← hW20] at HOC20 HSC20 HB20 HONE20 HTWO20 HCUT20 HGR20
 rw [← hso] at HSC20
 rw [← hW20, ← hso]
 clear hW20 hso
 have HKEEP : Aside0 (∀ W', Below W20.heap.size W20 W' → W'.cell? ⟨so, 1, none⟩ = some (.int .i64 9223372036854775807) ∧ W'.cell? ⟨go, 0, none⟩ = some (.slice Ag 2 cg)) := ⟨fun W' hb => ⟨(blk_cell (kept_at HSC20.out hb) 1).trans rfl, (blk_cell (kept_at HOC20.out hb) 0).trans rfl⟩⟩
 have HTAKE : Aside0 (kRow.C W20 (some ⟨g1, 0, none⟩) 1 [[iV 2]]) := ⟨Kd.C_take (m := 1) HONE20.out (by simp)⟩
 have HTAKG : Aside0 (kRow.C W20 Ag 1 [[iV 1, iV 2]]) := ⟨Kd.C_take (m := 1) HGR20.out (by simp)⟩
 have HC1 : Aside0 (∀ W', Below W20.heap.size W20 W' → Calls Tryd.prog 19 #[.slice Ac 1 cc, .slice (some ⟨g1, 0, none⟩) 1 3] W' fun e w' => e = .returned (.bool true) ∧ Below W'.heap.size W' w') := ⟨fun W' hb => by
  obtain ⟨k, hk⟩ := (sameLists_refl [[iV 2]] (by simp) (by simp)).rounds
  exact r6_SameLists.calls k Ac cc [[iV 2]] (some ⟨g1, 0, none⟩) 3 [[iV 2]] true W' (Kd.C_below HCUT20.out hb) HCL.out (Kd.C_below HTAKE.out hb) (by simp) hk⟩
 have HC4 : Aside0 (∀ W' b, Below W20.heap.size W20 W' → kRow.C W' (some ⟨b, 0, none⟩) 1 [[iV 1, iV 2]] → Calls Tryd.prog 19 #[.slice Ag 1 cg, .slice (some ⟨b, 0, none⟩) 1 1] W' fun e w' => e = .returned (.bool true) ∧ Below W'.heap.size W' w') := ⟨fun W' b hb hc => by
  obtain ⟨k, hk⟩ := (sameLists_refl [[iV 1, iV 2]] (by simp) (by simp)).rounds
  exact r6_SameLists.calls k Ag cg [[iV 1, iV 2]] (some ⟨b, 0, none⟩) 1 [[iV 1, iV 2]] true W' (Kd.C_below HTAKG.out hb) (Nat.le_trans (by simp) HGL.out) hc (by simp) hk⟩
 have HC5 : Aside0 (∀ W', Below W20.heap.size W20 W' → Calls Tryd.prog 26 #[.slice (some ⟨g1, 0, none⟩) 3 3] W' fun e w' => e = .returned (.bool true) ∧ Below W'.heap.size W' w') := ⟨fun W' hb => by
  obtain ⟨k, hk⟩ := (valid_ev oneA_ one_ok.v).rounds
  rw [one_valid] at hk
  exact bag_Valid.calls k (some ⟨g1, 0, none⟩) 3 oneA_ true W' (Kd.C_below HONE20.out hb) (by simp) hk⟩
 have HC6 : Aside0 (∀ W', Below W20.heap.size W20 W' → Calls Tryd.prog 24 #[.slice (some ⟨g1, 0, none⟩) 3 3, .slice (some ⟨g2, 0, none⟩) 2 2] W' fun e w' => e = .returned (.bool false) ∧ Below W'.heap.size W' w') := ⟨fun W' hb =>
  bag_Same.calls (some ⟨g1, 0, none⟩) 3 oneA_ (some ⟨g2, 0, none⟩) 2 twoA_ false W' (Kd.C_below HONE20.out hb) (by simp) (Kd.C_below HTWO20.out hb) (by simp) (HT.out.below (HB20.out.trans (hb.mono HB20.out.size))) awake_same⟩
 have HNEW : Aside0 (∀ (w : World), kRow.C ((w.alloc (.cells #[.int .u8 1, .int .i64 1, .string ⟨#[]⟩, .int .u8 1, .int .i64 2, .string ⟨#[]⟩] 27)).alloc (.cells #[.slice (some ⟨w.heap.size, 0, none⟩) 2 2] 58)) (some ⟨w.heap.size + 1, 0, none⟩) 1 [[iV 1, iV 2]]) := ⟨fun w => by
  have h1 := new_at1 w (.cells #[.int .u8 1, .int .i64 1, .string ⟨#[]⟩, .int .u8 1, .int .i64 2, .string ⟨#[]⟩] 27) #[.slice (some ⟨w.heap.size, 0, none⟩) 2 2] 58
  have h2 := kept_alloc (new_at w #[.int .u8 1, .int .i64 1, .string ⟨#[]⟩, .int .u8 1, .int .i64 2, .string ⟨#[]⟩] 27) (.cells #[.slice (some ⟨w.heap.size, 0, none⟩) 2 2] 58)
  exact C_rows (l := [[iV 1, iV 2]]) h1 (by simp) (fun j row hj => by
   match j, hj with
   | 0, hj =>
    obtain rfl : [iV 1, iV 2] = row := by simpa using hj
    exact ⟨_, 2, rfl, by simp, C_two 1 2 h2⟩
   | j + 1, hj => simp at hj)⟩
 obtain ⟨i0, hi0, hzz⟩ := Option.map_eq_some_iff.1 infoRow
 simp only [Prod.mk.injEq] at hzz
 have hsl : ∀ W, (Instr.slice 37 (.slice Ag 2 cg) none (some (.int .i64 1)) none).run Tryd.prog W = .ok (.slice Ag 1 cg) W := (print_take_of (P := Tryd.prog) (Value.int .i64) (0 : Int) 37 58 .i64 Tryd.underlying37 hi0 hzz.2.1 Ag cg [0, 0] 1 (by omega) (by simp) HGL.out).1
 clear hzz hi0
 have HE : Aside0 (Below W20.heap.size W20 W20.drew) := ⟨(Below.refl _ W20).drew⟩
 have HE0 : Aside0 (Below W20.heap.size W20 W20) := ⟨Below.refl _ W20⟩
 go_region_held3 (fun W' => W'.cell? ⟨so, 1, none⟩ = some (.int .i64 9223372036854775807) ∧ W'.cell? ⟨go, 0, none⟩ = some (.slice Ag 2 cg)) (first | (with_reducible exact HKEEP.out _ HE0.out) | (with_reducible exact HKEEP.out _ HE.out) | (with_reducible exact HKEEP.out _ HBa.out) | (with_reducible exact HKEEP.out _ HBb.out) | (with_reducible exact HKEEP.out _ HBc.out) | (with_reducible exact HKEEP.out _ (HBc1.out _)) | (with_reducible exact HKEEP.out _ (HBc2.out _ _)) | (with_reducible exact HKEEP.out _ HBd.out) | (with_reducible exact HKEEP.out _ HBe.out) | (with_reducible exact HKEEP.out _ HBf.out)) (first
  | (go_at_call 19; (with_reducible refine (HC1.out W20.drew HE.out).mono ?_); rintro e wa ⟨rfl, hba⟩; have HBa := Aside0.mk (HE.out.trans (hba.mono HE.out.size)); clear hba)
  | (go_at_call 12; (with_reducible refine (r1_Int.calls 1 1 1 ⟨#[]⟩ wa rfl).mono ?_); rintro e wb ⟨rfl, hbb⟩; have HBb := Aside0.mk (HBa.out.trans (hbb.mono HBa.out.size)); clear hbb)
  | (go_at_call 12; (with_reducible refine (r1_Int.calls 2 1 2 ⟨#[]⟩ wa rfl).mono ?_); rintro e wb ⟨rfl, hbb⟩; have HBb := Aside0.mk (HBa.out.trans (hbb.mono HBa.out.size)); clear hbb)
  | (go_at_call 12; (with_reducible refine (r1_Int.calls 1 1 1 ⟨#[]⟩ wb rfl).mono ?_); rintro e wc ⟨rfl, hbc⟩; have HBc := Aside0.mk (HBb.out.trans (hbc.mono HBb.out.size)); have HBc1 : Aside0 (∀ o, Below W20.heap.size W20 (wc.alloc o)) := ⟨fun o => HBc.out.alloc HBc.out.size o⟩; have HBc2 : Aside0 (∀ o p, Below W20.heap.size W20 ((wc.alloc o).alloc p)) := ⟨fun o p => (HBc1.out o).alloc (HBc1.out o).size p⟩; clear hbc)
  | (go_at_call 12; (with_reducible refine (r1_Int.calls 2 1 2 ⟨#[]⟩ wb rfl).mono ?_); rintro e wc ⟨rfl, hbc⟩; have HBc := Aside0.mk (HBb.out.trans (hbc.mono HBb.out.size)); have HBc1 : Aside0 (∀ o, Below W20.heap.size W20 (wc.alloc o)) := ⟨fun o => HBc.out.alloc HBc.out.size o⟩; have HBc2 : Aside0 (∀ o p, Below W20.heap.size W20 ((wc.alloc o).alloc p)) := ⟨fun o p => (HBc1.out o).alloc (HBc1.out o).size p⟩; clear hbc)
  | (go_at_call 19; (with_reducible refine (HC4.out _ _ (HBc2.out _ _) (HNEW.out wc)).mono ?_); rintro e wd ⟨rfl, hbd⟩; have HBd := Aside0.mk ((HBc2.out _ _).trans (hbd.mono (HBc2.out _ _).size)); clear hbd)
  | (go_at_call 26; (with_reducible refine (HC5.out wd HBd.out).mono ?_); rintro e we ⟨rfl, hbe⟩; have HBe := Aside0.mk (HBd.out.trans (hbe.mono HBd.out.size)); clear hbe)
  | (go_at_call 24; (with_reducible refine (HC6.out we HBe.out).mono ?_); rintro e wf ⟨rfl, hbf⟩; have HBf := Aside0.mk (HBe.out.trans (hbf.mono HBe.out.size)); clear hbf))
 all_goals (go_wp2; go_ret; exact ⟨rfl, HB20.out.trans (HBf.out.mono HB20.out.size)⟩)
def w6_awake.f : Option Bool := some true
theorem w6_awake.calls (r : Bool) (w : World) (hT : LaidT w) (h : w6_awake.f = some r) : Calls Tryd.prog 11 #[] w fun e w' => e = .returned (.bool r) ∧ Below w.heap.size w w' := by
 obtain rfl : true = r := Option.some.inj h
 exact awake_calls w hT
theorem group_bad (A0 : Option Addr) (c0 : Nat) (l0 : List (List V)) (A1 : Option Addr) (c1 : Nat) (l1 : List Int) (A2 : Option Addr) (c2 m2 : Nat) (w : World) (hr0 : Kd.C kRow w A0 l0.length l0) (hc0 : l0.length ≤ c0) (hr1 : Kd.C (Kd.int .i64) w A1 l1.length l1) (hok : RowsV l0) (hcn : l1.length ≤ 1099511627776) (hbad : validB l0 = false ∨ ∃ n ∈ l1, hasB l0 n = false) :
 Calls Tryd.prog 15 #[.slice A0 l0.length c0, .slice A1 l1.length c1, .slice A2 m2 c2] w fun e w' => e = .returned (.agg #[.slice none 0 0, .int .i64 1]) ∧ Below w.heap.size w w' := by
 obtain ⟨k, hk⟩ := (valid_ev l0 hok).rounds
 have HK := Aside0.mk hk
 have HCN := Aside0.mk hcn
 have HBAD := Aside0.mk hbad
 have HR0 := Aside0.mk hr0
 have HC0 := Aside0.mk hc0
 have HR1 := Aside0.mk hr1
 clear hk hbad hok hr0 hc0 hr1 hcn
 go_enter Tryd.func15, Tryd.ntmps15
 go_wp2_with (first
  | ((with_reducible refine gate_dst (N := 6) rfl ?_); refine box_event ?hg (N := 6) ?hd (cs := #[.slice none 0 0, .int .i64 0]) (t := 41) ?hr ?_; (case hd => rfl); (case hg => rfl); (case hr => first | (go_simp; done) | (go_simp; rfl)); intro q hq W hN hb1; have HB1 := Aside0.mk hb1; have HQ := Aside0.mk hq; have HN0 := Aside0.mk hN; clear hb1 hq hN)
  | ((with_reducible refine gate_dst (N := 7) rfl ?_); refine box_event ?hg (N := 7) ?hd (cs := #[.slice none 0 0, .int .i64 0]) (t := 41) ?hr ?_; (case hd => rfl); (case hg => rfl); (case hr => first | (go_simp; done) | (go_simp; rfl)); intro q2 hq2 W2 hN2 hb2; have HN1 := Aside0.mk ((hb2.block q (blk_lt HN0.out)).trans HN0.out); have HB2 := Aside0.mk (HB1.out.trans (hb2.mono HB1.out.size)); have HQ2 := Aside0.mk hq2; have HN2 := Aside0.mk hN2; have X0 : W2.cell? ⟨q2, 0, none⟩ = some (.slice none 0 0) := (blk_cell hN2 0).trans rfl; have X1 : W2.cell? ⟨q2, 1, none⟩ = some (.int .i64 0) := (blk_cell hN2 1).trans rfl; have X2 : ∀ j, W2.frozen? ⟨q2, j, none⟩ = false := (fun j => by simp [World.frozen?, hN2]); clear hb2 hq2 hN2))
 have hB3 : Below w.heap.size w ((W2.setCell ⟨q2, 0, none⟩ (.slice none 0 0)).setCell ⟨q2, 1, none⟩ (.int .i64 1)) := out2_below HB2.out (by rw [HQ2.out]; exact HB1.out.size) _ _
 have hq12 : q ≠ q2 := fun e => by have := blk_lt HN0.out; have := HQ2.out; omega
 have hN3 : ((W2.setCell ⟨q2, 0, none⟩ (.slice none 0 0)).setCell ⟨q2, 1, none⟩ (.int .i64 1)).heap[q]? = some (.cells #[.slice none 0 0, .int .i64 0] 41 (0, 0)) := (Below.heap_setCell _ _ _ q hq12).trans ((Below.heap_setCell _ _ _ q hq12).trans HN1.out)
 have HB3 := Aside0.mk hB3
 have HN3 := Aside0.mk hN3
 have HM3 := Aside0.mk (out2_cells HN2.out (.slice none 0 0) (.int .i64 1))
 have HQ2W : Aside0 (w.heap.size ≤ q2) := ⟨by rw [HQ2.out]; exact HB1.out.size⟩
 clear hB3 hq12 hN3 X0 X1 X2 HN1 HN2 HB2 HN0
 refine (bag_Valid.calls k _ _ l0 (validB l0) _ (Kd.C_below HR0.out HB3.out) HC0.out HK.out).mono ?_
 rintro e w3 ⟨rfl, hb3⟩
 have HN4 := Aside0.mk ((hb3.block q (blk_lt HN3.out)).trans HN3.out)
 have HM4 := Aside0.mk ((hb3.block q2 (blk_lt HM3.out)).trans HM3.out)
 have HB4 := Aside0.mk (HB3.out.trans (hb3.mono HB3.out.size))
 have HQW : Aside0 (w.heap.size ≤ q) := ⟨Nat.le_of_eq HQ.out.symm⟩
 clear hb3 HN3 HM3 HB3 HB1 HQ2 HQ
 cases hvb : validB l0 with
 | false =>
  have y0 : w3.cell? ⟨q, 0, none⟩ = some (.slice none 0 0) := (blk_cell HN4.out 0).trans rfl
  have y1 : w3.cell? ⟨q, 1, none⟩ = some (.int .i64 0) := (blk_cell HN4.out 1).trans rfl
  have yf : ∀ j, w3.frozen? ⟨q, j, none⟩ = false := fun j => by have := HN4.out; simp [World.frozen?, this]
  have z0 : w3.cell? ⟨q2, 0, none⟩ = some (.slice none 0 0) := (blk_cell HM4.out 0).trans rfl
  have z1 : w3.cell? ⟨q2, 1, none⟩ = some (.int .i64 1) := (blk_cell HM4.out 1).trans rfl
  go_wp2
  refine bodyPost_ret (results_cell_row rfl _ _ q 41 _ (0, 0) _ rfl (out2_cells HN4.out _ _) Tryd.underlying41 rfl (by kernel_rfl)) rfl ?_
  exact ⟨rfl, out2_below HB4.out HQW.out _ _⟩
 | true =>
  have HEX : Aside0 (∃ n ∈ l1, hasB l0 n = false) := ⟨HBAD.out.resolve_left (by rw [hvb]; simp)⟩
  clear HBAD hvb HK
  go_wp2
  go_loopg [29] l1.length (fun kq v29 W => ∃ x : Int, v29 = .int .i64 x ∧ Aside0 (0 ≤ x ∧ x ≤ l1.length ∧ (kq : Int) = l1.length - x) ∧ Aside0 (∃ n ∈ l1.drop x.toNat, hasB l0 n = false) ∧ Aside0 (W.heap[q]? = some (.cells #[.slice none 0 0, .int .i64 0] 41 (0, 0))) ∧ Aside0 (W.heap[q2]? = some (.cells #[.slice none 0 0, .int .i64 1] 41 (0, 0))) ∧ Aside0 (Below w.heap.size w W))
  case atStart => exact ⟨0, rfl, ⟨by omega⟩, HEX, HN4, HM4, HB4⟩
  case round =>
   clear HN4 HM4 HB4 HEX
   obtain ⟨x, rfl, HX, HEX, HN, HM, HB⟩ := hrel
   obtain ⟨hx0, hx1, hkq⟩ := HX.out
   have hlt : x < (l1.length : Int) := by
    obtain ⟨n, hn, _⟩ := HEX.out
    have := List.length_pos_of_mem hn
    rw [List.length_drop] at this
    omega
   have d1 : decide (x < (l1.length : Int)) = true := decide_eq_true hlt
   have d2 : decide (0 ≤ x) = true := decide_eq_true hx0
   obtain ⟨ad, e, hx_0⟩ := Kd.at_int HR1.out x hx0 hlt
   cases e
   replace hx_0 := (HB.out.cell (World.block_lt_of_cell? w _ hx_0)).trans hx_0
   have hj : x.toNat < l1.length := by omega
   have hrd : rd l1 x = l1[x.toNat] := by simp [rd, List.getElem?_eq_getElem hj]
   have hnext : hasB l0 (rd l1 x) = true → ∃ n ∈ l1.drop (x + 1).toNat, hasB l0 n = false := fun h => by
    obtain ⟨n, hn, hf⟩ := HEX.out
    rw [drop_cons l1 x.toNat hj] at hn
    rcases List.mem_cons.1 hn with rfl | hn
    · rw [← hrd, h] at hf; cases hf
    · exact ⟨n, by rw [show (x + 1).toNat = x.toNat + 1 by omega]; exact hn, hf⟩
   obtain ⟨n, hn⟩ : ∃ n, n = rd l1 x := ⟨_, rfl⟩
   rw [← hn] at hx_0 hnext
   have HH := Aside0.mk hnext
   have HLT := Aside0.mk hlt
   have HKQ := Aside0.mk hkq
   have HX0 := Aside0.mk hx0
   have HWR : Aside0 (wrap64 (x + 1) = x + 1) := ⟨by have := HCN.out; unfold wrap64; omega⟩
   clear hn hrd hj hnext hkq
   go_wp2_with fail
   refine (bag_has.calls A0 c0 l0 n (hasB l0 n) wr (Kd.C_below HR0.out HB.out) HC0.out (has_eq _ _)).mono ?_
   rintro e w5 ⟨rfl, ⟨nd, rfl⟩⟩
   cases hhb : hasB l0 n with
   | true =>
    have HEX2 := Aside0.mk (HH.out hhb)
    clear HH hhb
    go_wp2
    have hlt := HLT.out
    have hk := HKQ.out
    have hx0 := HX0.out
    cases gk with
    | zero => omega
    | succ k1 =>
     go_roundg k1
     case measure => omega
     case rel => exact ⟨x + 1, by rw [HWR.out], ⟨by omega⟩, HEX2, HN, HM, ⟨bN_ HB.out nd⟩⟩
   | false =>
    clear HH hhb
    have HN5 : Aside0 ((wr.drewN nd).heap[q]? = some (.cells #[.slice none 0 0, .int .i64 0] 41 (0, 0))) := HN
    have HM5 : Aside0 ((wr.drewN nd).heap[q2]? = some (.cells #[.slice none 0 0, .int .i64 1] 41 (0, 0))) := HM
    have HB5 : Aside0 (Below w.heap.size w (wr.drewN nd)) := ⟨bN_ HB.out nd⟩
    obtain ⟨w5, hw5⟩ : ∃ w5, w5 = wr.drewN nd := ⟨_, rfl⟩
    rw [← hw5] at HN5 HM5 HB5 ⊢
    have y0 : w5.cell? ⟨q, 0, none⟩ = some (.slice none 0 0) := (blk_cell HN5.out 0).trans rfl
    have y1 : w5.cell? ⟨q, 1, none⟩ = some (.int .i64 0) := (blk_cell HN5.out 1).trans rfl
    have yf : ∀ j, w5.frozen? ⟨q, j, none⟩ = false := fun j => by have := HN5.out; simp [World.frozen?, this]
    have z0 : w5.cell? ⟨q2, 0, none⟩ = some (.slice none 0 0) := (blk_cell HM5.out 0).trans rfl
    have z1 : w5.cell? ⟨q2, 1, none⟩ = some (.int .i64 1) := (blk_cell HM5.out 1).trans rfl
    clear hw5
    go_wp2
    refine bodyPost_ret (results_cell_row rfl _ _ q 41 _ (0, 0) _ rfl (out2_cells HN5.out _ _) Tryd.underlying41 rfl (by kernel_rfl)) rfl ?_
    exact ⟨rfl, out2_below HB5.out HQW.out _ _⟩
theorem group_bad2 (A0 : Option Addr) (c0 : Nat) (l0 : List (List V)) (A1 : Option Addr) (c1 : Nat) (l1 : List Int) (A2 : Option Addr) (c2 : Nat) (l2 : List AggT) (w : World) (hr0 : Kd.C kRow w A0 l0.length l0) (hc0 : l0.length ≤ c0) (hr1 : Kd.C (Kd.int .i64) w A1 l1.length l1) (hr2 : Kd.C kAgg w A2 l2.length l2) (hok : GroupOk l0 l1 l2) (hv : validB l0 = true) (hin : ∀ n ∈ l1, hasB l0 n = true) (hbad : ∃ a ∈ l2, aggOkB l0 a = false) :
 Calls Tryd.prog 15 #[.slice A0 l0.length c0, .slice A1 l1.length c1, .slice A2 l2.length c2] w fun e w' => e = .returned (.agg #[.slice none 0 0, .int .i64 1]) ∧ Below w.heap.size w w' := by
 obtain ⟨k, hk⟩ := (valid_ev l0 hok.rows.v).rounds
 rw [hv] at hk
 have HK := Aside0.mk hk
 have HIN := Aside0.mk hin
 have HOK := Aside0.mk hok
 have HEX := Aside0.mk hbad
 have HR0 := Aside0.mk hr0
 have HC0 := Aside0.mk hc0
 have HR1 := Aside0.mk hr1
 have HR2 := Aside0.mk hr2
 clear hk hv hin hok hbad hr0 hc0 hr1 hr2
 go_enter Tryd.func15, Tryd.ntmps15
 go_wp2_with (first
  | ((with_reducible refine gate_dst (N := 6) rfl ?_); refine box_event ?hg (N := 6) ?hd (cs := #[.slice none 0 0, .int .i64 0]) (t := 41) ?hr ?_; (case hd => rfl); (case hg => rfl); (case hr => first | (go_simp; done) | (go_simp; rfl)); intro q hq W hN hb1; have HB1 := Aside0.mk hb1; have HQ := Aside0.mk hq; have HN0 := Aside0.mk hN; clear hb1 hq hN)
  | ((with_reducible refine gate_dst (N := 7) rfl ?_); refine box_event ?hg (N := 7) ?hd (cs := #[.slice none 0 0, .int .i64 0]) (t := 41) ?hr ?_; (case hd => rfl); (case hg => rfl); (case hr => first | (go_simp; done) | (go_simp; rfl)); intro q2 hq2 W2 hN2 hb2; have HN1 := Aside0.mk ((hb2.block q (blk_lt HN0.out)).trans HN0.out); have HB2 := Aside0.mk (HB1.out.trans (hb2.mono HB1.out.size)); have HQ2 := Aside0.mk hq2; have HN2 := Aside0.mk hN2; have X0 : W2.cell? ⟨q2, 0, none⟩ = some (.slice none 0 0) := (blk_cell hN2 0).trans rfl; have X1 : W2.cell? ⟨q2, 1, none⟩ = some (.int .i64 0) := (blk_cell hN2 1).trans rfl; have X2 : ∀ j, W2.frozen? ⟨q2, j, none⟩ = false := (fun j => by simp [World.frozen?, hN2]); clear hb2 hq2 hN2))
 have hB3 : Below w.heap.size w ((W2.setCell ⟨q2, 0, none⟩ (.slice none 0 0)).setCell ⟨q2, 1, none⟩ (.int .i64 1)) := out2_below HB2.out (by rw [HQ2.out]; exact HB1.out.size) _ _
 have hq12 : q ≠ q2 := fun e => by have := blk_lt HN0.out; have := HQ2.out; omega
 have hN3 : ((W2.setCell ⟨q2, 0, none⟩ (.slice none 0 0)).setCell ⟨q2, 1, none⟩ (.int .i64 1)).heap[q]? = some (.cells #[.slice none 0 0, .int .i64 0] 41 (0, 0)) := (Below.heap_setCell _ _ _ q hq12).trans ((Below.heap_setCell _ _ _ q hq12).trans HN1.out)
 have HB3 := Aside0.mk hB3
 have HN3 := Aside0.mk hN3
 have HM3 := Aside0.mk (out2_cells HN2.out (.slice none 0 0) (.int .i64 1))
 have HQ2W : Aside0 (w.heap.size ≤ q2) := ⟨by rw [HQ2.out]; exact HB1.out.size⟩
 clear hB3 hq12 hN3 X0 X1 X2 HN1 HN2 HB2 HN0
 refine (bag_Valid.calls k _ _ l0 true _ (Kd.C_below HR0.out HB3.out) HC0.out HK.out).mono ?_
 rintro e w3 ⟨rfl, hb3⟩
 have HN4 := Aside0.mk ((hb3.block q (blk_lt HN3.out)).trans HN3.out)
 have HM4 := Aside0.mk ((hb3.block q2 (blk_lt HM3.out)).trans HM3.out)
 have HB4 := Aside0.mk (HB3.out.trans (hb3.mono HB3.out.size))
 have HQW : Aside0 (w.heap.size ≤ q) := ⟨Nat.le_of_eq HQ.out.symm⟩
 clear hb3 HN3 HM3 HB3 HB1 HQ2 HQ
 go_wp2
 go_loopg [29] l1.length (fun kq v29 W => ∃ x : Int, v29 = .int .i64 x ∧ Aside0 (0 ≤ x ∧ x ≤ l1.length ∧ (kq : Int) = l1.length - x) ∧ Aside0 (W.heap[q]? = some (.cells #[.slice none 0 0, .int .i64 0] 41 (0, 0))) ∧ Aside0 (W.heap[q2]? = some (.cells #[.slice none 0 0, .int .i64 1] 41 (0, 0))) ∧ Aside0 (Below w.heap.size w W))
 case atStart => exact ⟨0, rfl, ⟨by omega⟩, HN4, HM4, HB4⟩
 case round =>
  clear HN4 HM4 HB4
  obtain ⟨x, rfl, HX, HN, HM, HB⟩ := hrel
  obtain ⟨hx0, hx1, hkq⟩ := HX.out
  by_cases hlt : x < (l1.length : Int)
  · have d1 : decide (x < (l1.length : Int)) = true := decide_eq_true hlt
    have d2 : decide (0 ≤ x) = true := decide_eq_true hx0
    obtain ⟨ad, e, hx_0⟩ := Kd.at_int HR1.out x hx0 hlt
    cases e
    replace hx_0 := (HB.out.cell (World.block_lt_of_cell? w _ hx_0)).trans hx_0
    have hj : x.toNat < l1.length := by omega
    have hrd : rd l1 x = l1[x.toNat] := by simp [rd, List.getElem?_eq_getElem hj]
    have hh := HIN.out (rd l1 x) (by rw [hrd]; exact List.getElem_mem hj)
    obtain ⟨n, hn⟩ : ∃ n, n = rd l1 x := ⟨_, rfl⟩
    rw [← hn] at hx_0 hh
    have HH := Aside0.mk hh
    have HLT := Aside0.mk hlt
    have HKQ := Aside0.mk hkq
    have HX0 := Aside0.mk hx0
    have HWR : Aside0 (wrap64 (x + 1) = x + 1) := ⟨by have := HOK.out.cn; unfold wrap64; omega⟩
    clear hn hrd hj hh hkq
    go_wp2_with fail
    refine (bag_has.calls A0 c0 l0 n true wr (Kd.C_below HR0.out HB.out) HC0.out (by rw [has_eq, HH.out])).mono ?_
    rintro e w5 ⟨rfl, ⟨nd, rfl⟩⟩
    go_wp2
    have hlt := HLT.out
    have hk := HKQ.out
    have hx0 := HX0.out
    cases gk with
    | zero => omega
    | succ k1 =>
     go_roundg k1
     case measure => omega
     case rel => exact ⟨x + 1, by rw [HWR.out], ⟨by omega⟩, HN, HM, ⟨bN_ HB.out nd⟩⟩
  · have d1 : decide (x < (l1.length : Int)) = false := decide_eq_false hlt
    clear HX hx0 hx1 hkq hlt
    go_wp2
    go_loopg [41] l2.length (fun kq v41 W => ∃ x : Int, v41 = .int .i64 x ∧ Aside0 (0 ≤ x ∧ x ≤ l2.length ∧ (kq : Int) = l2.length - x) ∧ Aside0 (∃ a ∈ l2.drop x.toNat, aggOkB l0 a = false) ∧ Aside0 (W.heap[q]? = some (.cells #[.slice none 0 0, .int .i64 0] 41 (0, 0))) ∧ Aside0 (W.heap[q2]? = some (.cells #[.slice none 0 0, .int .i64 1] 41 (0, 0))) ∧ Aside0 (Below w.heap.size w W))
    case atStart => exact ⟨0, rfl, ⟨by omega⟩, HEX, HN, HM, HB⟩
    case round =>
     clear HN HM HB HEX
     obtain ⟨x, rfl, HX, HEX, HN, HM, HB⟩ := hrel
     obtain ⟨hx0, hx1, hkq⟩ := HX.out
     have hlt : x < (l2.length : Int) := by
      obtain ⟨n, hn, _⟩ := HEX.out
      have := List.length_pos_of_mem hn
      rw [List.length_drop] at this
      omega
     have d1 : decide (x < (l2.length : Int)) = true := decide_eq_true hlt
     have d2 : decide (0 ≤ x) = true := decide_eq_true hx0
     obtain ⟨ad, e, hx_0, hx_1, hx_2⟩ := at_T47 HR2.out x hx0 hlt
     cases e
     replace hx_0 := (HB.out.cell (World.block_lt_of_cell? w _ hx_0)).trans hx_0
     replace hx_1 := (HB.out.cell (World.block_lt_of_cell? w _ hx_1)).trans hx_1
     replace hx_2 := (HB.out.cell (World.block_lt_of_cell? w _ hx_2)).trans hx_2
     have hj : x.toNat < l2.length := by omega
     have hrd : rd_T47 l2 x = l2[x.toNat] := by simp [rd_T47, List.getElem?_eq_getElem hj]
     have hvals := HOK.out.vals (rd_T47 l2 x) (by rw [hrd]; exact List.getElem_mem hj)
     have hnext : aggOkB l0 (rd_T47 l2 x) = true → ∃ a ∈ l2.drop (x + 1).toNat, aggOkB l0 a = false := fun h => by
      obtain ⟨n, hn, hf⟩ := HEX.out
      rw [drop_cons l2 x.toNat hj] at hn
      rcases List.mem_cons.1 hn with rfl | hn
      · rw [← hrd, h] at hf; cases hf
      · exact ⟨n, by rw [show (x + 1).toNat = x.toNat + 1 by omega]; exact hn, hf⟩
     obtain ⟨a, ha⟩ : ∃ a, a = rd_T47 l2 x := ⟨_, rfl⟩
     rw [← ha] at hx_0 hx_1 hx_2 hnext hvals
     obtain ⟨f0, f1, f2⟩ := a
     dsimp only at hx_0 hx_1 hx_2
     have HNEXT := Aside0.mk hnext
     have HLT := Aside0.mk hlt
     have HKQ := Aside0.mk hkq
     have HX0 := Aside0.mk hx0
     have HWR : Aside0 (wrap64 (x + 1) = x + 1) := ⟨by have := HOK.out.an; unfold wrap64; omega⟩
     clear hrd hj hkq ha hnext
     obtain ⟨W5, hW5⟩ : ∃ W5, W5 = wr.alloc (.cells #[.int .u8 f0, .int .i64 f1, .bool f2] 47) := ⟨_, rfl⟩
     have hD5 : (W5.cell? ⟨wr.heap.size, 0, none⟩ = some (.int .u8 f0) ∧ W5.cell? ⟨wr.heap.size, 1, none⟩ = some (.int .i64 f1) ∧ W5.cell? ⟨wr.heap.size, 2, none⟩ = some (.bool f2)) := by
      rw [hW5]
      exact ⟨(blk_cell (heap_alloc_new _ _) 0).trans rfl, (blk_cell (heap_alloc_new _ _) 1).trans rfl, (blk_cell (heap_alloc_new _ _) 2).trans rfl⟩
     have HD5 := Aside0.mk hD5
     have HB5 : Aside0 (Below wr.heap.size wr W5) := ⟨by rw [hW5]; exact (Below.refl _ wr).alloc (Nat.le_refl _) _⟩
     have HN5 : Aside0 (∀ W', Below W5.heap.size W5 W' → W'.heap[q]? = some (.cells #[.slice none 0 0, .int .i64 0] 41 (0, 0))) := ⟨fun W' hb => ((HB5.out.trans (hb.mono HB5.out.size)).block q (blk_lt HN.out)).trans HN.out⟩
     have HM5 : Aside0 (∀ W', Below W5.heap.size W5 W' → W'.heap[q2]? = some (.cells #[.slice none 0 0, .int .i64 1] 41 (0, 0))) := ⟨fun W' hb => ((HB5.out.trans (hb.mono HB5.out.size)).block q2 (blk_lt HM.out)).trans HM.out⟩
     have HW5B : Aside0 (∀ W', Below W5.heap.size W5 W' → Below w.heap.size w W') := ⟨fun W' hb => HB.out.trans ((HB5.out.trans (hb.mono HB5.out.size)).mono HB.out.size)⟩
     clear HN HM hD5
     by_cases h0 : f0 = 0
     · subst h0
       have HW5 := Aside0.mk hW5
       by_cases h12 : f1 = 0 ∧ f2 = false
       · obtain ⟨rfl, rfl⟩ := h12
         have HEX2 := Aside0.mk (HNEXT.out rfl)
         clear HNEXT hvals hW5
         go_wp2
         rw [← HW5.out]
         have hlt := HLT.out
         have hk := HKQ.out
         have hx0 := HX0.out
         cases gk with
         | zero => omega
         | succ k1 =>
          go_roundg k1
          case measure => omega
          case rel => exact ⟨x + 1, by rw [HWR.out], ⟨by omega⟩, HEX2, ⟨HN5.out _ (Below.refl _ _)⟩, ⟨HM5.out _ (Below.refl _ _)⟩, ⟨HW5B.out _ (Below.refl _ _)⟩⟩
       · clear HNEXT hvals
         have HN9 := Aside0.mk (HN5.out _ (Below.refl _ _))
         have HM9 := Aside0.mk (HM5.out _ (Below.refl _ _))
         have HB9 := Aside0.mk (HW5B.out _ (Below.refl _ _))
         by_cases h1 : f1 = 0
         · subst h1
           obtain rfl : f2 = true := by
            cases f2 with
            | true => rfl
            | false => exact absurd ⟨rfl, rfl⟩ h12
           clear h12 HW5
           subst hW5
           have y0 : (wr.alloc (.cells #[.int .u8 0, .int .i64 0, .bool true] 47)).cell? ⟨q, 0, none⟩ = some (.slice none 0 0) := (blk_cell HN9.out 0).trans rfl
           have y1 : (wr.alloc (.cells #[.int .u8 0, .int .i64 0, .bool true] 47)).cell? ⟨q, 1, none⟩ = some (.int .i64 0) := (blk_cell HN9.out 1).trans rfl
           have yf : ∀ j, (wr.alloc (.cells #[.int .u8 0, .int .i64 0, .bool true] 47)).frozen? ⟨q, j, none⟩ = false := fun j => by have := HN9.out; simp [World.frozen?, this]
           have z0 : (wr.alloc (.cells #[.int .u8 0, .int .i64 0, .bool true] 47)).cell? ⟨q2, 0, none⟩ = some (.slice none 0 0) := (blk_cell HM9.out 0).trans rfl
           have z1 : (wr.alloc (.cells #[.int .u8 0, .int .i64 0, .bool true] 47)).cell? ⟨q2, 1, none⟩ = some (.int .i64 1) := (blk_cell HM9.out 1).trans rfl
           go_wp2
           refine bodyPost_ret (results_cell_row rfl _ _ q 41 _ (0, 0) _ rfl (out2_cells HN9.out _ _) Tryd.underlying41 rfl (by kernel_rfl)) rfl ?_
           exact ⟨rfl, out2_below HB9.out HQW.out _ _⟩
         · have z3 : (f1 != 0) = true := by simp [h1]
           have z4 : decide (f1 = 0) = false := decide_eq_false h1
           clear h12 HW5
           subst hW5
           have y0 : (wr.alloc (.cells #[.int .u8 0, .int .i64 f1, .bool f2] 47)).cell? ⟨q, 0, none⟩ = some (.slice none 0 0) := (blk_cell HN9.out 0).trans rfl
           have y1 : (wr.alloc (.cells #[.int .u8 0, .int .i64 f1, .bool f2] 47)).cell? ⟨q, 1, none⟩ = some (.int .i64 0) := (blk_cell HN9.out 1).trans rfl
           have yf : ∀ j, (wr.alloc (.cells #[.int .u8 0, .int .i64 f1, .bool f2] 47)).frozen? ⟨q, j, none⟩ = false := fun j => by have := HN9.out; simp [World.frozen?, this]
           have z0 : (wr.alloc (.cells #[.int .u8 0, .int .i64 f1, .bool f2] 47)).cell? ⟨q2, 0, none⟩ = some (.slice none 0 0) := (blk_cell HM9.out 0).trans rfl
           have z1 : (wr.alloc (.cells #[.int .u8 0, .int .i64 f1, .bool f2] 47)).cell? ⟨q2, 1, none⟩ = some (.int .i64 1) := (blk_cell HM9.out 1).trans rfl
           go_wp2
           refine bodyPost_ret (results_cell_row rfl _ _ q 41 _ (0, 0) _ rfl (out2_cells HN9.out _ _) Tryd.underlying41 rfl (by kernel_rfl)) rfl ?_
           exact ⟨rfl, out2_below HB9.out HQW.out _ _⟩
     · have z1 : (f0 == 0) = false := by simp [h0]
       have z2 : decide (f0 = 0) = false := decide_eq_false h0
       have HE5 : Aside0 (W5.drew.cell? ⟨wr.heap.size, 0, none⟩ = some (.int .u8 f0) ∧ W5.drew.cell? ⟨wr.heap.size, 1, none⟩ = some (.int .i64 f1) ∧ W5.drew.cell? ⟨wr.heap.size, 2, none⟩ = some (.bool f2)) := ⟨HD5.out⟩
       have HC5 : Aside0 (∀ W', Below W5.heap.size W5 W' → kRow.C W' A0 l0.length l0) := ⟨fun W' hb => Kd.C_below HR0.out (HW5B.out W' hb)⟩
       have HBE : Aside0 (Below W5.heap.size W5 W5.drew) := ⟨(Below.refl _ W5).drew⟩
       cases hhas : hasB l0 f1 with
       | false =>
        have HHE : Aside0 (bag_has.f l0 f1 = some false) := ⟨by rw [has_eq]; exact congrArg some hhas⟩
        clear hhas HNEXT hvals h0
        go_wp2_with fail
        rw [← hW5]
        clear hW5
        refine wp_region_held_drew (S := (fun W' => (W'.cell? ⟨wr.heap.size, 0, none⟩ = some (.int .u8 f0) ∧ W'.cell? ⟨wr.heap.size, 1, none⟩ = some (.int .i64 f1) ∧ W'.cell? ⟨wr.heap.size, 2, none⟩ = some (.bool f2)))) (by kernel_rfl) HE5.out (fun hHeld => ?_)
        refine wpAnyH_take (i := 0) (oi := ⟨some 64, _, _, _, _, _⟩) (v := ?_) rfl (by kernel_rfl) (by kernel_rfl) (by kernel_rfl) (fun _ _ _ h => h) (Or.inl ⟨by rfl, ?_⟩) (by assumption) ?_
        rotate_left
        · intro w' hSw
          try dsimp only at hSw
          go_simp
          try with_reducible rfl
        try simp only [Act.put, sTA_, sCZ_, sCS_]
        refine wpAnyH_take (i := 1) (oi := ⟨some 65, _, _, _, _, _⟩) (v := ?_) rfl (by kernel_rfl) (by kernel_rfl) (by kernel_rfl) (fun _ _ _ h => h) (Or.inl ⟨by rfl, ?_⟩) (by assumption) ?_
        rotate_left
        · intro w' hSw
          try dsimp only at hSw
          go_simp
          try with_reducible rfl
        try simp only [Act.put, sTA_, sCZ_, sCS_]
        refine wpAnyH_take (i := 2) (oi := ⟨some 66, _, _, _, _, _⟩) (v := ?_) rfl (by kernel_rfl) (by kernel_rfl) (by kernel_rfl) (fun _ _ _ h => h) (Or.inl ⟨by rfl, ?_⟩) (by assumption) ?_
        rotate_left
        · intro w' hSw
          try dsimp only at hSw
          go_simp
          try with_reducible rfl
        try simp only [Act.put, sTA_, sCZ_, sCS_]
        refine wpAnyH_ready (rs := [3]) (by kernel_rfl) (by simp) ?_
        refine AllReadyH.cons (o := ⟨some 67, _, _, _, _, _⟩) rfl (fun K hK => ?_) AllReadyH.nil
        go_simp
        (go_at_call 30; (with_reducible refine (bag_has.calls A0 c0 l0 f1 false W5.drew (HC5.out _ HBE.out) HC0.out HHE.out).mono ?_); rintro e w6 ⟨rfl, ⟨nd, hd6⟩⟩; have HB6 : Aside0 (Below W5.heap.size W5 w6) := ⟨by rw [hd6]; exact bN_ HBE.out nd⟩; have HS6 : Aside0 (w6.cell? ⟨wr.heap.size, 0, none⟩ = some (.int .u8 f0) ∧ w6.cell? ⟨wr.heap.size, 1, none⟩ = some (.int .i64 f1) ∧ w6.cell? ⟨wr.heap.size, 2, none⟩ = some (.bool f2)) := ⟨cells3 HB6.out HD5.out⟩; clear hd6)
        refine hK.out _ _ HS6.out (fun hHeld => ?_)
        clear hK K
        try simp only [Act.put, sTA_, sCZ_, sCS_]
        refine wpAnyH_take (i := 4) (oi := ⟨some 68, _, _, _, _, _⟩) (v := ?_) rfl (by kernel_rfl) (by kernel_rfl) (by kernel_rfl) (fun _ _ _ h => h) (Or.inl ⟨by rfl, ?_⟩) (by assumption) ?_
        rotate_left
        · intro w' hSw
          try dsimp only at hSw
          go_simp
          try with_reducible rfl
        try simp only [Act.put, sTA_, sCZ_, sCS_]
        refine wpAnyH_take (i := 5) (oi := ⟨some 69, _, _, _, _, _⟩) (v := ?_) rfl (by kernel_rfl) (by kernel_rfl) (by kernel_rfl) (fun _ _ _ h => h) (Or.inl ⟨by rfl, ?_⟩) (by assumption) ?_
        rotate_left
        · intro w' hSw
          try dsimp only at hSw
          go_simp
          try with_reducible rfl
        try simp only [Act.put, sTA_, sCZ_, sCS_]
        refine wpAnyH_take (i := 6) (oi := ⟨some 70, _, _, _, _, _⟩) (v := undef) rfl (by kernel_rfl) (by kernel_rfl) (by kernel_rfl) (fun _ _ _ h => h) (Or.inr ⟨by rfl, rfl⟩) (by assumption) ?_
        try simp only [Act.put, sTA_, sCZ_, sCS_]
        refine wpAnyH_take (i := 7) (oi := ⟨some 71, _, _, _, _, _⟩) (v := undef) rfl (by kernel_rfl) (by kernel_rfl) (by kernel_rfl) (fun _ _ _ h => h) (Or.inr ⟨by rfl, rfl⟩) (by assumption) ?_
        try simp only [Act.put, sTA_, sCZ_, sCS_]
        refine wpAnyH_take (i := 8) (oi := ⟨some 72, _, _, _, _, _⟩) (v := undef) rfl (by kernel_rfl) (by kernel_rfl) (by kernel_rfl) (fun _ _ _ h => h) (Or.inr ⟨by rfl, rfl⟩) (by assumption) ?_
        try simp only [Act.put, sTA_, sCZ_, sCS_]
        refine wpAnyH_take (i := 9) (oi := ⟨some 73, _, _, _, _, _⟩) (v := undef) rfl (by kernel_rfl) (by kernel_rfl) (by kernel_rfl) (fun _ _ _ h => h) (Or.inr ⟨by rfl, rfl⟩) (by assumption) ?_
        try simp only [Act.put, sTA_, sCZ_, sCS_]
        refine wpAnyH_take (i := 10) (oi := ⟨some 74, _, _, _, _, _⟩) (v := undef) rfl (by kernel_rfl) (by kernel_rfl) (by kernel_rfl) (fun _ _ _ h => h) (Or.inr ⟨by rfl, rfl⟩) (by assumption) ?_
        try simp only [Act.put, sTA_, sCZ_, sCS_]
        refine wpAnyH_take (i := 11) (oi := ⟨some 75, _, _, _, _, _⟩) (v := undef) rfl (by kernel_rfl) (by kernel_rfl) (by kernel_rfl) (fun _ _ _ h => h) (Or.inr ⟨by rfl, rfl⟩) (by assumption) ?_
        try simp only [Act.put, sTA_, sCZ_, sCS_]
        refine wpAnyH_take (i := 12) (oi := ⟨some 76, _, _, _, _, _⟩) (v := undef) rfl (by kernel_rfl) (by kernel_rfl) (by kernel_rfl) (fun _ _ _ h => h) (Or.inr ⟨by rfl, rfl⟩) (by assumption) ?_
        try simp only [Act.put, sTA_, sCZ_, sCS_]
        refine wpAnyH_take (i := 13) (oi := ⟨some 77, _, _, _, _, _⟩) (v := undef) rfl (by kernel_rfl) (by kernel_rfl) (by kernel_rfl) (fun _ _ _ h => h) (Or.inr ⟨by rfl, rfl⟩) (by assumption) ?_
        try simp only [Act.put, sTA_, sCZ_, sCS_]
        refine wpAnyH_take (i := 14) (oi := ⟨some 78, _, _, _, _, _⟩) (v := undef) rfl (by kernel_rfl) (by kernel_rfl) (by kernel_rfl) (fun _ _ _ h => h) (Or.inr ⟨by rfl, rfl⟩) (by assumption) ?_
        try simp only [Act.put, sTA_, sCZ_, sCS_]
        refine wpAnyH_take (i := 15) (oi := ⟨some 79, _, _, _, _, _⟩) (v := undef) rfl (by kernel_rfl) (by kernel_rfl) (by kernel_rfl) (fun _ _ _ h => h) (Or.inr ⟨by rfl, rfl⟩) (by assumption) ?_
        try simp only [Act.put, sTA_, sCZ_, sCS_]
        refine wpAnyH_take (i := 16) (oi := ⟨some 80, _, _, _, _, _⟩) (v := ?_) rfl (by kernel_rfl) (by kernel_rfl) (by kernel_rfl) (fun _ _ _ h => h) (Or.inl ⟨by rfl, ?_⟩) (by assumption) ?_
        rotate_left
        · intro w' hSw
          try dsimp only at hSw
          go_simp
          try with_reducible rfl
        try simp only [Act.put, sTA_, sCZ_, sCS_]
        refine wpAnyH_take (i := 17) (oi := ⟨some 63, _, _, _, _, _⟩) (v := ?_) rfl (by kernel_rfl) (by kernel_rfl) (by kernel_rfl) (fun _ _ _ h => h) (Or.inl ⟨by rfl, ?_⟩) (by assumption) ?_
        rotate_left
        · intro w' hSw
          try dsimp only at hSw
          go_simp
          try with_reducible rfl
        try simp only [Act.put, sTA_, sCZ_, sCS_]
        refine wpAnyH_done (by kernel_rfl) ?_ _
        have HN9 := Aside0.mk (HN5.out _ HB6.out)
        have HM9 := Aside0.mk (HM5.out _ HB6.out)
        have HB9 := Aside0.mk (HW5B.out _ HB6.out)
        have y0 : w6.cell? ⟨q, 0, none⟩ = some (.slice none 0 0) := (blk_cell HN9.out 0).trans rfl
        have y1 : w6.cell? ⟨q, 1, none⟩ = some (.int .i64 0) := (blk_cell HN9.out 1).trans rfl
        have yf : ∀ j, w6.frozen? ⟨q, j, none⟩ = false := fun j => by have := HN9.out; simp [World.frozen?, this]
        have z0 : w6.cell? ⟨q2, 0, none⟩ = some (.slice none 0 0) := (blk_cell HM9.out 0).trans rfl
        have z1 : w6.cell? ⟨q2, 1, none⟩ = some (.int .i64 1) := (blk_cell HM9.out 1).trans rfl
        go_wp2
        refine bodyPost_ret (results_cell_row rfl _ _ q 41 _ (0, 0) _ rfl (out2_cells HN9.out _ _) Tryd.underlying41 rfl (by kernel_rfl)) rfl ?_
        exact ⟨rfl, out2_below HB9.out HQW.out _ _⟩
       | true =>
        have HHE : Aside0 (bag_has.f l0 f1 = some true) := ⟨by rw [has_eq]; exact congrArg some hhas⟩
        obtain ⟨kc, hkc⟩ := (columnOf_ev l0 f1 (by
         have h1 := hhas
         unfold hasB at h1
         cases hl : l0 with
         | nil => rw [hl] at h1; exact (of_decide_eq_true h1).1
         | cons r rs => rw [hl] at h1; exact (of_decide_eq_true h1).1) HOK.out.rows.2).rounds
        obtain ⟨ka, hka⟩ := (allowed_ev f0 f2 (columnR l0 f1) (fun v hv => by
         obtain ⟨row, hrow, rfl⟩ := List.mem_map.1 hv
         exact (hvals row hrow).1 _ (by simp)) (by rw [columnR, List.length_map]; exact HOK.out.rows.2)).rounds
        have HKC2 := Aside0.mk hkc
        cases hall : allowedB f0 f2 (columnR l0 f1) with
        | false =>
         rw [hall] at hka
         have HKA := Aside0.mk hka
         clear hkc hka hall hhas hvals h0 HNEXT
         go_wp2_with fail
         rw [← hW5]
         clear hW5
         go_region_held3 (fun W' => (W'.cell? ⟨wr.heap.size, 0, none⟩ = some (.int .u8 f0) ∧ W'.cell? ⟨wr.heap.size, 1, none⟩ = some (.int .i64 f1) ∧ W'.cell? ⟨wr.heap.size, 2, none⟩ = some (.bool f2))) (first | (with_reducible exact HD5.out) | (with_reducible exact HE5.out) | (with_reducible exact HS6.out) | (with_reducible exact HS7.out) | (with_reducible exact HS8.out)) (first
          | (go_at_call 30; (with_reducible refine (bag_has.calls A0 c0 l0 f1 true W5.drew (HC5.out _ HBE.out) HC0.out HHE.out).mono ?_); rintro e w6 ⟨rfl, ⟨nd, hd6⟩⟩; have HB6 : Aside0 (Below W5.heap.size W5 w6) := ⟨by rw [hd6]; exact bN_ HBE.out nd⟩; have HS6 : Aside0 (w6.cell? ⟨wr.heap.size, 0, none⟩ = some (.int .u8 f0) ∧ w6.cell? ⟨wr.heap.size, 1, none⟩ = some (.int .i64 f1) ∧ w6.cell? ⟨wr.heap.size, 2, none⟩ = some (.bool f2)) := ⟨cells3 HB6.out HD5.out⟩; clear hd6)
          | (go_at_call 31; (with_reducible refine (bag_columnOf.calls kc A0 c0 l0 f1 (columnR l0 f1) w6 (HC5.out _ HB6.out) HC0.out HKC2.out).mono ?_); rintro e w7 ⟨vc, rfl, hRc, hb7⟩; obtain ⟨Ac, cc, ec, hcc, hCc⟩ := Kd.R_reads hRc; subst ec; have hb57 : Below W5.heap.size W5 w7 := HB6.out.trans (hb7.mono HB6.out.size); have HS7 : Aside0 (w7.cell? ⟨wr.heap.size, 0, none⟩ = some (.int .u8 f0) ∧ w7.cell? ⟨wr.heap.size, 1, none⟩ = some (.int .i64 f1) ∧ w7.cell? ⟨wr.heap.size, 2, none⟩ = some (.bool f2)) := ⟨cells3 hb57 HD5.out⟩; have HCC := Aside0.mk hCc; have HCN := Aside0.mk hcc; have HB7 := Aside0.mk hb57; clear hb57 hRc hb7 hcc hCc)
          | (go_at_call 27; (with_reducible refine (bag_allowed.calls ka f0 f2 Ac cc (columnR l0 f1) false w7 HCC.out HCN.out HKA.out).mono ?_); rintro e w8 ⟨rfl, hb8⟩; have hb58 : Below W5.heap.size W5 w8 := HB7.out.trans (hb8.mono HB7.out.size); have HS8 : Aside0 (w8.cell? ⟨wr.heap.size, 0, none⟩ = some (.int .u8 f0) ∧ w8.cell? ⟨wr.heap.size, 1, none⟩ = some (.int .i64 f1) ∧ w8.cell? ⟨wr.heap.size, 2, none⟩ = some (.bool f2)) := ⟨cells3 hb58 HD5.out⟩; have HB8 := Aside0.mk hb58; clear hb58 hb8))
         have HN9 := Aside0.mk (HN5.out _ HB8.out)
         have HM9 := Aside0.mk (HM5.out _ HB8.out)
         have HB9 := Aside0.mk (HW5B.out _ HB8.out)
         have y0 : w8.cell? ⟨q, 0, none⟩ = some (.slice none 0 0) := (blk_cell HN9.out 0).trans rfl
         have y1 : w8.cell? ⟨q, 1, none⟩ = some (.int .i64 0) := (blk_cell HN9.out 1).trans rfl
         have yf : ∀ j, w8.frozen? ⟨q, j, none⟩ = false := fun j => by have := HN9.out; simp [World.frozen?, this]
         have z0 : w8.cell? ⟨q2, 0, none⟩ = some (.slice none 0 0) := (blk_cell HM9.out 0).trans rfl
         have z1 : w8.cell? ⟨q2, 1, none⟩ = some (.int .i64 1) := (blk_cell HM9.out 1).trans rfl
         go_wp2
         refine bodyPost_ret (results_cell_row rfl _ _ q 41 _ (0, 0) _ rfl (out2_cells HN9.out _ _) Tryd.underlying41 rfl (by kernel_rfl)) rfl ?_
         exact ⟨rfl, out2_below HB9.out HQW.out _ _⟩
        | true =>
         rw [hall] at hka
         have HKA := Aside0.mk hka
         have HEX2 := Aside0.mk (HNEXT.out (by
          unfold aggOkB
          rw [if_neg h0]
          show (hasB l0 f1 && allowedB f0 f2 (columnR l0 f1)) = true
          rw [hhas, hall]; rfl))
         clear hkc hka hall hhas hvals h0 HNEXT
         go_wp2_with fail
         rw [← hW5]
         clear hW5
         go_region_held3 (fun W' => (W'.cell? ⟨wr.heap.size, 0, none⟩ = some (.int .u8 f0) ∧ W'.cell? ⟨wr.heap.size, 1, none⟩ = some (.int .i64 f1) ∧ W'.cell? ⟨wr.heap.size, 2, none⟩ = some (.bool f2))) (first | (with_reducible exact HD5.out) | (with_reducible exact HE5.out) | (with_reducible exact HS6.out) | (with_reducible exact HS7.out) | (with_reducible exact HS8.out)) (first
          | (go_at_call 30; (with_reducible refine (bag_has.calls A0 c0 l0 f1 true W5.drew (HC5.out _ HBE.out) HC0.out HHE.out).mono ?_); rintro e w6 ⟨rfl, ⟨nd, hd6⟩⟩; have HB6 : Aside0 (Below W5.heap.size W5 w6) := ⟨by rw [hd6]; exact bN_ HBE.out nd⟩; have HS6 : Aside0 (w6.cell? ⟨wr.heap.size, 0, none⟩ = some (.int .u8 f0) ∧ w6.cell? ⟨wr.heap.size, 1, none⟩ = some (.int .i64 f1) ∧ w6.cell? ⟨wr.heap.size, 2, none⟩ = some (.bool f2)) := ⟨cells3 HB6.out HD5.out⟩; clear hd6)
          | (go_at_call 31; (with_reducible refine (bag_columnOf.calls kc A0 c0 l0 f1 (columnR l0 f1) w6 (HC5.out _ HB6.out) HC0.out HKC2.out).mono ?_); rintro e w7 ⟨vc, rfl, hRc, hb7⟩; obtain ⟨Ac, cc, ec, hcc, hCc⟩ := Kd.R_reads hRc; subst ec; have hb57 : Below W5.heap.size W5 w7 := HB6.out.trans (hb7.mono HB6.out.size); have HS7 : Aside0 (w7.cell? ⟨wr.heap.size, 0, none⟩ = some (.int .u8 f0) ∧ w7.cell? ⟨wr.heap.size, 1, none⟩ = some (.int .i64 f1) ∧ w7.cell? ⟨wr.heap.size, 2, none⟩ = some (.bool f2)) := ⟨cells3 hb57 HD5.out⟩; have HCC := Aside0.mk hCc; have HCN := Aside0.mk hcc; have HB7 := Aside0.mk hb57; clear hb57 hRc hb7 hcc hCc)
          | (go_at_call 27; (with_reducible refine (bag_allowed.calls ka f0 f2 Ac cc (columnR l0 f1) true w7 HCC.out HCN.out HKA.out).mono ?_); rintro e w8 ⟨rfl, hb8⟩; have hb58 : Below W5.heap.size W5 w8 := HB7.out.trans (hb8.mono HB7.out.size); have HS8 : Aside0 (w8.cell? ⟨wr.heap.size, 0, none⟩ = some (.int .u8 f0) ∧ w8.cell? ⟨wr.heap.size, 1, none⟩ = some (.int .i64 f1) ∧ w8.cell? ⟨wr.heap.size, 2, none⟩ = some (.bool f2)) := ⟨cells3 hb58 HD5.out⟩; have HB8 := Aside0.mk hb58; clear hb58 hb8))
         go_wp2
         have hlt := HLT.out
         have hk := HKQ.out
         have hx0 := HX0.out
         cases gk with
         | zero => omega
         | succ k1 =>
          go_roundg k1
          case measure => omega
          case rel => exact ⟨x + 1, by rw [HWR.out], ⟨by omega⟩, HEX2, ⟨HN5.out _ HB8.out⟩, ⟨HM5.out _ HB8.out⟩, ⟨HW5B.out _ HB8.out⟩⟩
open Classical in
noncomputable def bag_Group.f (l0 : List (List V)) (l1 : List Int) (l2 : List AggT) : Option (List (List V) × Int) := if GroupOk l0 l1 l2 then some (groupG l0 l1 l2) else none
theorem bag_Group.calls (A0 : Option Addr) (c0 : Nat) (l0 : List (List V)) (A1 : Option Addr) (c1 : Nat) (l1 : List Int) (A2 : Option Addr) (c2 : Nat) (l2 : List AggT) (r1 : List (List V)) (r2 : Int) (w : World) (hr0 : Kd.C kRow w A0 l0.length l0) (hc0 : l0.length ≤ c0) (hr1 : Kd.C (Kd.int .i64) w A1 l1.length l1) (hc1 : l1.length ≤ c1) (hr2 : Kd.C kAgg w A2 l2.length l2) (hc2 : l2.length ≤ c2) (hT : LaidT w) (h : bag_Group.f l0 l1 l2 = some (r1, r2)) :
 Calls Tryd.prog 15 #[.slice A0 l0.length c0, .slice A1 l1.length c1, .slice A2 l2.length c2] w fun e w' => ∃ v0_ : Value, e = .returned (.agg #[v0_, .int .i64 r2]) ∧ Kd.V kRow 58 w' w.heap.size (fun k_ => (w.heap.size ≤ k_)) v0_ r1 ∧ Below w.heap.size w w' := by
 unfold bag_Group.f at h
 split at h
 case isFalse => cases h
 rename_i hok
 have h := Option.some.inj h
 by_cases hg : groupableB l0 l1 l2 = true
 · exact group_good A0 c0 l0 A1 c1 l1 A2 c2 l2 w hr0 hc0 hr1 hr2 hT hok hg r1 r2 h
 · unfold groupG at h
   rw [if_neg hg] at h
   simp only [Prod.mk.injEq] at h
   obtain ⟨rfl, rfl⟩ := h
   by_cases hb : validB l0 = false ∨ ∃ n ∈ l1, hasB l0 n = false
   · refine (group_bad A0 c0 l0 A1 c1 l1 A2 c2 l2.length w hr0 hc0 hr1 hok.rows.v hok.cn hb).mono ?_
     rintro e w' ⟨rfl, hb'⟩
     exact ⟨_, rfl, Kd.V_nil _ _ _ _ _, hb'⟩
   · have hv : validB l0 = true := by
      cases hq : validB l0 with
      | true => rfl
      | false => exact absurd (.inl hq) hb
     have hin : ∀ n ∈ l1, hasB l0 n = true := fun n hn => by
      cases hq : hasB l0 n with
      | true => rfl
      | false => exact absurd (.inr ⟨n, hn, hq⟩) hb
     have hex : ∃ a ∈ l2, aggOkB l0 a = false := by
      refine Classical.byContradiction (fun hne => hg ?_)
      unfold groupableB
      simp only [Bool.and_eq_true, List.all_eq_true]
      refine ⟨⟨hv, hin⟩, fun a ha => ?_⟩
      cases hq : aggOkB l0 a with
      | true => rfl
      | false => exact absurd ⟨a, ha, hq⟩ hne
     refine (group_bad2 A0 c0 l0 A1 c1 l1 A2 c2 l2 w hr0 hc0 hr1 hr2 hok hv hin hex).mono ?_
     rintro e w' ⟨rfl, hb'⟩
     exact ⟨_, rfl, Kd.V_nil _ _ _ _ _, hb'⟩
end Go.Proofs.YtecgkcgfeghhgaaDoor.PAll
namespace Go.Proofs.YtecgkcgfeghhgaaDoor.PAll
open Go.RowKit Go.Proofs.YtecgkcgfeghhgaaDoorW.PrintWords Go.Proofs.YtecgkcgfeghhgaaDoorW.PrintLast Go.Proofs.YtecgkcgfeghhgaaDoorW.PrintMore
attribute [local go_sem] max2_int min2_int max_two min_two max_three min_three max_four min_four
set_option linter.unusedVariables false
set_option linter.unusedSimpArgs false
noncomputable section
def w6_BagGroupsCover.l0 : Nat → List (List (S27)) → List Int → Int → List (List (S27)) → Int → List (List (S27)) → Int → Option (Bool)
 | 0, _, _, _, _, _, _, _ => none
 | k + 1, x0, x1, x6, x7, x8, x228000, x228001 => if x8 < (x228000.length : Int) then (if 0 ≤ x8 then (if ((rd_L4 x228000 x8).length : Int) = (wrap64 ((x1.length : Int) + 1)) then (if 0 ≤ (x1.length : Int) then (if (x1.length : Int) < ((rd_L4 x228000 x8).length : Int) then (if (x1.length : Int) ≤ ((rd_L4 x228000 x8).length : Int) then (if x7.length < 5864062014805 then (w6_BagGroupsCover.l0 k x0 x1 (wrap64 (x6 + ((rd_T27 (rd_L4 x228000 x8) (x1.length : Int)).f1))) (x7 ++ [((rd_L4 x228000 x8).take ((x1.length : Int) : Int).toNat)]) (wrap64 (x8 + 1)) x228000 x228001) else (none)) else (none)) else (none)) else (none)) else (some false)) else (none)) else ((bag_Distinct.f x7).bind fun bt241 => (if bt241.2 = 0 then (if x6 = (x0.length : Int) then (if (bt241.1.length : Int) = (x7.length : Int) then ((w6_awake.f).bind fun t245 => (some t245)) else (some false)) else (some false)) else (some false)))
def w6_BagGroupsCover.f (k : Nat) (l0 : List (List (S27))) (l1 : List Int) : Option (Bool) := (bag_Group.f l0 l1 (([(⟨0, 0, false⟩ : S47)] : List (S47)))).bind fun bt223 => (if bt223.2 = 0 then (w6_BagGroupsCover.l0 k l0 l1 0 ([] : List (List (S27))) 0 bt223.1 bt223.2) else ((w6_awake.f).bind fun t228 => (some t228)))
theorem w6_BagGroupsCover.calls (k : Nat) (A0 : Option Addr) (c0 : Nat) (l0 : List (List (S27))) (A1 : Option Addr) (c1 : Nat) (l1 : List Int) (r : Bool) (w : World) (hr0 : Kd.C (Kd.slice 27 k27) w A0 l0.length l0) (hc0 : l0.length ≤ c0) (hr1 : Kd.C (Kd.int .i64) w A1 l1.length l1) (hc1 : l1.length ≤ c1) (hT : LaidT w) (h : w6_BagGroupsCover.f k l0 l1 = some r) :
 Calls Tryd.prog 10 #[.slice A0 l0.length c0, .slice A1 l1.length c1] w fun e w' => e = .returned (.bool r) ∧ Below w.heap.size w w' := by
 have HT := Aside0.mk hT
 clear hT
 have hu47 := Tryd.underlying47
 have hu41 := Tryd.underlying41
 have HR0 := Aside0.mk hr0
 have HC0 := Aside0.mk hc0
 clear hr0 hc0
 have HR1 := Aside0.mk hr1
 have HC1 := Aside0.mk hc1
 clear hr1 hc1
 have HB := Aside0.mk (Below.refl w.heap.size w)
 have H : ((bag_Group.f l0 l1 (([(⟨0, 0, false⟩ : S47)] : List (S47)))).bind fun bt223 => (if bt223.2 = 0 then (w6_BagGroupsCover.l0 k l0 l1 0 ([] : List (List (S27))) 0 bt223.1 bt223.2) else ((w6_awake.f).bind fun t228 => (some t228)))) = some r := h
 clear h
 obtain ⟨y220, hy220⟩ : ∃ y_ : List (S47), y_ = (([(⟨0, 0, false⟩ : S47)] : List (S47))) := ⟨_, rfl⟩
 replace H : ((bag_Group.f l0 l1 y220).bind fun bt223 => (if bt223.2 = 0 then (w6_BagGroupsCover.l0 k l0 l1 0 ([] : List (List (S27))) 0 bt223.1 bt223.2) else ((w6_awake.f).bind fun t228 => (some t228)))) = some r := by first | (rw [hy220]; with_reducible exact H) | (have H2_ := (Option.bind_some _ _).symm.trans H; rw [hy220]; with_reducible exact H2_) | (have H2_ := (Option.bind_some _ _).symm.trans H; with_reducible exact H2_) | with_reducible exact H | (rw [hy220]; exact H) | exact H
 have Ny220 := Aside0.mk hy220
 clear hy220
 replace H := Option.bind_eq_some_iff.mp H
 obtain ⟨⟨t223, t226⟩, A30, H⟩ := H
 replace H : (if t226 = 0 then (w6_BagGroupsCover.l0 k l0 l1 0 ([] : List (List (S27))) 0 t223 t226) else ((w6_awake.f).bind fun t228 => (some t228))) = some r := H
 have A3 := Aside0.mk A30
 clear A30
 by_cases c4 : t226 = 0
 · rw [if_pos c4] at H
   have c4b0 : (t226 == 0) = true := beq_iff_eq.mpr c4
   have c4b1 : (t226 != 0) = false := bne_eq_false_iff_eq.mpr c4
   clear c4
   have H' := Aside0.mk H
   clear H
   go_enter Tryd.func10, Tryd.ntmps10
   go_wp2_with (first | ((with_reducible refine gate_dst (N := 14) rfl ?_); (try (refine gate_guard (by rfl) ?_; dsimp only)); refine Kd.R_lit k47 _ 47 ?hg (N := 14) ?hd (xs := ([(⟨0, 0, false⟩ : S47)] : List (S47))) (inner := [.int .u8 0, .int .i64 0, .bool false]) (ok := fun _ => True) (okp := fun _ => True) ?hr ?hp (fun _ hk => hk) trivial (Below.refl _ _) (Nat.le_refl _) (by simp) ?_; (case hd => rfl); (case hg => rfl); (case hr => first | (go_simp; done) | (go_simp; rfl)); (case hp => exact (Reps.c3 (show Kd.M k47 _ _ _ (⟨0, 0, false⟩ : S47) [.int .u8 0, .int .i64 0, .bool false] from (k47_mkM _ _ _ (⟨0, 0, false⟩ : S47) )) (Reps.none _ _))); intro v221 w5 ho6 hb hg_ hnew_; clear hg_ hnew_; (first | rw [← Ny220.out] at ho6 | (simp only [Int.reduceToNat] at ho6; rw [← Ny220.out] at ho6)); have n0_ := Aside0.mk (Kd.R_lower ho6 (below_size (by repeat (first | (with_reducible first | exact HB.out | apply bA_ | apply bN_ | apply b1_) | exact HB.out)))); have n1_ := Aside0.mk (below_step (by repeat (first | (with_reducible first | exact HB.out | apply bA_ | apply bN_ | apply b1_) | exact HB.out)) hb); clear HB; have HO222 := n0_; have HB := n1_; clear n0_ n1_; clear hb ho6; obtain ⟨Ao7, co7, eo7⟩ := Kd.R_slice HO222.out; subst eo7) | ((with_reducible refine gate_callee (f := 15) rfl ?_); refine goesL_ (some 15) rfl rfl Tryd.func15 (by kernel_rfl) rfl #[.slice A0 l0.length c0, .slice A1 l1.length c1, .slice Ao7 y220.length co7] rfl (by (try simp only [List.map_toArray, List.map_cons, List.map_nil]); first | done | rfl | (simp only [List.length_drop, List.length_take]; rfl)) ?_; (with_reducible refine (bag_Group.calls _ _ l0 _ _ l1 _ _ y220 t223 t226 _ ?side1 ?side2 ?side3 ?side4 ?side5 ?side6 ?sideT A3.out).mono ?_); (case sideT => exact LaidT.below HT.out (by repeat (first | (with_reducible first | exact HB.out | apply bA_ | apply bN_ | apply b1_ | refine below_set ?_ GE227.out) | exact HB.out))); (case side1 => repeat (first | exact (Kd.C_below HR0.out HB.out) | (with_reducible refine Kd.cA_ ?_ _) | (with_reducible refine Kd.cN_ ?_ _) | (with_reducible refine Kd.cD_ ?_))); (case side2 => exact HC0.out); (case side3 => repeat (first | exact (Kd.C_below HR1.out HB.out) | (with_reducible refine Kd.cA_ ?_ _) | (with_reducible refine Kd.cN_ ?_ _) | (with_reducible refine Kd.cD_ ?_))); (case side4 => exact HC1.out); (case side5 => repeat (first | exact (Kd.R_reads' HO222.out).2.2 | (with_reducible refine Kd.cA_ ?_ _) | (with_reducible refine Kd.cN_ ?_ _) | (with_reducible refine Kd.cD_ ?_))); (case side6 => exact (Kd.R_reads' HO222.out).2.1); rintro e w8 ⟨v224, rfl, ho0, hb⟩; refine ⟨_, rfl, ?_⟩; have n0_ := Aside0.mk (Kd.R_below (by (with_reducible repeat (first | apply Kd.R_alloc | apply Kd.R_drewN | apply Kd.R_drew)); exact HO222.out) hb); have n1_ := Aside0.mk (Kd.V_lower (Kd.V_mono (ok' := fun k_ => some k_ ≠ (.slice Ao7 y220.length co7 : Value).ownBlock) ho0 (fun k_ hk_ => (Kd.fresh' (Kd.R_lt (by (with_reducible repeat (first | apply Kd.R_alloc | apply Kd.R_drewN | apply Kd.R_drew)); exact HO222.out)) k_ hk_))) (below_size (by repeat (first | (with_reducible first | exact HB.out | apply bA_ | apply bN_ | apply b1_) | exact HB.out)))); have n2_ := Aside0.mk (below_step (by repeat (first | (with_reducible first | exact HB.out | apply bA_ | apply bN_ | apply b1_) | exact HB.out)) hb); clear HO222; clear HB; have HO222 := n0_; have HO225 := n1_; have HB := n2_; clear n0_ n1_ n2_; (try clear hb); (try clear hb2); (try clear hk); (try clear hi); (try clear ho0)) | ((with_reducible refine gate_dst (N := 5) rfl ?_); (try (refine gate_guard (by rfl) ?_; dsimp only)); refine box_event ?hg (N := 5) ?hd (cs := #[.slice none 0 0, .int .i64 0]) (t := 41) ?hr ?_; (case hd => rfl); (case hg => rfl); (case hr => first | (go_simp; done) | (go_simp; rfl)); intro gb227 hg w9 hbox hb; have n0_ := Aside0.mk (Kd.R_below (by (with_reducible repeat (first | apply Kd.R_alloc | apply Kd.R_drewN | apply Kd.R_drew)); exact HO222.out) hb); have n1_ := Aside0.mk (Kd.V_below (Kd.V_elderB (by (with_reducible repeat (first | apply Kd.vA_ | apply Kd.vN_ | apply Kd.vD_)); exact HO225.out) gb227 (Nat.le_of_eq hg.symm)) hb); have n2_ := Aside0.mk (below_step (by repeat (first | (with_reducible first | exact HB.out | apply bA_ | apply bN_ | apply b1_) | exact HB.out)) hb); have n3_ := Aside0.mk (hbox); have n4_ := Aside0.mk ((by rw [hg]; exact (below_size (by repeat (first | (with_reducible first | exact HB.out | apply bA_ | apply bN_ | apply b1_) | exact HB.out))) : w.heap.size ≤ gb227)); have n5_ := Aside0.mk ((by rw [hg]; exact (below_size (by repeat (first | (with_reducible first | exact HB.out | apply bA_ | apply bN_ | apply b1_) | exact HB.out))) : w.heap.size ≤ gb227)); clear HO222; clear HO225; clear HB; have HO222 := n0_; have HO225 := n1_; have HB := n2_; have BK227 := n3_; have GW227 := n4_; have GE227 := n5_; clear n0_ n1_ n2_ n3_ n4_ n5_; clear hb hbox hg; obtain ⟨Ao10, co10, eo10⟩ := Kd.V_slice HO225.out; subst eo10; have hcz11_0 : w9.cell? ⟨gb227, 0, none⟩ = some (.slice none 0 0) := (blk_cell BK227.out 0).trans rfl; have hcz11_1 : w9.cell? ⟨gb227, 1, none⟩ = some (.int .i64 0) := (blk_cell BK227.out 1).trans rfl; have hfz11_0 := blk_frozen BK227.out 0; have hfz11_1 := blk_frozen BK227.out 1))
   go_loopg [6, 7, 8] k (fun kq v6 v7 v8 w' => ∃ (x6_1 : Int) (x7_1 : List (List (S27))) (x8_1 : Int), v6 = .int .i64 x6_1 ∧ v8 = .int .i64 x8_1 ∧ Aside0 (w6_BagGroupsCover.l0 kq l0 l1 x6_1 x7_1 x8_1 t223 t226 = some r) ∧ Aside0 (kq ≤ k) ∧ Aside0 (Kd.N (Kd.slice 27 k27) 58 w' w.heap.size (fun k_ => k_ ≠ gb227) v7 x7_1) ∧ Aside0 (Kd.V (Kd.slice 27 k27) 58 w' w.heap.size (fun k_ => some k_ ≠ (v7 : Value).ownBlock ∧ k_ ≠ gb227) (.slice Ao10 t223.length co10) t223) ∧ Aside0 (w'.heap[gb227]? = some (.cells #[(.slice Ao10 t223.length co10), .int .i64 t226] 41 (0, 0))) ∧ Aside0 (Below w.heap.size w w'))
   case atStart => exact ⟨(0), (([] : List (List (S27)))), (0), (by first | rfl | (simp; done) | (simp [*]; done)), (by first | rfl | (simp; done) | (simp [*]; done)), H', ⟨Nat.le_refl _⟩, ⟨by first | exact Kd.S_nil _ _ _ _ _ | exact Kd.N_nil _ _ _ _ _ | exact Kd.V_nil _ _ _ _ _ | exact Kd.Q_nil _ _ _ _ _ | exact Kd.R_nil _ _ _ _ _⟩, ⟨by (with_reducible repeat (first | apply Kd.vA_ | apply Kd.vN_ | apply Kd.vD_)); exact Kd.V_mono (Kd.V_far (p := ⟨gb227, 1, none⟩) (Kd.V_far (p := ⟨gb227, 0, none⟩) (Kd.V_mono HO225.out (fun k_ hk => (⟨hk, hk.2⟩ : _ ∧ k_ ≠ gb227))) (fun _ hk => hk.2) (.slice Ao10 t223.length co10)) (fun _ hk => hk.2) (.int .i64 t226)) (fun _ hk => ⟨(by simp [Value.ownBlock]), hk.1.2⟩)⟩, ⟨by (with_reducible repeat (first | refine blk_drewN ?_ _ | refine blk_drew ?_ | refine blk_alloc ?_ _)); refine blk_put (cs := #[.slice Ao10 t223.length co10, .int .i64 0]) ?_ 1 _ rfl; (with_reducible repeat (first | refine blk_drewN ?_ _ | refine blk_drew ?_ | refine blk_alloc ?_ _)); refine blk_put (cs := #[.slice none 0 0, .int .i64 0]) ?_ 0 _ rfl; (with_reducible repeat (first | refine blk_drewN ?_ _ | refine blk_drew ?_ | refine blk_alloc ?_ _)); exact BK227.out⟩, ⟨by repeat (first | (with_reducible first | exact HB.out | apply bA_ | apply bN_ | apply b1_ | refine below_set ?_ GE227.out) | exact HB.out)⟩⟩
   case round =>
    clear H'
    try clear c1
    try clear p2
    try clear c3
    try clear c4
    try clear c4b0
    try clear c4b1
    try clear c10
    try clear hcz11_0
    try clear hcz11_1
    try clear hfz11_0
    try clear hfz11_1
    obtain ⟨x6_1, x7_1, x8_1, rfl, rfl, HA, HK1, HO_7, HO_228000, BK227, HB⟩ := hrel
    cases gk with
    | zero => exact absurd HA.out (by simp [w6_BagGroupsCover.l0])
    | succ k1 =>
     have H := HA.out
     clear HA
     simp only [w6_BagGroupsCover.l0] at H
     by_cases c12 : x8_1 < (t223.length : Int)
     · rw [if_pos c12] at H
       have c12b0 : decide (x8_1 < (t223.length : Int)) = true := dT_ c12
       clear c12
       by_cases c13 : 0 ≤ x8_1
       · rw [if_pos c13] at H
         have c13b0 : decide (0 ≤ x8_1) = true := dT_ c13
         clear c13
         by_cases c14 : ((rd_L4 t223 x8_1).length : Int) = (wrap64 ((l1.length : Int) + 1))
         · rw [if_pos c14] at H
           have c14b0 : (((rd_L4 t223 x8_1).length : Int) == (wrap64 ((l1.length : Int) + 1))) = true := beq_iff_eq.mpr c14
           have c14b1 : (((rd_L4 t223 x8_1).length : Int) != (wrap64 ((l1.length : Int) + 1))) = false := bne_eq_false_iff_eq.mpr c14
           clear c14
           by_cases c15 : 0 ≤ (l1.length : Int)
           · rw [if_pos c15] at H
             have c15b0 : decide (0 ≤ (l1.length : Int)) = true := dT_ c15
             have c15b1 : decide (0 ≤ l1.length) = true := dT_ (by omega)
             clear c15
             by_cases c16 : (l1.length : Int) < ((rd_L4 t223 x8_1).length : Int)
             · rw [if_pos c16] at H
               have c16b0 : decide ((l1.length : Int) < ((rd_L4 t223 x8_1).length : Int)) = true := dT_ c16
               have c16b1 : decide (l1.length < (rd_L4 t223 x8_1).length) = true := dT_ (Int.ofNat_lt.mp c16)
               clear c16
               have c17b0 := eq_true (oT_ (by assumption) : 0 ≤ (l1.length : Int))
               by_cases c18 : (l1.length : Int) ≤ ((rd_L4 t223 x8_1).length : Int)
               · rw [if_pos c18] at H
                 have c18b0 := eq_true c18
                 have c18b1 : decide ((l1.length : Int) ≤ ((rd_L4 t223 x8_1).length : Int)) = true := dT_ c18
                 clear c18
                 obtain ⟨y233, hy233⟩ : ∃ y_ : List (S27), y_ = ((rd_L4 t223 x8_1).take ((l1.length : Int) : Int).toNat) := ⟨_, rfl⟩
                 replace H : (if x7_1.length < 5864062014805 then (w6_BagGroupsCover.l0 k1 l0 l1 (wrap64 (x6_1 + ((rd_T27 (rd_L4 t223 x8_1) (l1.length : Int)).f1))) (x7_1 ++ [y233]) (wrap64 (x8_1 + 1)) t223 t226) else (none)) = some r := by first | (rw [hy233]; with_reducible exact H) | (have H2_ := (Option.bind_some _ _).symm.trans H; rw [hy233]; with_reducible exact H2_) | (have H2_ := (Option.bind_some _ _).symm.trans H; with_reducible exact H2_) | with_reducible exact H | (rw [hy233]; exact H) | exact H
                 have Ny233 := Aside0.mk hy233
                 clear hy233
                 by_cases c19 : x7_1.length < 5864062014805
                 · rw [if_pos c19] at H
                   have LMc19 := Aside0.mk c19
                   clear c19
                   obtain ⟨y238, hy238⟩ : ∃ y_ : List (List (S27)), y_ = (x7_1 ++ [y233]) := ⟨_, rfl⟩
                   replace H : (w6_BagGroupsCover.l0 k1 l0 l1 (wrap64 (x6_1 + ((rd_T27 (rd_L4 t223 x8_1) (l1.length : Int)).f1))) y238 (wrap64 (x8_1 + 1)) t223 t226) = some r := by first | (rw [hy238]; with_reducible exact H) | (have H2_ := (Option.bind_some _ _).symm.trans H; rw [hy238]; with_reducible exact H2_) | (have H2_ := (Option.bind_some _ _).symm.trans H; with_reducible exact H2_) | with_reducible exact H | (rw [hy238]; exact H) | exact H
                   have Ny238 := Aside0.mk hy238
                   clear hy238
                   have H' := Aside0.mk H
                   clear H
                   have hcz20_0 : wr.cell? ⟨gb227, 0, none⟩ = some (.slice Ao10 t223.length co10) := (blk_cell BK227.out 0).trans rfl
                   have hcz20_1 : wr.cell? ⟨gb227, 1, none⟩ = some (.int .i64 t226) := (blk_cell BK227.out 1).trans rfl
                   have hfz20_0 := blk_frozen BK227.out 0
                   have hfz20_1 := blk_frozen BK227.out 1
                   have p229 : 0 ≤ (x8_1 : Int) := oT_ (by assumption)
                   have q229 : x8_1 < (t223.length : Int) := oT_ (by assumption)
                   obtain ⟨ad229, A229_0, c229_0, e229, hx229_0, hl229_0, hi229_0⟩ := at_L4 (Kd.V_reads' HO_228000.out).2.2 x8_1 p229 q229
                   cases e229
                   obtain ⟨ce229, hce229, hMe229, hcc229⟩ := Kd.V_get HO_228000.out [] x8_1 p229 (by first | exact q229 | exact oT_ (by assumption) | (have e_ := (Kd.V_reads' HO_228000.out).1; omega))
                   obtain ⟨ua229_0, uc229_0, rfl, ul229_0, ge229_0⟩ := Kd.FK_slice_open hMe229
                   have hv229_0 := hcc229 0 _ rfl
                   rw [Nat.add_zero, show ((Kd.slice 27 k27)).sz = 1 from rfl, Nat.mul_one] at hv229_0
                   replace hv229_0 := Option.some.inj (hv229_0.symm.trans hx229_0)
                   injection hv229_0 with hva_ hvn_ hvc_
                   rw [hva_] at ge229_0
                   rw [hvc_] at ul229_0
                   have HL229_0 := Aside0.mk (show Kd.V k27 27 _ w.heap.size _ _ (rd_L4 t223 x8_1) from Kd.V_mk ul229_0 ge229_0)
                   clear hva_ hvn_ hvc_ ge229_0 ul229_0
                   clear hcc229 hce229
                   have HR229_0 := Aside0.mk hi229_0
                   have HC229_0 := Aside0.mk hl229_0
                   clear hi229_0 hl229_0
                   replace p229 := eq_true p229
                   replace q229 := eq_true q229
                   have p230 : 0 ≤ (x8_1 : Int) := oT_ (by assumption)
                   have q230 : x8_1 < (t223.length : Int) := oT_ (by assumption)
                   obtain ⟨ad230, A230_0, c230_0, e230, hx230_0, hl230_0, hi230_0⟩ := at_L4 (Kd.V_reads' HO_228000.out).2.2 x8_1 p230 q230
                   obtain rfl : ad229 = ad230 := (by injection e230)
                   obtain ⟨ce230, hce230, hMe230, hcc230⟩ := Kd.V_get HO_228000.out [] x8_1 p230 (by first | exact q230 | exact oT_ (by assumption) | (have e_ := (Kd.V_reads' HO_228000.out).1; omega))
                   obtain ⟨ua230_0, uc230_0, rfl, ul230_0, ge230_0⟩ := Kd.FK_slice_open hMe230
                   have hv230_0 := hcc230 0 _ rfl
                   rw [Nat.add_zero, show ((Kd.slice 27 k27)).sz = 1 from rfl, Nat.mul_one] at hv230_0
                   replace hv230_0 := Option.some.inj (hv230_0.symm.trans hx230_0)
                   injection hv230_0 with hva_ hvn_ hvc_
                   rw [hva_] at ge230_0
                   rw [hvc_] at ul230_0
                   have HL230_0 := Aside0.mk (show Kd.V k27 27 _ w.heap.size _ _ (rd_L4 t223 x8_1) from Kd.V_mk ul230_0 ge230_0)
                   clear hva_ hvn_ hvc_ ge230_0 ul230_0
                   clear hcc230 hce230
                   have HR230_0 := Aside0.mk hi230_0
                   have HC230_0 := Aside0.mk hl230_0
                   clear hi230_0 hl230_0
                   replace p230 := eq_true p230
                   replace q230 := eq_true q230
                   have ea_ := Option.some.inj (hx229_0.symm.trans hx230_0)
                   injection ea_ with ea_ en_ ec_
                   subst ea_
                   subst ec_
                   clear en_
                   have p231 : 0 ≤ ((l1.length : Int) : Int) := oT_ (by assumption)
                   have q231 : (l1.length : Int) < ((rd_L4 t223 x8_1).length : Int) := oT_ (by assumption)
                   obtain ⟨ad231, e231, hx231_0, hx231_1, hx231_2⟩ := at_T27 (by repeat (first | (with_reducible exact HR230_0.out) | (with_reducible refine Kd.cA_ ?_ _) | (with_reducible refine Kd.cN_ ?_ _) | (with_reducible refine Kd.cD_ ?_) | exact HR230_0.out)) (l1.length : Int) p231 q231
                   cases e231
                   (try simp only [Go.IntWalk.toNatUp] at hx231_0)
                   (try simp only [Go.IntWalk.toNatUp] at hx231_1)
                   (try simp only [Go.IntWalk.toNatUp] at hx231_2)
                   replace p231 := eq_true p231
                   replace q231 := eq_true q231
                   have p232 : 0 ≤ (x8_1 : Int) := oT_ (by assumption)
                   have q232 : x8_1 < (t223.length : Int) := oT_ (by assumption)
                   obtain ⟨ad232, A232_0, c232_0, e232, hx232_0, hl232_0, hi232_0⟩ := at_L4 (Kd.V_reads' HO_228000.out).2.2 x8_1 p232 q232
                   obtain rfl : ad229 = ad232 := (by injection e232)
                   obtain ⟨ce232, hce232, hMe232, hcc232⟩ := Kd.V_get HO_228000.out [] x8_1 p232 (by first | exact q232 | exact oT_ (by assumption) | (have e_ := (Kd.V_reads' HO_228000.out).1; omega))
                   obtain ⟨ua232_0, uc232_0, rfl, ul232_0, ge232_0⟩ := Kd.FK_slice_open hMe232
                   have hv232_0 := hcc232 0 _ rfl
                   rw [Nat.add_zero, show ((Kd.slice 27 k27)).sz = 1 from rfl, Nat.mul_one] at hv232_0
                   replace hv232_0 := Option.some.inj (hv232_0.symm.trans hx232_0)
                   injection hv232_0 with hva_ hvn_ hvc_
                   rw [hva_] at ge232_0
                   rw [hvc_] at ul232_0
                   have HL232_0 := Aside0.mk (show Kd.V k27 27 _ w.heap.size _ _ (rd_L4 t223 x8_1) from Kd.V_mk ul232_0 ge232_0)
                   clear hva_ hvn_ hvc_ ge232_0 ul232_0
                   clear hcc232 hce232
                   have HR232_0 := Aside0.mk hi232_0
                   have HC232_0 := Aside0.mk hl232_0
                   clear hi232_0 hl232_0
                   replace p232 := eq_true p232
                   replace q232 := eq_true q232
                   have ea_ := Option.some.inj (hx229_0.symm.trans hx232_0)
                   injection ea_ with ea_ en_ ec_
                   subst ea_
                   subst ec_
                   clear en_
                   have q21 : ((l1.length : Int) : Int) ≤ (((rd_L4 t223 x8_1).length : Int) : Int) := oT_ (by assumption)
                   obtain ⟨i021, hi021, _, hsz21, _⟩ := info_parts info27
                   have hroom21 : (rd_L4 t223 x8_1).length ≤ c229_0 := HC232_0.out
                   have hC21 : Kd.F k27 _ _ (some ad231) (rd_L4 t223 x8_1).length (rd_L4 t223 x8_1) := (Kd.V_at (base := w.heap.size) HL232_0.out).2.2
                   have hcut21 := cut_to (P := Tryd.prog) 58 27 .i64 Tryd.underlying58 hi021 (some ad231) (rd_L4 t223 x8_1).length c229_0 (l1.length : Int) (oT_ (by assumption)) q21 hroom21
                   have hr21 := Kd.F_take (m := ((l1.length : Int) : Int).toNat) hC21 (by omega)
                   have hy21 : y233.length = ((l1.length : Int) : Int).toNat := (by rw [Ny233.out, List.length_take]; omega)
                   rw [← Ny233.out] at hr21
                   rw [← hy21] at hcut21
                   have HO237 := Aside0.mk (show Kd.V k27 27 _ w.heap.size _ (.slice (some ad231) y233.length c229_0) y233 from Kd.V_mk (by omega) hr21)
                   have HC237 := Aside0.mk (show y233.length ≤ c229_0 from by omega)
                   clear hr21 hC21 hroom21 hi021 hsz21
                   have KY21 := Aside0.mk hy21
                   clear hy21
                   replace q21 := eq_true q21
                   go_wp2_with (first | ((with_reducible refine gate_builtin (b := .append) (xs := #[.tmp 49, .tmp 58]) rfl ?_); (try (refine gate_guard (by rfl) ?_; dsimp only)); at_builtin; refine Kd.N_append (Kd.slice 27 k27) (w0 := w) w.heap.size rfl (.tmp 49) (.tmp 58) 37 58 (.slice none 0 0) 24 rfl Tryd.underlying37 info58 rfl (by decide) (by omega) u7 x7_1 y233 [.slice (some ad231) y233.length c229_0] (fun k_ => k_ ≠ gb227) (fun k_ => ((fun k_ => k_ ≠ gb227)) k_ ∧ some k_ ≠ (u7 : Value).ownBlock) rfl rfl ?aP (fun _ hk => hk) ?aF ?aO ?aB ?aS ?aL ?_; (case aP => exact (Kd.FK_slice_mk (Kd.V_reads' (Kd.V_mono (ok' := (fun k_ => ((fun k_ => k_ ≠ gb227)) k_ ∧ some k_ ≠ (u7 : Value).ownBlock)) (HO237.out) (fun k_ hk => ⟨hk.2, hk.1⟩))).2.1 (Kd.V_F (Kd.V_mono (ok' := (fun k_ => ((fun k_ => k_ ≠ gb227)) k_ ∧ some k_ ≠ (u7 : Value).ownBlock)) (HO237.out) (fun k_ hk => ⟨hk.2, hk.1⟩))))); (case aB => exact (by repeat (first | (with_reducible first | exact HB.out | apply bA_ | apply bN_ | apply b1_ | refine below_set ?_ GE227.out) | exact HB.out))); (case aF => exact (fun k_ hk => Kd.freshB (g := gb227) (o := .cells #[.slice (some ad229) t223.length co10, .int .i64 t226] 41 (0, 0)) (by (with_reducible repeat (first | refine blk_drewN ?_ _ | refine blk_drew ?_ | refine blk_alloc ?_ _)); exact BK227.out) k_ hk)); (case aO => exact (by (with_reducible repeat (first | apply Kd.nA_ | apply Kd.nN_ | apply Kd.nD_)); exact HO_7.out)); (case aS => exact (below_size (by repeat (first | (with_reducible first | exact HB.out | apply bA_ | apply bN_ | apply b1_ | refine below_set ?_ GE227.out) | exact HB.out)))); (case aL => have := LMc19.out; omega); intro v239 w22 ho hb hg hat; rw [← Ny238.out] at ho; have n0_ := Aside0.mk (Kd.V_afterv (ok := (fun k_ => k_ ≠ gb227)) (by (with_reducible repeat (first | apply Kd.vA_ | apply Kd.vN_ | apply Kd.vD_)); exact Kd.V_mono HO_228000.out (fun _ hk => ⟨hk.2, hk.1⟩)) hg hat); have n1_ := Aside0.mk (blk_grown (g := gb227) (o := .cells #[.slice (some ad229) t223.length co10, .int .i64 t226] 41 (0, 0)) (by (with_reducible repeat (first | refine blk_drewN ?_ _ | refine blk_drew ?_ | refine blk_alloc ?_ _)); exact BK227.out) hg (Kd.N_ne HO_7.out BK227.out (by decide))); have n2_ := Aside0.mk (Kd.V_afterv (ok := (fun k_ => k_ ≠ gb227)) (by (with_reducible repeat (first | apply Kd.vA_ | apply Kd.vN_ | apply Kd.vD_)); exact Kd.V_mono HL229_0.out (fun _ hk => ⟨hk.2, hk.1⟩)) hg hat); have n3_ := Aside0.mk (Kd.V_afterv (ok := (fun k_ => k_ ≠ gb227)) (by (with_reducible repeat (first | apply Kd.vA_ | apply Kd.vN_ | apply Kd.vD_)); exact Kd.V_mono HL230_0.out (fun _ hk => ⟨hk.2, hk.1⟩)) hg hat); have n4_ := Aside0.mk (Kd.V_afterv (ok := (fun k_ => k_ ≠ gb227)) (by (with_reducible repeat (first | apply Kd.vA_ | apply Kd.vN_ | apply Kd.vD_)); exact Kd.V_mono HL232_0.out (fun _ hk => ⟨hk.2, hk.1⟩)) hg hat); have n5_ := Aside0.mk (Kd.V_afterv (ok := (fun k_ => k_ ≠ gb227)) (by (with_reducible repeat (first | apply Kd.vA_ | apply Kd.vN_ | apply Kd.vD_)); exact Kd.V_mono HO237.out (fun _ hk => ⟨hk.2, hk.1⟩)) hg hat); have n6_ := Aside0.mk (hb); have n7_ := Aside0.mk (ho); clear HO_228000; clear BK227; clear HL229_0; clear HL230_0; clear HL232_0; clear HO237; clear HB; clear HO_7; have HO_228000 := n0_; have BK227 := n1_; have HL229_0 := n2_; have HL230_0 := n3_; have HL232_0 := n4_; have HO237 := n5_; have HB := n6_; have HO240 := n7_; clear n0_ n1_ n2_ n3_ n4_ n5_ n6_ n7_; clear ho hb hg hat))
                   go_roundg k1
                   case measure => have := HK1.out; omega
                   case rel => exact ⟨(wrap64 (x6_1 + ((rd_T27 (rd_L4 t223 x8_1) (l1.length : Int)).f1))), (y238), (wrap64 (x8_1 + 1)), (by first | rfl | (simp; done) | (simp [*]; done)), (by first | rfl | (simp; done) | (simp [*]; done)), H', ⟨by have := HK1.out; omega⟩, ⟨by (with_reducible repeat (first | apply Kd.nA_ | apply Kd.nN_ | apply Kd.nD_)); exact HO240.out⟩, ⟨by (with_reducible repeat (first | apply Kd.vA_ | apply Kd.vN_ | apply Kd.vD_)); exact Kd.V_mono HO_228000.out (fun _ hk => ⟨hk.2, hk.1⟩)⟩, ⟨by (with_reducible repeat (first | refine blk_drewN ?_ _ | refine blk_drew ?_ | refine blk_alloc ?_ _)); exact BK227.out⟩, ⟨by repeat (first | (with_reducible first | exact HB.out | apply bA_ | apply bN_ | apply b1_ | refine below_set ?_ GE227.out) | exact HB.out)⟩⟩
                 · rw [if_neg c19] at H
                   exact absurd H (by simp)
               · rw [if_neg c18] at H
                 exact absurd H (by simp)
             · rw [if_neg c16] at H
               exact absurd H (by simp)
           · rw [if_neg c15] at H
             exact absurd H (by simp)
         · rw [if_neg c14] at H
           have c14b0 : (((rd_L4 t223 x8_1).length : Int) == (wrap64 ((l1.length : Int) + 1))) = false := beq_eq_false_iff_ne.mpr c14
           have c14b1 : (((rd_L4 t223 x8_1).length : Int) != (wrap64 ((l1.length : Int) + 1))) = true := bne_iff_ne.mpr c14
           obtain rfl := Option.some.inj H
           have hcz23_0 : wr.cell? ⟨gb227, 0, none⟩ = some (.slice Ao10 t223.length co10) := (blk_cell BK227.out 0).trans rfl
           have hcz23_1 : wr.cell? ⟨gb227, 1, none⟩ = some (.int .i64 t226) := (blk_cell BK227.out 1).trans rfl
           have hfz23_0 := blk_frozen BK227.out 0
           have hfz23_1 := blk_frozen BK227.out 1
           have p229 : 0 ≤ (x8_1 : Int) := oT_ (by assumption)
           have q229 : x8_1 < (t223.length : Int) := oT_ (by assumption)
           obtain ⟨ad229, A229_0, c229_0, e229, hx229_0, hl229_0, hi229_0⟩ := at_L4 (Kd.V_reads' HO_228000.out).2.2 x8_1 p229 q229
           cases e229
           obtain ⟨ce229, hce229, hMe229, hcc229⟩ := Kd.V_get HO_228000.out [] x8_1 p229 (by first | exact q229 | exact oT_ (by assumption) | (have e_ := (Kd.V_reads' HO_228000.out).1; omega))
           obtain ⟨ua229_0, uc229_0, rfl, ul229_0, ge229_0⟩ := Kd.FK_slice_open hMe229
           have hv229_0 := hcc229 0 _ rfl
           rw [Nat.add_zero, show ((Kd.slice 27 k27)).sz = 1 from rfl, Nat.mul_one] at hv229_0
           replace hv229_0 := Option.some.inj (hv229_0.symm.trans hx229_0)
           injection hv229_0 with hva_ hvn_ hvc_
           rw [hva_] at ge229_0
           rw [hvc_] at ul229_0
           have HL229_0 := Aside0.mk (show Kd.V k27 27 _ w.heap.size _ _ (rd_L4 t223 x8_1) from Kd.V_mk ul229_0 ge229_0)
           clear hva_ hvn_ hvc_ ge229_0 ul229_0
           clear hcc229 hce229
           have HR229_0 := Aside0.mk hi229_0
           have HC229_0 := Aside0.mk hl229_0
           clear hi229_0 hl229_0
           replace p229 := eq_true p229
           replace q229 := eq_true q229
           go_wp2
           go_ret
           exact ⟨by first | rfl | (simp [*, errW_none, errW_some] <;> rfl), by repeat (first | (with_reducible first | exact HB.out | apply bA_ | apply bN_ | apply b1_ | refine below_set ?_ GE227.out) | exact HB.out)⟩
       · rw [if_neg c13] at H
         exact absurd H (by simp)
     · rw [if_neg c12] at H
       have c12b0 : decide (x8_1 < (t223.length : Int)) = false := dF_ c12
       clear c12
       replace H := Option.bind_eq_some_iff.mp H
       obtain ⟨⟨t241, t244⟩, A240, H⟩ := H
       replace H : (if t244 = 0 then (if x6_1 = (l0.length : Int) then (if (t241.length : Int) = (x7_1.length : Int) then ((w6_awake.f).bind fun t245 => (some t245)) else (some false)) else (some false)) else (some false)) = some r := H
       have A24 := Aside0.mk A240
       clear A240
       by_cases c25 : t244 = 0
       · rw [if_pos c25] at H
         have c25b0 : (t244 == 0) = true := beq_iff_eq.mpr c25
         have c25b1 : (t244 != 0) = false := bne_eq_false_iff_eq.mpr c25
         clear c25
         by_cases c26 : x6_1 = (l0.length : Int)
         · rw [if_pos c26] at H
           have c26b0 : (x6_1 == (l0.length : Int)) = true := beq_iff_eq.mpr c26
           have c26b1 : (x6_1 != (l0.length : Int)) = false := bne_eq_false_iff_eq.mpr c26
           clear c26
           by_cases c27 : (t241.length : Int) = (x7_1.length : Int)
           · rw [if_pos c27] at H
             have c27b0 : ((t241.length : Int) == (x7_1.length : Int)) = true := beq_iff_eq.mpr c27
             have c27b1 : ((t241.length : Int) != (x7_1.length : Int)) = false := bne_eq_false_iff_eq.mpr c27
             have c27b2 : (t241.length == x7_1.length) = true := by first | simpa using c27 | (simp at c27 ⊢; omega)
             clear c27
             replace H := Option.bind_eq_some_iff.mp H
             obtain ⟨t245, A280, H⟩ := H
             replace H : (some t245) = some r := H
             have A28 := Aside0.mk A280
             clear A280
             obtain rfl := Option.some.inj H
             have hcz29_0 : wr.cell? ⟨gb227, 0, none⟩ = some (.slice Ao10 t223.length co10) := (blk_cell BK227.out 0).trans rfl
             have hcz29_1 : wr.cell? ⟨gb227, 1, none⟩ = some (.int .i64 t226) := (blk_cell BK227.out 1).trans rfl
             have hfz29_0 := blk_frozen BK227.out 0
             have hfz29_1 := blk_frozen BK227.out 1
             obtain ⟨Ao30, co30, eo30⟩ := Kd.N_slice HO_7.out
             subst eo30
             go_wp2_with (first | ((with_reducible refine gate_callee (f := 25) rfl ?_); refine goesL_ (some 62) rfl rfl Tryd.func25 (by kernel_rfl) rfl #[.slice Ao30 x7_1.length co30] rfl (by (try simp only [List.map_toArray, List.map_cons, List.map_nil]); first | done | rfl | (simp only [List.length_drop, List.length_take]; rfl)) ?_; (with_reducible refine (bag_Distinct.calls _ _ x7_1 t241 t244 _ ?side1 ?side2 ?sideT A24.out).mono ?_); (case sideT => exact LaidT.below HT.out (by repeat (first | (with_reducible first | exact HB.out | apply bA_ | apply bN_ | apply b1_ | refine below_set ?_ GE227.out) | exact HB.out))); (case side1 => repeat (first | exact (Kd.N_reads' HO_7.out).2.2 | (with_reducible refine Kd.cA_ ?_ _) | (with_reducible refine Kd.cN_ ?_ _) | (with_reducible refine Kd.cD_ ?_))); (case side2 => exact (Kd.N_reads' HO_7.out).2.1); rintro e w31 ⟨v242, rfl, ho0, hb⟩; refine ⟨_, rfl, ?_⟩; have n0_ := Aside0.mk (Kd.N_below (by (with_reducible repeat (first | apply Kd.nA_ | apply Kd.nN_ | apply Kd.nD_)); exact HO_7.out) hb); have n1_ := Aside0.mk (Kd.V_below (by (with_reducible repeat (first | apply Kd.vA_ | apply Kd.vN_ | apply Kd.vD_)); exact HO_228000.out) hb); have n2_ := Aside0.mk (Kd.V_lower (Kd.V_mono (ok' := fun k_ => some k_ ≠ (.slice Ao30 x7_1.length co30 : Value).ownBlock ∧ k_ ≠ gb227) ho0 (fun k_ hk_ => ⟨(Kd.fresh' (Kd.N_lt (by (with_reducible repeat (first | apply Kd.nA_ | apply Kd.nN_ | apply Kd.nD_)); exact HO_7.out)) k_ hk_), (Kd.freshB (g := gb227) (o := .cells #[.slice Ao10 t223.length co10, .int .i64 t226] 41 (0, 0)) (by (with_reducible repeat (first | refine blk_drewN ?_ _ | refine blk_drew ?_ | refine blk_alloc ?_ _)); exact BK227.out) k_ hk_)⟩)) (below_size (by repeat (first | (with_reducible first | exact HB.out | apply bA_ | apply bN_ | apply b1_ | refine below_set ?_ GE227.out) | exact HB.out)))); have n3_ := Aside0.mk (blk_below (g := gb227) (o := .cells #[.slice Ao10 t223.length co10, .int .i64 t226] 41 (0, 0)) (by (with_reducible repeat (first | refine blk_drewN ?_ _ | refine blk_drew ?_ | refine blk_alloc ?_ _)); exact BK227.out) hb); have n4_ := Aside0.mk (below_step (by repeat (first | (with_reducible first | exact HB.out | apply bA_ | apply bN_ | apply b1_ | refine below_set ?_ GE227.out) | exact HB.out)) hb); clear HO_7; clear HO_228000; clear BK227; clear HB; have HO_7 := n0_; have HO_228000 := n1_; have HO243 := n2_; have BK227 := n3_; have HB := n4_; clear n0_ n1_ n2_ n3_ n4_; (try clear hb); (try clear hb2); (try clear hk); (try clear hi); (try clear ho0); obtain ⟨Ao32, co32, eo32⟩ := Kd.V_slice HO243.out; subst eo32) | (go_at_call 11; (with_reducible refine (w6_awake.calls  t245 _ ?sideT A28.out).mono ?_); (case sideT => exact LaidT.below HT.out (by repeat (first | (with_reducible first | exact HB.out | apply bA_ | apply bN_ | apply b1_ | refine below_set ?_ GE227.out) | exact HB.out))); rintro e w33 ⟨rfl, hb⟩; have n0_ := Aside0.mk (Kd.N_below (by (with_reducible repeat (first | apply Kd.nA_ | apply Kd.nN_ | apply Kd.nD_)); exact HO_7.out) hb); have n1_ := Aside0.mk (Kd.V_below (by (with_reducible repeat (first | apply Kd.vA_ | apply Kd.vN_ | apply Kd.vD_)); exact HO_228000.out) hb); have n2_ := Aside0.mk (Kd.V_below (by (with_reducible repeat (first | apply Kd.vA_ | apply Kd.vN_ | apply Kd.vD_)); exact HO243.out) hb); have n3_ := Aside0.mk (blk_below (g := gb227) (o := .cells #[.slice Ao10 t223.length co10, .int .i64 t226] 41 (0, 0)) (by (with_reducible repeat (first | refine blk_drewN ?_ _ | refine blk_drew ?_ | refine blk_alloc ?_ _)); exact BK227.out) hb); have n4_ := Aside0.mk (below_step (by repeat (first | (with_reducible first | exact HB.out | apply bA_ | apply bN_ | apply b1_ | refine below_set ?_ GE227.out) | exact HB.out)) hb); clear HO_7; clear HO_228000; clear HO243; clear BK227; clear HB; have HO_7 := n0_; have HO_228000 := n1_; have HO243 := n2_; have BK227 := n3_; have HB := n4_; clear n0_ n1_ n2_ n3_ n4_; (try clear hb); (try clear hb2); (try clear hk); (try clear hi)))
             go_ret
             exact ⟨by first | rfl | (simp [*, errW_none, errW_some] <;> rfl), by repeat (first | (with_reducible first | exact HB.out | apply bA_ | apply bN_ | apply b1_ | refine below_set ?_ GE227.out) | exact HB.out)⟩
           · rw [if_neg c27] at H
             have c27b0 : ((t241.length : Int) == (x7_1.length : Int)) = false := beq_eq_false_iff_ne.mpr c27
             have c27b1 : ((t241.length : Int) != (x7_1.length : Int)) = true := bne_iff_ne.mpr c27
             have c27b2 : (t241.length == x7_1.length) = false := by first | simpa using c27 | (simp at c27 ⊢; omega)
             obtain rfl := Option.some.inj H
             have hcz34_0 : wr.cell? ⟨gb227, 0, none⟩ = some (.slice Ao10 t223.length co10) := (blk_cell BK227.out 0).trans rfl
             have hcz34_1 : wr.cell? ⟨gb227, 1, none⟩ = some (.int .i64 t226) := (blk_cell BK227.out 1).trans rfl
             have hfz34_0 := blk_frozen BK227.out 0
             have hfz34_1 := blk_frozen BK227.out 1
             obtain ⟨Ao35, co35, eo35⟩ := Kd.N_slice HO_7.out
             subst eo35
             go_wp2_with (first | ((with_reducible refine gate_callee (f := 25) rfl ?_); refine goesL_ (some 62) rfl rfl Tryd.func25 (by kernel_rfl) rfl #[.slice Ao35 x7_1.length co35] rfl (by (try simp only [List.map_toArray, List.map_cons, List.map_nil]); first | done | rfl | (simp only [List.length_drop, List.length_take]; rfl)) ?_; (with_reducible refine (bag_Distinct.calls _ _ x7_1 t241 t244 _ ?side1 ?side2 ?sideT A24.out).mono ?_); (case sideT => exact LaidT.below HT.out (by repeat (first | (with_reducible first | exact HB.out | apply bA_ | apply bN_ | apply b1_ | refine below_set ?_ GE227.out) | exact HB.out))); (case side1 => repeat (first | exact (Kd.N_reads' HO_7.out).2.2 | (with_reducible refine Kd.cA_ ?_ _) | (with_reducible refine Kd.cN_ ?_ _) | (with_reducible refine Kd.cD_ ?_))); (case side2 => exact (Kd.N_reads' HO_7.out).2.1); rintro e w36 ⟨v242, rfl, ho0, hb⟩; refine ⟨_, rfl, ?_⟩; have n0_ := Aside0.mk (Kd.N_below (by (with_reducible repeat (first | apply Kd.nA_ | apply Kd.nN_ | apply Kd.nD_)); exact HO_7.out) hb); have n1_ := Aside0.mk (Kd.V_below (by (with_reducible repeat (first | apply Kd.vA_ | apply Kd.vN_ | apply Kd.vD_)); exact HO_228000.out) hb); have n2_ := Aside0.mk (Kd.V_lower (Kd.V_mono (ok' := fun k_ => some k_ ≠ (.slice Ao35 x7_1.length co35 : Value).ownBlock ∧ k_ ≠ gb227) ho0 (fun k_ hk_ => ⟨(Kd.fresh' (Kd.N_lt (by (with_reducible repeat (first | apply Kd.nA_ | apply Kd.nN_ | apply Kd.nD_)); exact HO_7.out)) k_ hk_), (Kd.freshB (g := gb227) (o := .cells #[.slice Ao10 t223.length co10, .int .i64 t226] 41 (0, 0)) (by (with_reducible repeat (first | refine blk_drewN ?_ _ | refine blk_drew ?_ | refine blk_alloc ?_ _)); exact BK227.out) k_ hk_)⟩)) (below_size (by repeat (first | (with_reducible first | exact HB.out | apply bA_ | apply bN_ | apply b1_ | refine below_set ?_ GE227.out) | exact HB.out)))); have n3_ := Aside0.mk (blk_below (g := gb227) (o := .cells #[.slice Ao10 t223.length co10, .int .i64 t226] 41 (0, 0)) (by (with_reducible repeat (first | refine blk_drewN ?_ _ | refine blk_drew ?_ | refine blk_alloc ?_ _)); exact BK227.out) hb); have n4_ := Aside0.mk (below_step (by repeat (first | (with_reducible first | exact HB.out | apply bA_ | apply bN_ | apply b1_ | refine below_set ?_ GE227.out) | exact HB.out)) hb); clear HO_7; clear HO_228000; clear BK227; clear HB; have HO_7 := n0_; have HO_228000 := n1_; have HO243 := n2_; have BK227 := n3_; have HB := n4_; clear n0_ n1_ n2_ n3_ n4_; (try clear hb); (try clear hb2); (try clear hk); (try clear hi); (try clear ho0); obtain ⟨Ao37, co37, eo37⟩ := Kd.V_slice HO243.out; subst eo37))
             go_ret
             exact ⟨by first | rfl | (simp [*, errW_none, errW_some] <;> rfl), by repeat (first | (with_reducible first | exact HB.out | apply bA_ | apply bN_ | apply b1_ | refine below_set ?_ GE227.out) | exact HB.out)⟩
         · rw [if_neg c26] at H
           have c26b0 : (x6_1 == (l0.length : Int)) = false := beq_eq_false_iff_ne.mpr c26
           have c26b1 : (x6_1 != (l0.length : Int)) = true := bne_iff_ne.mpr c26
           obtain rfl := Option.some.inj H
           have hcz38_0 : wr.cell? ⟨gb227, 0, none⟩ = some (.slice Ao10 t223.length co10) := (blk_cell BK227.out 0).trans rfl
           have hcz38_1 : wr.cell? ⟨gb227, 1, none⟩ = some (.int .i64 t226) := (blk_cell BK227.out 1).trans rfl
           have hfz38_0 := blk_frozen BK227.out 0
           have hfz38_1 := blk_frozen BK227.out 1
           obtain ⟨Ao39, co39, eo39⟩ := Kd.N_slice HO_7.out
           subst eo39
           go_wp2_with (first | ((with_reducible refine gate_callee (f := 25) rfl ?_); refine goesL_ (some 62) rfl rfl Tryd.func25 (by kernel_rfl) rfl #[.slice Ao39 x7_1.length co39] rfl (by (try simp only [List.map_toArray, List.map_cons, List.map_nil]); first | done | rfl | (simp only [List.length_drop, List.length_take]; rfl)) ?_; (with_reducible refine (bag_Distinct.calls _ _ x7_1 t241 t244 _ ?side1 ?side2 ?sideT A24.out).mono ?_); (case sideT => exact LaidT.below HT.out (by repeat (first | (with_reducible first | exact HB.out | apply bA_ | apply bN_ | apply b1_ | refine below_set ?_ GE227.out) | exact HB.out))); (case side1 => repeat (first | exact (Kd.N_reads' HO_7.out).2.2 | (with_reducible refine Kd.cA_ ?_ _) | (with_reducible refine Kd.cN_ ?_ _) | (with_reducible refine Kd.cD_ ?_))); (case side2 => exact (Kd.N_reads' HO_7.out).2.1); rintro e w40 ⟨v242, rfl, ho0, hb⟩; refine ⟨_, rfl, ?_⟩; have n0_ := Aside0.mk (Kd.N_below (by (with_reducible repeat (first | apply Kd.nA_ | apply Kd.nN_ | apply Kd.nD_)); exact HO_7.out) hb); have n1_ := Aside0.mk (Kd.V_below (by (with_reducible repeat (first | apply Kd.vA_ | apply Kd.vN_ | apply Kd.vD_)); exact HO_228000.out) hb); have n2_ := Aside0.mk (Kd.V_lower (Kd.V_mono (ok' := fun k_ => some k_ ≠ (.slice Ao39 x7_1.length co39 : Value).ownBlock ∧ k_ ≠ gb227) ho0 (fun k_ hk_ => ⟨(Kd.fresh' (Kd.N_lt (by (with_reducible repeat (first | apply Kd.nA_ | apply Kd.nN_ | apply Kd.nD_)); exact HO_7.out)) k_ hk_), (Kd.freshB (g := gb227) (o := .cells #[.slice Ao10 t223.length co10, .int .i64 t226] 41 (0, 0)) (by (with_reducible repeat (first | refine blk_drewN ?_ _ | refine blk_drew ?_ | refine blk_alloc ?_ _)); exact BK227.out) k_ hk_)⟩)) (below_size (by repeat (first | (with_reducible first | exact HB.out | apply bA_ | apply bN_ | apply b1_ | refine below_set ?_ GE227.out) | exact HB.out)))); have n3_ := Aside0.mk (blk_below (g := gb227) (o := .cells #[.slice Ao10 t223.length co10, .int .i64 t226] 41 (0, 0)) (by (with_reducible repeat (first | refine blk_drewN ?_ _ | refine blk_drew ?_ | refine blk_alloc ?_ _)); exact BK227.out) hb); have n4_ := Aside0.mk (below_step (by repeat (first | (with_reducible first | exact HB.out | apply bA_ | apply bN_ | apply b1_ | refine below_set ?_ GE227.out) | exact HB.out)) hb); clear HO_7; clear HO_228000; clear BK227; clear HB; have HO_7 := n0_; have HO_228000 := n1_; have HO243 := n2_; have BK227 := n3_; have HB := n4_; clear n0_ n1_ n2_ n3_ n4_; (try clear hb); (try clear hb2); (try clear hk); (try clear hi); (try clear ho0)))
           go_ret
           exact ⟨by first | rfl | (simp [*, errW_none, errW_some] <;> rfl), by repeat (first | (with_reducible first | exact HB.out | apply bA_ | apply bN_ | apply b1_ | refine below_set ?_ GE227.out) | exact HB.out)⟩
       · rw [if_neg c25] at H
         have c25b0 : (t244 == 0) = false := beq_eq_false_iff_ne.mpr c25
         have c25b1 : (t244 != 0) = true := bne_iff_ne.mpr c25
         obtain rfl := Option.some.inj H
         have hcz41_0 : wr.cell? ⟨gb227, 0, none⟩ = some (.slice Ao10 t223.length co10) := (blk_cell BK227.out 0).trans rfl
         have hcz41_1 : wr.cell? ⟨gb227, 1, none⟩ = some (.int .i64 t226) := (blk_cell BK227.out 1).trans rfl
         have hfz41_0 := blk_frozen BK227.out 0
         have hfz41_1 := blk_frozen BK227.out 1
         obtain ⟨Ao42, co42, eo42⟩ := Kd.N_slice HO_7.out
         subst eo42
         go_wp2_with (first | ((with_reducible refine gate_callee (f := 25) rfl ?_); refine goesL_ (some 62) rfl rfl Tryd.func25 (by kernel_rfl) rfl #[.slice Ao42 x7_1.length co42] rfl (by (try simp only [List.map_toArray, List.map_cons, List.map_nil]); first | done | rfl | (simp only [List.length_drop, List.length_take]; rfl)) ?_; (with_reducible refine (bag_Distinct.calls _ _ x7_1 t241 t244 _ ?side1 ?side2 ?sideT A24.out).mono ?_); (case sideT => exact LaidT.below HT.out (by repeat (first | (with_reducible first | exact HB.out | apply bA_ | apply bN_ | apply b1_ | refine below_set ?_ GE227.out) | exact HB.out))); (case side1 => repeat (first | exact (Kd.N_reads' HO_7.out).2.2 | (with_reducible refine Kd.cA_ ?_ _) | (with_reducible refine Kd.cN_ ?_ _) | (with_reducible refine Kd.cD_ ?_))); (case side2 => exact (Kd.N_reads' HO_7.out).2.1); rintro e w43 ⟨v242, rfl, ho0, hb⟩; refine ⟨_, rfl, ?_⟩; have n0_ := Aside0.mk (Kd.N_below (by (with_reducible repeat (first | apply Kd.nA_ | apply Kd.nN_ | apply Kd.nD_)); exact HO_7.out) hb); have n1_ := Aside0.mk (Kd.V_below (by (with_reducible repeat (first | apply Kd.vA_ | apply Kd.vN_ | apply Kd.vD_)); exact HO_228000.out) hb); have n2_ := Aside0.mk (Kd.V_lower (Kd.V_mono (ok' := fun k_ => some k_ ≠ (.slice Ao42 x7_1.length co42 : Value).ownBlock ∧ k_ ≠ gb227) ho0 (fun k_ hk_ => ⟨(Kd.fresh' (Kd.N_lt (by (with_reducible repeat (first | apply Kd.nA_ | apply Kd.nN_ | apply Kd.nD_)); exact HO_7.out)) k_ hk_), (Kd.freshB (g := gb227) (o := .cells #[.slice Ao10 t223.length co10, .int .i64 t226] 41 (0, 0)) (by (with_reducible repeat (first | refine blk_drewN ?_ _ | refine blk_drew ?_ | refine blk_alloc ?_ _)); exact BK227.out) k_ hk_)⟩)) (below_size (by repeat (first | (with_reducible first | exact HB.out | apply bA_ | apply bN_ | apply b1_ | refine below_set ?_ GE227.out) | exact HB.out)))); have n3_ := Aside0.mk (blk_below (g := gb227) (o := .cells #[.slice Ao10 t223.length co10, .int .i64 t226] 41 (0, 0)) (by (with_reducible repeat (first | refine blk_drewN ?_ _ | refine blk_drew ?_ | refine blk_alloc ?_ _)); exact BK227.out) hb); have n4_ := Aside0.mk (below_step (by repeat (first | (with_reducible first | exact HB.out | apply bA_ | apply bN_ | apply b1_ | refine below_set ?_ GE227.out) | exact HB.out)) hb); clear HO_7; clear HO_228000; clear BK227; clear HB; have HO_7 := n0_; have HO_228000 := n1_; have HO243 := n2_; have BK227 := n3_; have HB := n4_; clear n0_ n1_ n2_ n3_ n4_; (try clear hb); (try clear hb2); (try clear hk); (try clear hi); (try clear ho0)))
         go_ret
         exact ⟨by first | rfl | (simp [*, errW_none, errW_some] <;> rfl), by repeat (first | (with_reducible first | exact HB.out | apply bA_ | apply bN_ | apply b1_ | refine below_set ?_ GE227.out) | exact HB.out)⟩
 · rw [if_neg c4] at H
   have c4b0 : (t226 == 0) = false := beq_eq_false_iff_ne.mpr c4
   have c4b1 : (t226 != 0) = true := bne_iff_ne.mpr c4
   replace H := Option.bind_eq_some_iff.mp H
   obtain ⟨t228, A440, H⟩ := H
   replace H : (some t228) = some r := H
   have A44 := Aside0.mk A440
   clear A440
   obtain rfl := Option.some.inj H
   go_enter Tryd.func10, Tryd.ntmps10
   go_wp2_with (first | ((with_reducible refine gate_dst (N := 14) rfl ?_); (try (refine gate_guard (by rfl) ?_; dsimp only)); refine Kd.R_lit k47 _ 47 ?hg (N := 14) ?hd (xs := ([(⟨0, 0, false⟩ : S47)] : List (S47))) (inner := [.int .u8 0, .int .i64 0, .bool false]) (ok := fun _ => True) (okp := fun _ => True) ?hr ?hp (fun _ hk => hk) trivial (Below.refl _ _) (Nat.le_refl _) (by simp) ?_; (case hd => rfl); (case hg => rfl); (case hr => first | (go_simp; done) | (go_simp; rfl)); (case hp => exact (Reps.c3 (show Kd.M k47 _ _ _ (⟨0, 0, false⟩ : S47) [.int .u8 0, .int .i64 0, .bool false] from (k47_mkM _ _ _ (⟨0, 0, false⟩ : S47) )) (Reps.none _ _))); intro v221 w45 ho46 hb hg_ hnew_; clear hg_ hnew_; (first | rw [← Ny220.out] at ho46 | (simp only [Int.reduceToNat] at ho46; rw [← Ny220.out] at ho46)); have n0_ := Aside0.mk (Kd.R_lower ho46 (below_size (by repeat (first | (with_reducible first | exact HB.out | apply bA_ | apply bN_ | apply b1_) | exact HB.out)))); have n1_ := Aside0.mk (below_step (by repeat (first | (with_reducible first | exact HB.out | apply bA_ | apply bN_ | apply b1_) | exact HB.out)) hb); clear HB; have HO222 := n0_; have HB := n1_; clear n0_ n1_; clear hb ho46; obtain ⟨Ao47, co47, eo47⟩ := Kd.R_slice HO222.out; subst eo47) | ((with_reducible refine gate_callee (f := 15) rfl ?_); refine goesL_ (some 15) rfl rfl Tryd.func15 (by kernel_rfl) rfl #[.slice A0 l0.length c0, .slice A1 l1.length c1, .slice Ao47 y220.length co47] rfl (by (try simp only [List.map_toArray, List.map_cons, List.map_nil]); first | done | rfl | (simp only [List.length_drop, List.length_take]; rfl)) ?_; (with_reducible refine (bag_Group.calls _ _ l0 _ _ l1 _ _ y220 t223 t226 _ ?side1 ?side2 ?side3 ?side4 ?side5 ?side6 ?sideT A3.out).mono ?_); (case sideT => exact LaidT.below HT.out (by repeat (first | (with_reducible first | exact HB.out | apply bA_ | apply bN_ | apply b1_ | refine below_set ?_ GE227.out) | exact HB.out))); (case side1 => repeat (first | exact (Kd.C_below HR0.out HB.out) | (with_reducible refine Kd.cA_ ?_ _) | (with_reducible refine Kd.cN_ ?_ _) | (with_reducible refine Kd.cD_ ?_))); (case side2 => exact HC0.out); (case side3 => repeat (first | exact (Kd.C_below HR1.out HB.out) | (with_reducible refine Kd.cA_ ?_ _) | (with_reducible refine Kd.cN_ ?_ _) | (with_reducible refine Kd.cD_ ?_))); (case side4 => exact HC1.out); (case side5 => repeat (first | exact (Kd.R_reads' HO222.out).2.2 | (with_reducible refine Kd.cA_ ?_ _) | (with_reducible refine Kd.cN_ ?_ _) | (with_reducible refine Kd.cD_ ?_))); (case side6 => exact (Kd.R_reads' HO222.out).2.1); rintro e w48 ⟨v224, rfl, ho0, hb⟩; refine ⟨_, rfl, ?_⟩; have n0_ := Aside0.mk (Kd.R_below (by (with_reducible repeat (first | apply Kd.R_alloc | apply Kd.R_drewN | apply Kd.R_drew)); exact HO222.out) hb); have n1_ := Aside0.mk (Kd.V_lower (Kd.V_mono (ok' := fun k_ => some k_ ≠ (.slice Ao47 y220.length co47 : Value).ownBlock) ho0 (fun k_ hk_ => (Kd.fresh' (Kd.R_lt (by (with_reducible repeat (first | apply Kd.R_alloc | apply Kd.R_drewN | apply Kd.R_drew)); exact HO222.out)) k_ hk_))) (below_size (by repeat (first | (with_reducible first | exact HB.out | apply bA_ | apply bN_ | apply b1_) | exact HB.out)))); have n2_ := Aside0.mk (below_step (by repeat (first | (with_reducible first | exact HB.out | apply bA_ | apply bN_ | apply b1_) | exact HB.out)) hb); clear HO222; clear HB; have HO222 := n0_; have HO225 := n1_; have HB := n2_; clear n0_ n1_ n2_; (try clear hb); (try clear hb2); (try clear hk); (try clear hi); (try clear ho0)) | ((with_reducible refine gate_dst (N := 5) rfl ?_); (try (refine gate_guard (by rfl) ?_; dsimp only)); refine box_event ?hg (N := 5) ?hd (cs := #[.slice none 0 0, .int .i64 0]) (t := 41) ?hr ?_; (case hd => rfl); (case hg => rfl); (case hr => first | (go_simp; done) | (go_simp; rfl)); intro gb227 hg w49 hbox hb; have n0_ := Aside0.mk (Kd.R_below (by (with_reducible repeat (first | apply Kd.R_alloc | apply Kd.R_drewN | apply Kd.R_drew)); exact HO222.out) hb); have n1_ := Aside0.mk (Kd.V_below (Kd.V_elderB (by (with_reducible repeat (first | apply Kd.vA_ | apply Kd.vN_ | apply Kd.vD_)); exact HO225.out) gb227 (Nat.le_of_eq hg.symm)) hb); have n2_ := Aside0.mk (below_step (by repeat (first | (with_reducible first | exact HB.out | apply bA_ | apply bN_ | apply b1_) | exact HB.out)) hb); have n3_ := Aside0.mk (hbox); have n4_ := Aside0.mk ((by rw [hg]; exact (below_size (by repeat (first | (with_reducible first | exact HB.out | apply bA_ | apply bN_ | apply b1_) | exact HB.out))) : w.heap.size ≤ gb227)); have n5_ := Aside0.mk ((by rw [hg]; exact (below_size (by repeat (first | (with_reducible first | exact HB.out | apply bA_ | apply bN_ | apply b1_) | exact HB.out))) : w.heap.size ≤ gb227)); clear HO222; clear HO225; clear HB; have HO222 := n0_; have HO225 := n1_; have HB := n2_; have BK227 := n3_; have GW227 := n4_; have GE227 := n5_; clear n0_ n1_ n2_ n3_ n4_ n5_; clear hb hbox hg; obtain ⟨Ao50, co50, eo50⟩ := Kd.V_slice HO225.out; subst eo50; have hcz51_0 : w49.cell? ⟨gb227, 0, none⟩ = some (.slice none 0 0) := (blk_cell BK227.out 0).trans rfl; have hcz51_1 : w49.cell? ⟨gb227, 1, none⟩ = some (.int .i64 0) := (blk_cell BK227.out 1).trans rfl; have hfz51_0 := blk_frozen BK227.out 0; have hfz51_1 := blk_frozen BK227.out 1) | ((with_reducible refine gate_callee (f := 11) rfl ?_); refine goesL_ (some 19) rfl rfl Tryd.func11 (by kernel_rfl) rfl #[] rfl (by (try simp only [List.map_toArray, List.map_cons, List.map_nil]); first | done | rfl | (simp only [List.length_drop, List.length_take]; rfl)) ?_; (with_reducible refine (w6_awake.calls  t228 _ ?sideT A44.out).mono ?_); (case sideT => exact LaidT.below HT.out (by repeat (first | (with_reducible first | exact HB.out | apply bA_ | apply bN_ | apply b1_ | refine below_set ?_ GE227.out) | exact HB.out))); rintro e w52 ⟨rfl, hb⟩; refine ⟨_, rfl, ?_⟩; have n0_ := Aside0.mk (Kd.R_below (by (with_reducible repeat (first | apply Kd.R_alloc | apply Kd.R_drewN | apply Kd.R_drew)); exact (Kd.R_mono (Kd.R_far (p := ⟨gb227, 1, none⟩) (Kd.R_far (p := ⟨gb227, 0, none⟩) (Kd.R_types HO222.out BK227.out (by decide)) (fun _ hk => hk.2) (.slice Ao50 t223.length co50)) (fun _ hk => hk.2) (.int .i64 t226)) (fun _ h_ => h_.1))) hb); have n1_ := Aside0.mk (Kd.V_below (by (with_reducible repeat (first | apply Kd.vA_ | apply Kd.vN_ | apply Kd.vD_)); exact (Kd.V_mono (Kd.V_far (p := ⟨gb227, 1, none⟩) (Kd.V_far (p := ⟨gb227, 0, none⟩) (Kd.V_mono HO225.out (fun k_ hk => (⟨hk, hk.2⟩ : _ ∧ k_ ≠ gb227))) (fun _ hk => hk.2) (.slice Ao50 t223.length co50)) (fun _ hk => hk.2) (.int .i64 t226)) (fun _ h_ => h_.1))) hb); have n2_ := Aside0.mk (blk_below (g := gb227) (o := .cells #[.slice Ao50 t223.length co50, .int .i64 t226] 41 (0, 0)) (by (with_reducible repeat (first | refine blk_drewN ?_ _ | refine blk_drew ?_ | refine blk_alloc ?_ _)); refine blk_put (cs := #[.slice Ao50 t223.length co50, .int .i64 0]) ?_ 1 _ rfl; (with_reducible repeat (first | refine blk_drewN ?_ _ | refine blk_drew ?_ | refine blk_alloc ?_ _)); refine blk_put (cs := #[.slice none 0 0, .int .i64 0]) ?_ 0 _ rfl; (with_reducible repeat (first | refine blk_drewN ?_ _ | refine blk_drew ?_ | refine blk_alloc ?_ _)); exact BK227.out) hb); have n3_ := Aside0.mk (below_step (by repeat (first | (with_reducible first | exact HB.out | apply bA_ | apply bN_ | apply b1_ | refine below_set ?_ GE227.out) | exact HB.out)) hb); clear HO222; clear HO225; clear BK227; clear HB; have HO222 := n0_; have HO225 := n1_; have BK227 := n2_; have HB := n3_; clear n0_ n1_ n2_ n3_; (try clear hb); (try clear hb2); (try clear hk); (try clear hi)))
   go_ret
   exact ⟨by first | rfl | (simp [*, errW_none, errW_some] <;> rfl), by repeat (first | (with_reducible first | exact HB.out | apply bA_ | apply bN_ | apply b1_ | refine below_set ?_ GE227.out) | exact HB.out)⟩
end
end Go.Proofs.YtecgkcgfeghhgaaDoor.PAll
set_option linter.unusedVariables false
namespace Go.Proofs.YtecgkcgfeghhgaaDoor.PAll
open Go.RowKit Go.Proofs.YtecgkcgfeghhgaaDoorW.PrintWords Go.Proofs.YtecgkcgfeghhgaaDoorW.PrintLast Go.Proofs.YtecgkcgfeghhgaaDoorW.PrintMore
theorem distR_id : ∀ (l : List (List V)) (s : List ByteArray), l.Nodup → (∀ r ∈ l, nameOf r ∉ s) → distR s l = l
 | [], _, _, _ => rfl
 | r :: l, s, hn, h => by
  obtain ⟨h1, h2⟩ := List.nodup_cons.1 hn
  simp only [distR]
  rw [if_neg (h r List.mem_cons_self), distR_id l _ h2 (fun x hx hm => ?_)]
  rcases List.mem_cons.1 hm with e | e
  · exact h1 (name_inj e ▸ hx)
  · exact h x (List.mem_cons_of_mem _ hx) e
theorem keys_valid {l : List (List V)} {cols : List Int} (hv : validB l = true) (hc : ∀ n ∈ cols, hasB l n = true) : validB (keysR cols l) = true := by
 have hK : ∀ n : Int, ∃ K : Int, ∀ row ∈ l, validV (rd_T27 row n) = true ∧ ((rd_T27 row n).f0 = 0 ∨ (rd_T27 row n).f0 = K) := fun n => col_kind hv n
 refine validB_of (n := cols.length) (K := fun j => Classical.choose (hK (cols.getD j 0))) (fun r hr => ⟨key_len hr, keysR_valid hv hc r hr, fun j hj => ?_⟩)
 rcases mem_keysR.1 hr with ⟨_, rfl⟩ | ⟨_, row, hrow, rfl⟩
 · simp at hj
 · have hj2 : j < cols.length := by simpa [keyOf] using hj
   have := Classical.choose_spec (hK (cols.getD j 0)) row hrow
   have e : (keyOf cols row)[j] = rd_T27 row (cols.getD j 0) := by
    simp [keyOf, List.getD_eq_getElem?_getD, List.getElem?_eq_getElem hj2]
   rw [e]
   exact this.2
noncomputable def cvR (cols : List Int) (l : List (List V)) (key : List V) : Nat := (listR cols l (nameOf key)).length
noncomputable def coverR (cols : List Int) (l : List (List V)) (key : List V) : List V := key ++ [(⟨1, (cvR cols l key : Int), ⟨#[]⟩⟩ : V)]
theorem cov_nums (i n c t : Nat) (hi : i < n) (hc : c ≤ 1048576) (ht : t ≤ 5864062014804) : (i : Int) < n ∧ 0 ≤ (i : Int) ∧ ((c + 1 : Nat) : Int) = wrap64 ((c : Int) + 1) ∧ 0 ≤ (c : Int) ∧ (c : Int) < ((c + 1 : Nat) : Int) ∧ (c : Int) ≤ ((c + 1 : Nat) : Int) ∧ t < 5864062014805 := by
 unfold wrap64; omega
theorem cov_sum (a b : Nat) (h : a + b ≤ 1048586) : wrap64 ((a : Int) + (b : Int)) = ((a + b : Nat) : Int) := by unfold wrap64; omega
theorem cov_next (i n : Nat) (hi : i < n) (hn : n ≤ 1048600) : wrap64 ((i : Int) + 1) = ((i + 1 : Nat) : Int) := by unfold wrap64; omega
theorem cover_l0 (l : List (List V)) (cols : List Int) (K : List (List V)) (hl : ∀ key ∈ K, key.length = cols.length) (hK : K.length ≤ 1048600) (hc : cols.length ≤ 1048576) (hs : (K.map (cvR cols l)).sum = l.length) (hn : l.length ≤ 1048586) (hd : bag_Distinct.f K = some (sortR [] K, 0)) :
 ∀ (d i : Nat), i + d = K.length → Ev (fun k => w6_BagGroupsCover.l0 k l cols (((K.take i).map (cvR cols l)).sum : Int) (K.take i) (i : Int) (K.map (coverR cols l)) 0) true
 | 0, i, h => by
  have hi : i = K.length := by omega
  subst hi
  rw [List.take_length, hs]
  refine Ev.step (f := fun _ => some true) (fun k => ?_) (Ev.now _)
  simp only [w6_BagGroupsCover.l0, List.length_map]
  rw [if_neg (by omega), hd]
  simp only [Option.bind_some, if_true]
  rw [if_pos (by rw [(sortR_perm [] K).length_eq])]
  rfl
 | d + 1, i, h => by
  have hi : i < K.length := by omega
  have hm : K[i] ∈ K := List.getElem_mem hi
  have hl1 := hl _ hm
  have ih := cover_l0 l cols K hl hK hc hs hn hd d (i + 1) (by omega)
  have hr : rd_L4 (K.map (coverR cols l)) (i : Int) = coverR cols l K[i] := by
   rw [rdL_at (by rw [List.length_map]; exact hi), List.getElem_map]
  have hlen : (coverR cols l K[i]).length = cols.length + 1 := by simp [coverR, hl1]
  have hrd : rd_T27 (coverR cols l K[i]) (cols.length : Int) = ⟨1, (cvR cols l K[i] : Int), ⟨#[]⟩⟩ := by
   rw [rdV_at (by rw [hlen]; omega)]
   simp [coverR, ← hl1]
  have htk : (coverR cols l K[i]).take (cols.length : Int).toNat = K[i] := by
   rw [Int.toNat_natCast]
   unfold coverR
   rw [List.take_append_of_le_length (Nat.le_of_eq hl1.symm), List.take_of_length_le (Nat.le_of_eq hl1)]
  have hts : ((K.take (i + 1)).map (cvR cols l)).sum = ((K.take i).map (cvR cols l)).sum + cvR cols l K[i] := by
   rw [take_snoc _ _ hi, List.map_append, List.sum_append]
   simp
  have hle : ((K.take (i + 1)).map (cvR cols l)).sum ≤ l.length := by
   rw [← hs]
   have e : (K.map (cvR cols l)).sum = ((K.take (i + 1)).map (cvR cols l)).sum + ((K.drop (i + 1)).map (cvR cols l)).sum := by
    rw [← List.sum_append, ← List.map_append, List.take_append_drop]
   omega
  rw [hts, take_snoc _ _ hi] at ih
  rw [hts] at hle
  have w2 := cov_sum ((K.take i).map (cvR cols l)).sum (cvR cols l K[i]) (Nat.le_trans hle hn)
  have w3 := cov_next i K.length hi hK
  have hlT : (K.take i).length ≤ 5864062014804 := Nat.le_trans (List.length_take_le _ _) (Nat.le_trans (Nat.le_of_lt hi) (Nat.le_trans hK (by decide)))
  obtain ⟨c1, c2, c3, c4, c5, c6, c7⟩ := cov_nums i K.length cols.length (K.take i).length hi hc hlT
  have hlK : (K.map (coverR cols l)).length = K.length := List.length_map _
  refine Ev.step (f := fun k => w6_BagGroupsCover.l0 k l cols ((((K.take i).map (cvR cols l)).sum + cvR cols l K[i] : Nat) : Int) (K.take i ++ [K[i]]) ((i + 1 : Nat) : Int) (K.map (coverR cols l)) 0) (fun k => ?_) ih
  rw [w6_BagGroupsCover.l0, hr, hlen, hrd, htk, hlK, if_pos c1, if_pos c2, if_pos c3, if_pos c4, if_pos c5, if_pos c6, if_pos c7, w3, ← w2]
theorem law_groupsCover (l : List (List V)) (cols : List Int) (hok : GroupOk l cols [⟨0, 0, false⟩]) (hn : l.length ≤ 1048586) (hc : cols.length ≤ 1048576) : ∃ k, w6_BagGroupsCover.f k l cols = some true := by
 have h : Ev (fun k => w6_BagGroupsCover.f k l cols) true := by
  unfold w6_BagGroupsCover.f
  have e1 : bag_Group.f l cols [⟨0, 0, false⟩] = some (groupG l cols [⟨0, 0, false⟩]) := if_pos hok
  rw [e1]
  simp only [Option.bind_some]
  by_cases hg : validB l = true ∧ ∀ n ∈ cols, hasB l n = true
  · obtain ⟨hv, hh⟩ := hg
    have e2 := groupG_count hv hh
    have e3 : groupG l cols [⟨0, 0, false⟩] = ((keysR cols l).map (coverR cols l), 0) := e2
    rw [e3]
    simp only [if_true]
    have hkl := keysR_len cols l
    have hd : bag_Distinct.f (keysR cols l) = some (sortR [] (keysR cols l), 0) := by
     unfold bag_Distinct.f
     rw [if_pos ⟨hok.keyn, hok.keysn⟩, if_pos (keys_valid hv hh), distR_id _ _ (keysR_nodup cols l) (by simp)]
    exact cover_l0 l cols (keysR cols l) (fun key hk => key_len hk) (by omega) hc (lists_sum _ (keysR_nodup cols l) l (fun row hr => key_mem hr)) hn hd (keysR cols l).length 0 (by omega)
  · have e2 : groupG l cols [⟨0, 0, false⟩] = ([], 1) := by
     unfold groupG
     rw [if_neg (fun h => hg (by
      obtain ⟨h1, h2, _⟩ := groupable_parts h
      exact ⟨h1, h2⟩))]
    rw [e2]
    exact Ev.now true
 exact h.rounds
end Go.Proofs.YtecgkcgfeghhgaaDoor.PAll
set_option linter.unusedVariables false
set_option linter.unusedSimpArgs false
namespace Go.Proofs.YtecgkcgfeghhgaaDoor.PAll
open Go.RowKit Go.Proofs.YtecgkcgfeghhgaaDoorW.PrintWords Go.Proofs.YtecgkcgfeghhgaaDoorW.PrintLast Go.Proofs.YtecgkcgfeghhgaaDoorW.PrintMore
open Go.ChangeShapes Go.WideShapes Go.Deep
section
variable {H : Type} {enc : TypeId × Value → H} {w : World} {base : Nat} {spare : Nat → Bool} {held : Bool}
instance : Inhabited AggT := ⟨⟨0, 0, false⟩⟩
end
theorem bulkL_size {l : List (List V)} : ∀ row ∈ l, ∀ v ∈ row, v.f2.size + 3 ≤ bulkL l := fun row hr v hv => by
 have h1 := sum_mem (List.mem_map_of_mem (f := bulkR) hr)
 have h2 := sum_mem (List.mem_map_of_mem (f := bulkV) hv)
 have e1 : bulkR row = (row.map bulkV).sum + 1 := rfl
 have e2 : bulkV v = v.f2.size + 1 := rfl
 have e3 : bulkL l = (l.map bulkR).sum + 1 := rfl
 omega
theorem bulkL_len {l : List (List V)} : l.length ≤ bulkL l := by
 have h1 := sum_len bulkR (fun r => by unfold bulkR; omega) l
 unfold bulkL
 omega
end Go.Proofs.YtecgkcgfeghhgaaDoor.PAll
set_option linter.unusedVariables false
namespace Go.Proofs.YtecgkcgfeghhgaaDoor.bagGroupsCover
open Go.ChangeShapes Go.WideShapes Go.ChangeAt Go.RowKit Go.Proofs.YtecgkcgfeghhgaaDoor.PAll
open Go.Proofs.YtecgkcgfeghhgaaDoorW.PrintWords Go.Proofs.YtecgkcgfeghhgaaDoorW.PrintLast Go.Proofs.YtecgkcgfeghhgaaDoorW.PrintMore
theorem laidOut : laidOutB Tryd.prog = true := by kernel_rfl
theorem own : ownKnob Tryd.prog.godebug = none := by kernel_rfl
theorem gTab : Tryd.prog.globalNamed "internal/strconv.uint64pow10" = some 0 := by kernel_rfl
theorem gTabType : (Tryd.prog.globals[0]?).map (·.type) = some 151 := by kernel_rfl
theorem uTab : Tryd.prog.underlying 151 = some (.array 20 90) ∧ Tryd.prog.underlying 90 = some (.int .u64) ∧ Tryd.prog.cellsOf 90 = 1 := ⟨by kernel_rfl, by kernel_rfl, by kernel_rfl⟩
theorem cTab : Tryd.prog.cellsOf 151 = 20 := by kernel_rfl
theorem tabEq {H : Type} : Rows.laid_internal_strconv_uint64pow10 (H := H) = Lib.tabData .u64 Lib.pow10Tab := by
 simp [Rows.laid_internal_strconv_uint64pow10, Lib.tabData, Lib.pow10Tab, List.range_succ]
theorem table {W : World} (h : laidMetH Tryd.prog Rows.bagGroupsCoverUptoRow.laid W) : LaidT W := by
 have h : laidMet Tryd.prog Rows.bagGroupsCoverUptoRow.laid W := h
 obtain ⟨ps, ⟨_, _, _, _, _, _, _, _, _, _, ⟨_, _, _, _, _, _, _, _, _, _, ⟨g', t', cs, fuel, p, q, hg', ht', hvar, hd, _, _⟩, _⟩, _⟩, _⟩ := h
 obtain ⟨he, hi, hc⟩ := uTab
 obtain rfl := Option.some.inj (gTab.symm.trans hg')
 obtain rfl := Option.some.inj (gTabType.symm.trans ht')
 rw [tabEq] at hd
 unfold LaidT Lib.TabIs
 rw [hvar, ← Lib.cells_of_tab he hi hc cTab hd]
theorem contract (H : Type) (enc : TypeId × Value → H) (W : World) (base : Nat) (args : Array Value) (ds gs : List (DataW H)) (before : List MemPlace)
 (hval : ∀ (j : Nat) t v, Tryd.f10.params[j]? = some t → args[j]? = some v → Value.okWide Tryd.prog W .any base t v)
 (hW : DataW.Whole enc Tryd.prog Tryd.f10.params.toList Rows.bagGroupsCoverSpec.vars false W args.toList ds gs before) (hk : Rows.uptoSmall H (ds ++ gs) = true) (hL : laidMetH Tryd.prog Rows.bagGroupsCoverUptoRow.laid W) :
 Calls Tryd.prog 10 args W fun e W' => ∃ v, e = .returned v ∧ Rows.bagGroupsCoverSpec.post enc Tryd.prog Tryd.f10 false true false false W args v W' := by
 have hW' := hW
 obtain ⟨p, q, hA0, hV, rfl, hfz, hnd⟩ := hW
 have hA : DataW.TrodAll enc Tryd.prog W 0 (fun _ => true) true Tryd.f10.params.toList args.toList ds p := hA0
 rw [Tryd.params10] at hA hval
 obtain ⟨v0, vs0, d0, ds0, p0, q0, hargs, rfl, rfl, h0, r0⟩ := trodAll_cons hA
 obtain ⟨v1, vs1, d1, ds1, p1, q1, rfl, rfl, rfl, h1, r1⟩ := trodAll_cons r0
 obtain ⟨rfl, rfl, rfl⟩ := trodAll_nil r1
 obtain rfl : args = #[v0, v1] := by cases args; simp_all
 obtain ⟨rfl, rfl⟩ := trodVars_none hV
 have h0k := h0
 have h1k := h1
 obtain ⟨fuel0, hf0⟩ := h0
 obtain ⟨fuel1, hf1⟩ := h1
 obtain ⟨a0, len0, cap0, rfl⟩ := okWide_slice Tryd.underlying37 (hval 0 37 v0 (by simp) (by simp))
 obtain ⟨A0, cp0, l0, hcs0, hlc0, _, hC0, hv0, hb0⟩ := rows_of_trod hf0
 simp [Value.cells] at hcs0
 obtain ⟨rfl, rfl, rfl⟩ := hcs0
 dsimp only at hb0
 obtain ⟨a1, len1, cap1, rfl⟩ := okWide_slice Tryd.underlying38 (hval 1 38 v1 (by simp) (by simp))
 obtain ⟨A1, cp1, l1, hcs1, hlc1, _, hC1, hv1, hb1⟩ := ints_of_trod (k := .i64) Tryd.underlying38 (e := 3) (by kernel_rfl) (by kernel_rfl) hf1
 simp [Value.cells] at hcs1
 obtain ⟨rfl, rfl, rfl⟩ := hcs1
 dsimp only at hb1
 clear hA0
 simp only [List.append_nil] at hW' hk
 have hb : Rows.uptoBulkAll [d0, d1] ≤ 1048576 := of_decide_eq_true hk
 simp only [Rows.uptoBulkAll] at hb
 have hlt : ∀ x ∈ p0 ++ (p1), x.block < W.heap.size := fun x hx => hW'.lt x hx
 obtain ⟨k, hlaw⟩ : ∃ k, w6_BagGroupsCover.f k l0 l1 = some true := (law_groupsCover l0 l1 (groupOk_short (S := bulkL l0 - 3) (bulkL_rowsOk hv0 (by omega)) (by have := bulkL_len (l := l0); omega) (fun row hr v hm => by have := bulkL_size row hr v hm; omega) (by omega) (by simp) (fun a ha => by cases List.mem_singleton.1 ha; exact Int.le_refl _)) (by have := bulkL_len (l := l0); omega) (by omega))
 refine (w6_BagGroupsCover.calls k a0 cap0 l0 a1 cap1 l1 true W hC0 hlc0 hC1 hlc1 (table hL) hlaw).mono fun e W' ⟨he, hg⟩ => ?_
 subst he
 exact ⟨_, rfl, ⟨[d0, d1], [], _, [], _, [], hW', trodAll_mk1 (shut_bool Tryd.underlying4 _), trodAll_cons_mk (Below.trod laidOut (by kernel_rfl) (of_decide_eq_true (by kernel_rfl)) h0k hg (fun x hx => hlt x (List.mem_append_left _ hx))) (trodAll_mk1 (Below.trod laidOut (by kernel_rfl) (of_decide_eq_true (by kernel_rfl)) h1k hg (fun x hx => hlt x (List.mem_append_right _ (hx))))), rfl, hg.frame _, fun h => by cases h⟩⟩
noncomputable def laidWorld (os : Os) : World :=
 let w := World.holding Tryd.prog os ⟨#[], #[], []⟩
 { w with heap := ((w.heap.modify 0 fun
  | .cells _ t frozen => .cells ((Lib.pow10Tab.map (Value.int .u64)).toArray) t frozen
  | o => o).modify 2 fun
  | .cells _ t frozen => .cells #[.int .u8 0, .int .u8 1, .int .u8 28, .int .u8 2, .int .u8 29, .int .u8 14, .int .u8 24, .int .u8 3, .int .u8 30, .int .u8 22, .int .u8 20, .int .u8 15, .int .u8 25, .int .u8 17, .int .u8 4, .int .u8 8, .int .u8 31, .int .u8 27, .int .u8 13, .int .u8 23, .int .u8 21, .int .u8 19, .int .u8 16, .int .u8 7, .int .u8 26, .int .u8 12, .int .u8 18, .int .u8 6, .int .u8 11, .int .u8 5, .int .u8 10, .int .u8 9] t frozen
  | o => o).modify 3 fun
  | .cells _ t frozen => .cells #[.int .u8 0, .int .u8 1, .int .u8 56, .int .u8 2, .int .u8 57, .int .u8 49, .int .u8 28, .int .u8 3, .int .u8 61, .int .u8 58, .int .u8 42, .int .u8 50, .int .u8 38, .int .u8 29, .int .u8 17, .int .u8 4, .int .u8 62, .int .u8 47, .int .u8 59, .int .u8 36, .int .u8 45, .int .u8 43, .int .u8 51, .int .u8 22, .int .u8 53, .int .u8 39, .int .u8 33, .int .u8 30, .int .u8 24, .int .u8 18, .int .u8 12, .int .u8 5, .int .u8 63, .int .u8 55, .int .u8 48, .int .u8 27, .int .u8 60, .int .u8 41, .int .u8 37, .int .u8 16, .int .u8 46, .int .u8 35, .int .u8 44, .int .u8 21, .int .u8 52, .int .u8 32, .int .u8 23, .int .u8 11, .int .u8 54, .int .u8 26, .int .u8 40, .int .u8 15, .int .u8 34, .int .u8 20, .int .u8 31, .int .u8 10, .int .u8 25, .int .u8 14, .int .u8 19, .int .u8 9, .int .u8 13, .int .u8 8, .int .u8 7, .int .u8 6] t frozen
  | o => o }
theorem laid_met (os : Os) : laidMet Tryd.prog Rows.bagGroupsCoverUptoRow.laid ((laidWorld os).forCall (fun _ _ => 0) ⟨#[], #[.slice none 0 0, .slice none 0 0], []⟩).memory :=
 laidMet_of_run' 8 (by kernel_rfl) (by kernel_rfl)
theorem reads (os : Os) {H : Type} (enc : TypeId × Value → H) : ∃ places, DataW.whole enc Tryd.prog ((laidWorld os).forCall (fun _ _ => 0) ⟨#[], #[.slice none 0 0, .slice none 0 0], []⟩).memory Tryd.f10.params.toList Rows.bagGroupsCoverSpec.vars false (#[.slice none 0 0, .slice none 0 0] : Array Value).toList 8 = some ([.nil, .nil], [], places) :=
 ⟨[], by kernel_rfl⟩
theorem liftedUpto (os : Os) (started : os.Started) (H : Type) (enc : TypeId × Value → H) (F : Stop.Interp) :
 ReturnsInHanded {} Tryd.checked os 10 .any ((Rows.OpenSpec.upto Rows.bagGroupsCoverSpec).preRow enc Tryd.prog Tryd.f10 Rows.bagGroupsCoverUptoRow.domain false Rows.bagGroupsCoverUptoRow.laid) (((Rows.OpenSpec.upto Rows.bagGroupsCoverSpec).at F).post enc Tryd.prog Tryd.f10 false true false false) := by
 obtain ⟨places, hx⟩ := reads os enc
 refine returnsInHanded_of_row (C := Tryd.checked) (s := Rows.OpenSpec.upto Rows.bagGroupsCoverSpec) own started (by kernel_rfl) Tryd.func10
  (witness_row_at (enc := enc) (C := Tryd.checked) false (laidWorld os) #[.slice none 0 0, .slice none 0 0] rfl (by kernel_rfl) (by kernel_rfl) (by kernel_rfl)
   (OpenSpec.preRow_of_cond 8 hx (by kernel_rfl) (fun k hk => by cases hk; kernel_rfl) (by kernel_rfl) (laid_met os))) ?_
 intro W base args ds gs before hval hW _ hcond _ hL _ _
 exact contract H enc W base args ds gs before hval hW (hcond _ rfl) hL
theorem saidUpto : Rows.BagGroupsCoverUptoSaid :=
 OpenClaim.holds_of_cond 10 Tryd.f10 rfl rfl rfl rfl rfl rfl rfl ⟨rfl, rfl, rfl, rfl, rfl⟩ rfl rfl rfl rfl rfl (by kernel_rfl) Tryd.func10 (by kernel_rfl)
  (of_decide_eq_true (by kernel_rfl)) (by unfold Func.isWrapper; first | (rw [if_pos (by decide +kernel)]; kernel_rfl) | (rw [if_neg (by decide +kernel)]; exact ⟨rfl, rfl⟩))
  (fun os started H enc _ F => by rw [OpenClaim.pre_eq_preRow]; exact liftedUpto os started H enc F)
theorem plain (f : FuncId) (fn : Func) (hf : Tryd.pinned.checked.prog.funcNamed "jointer/jointerlaw06.BagGroupsCover" = some f) (hfn : Tryd.pinned.checked.prog.funcs[f]? = some fn) :
 false = Tryd.pinned.checked.prog.looks [] ∧ ∀ (j : Nat) t, fn.params[j]? = some t → Tryd.pinned.checked.prog.wantsStandIn t = false := by
 obtain rfl : f = 10 := Option.some.inj ((show Tryd.prog.funcNamed "jointer/jointerlaw06.BagGroupsCover" = some 10 by kernel_rfl).symm.trans hf) |>.symm
 obtain rfl : fn = Tryd.f10 := (Option.some.inj (Tryd.func10.symm.trans hfn)).symm
 refine ⟨by kernel_rfl, fun j t ht => ?_⟩
 rw [Tryd.params10] at ht
 have hm := Array.mem_of_getElem? ht
 simp only [List.mem_toArray, List.mem_cons, List.not_mem_nil, or_false] at hm
 rcases hm with rfl | rfl
 · exact (show Tryd.prog.wantsStandIn 37 = false by kernel_rfl)
 · exact (show Tryd.prog.wantsStandIn 38 = false by kernel_rfl)
theorem card : Rows.BagGroupsCoverUptoCardSaid :=
 Claim7.holds_tied_plain_at .later [] _ _ _ _ saidUpto (fun _ h => by cases h) (by kernel_rfl) (fun _ h => by cases h) bagGroupsCoverUpto_row_tie rfl ⟨rfl, rfl⟩ (by kernel_rfl) rfl plain (by kernel_rfl)
end Go.Proofs.YtecgkcgfeghhgaaDoor.bagGroupsCover
