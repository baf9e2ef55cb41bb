/- What the last of these texts proves is told there. Joined by a program of this session out of its texts. -/
import Derived.Test.YtecgkcgfeghhgaaGreatDoorQBagAggregates3
import Derived.Below
import Derived.Deep.Draws
import Derived.Deep.AppendLies
import Derived.Maps.AppendAt
import Derived.OwnWalk
import Derived.Laws.BytesArg
import Derived.Laws.MakeOwn
import Derived.Laws.OwnMore
import Derived.Deep.OwnRows
import Derived.Tactics
import Derived.Lib.ConvBytes
import Derived.Laws.Slices
import Derived.WalkKit
import Derived.KernelRfl
import Derived.RowKit3
import Derived.Deep.LoopGhost
import Derived.Deep.QuietTactic
import Derived.BigQuiet
import Derived.WideLaws
import Derived.Deep.DeepCutAuto
import Derived.Deep.CutBlock
import Derived.Deep.RegionHeld3
import Derived.Laws.Rows
import Derived.Lib.AppendStr
import Derived.ArgAppend
import Derived.Laws.IdiomCopy
import Derived.RowKit
import Derived.OrdersHeld
import Derived.Laws.BitsLemmas
import Derived.Laws.StructEq
import Derived.Shelf.Strings.BuilderK
import Derived.Shelf.Spec.SlicesGrow
import Derived.Shelf.SlGeneric
import Derived.Ground.Names8Prog
import Derived.Shelf.SlSortCmp.NoneTotal
import Derived.Ground.SlsfProg
import Derived.Ground.NamesProg
import Derived.Shelf.Spec.BitsCarry
import Derived.Ground.Names7Prog
import Derived.Shelf.Strings.Builder1
import Derived.Shelf.Small.Bits
import Derived.Shelf.Small.Strs
import Derived.Shelf.Strings.BuilderF
import Derived.Shelf.Strconv.Itoa0
import Derived.Shelf.Strconv.Itoa1
import Derived.Shelf.LaysM
import Derived.Shelf.Strconv.Itoa2
import Derived.Shelf.Strconv.Itoa3
import Derived.Shelf.Strconv.Itoa4
import Derived.Shelf.Strings.BuilderCap
import Derived.Maps.OwnOps
import Derived.ChangeArms
import Derived.Deep.Slices
import Derived.Deep.Strs
import Derived.Lib.ItoaLen
import Derived.Sort.Statements
import Derived.WalkSpells
import Derived.WalkMore
import Derived.BigRegion
import Derived.RegionTactic
import Derived.Lib.ItoaNum
import Derived.Lib.BitFns
import Derived.Handy
set_option maxHeartbeats 8000000
set_option maxRecDepth 100000
set_option linter.unusedVariables false
set_option linter.unusedSimpArgs false
namespace Go.Proofs.YtecgkcgfeghhgaaGreatDoor.PAll
open Go.RowKit Go.Proofs.YtecgkcgfeghhgaaGreatDoorW.PrintWords Go.Proofs.YtecgkcgfeghhgaaGreatDoorW.PrintLast Go.Proofs.YtecgkcgfeghhgaaGreatDoorW.PrintMore
theorem extreme_done (b : Nat) (sg : Int) (so : Bool) (v : V) (w : World) (hb : w.heap[b]? = some (.cells #[.int .i64 sg, .bool so, .int .u8 v.f0, .int .i64 v.f1, .string v.f2] 128 (0, 0))) :
 Calls Tryz.prog 165 #[.pointer (some ⟨b, 0, none⟩)] w fun e w' => e = .returned (.agg #[.int .u8 v.f0, .int .i64 v.f1, .string v.f2, .int .i64 0]) ∧ Below w.heap.size w w' := by
 have hlt : b < w.heap.size := (Array.getElem?_eq_some_iff.1 hb).1
 have HLT := Aside0.mk hlt
 have HBK := Aside0.mk hb
 clear hb hlt
 go_enter Tryz.func165, Tryz.ntmps165
 go_wp2_with (first | ((with_reducible refine gate_dst (N := 2) rfl ?_); refine box_event ?hg (N := 2) ?hd (cs := #[.int .u8 0, .int .i64 0, .string (⟨#[]⟩ : ByteArray), .int .i64 0]) (t := 38) ?hr ?_; (case hd => rfl); (case hg => rfl); (case hr => first | (go_simp; done) | (go_simp; rfl)); intro q hq W hN hb1; have C0 := (hb1.block b HLT.out).trans HBK.out; have HB1 := Aside0.mk hb1; have HQ := Aside0.mk hq; have HN0 := Aside0.mk hN; have F2 : W.cell? ⟨b, 2, none⟩ = some (.int .u8 v.f0) := (blk_cell C0 2).trans rfl; have F3 : W.cell? ⟨b, 3, none⟩ = some (.int .i64 v.f1) := (blk_cell C0 3).trans rfl; have F5 : W.cell? ⟨b, 4, none⟩ = some (.string v.f2) := (blk_cell C0 4).trans rfl; have G0 : W.cell? ⟨q, 0, none⟩ = some (.int .u8 0) := (blk_cell hN 0).trans rfl; have G1 : W.cell? ⟨q, 1, none⟩ = some (.int .i64 0) := (blk_cell hN 1).trans rfl; have G2 : W.cell? ⟨q, 2, none⟩ = some (.string ⟨#[]⟩) := (blk_cell hN 2).trans rfl; have G3 : W.cell? ⟨q, 3, none⟩ = some (.int .i64 0) := (blk_cell hN 3).trans rfl; have F4 : ∀ j, W.frozen? ⟨q, j, none⟩ = false := (fun j => by simp [World.frozen?, hN]); clear hb1 hq hN C0))
 refine bodyPost_ret (results_cell_row rfl _ _ q 38 #[.int .u8 v.f0, .int .i64 v.f1, .string v.f2, .int .i64 0] (0, 0) _ rfl (out_cells HN0.out _ _ _ _) Tryz.underlying38 rfl (by kernel_rfl)) rfl ?_
 exact ⟨rfl, out_below HB1.out HQ.out _ _ _ _⟩
def eStep (sg : Int) (s : Bool × V) (v : V) : Bool × V := if s.1 = false ∨ sg * compareV v s.2 < 0 then (true, v) else s
theorem extreme_take (b : Nat) (sg : Int) (so : Bool) (u v : V) (w : World) (hb : w.heap[b]? = some (.cells #[.int .i64 sg, .bool so, .int .u8 u.f0, .int .i64 u.f1, .string u.f2] 128 (0, 0))) (hs : sg = 1 ∨ sg = -1) (hk : KindOk v) :
 Calls Tryz.prog 166 #[.pointer (some ⟨b, 0, none⟩), .agg #[.int .u8 v.f0, .int .i64 v.f1, .string v.f2]] w fun e w' => e = .returned (.tuple #[]) ∧ w'.heap[b]? = some (.cells #[.int .i64 sg, .bool (eStep sg (so, u) v).1, .int .u8 (eStep sg (so, u) v).2.f0, .int .i64 (eStep sg (so, u) v).2.f1, .string (eStep sg (so, u) v).2.f2] 128 (0, 0)) ∧ w.grownBy w' (some b) := by
 have hlt : b < w.heap.size := (Array.getElem?_eq_some_iff.1 hb).1
 have HLT := Aside0.mk hlt
 have HBK := Aside0.mk hb
 have HK := Aside0.mk hk
 have HS := Aside0.mk hs
 clear hb hlt hk hs
 cases so with
 | false =>
  have HCALL : ∀ W : World, Aside0 (Calls Tryz.prog 91 #[.agg #[.int .u8 v.f0, .int .i64 v.f1, .string v.f2], .agg #[.int .u8 u.f0, .int .i64 u.f1, .string u.f2]] W fun e w' => e = .returned (.int .i64 (compareV v u)) ∧ Gr W w') := fun W => ⟨compare_calls v u HK.out W⟩
  obtain ⟨c, hc⟩ : ∃ c, c = compareV v u := ⟨_, rfl⟩
  simp only [← hc] at HCALL
  have hm : IntKind.i64.wrap (sg * c) = sg * c := by
   have h1 := compareV_bd v u
   rw [← hc] at h1
   simp only [i64_w]
   unfold wrap64
   rcases HS.out with rfl | rfl <;> omega
  have HC := Aside0.mk hc
  clear hc
  go_enter Tryz.func166, Tryz.ntmps166
  go_wp2_with (first | ((with_reducible refine gate_dst (N := 3) rfl ?_); refine box_event ?hg (N := 3) ?hd (cs := #[.int .u8 v.f0, .int .i64 v.f1, .string v.f2]) (t := 36) ?hr ?_; (case hd => rfl); (case hg => rfl); (case hr => first | (go_simp; done) | (go_simp; rfl)); intro q hq W hN hb1; have C0 := (hb1.block b HLT.out).trans HBK.out; have HB1 := Aside0.mk hb1; have HC0 := Aside0.mk C0; have HQ := Aside0.mk hq; have HNB := Aside0.mk hN; have E0 : W.cell? ⟨b, 0, none⟩ = some (.int .i64 sg) := (blk_cell C0 0).trans rfl; have E1 : W.cell? ⟨b, 1, none⟩ = some (.bool false) := (blk_cell C0 1).trans rfl; have E2 : W.cell? ⟨b, 2, none⟩ = some (.int .u8 u.f0) := (blk_cell C0 2).trans rfl; have E3 : W.cell? ⟨b, 3, none⟩ = some (.int .i64 u.f1) := (blk_cell C0 3).trans rfl; have E4 : W.cell? ⟨b, 4, none⟩ = some (.string u.f2) := (blk_cell C0 4).trans rfl; have N0 : W.cell? ⟨q, 0, none⟩ = some (.int .u8 v.f0) := (blk_cell hN 0).trans rfl; have N1 : W.cell? ⟨q, 1, none⟩ = some (.int .i64 v.f1) := (blk_cell hN 1).trans rfl; have N2 : W.cell? ⟨q, 2, none⟩ = some (.string v.f2) := (blk_cell hN 2).trans rfl; clear hb1 hq hN C0))
  refine wp_region_held_drew (S := (fun W' => W'.cell? ⟨b, 1, none⟩ = some (.bool false))) (by kernel_rfl) E1 (fun hHeld => ?_)
  refine wpAnyH_take (i := 0) (oi := ⟨some 4, _, _, _, _, _⟩) (v := ?_) rfl (by kernel_rfl) (by kernel_rfl) (by kernel_rfl) (fun _ _ _ h => h) (Or.inl ⟨by rfl, ?_⟩) (by assumption) ?_
  rotate_left
  · intro w' hSw
    try dsimp only at hSw
    go_simp
    try with_reducible rfl
  try simp only [Act.put, sTA_, sCZ_, sCS_]
  refine wpAnyH_take (i := 1) (oi := ⟨some 5, _, _, _, _, _⟩) (v := ?_) rfl (by kernel_rfl) (by kernel_rfl) (by kernel_rfl) (fun _ _ _ h => h) (Or.inl ⟨by rfl, ?_⟩) (by assumption) ?_
  rotate_left
  · intro w' hSw
    try dsimp only at hSw
    go_simp
    try with_reducible rfl
  try simp only [Act.put, sTA_, sCZ_, sCS_]
  refine wpAnyH_take (i := 2) (oi := ⟨some 6, _, _, _, _, _⟩) (v := ?_) rfl (by kernel_rfl) (by kernel_rfl) (by kernel_rfl) (fun _ _ _ h => h) (Or.inl ⟨by rfl, ?_⟩) (by assumption) ?_
  rotate_left
  · intro w' hSw
    try dsimp only at hSw
    go_simp
    try with_reducible rfl
  try simp only [Act.put, sTA_, sCZ_, sCS_]
  refine wpAnyH_take (i := 3) (oi := ⟨some 7, _, _, _, _, _⟩) (v := ?_) rfl (by kernel_rfl) (by kernel_rfl) (by kernel_rfl) (fun _ _ _ h => h) (Or.inl ⟨by rfl, ?_⟩) (by assumption) ?_
  rotate_left
  · intro w' hSw
    try dsimp only at hSw
    go_simp
    try with_reducible rfl
  try simp only [Act.put, sTA_, sCZ_, sCS_]
  refine wpAnyH_take (i := 4) (oi := ⟨some 8, _, _, _, _, _⟩) (v := ?_) rfl (by kernel_rfl) (by kernel_rfl) (by kernel_rfl) (fun _ _ _ h => h) (Or.inl ⟨by rfl, ?_⟩) (by assumption) ?_
  rotate_left
  · intro w' hSw
    try dsimp only at hSw
    go_simp
    try with_reducible rfl
  try simp only [Act.put, sTA_, sCZ_, sCS_]
  refine wpAnyH_take (i := 5) (oi := ⟨some 9, _, _, _, _, _⟩) (v := ?_) rfl (by kernel_rfl) (by kernel_rfl) (by kernel_rfl) (fun _ _ _ h => h) (Or.inl ⟨by rfl, ?_⟩) (by assumption) ?_
  rotate_left
  · intro w' hSw
    try dsimp only at hSw
    go_simp
    try with_reducible rfl
  try simp only [Act.put, sTA_, sCZ_, sCS_]
  refine wpAnyH_take (i := 6) (oi := ⟨some 10, _, _, _, _, _⟩) (v := undef) rfl (by kernel_rfl) (by kernel_rfl) (by kernel_rfl) (fun _ _ _ h => h) (Or.inr ⟨by rfl, rfl⟩) (by assumption) ?_
  simp only [Act.put, sTA_, sCZ_, sCS_]
  refine wpAnyH_take (i := 7) (oi := ⟨some 11, _, _, _, _, _⟩) (v := undef) rfl (by kernel_rfl) (by kernel_rfl) (by kernel_rfl) (fun _ _ _ h => h) (Or.inr ⟨by rfl, rfl⟩) (by assumption) ?_
  simp only [Act.put, sTA_, sCZ_, sCS_]
  refine wpAnyH_take (i := 8) (oi := ⟨some 12, _, _, _, _, _⟩) (v := undef) rfl (by kernel_rfl) (by kernel_rfl) (by kernel_rfl) (fun _ _ _ h => h) (Or.inr ⟨by rfl, rfl⟩) (by assumption) ?_
  simp only [Act.put, sTA_, sCZ_, sCS_]
  refine wpAnyH_take (i := 9) (oi := ⟨some 13, _, _, _, _, _⟩) (v := undef) rfl (by kernel_rfl) (by kernel_rfl) (by kernel_rfl) (fun _ _ _ h => h) (Or.inr ⟨by rfl, rfl⟩) (by assumption) ?_
  simp only [Act.put, sTA_, sCZ_, sCS_]
  refine wpAnyH_take (i := 10) (oi := ⟨some 14, _, _, _, _, _⟩) (v := undef) rfl (by kernel_rfl) (by kernel_rfl) (by kernel_rfl) (fun _ _ _ h => h) (Or.inr ⟨by rfl, rfl⟩) (by assumption) ?_
  simp only [Act.put, sTA_, sCZ_, sCS_]
  refine wpAnyH_take (i := 11) (oi := ⟨some 15, _, _, _, _, _⟩) (v := undef) rfl (by kernel_rfl) (by kernel_rfl) (by kernel_rfl) (fun _ _ _ h => h) (Or.inr ⟨by rfl, rfl⟩) (by assumption) ?_
  simp only [Act.put, sTA_, sCZ_, sCS_]
  refine wpAnyH_take (i := 12) (oi := ⟨some 16, _, _, _, _, _⟩) (v := undef) rfl (by kernel_rfl) (by kernel_rfl) (by kernel_rfl) (fun _ _ _ h => h) (Or.inr ⟨by rfl, rfl⟩) (by assumption) ?_
  simp only [Act.put, sTA_, sCZ_, sCS_]
  refine wpAnyH_take (i := 13) (oi := ⟨some 17, _, _, _, _, _⟩) (v := undef) rfl (by kernel_rfl) (by kernel_rfl) (by kernel_rfl) (fun _ _ _ h => h) (Or.inr ⟨by rfl, rfl⟩) (by assumption) ?_
  simp only [Act.put, sTA_, sCZ_, sCS_]
  refine wpAnyH_take (i := 14) (oi := ⟨some 18, _, _, _, _, _⟩) (v := undef) rfl (by kernel_rfl) (by kernel_rfl) (by kernel_rfl) (fun _ _ _ h => h) (Or.inr ⟨by rfl, rfl⟩) (by assumption) ?_
  simp only [Act.put, sTA_, sCZ_, sCS_]
  refine wpAnyH_take (i := 15) (oi := ⟨some 19, _, _, _, _, _⟩) (v := undef) rfl (by kernel_rfl) (by kernel_rfl) (by kernel_rfl) (fun _ _ _ h => h) (Or.inr ⟨by rfl, rfl⟩) (by assumption) ?_
  simp only [Act.put, sTA_, sCZ_, sCS_]
  refine wpAnyH_take (i := 16) (oi := ⟨some 20, _, _, _, _, _⟩) (v := undef) rfl (by kernel_rfl) (by kernel_rfl) (by kernel_rfl) (fun _ _ _ h => h) (Or.inr ⟨by rfl, rfl⟩) (by assumption) ?_
  simp only [Act.put, sTA_, sCZ_, sCS_]
  refine wpAnyH_take (i := 17) (oi := ⟨some 21, _, _, _, _, _⟩) (v := undef) rfl (by kernel_rfl) (by kernel_rfl) (by kernel_rfl) (fun _ _ _ h => h) (Or.inr ⟨by rfl, rfl⟩) (by assumption) ?_
  simp only [Act.put, sTA_, sCZ_, sCS_]
  refine wpAnyH_take (i := 18) (oi := ⟨some 22, _, _, _, _, _⟩) (v := ?_) rfl (by kernel_rfl) (by kernel_rfl) (by kernel_rfl) (fun _ _ _ h => h) (Or.inl ⟨by rfl, ?_⟩) (by assumption) ?_
  rotate_left
  · intro w' hSw
    try dsimp only at hSw
    go_simp
    try with_reducible rfl
  try simp only [Act.put, sTA_, sCZ_, sCS_]
  refine wpAnyH_done (by kernel_rfl) ?_ _
  have HBW : Aside0 (Below W.heap.size W W.drew) := ⟨(Below.refl _ W).drew⟩
  obtain ⟨W2, hW2⟩ : ∃ W2, W2 = W.drew := ⟨_, rfl⟩
  rw [← hW2]
  rw [← hW2] at HBW
  have C2 := (HBW.out.block b (blk_lt HC0.out)).trans HC0.out
  have N2_ := (HBW.out.block q (blk_lt HNB.out)).trans HNB.out
  have HC2 := Aside0.mk C2
  have n0 : W2.cell? ⟨q, 0, none⟩ = some (.int .u8 v.f0) := (blk_cell N2_ 0).trans rfl
  have n1 : W2.cell? ⟨q, 1, none⟩ = some (.int .i64 v.f1) := (blk_cell N2_ 1).trans rfl
  have n2 : W2.cell? ⟨q, 2, none⟩ = some (.string v.f2) := (blk_cell N2_ 2).trans rfl
  have HNE : q ≠ b := fun e => by have := HQ.out; have := HLT.out; omega
  have hfz : ∀ j, W2.frozen? ⟨b, j, none⟩ = false := fun j => by simp [World.frozen?, C2]
  have e0 : W2.cell? ⟨b, 0, none⟩ = some (.int .i64 sg) := (blk_cell C2 0).trans rfl
  have e1 : W2.cell? ⟨b, 1, none⟩ = some (.bool false) := (blk_cell C2 1).trans rfl
  have e2 : W2.cell? ⟨b, 2, none⟩ = some (.int .u8 u.f0) := (blk_cell C2 2).trans rfl
  have e3 : W2.cell? ⟨b, 3, none⟩ = some (.int .i64 u.f1) := (blk_cell C2 3).trans rfl
  have e4 : W2.cell? ⟨b, 4, none⟩ = some (.string u.f2) := (blk_cell C2 4).trans rfl
  clear C2 N2_ hW2
  go_wp2
  go_region
  go_wp2
  have HES : Aside0 (eStep sg (false, u) v = (true, v)) := ⟨if_pos (.inl rfl)⟩
  go_end0
  refine ⟨rfl, ?_, ?_⟩
  · rw [HES.out]
    exact (blk_set (blk_set (blk_set (blk_set HC2.out 1 _) 2 _) 3 _) 4 _).trans rfl
  · exact grownBy_set (grownBy_set0 (grownBy_set0 (grownBy_set0 (below_grownBy (HB1.out.trans (HBW.out.mono HB1.out.size))) 1 _) 2 _) 3 _) 4 _
 | true =>
  have HCALL : ∀ W : World, Aside0 (Calls Tryz.prog 91 #[.agg #[.int .u8 v.f0, .int .i64 v.f1, .string v.f2], .agg #[.int .u8 u.f0, .int .i64 u.f1, .string u.f2]] W fun e w' => e = .returned (.int .i64 (compareV v u)) ∧ Gr W w') := fun W => ⟨compare_calls v u HK.out W⟩
  obtain ⟨c, hc⟩ : ∃ c, c = compareV v u := ⟨_, rfl⟩
  simp only [← hc] at HCALL
  have hm : IntKind.i64.wrap (sg * c) = sg * c := by
   have h1 := compareV_bd v u
   rw [← hc] at h1
   simp only [i64_w]
   unfold wrap64
   rcases HS.out with rfl | rfl <;> omega
  have HC := Aside0.mk hc
  clear hc
  go_enter Tryz.func166, Tryz.ntmps166
  go_wp2_with (first | ((with_reducible refine gate_dst (N := 3) rfl ?_); refine box_event ?hg (N := 3) ?hd (cs := #[.int .u8 v.f0, .int .i64 v.f1, .string v.f2]) (t := 36) ?hr ?_; (case hd => rfl); (case hg => rfl); (case hr => first | (go_simp; done) | (go_simp; rfl)); intro q hq W hN hb1; have C0 := (hb1.block b HLT.out).trans HBK.out; have HB1 := Aside0.mk hb1; have HC0 := Aside0.mk C0; have HQ := Aside0.mk hq; have HNB := Aside0.mk hN; have E0 : W.cell? ⟨b, 0, none⟩ = some (.int .i64 sg) := (blk_cell C0 0).trans rfl; have E1 : W.cell? ⟨b, 1, none⟩ = some (.bool true) := (blk_cell C0 1).trans rfl; have E2 : W.cell? ⟨b, 2, none⟩ = some (.int .u8 u.f0) := (blk_cell C0 2).trans rfl; have E3 : W.cell? ⟨b, 3, none⟩ = some (.int .i64 u.f1) := (blk_cell C0 3).trans rfl; have E4 : W.cell? ⟨b, 4, none⟩ = some (.string u.f2) := (blk_cell C0 4).trans rfl; have N0 : W.cell? ⟨q, 0, none⟩ = some (.int .u8 v.f0) := (blk_cell hN 0).trans rfl; have N1 : W.cell? ⟨q, 1, none⟩ = some (.int .i64 v.f1) := (blk_cell hN 1).trans rfl; have N2 : W.cell? ⟨q, 2, none⟩ = some (.string v.f2) := (blk_cell hN 2).trans rfl; clear hb1 hq hN C0))
  go_region_held3 (fun W' => W'.cell? ⟨b, 0, none⟩ = some (.int .i64 sg) ∧ W'.cell? ⟨b, 1, none⟩ = some (.bool true) ∧ W'.cell? ⟨b, 2, none⟩ = some (.int .u8 u.f0) ∧ W'.cell? ⟨b, 3, none⟩ = some (.int .i64 u.f1) ∧ W'.cell? ⟨b, 4, none⟩ = some (.string u.f2) ∧ W'.cell? ⟨q, 0, none⟩ = some (.int .u8 v.f0) ∧ W'.cell? ⟨q, 1, none⟩ = some (.int .i64 v.f1) ∧ W'.cell? ⟨q, 2, none⟩ = some (.string v.f2)) (go_keep) (first | (go_at_call 91; (with_reducible refine (HCALL _).out.mono ?_); rintro e w1 ⟨rfl, hg1⟩; have r0 := cB_ (w := W.drew) hg1.below E0; have r1 := cB_ (w := W.drew) hg1.below E1; have r2 := cB_ (w := W.drew) hg1.below E2; have r3 := cB_ (w := W.drew) hg1.below E3; have r4 := cB_ (w := W.drew) hg1.below E4; have r5 := cB_ (w := W.drew) hg1.below N0; have r6 := cB_ (w := W.drew) hg1.below N1; have r7 := cB_ (w := W.drew) hg1.below N2; have HB2 := Aside0.mk ((Below.refl _ W).drew.trans hg1.below); clear hg1))
  clear r0 r1 r2 r3 r4 r5 r6 r7 E0 E1 E2 E3 E4 N0 N1 N2
  have HBW : Aside0 (Below W.heap.size W w1) := ⟨HB2.out⟩
  obtain ⟨W2, hW2⟩ : ∃ W2, W2 = w1 := ⟨_, rfl⟩
  rw [← hW2]
  rw [← hW2] at HBW
  have C2 := (HBW.out.block b (blk_lt HC0.out)).trans HC0.out
  have N2_ := (HBW.out.block q (blk_lt HNB.out)).trans HNB.out
  have HC2 := Aside0.mk C2
  have n0 : W2.cell? ⟨q, 0, none⟩ = some (.int .u8 v.f0) := (blk_cell N2_ 0).trans rfl
  have n1 : W2.cell? ⟨q, 1, none⟩ = some (.int .i64 v.f1) := (blk_cell N2_ 1).trans rfl
  have n2 : W2.cell? ⟨q, 2, none⟩ = some (.string v.f2) := (blk_cell N2_ 2).trans rfl
  have HNE : q ≠ b := fun e => by have := HQ.out; have := HLT.out; omega
  have hfz : ∀ j, W2.frozen? ⟨b, j, none⟩ = false := fun j => by simp [World.frozen?, C2]
  have e0 : W2.cell? ⟨b, 0, none⟩ = some (.int .i64 sg) := (blk_cell C2 0).trans rfl
  have e1 : W2.cell? ⟨b, 1, none⟩ = some (.bool true) := (blk_cell C2 1).trans rfl
  have e2 : W2.cell? ⟨b, 2, none⟩ = some (.int .u8 u.f0) := (blk_cell C2 2).trans rfl
  have e3 : W2.cell? ⟨b, 3, none⟩ = some (.int .i64 u.f1) := (blk_cell C2 3).trans rfl
  have e4 : W2.cell? ⟨b, 4, none⟩ = some (.string u.f2) := (blk_cell C2 4).trans rfl
  clear C2 N2_ hW2 HB2
  by_cases hh : sg * c < 0
  · have hb : decide (sg * c < 0) = true := decide_eq_true hh
    have HES : Aside0 (eStep sg (true, u) v = (true, v)) := ⟨if_pos (.inr (by rw [HC.out] at hh; exact hh))⟩
    clear hh
    rw [hb]
    go_wp2
    go_region
    go_wp2
    go_end0
    refine ⟨rfl, ?_, ?_⟩
    · rw [HES.out]
      exact (blk_set (blk_set (blk_set (blk_set HC2.out 1 _) 2 _) 3 _) 4 _).trans rfl
    · exact grownBy_set (grownBy_set0 (grownBy_set0 (grownBy_set0 (below_grownBy (HB1.out.trans (HBW.out.mono HB1.out.size))) 1 _) 2 _) 3 _) 4 _
  · have hb : decide (sg * c < 0) = false := decide_eq_false hh
    have HES : Aside0 (eStep sg (true, u) v = (true, u)) := ⟨if_neg (fun h => by
     rcases h with h | h
     · cases h
     · rw [HC.out] at hh; exact hh h)⟩
    clear hh
    rw [hb]
    go_wp2
    go_end0
    refine ⟨rfl, ?_, below_grownBy (HB1.out.trans (HBW.out.mono HB1.out.size))⟩
    rw [HES.out]
    exact HC2.out
theorem wu64 (x : Int) : IntKind.u64.wrap x = x % 18446744073709551616 := by
 simp [IntKind.wrap, IntKind.bits, IntKind.signed]
theorem knuth (hi lo y p Y yn1 un32 un10 un1 un0 q1 q0 un21 : Nat) (h32 : Y = yn1 * 4294967296) (hY : Y = y * p) (hp : 0 < p) (hhi : hi < y)
 (hN : un32 * 18446744073709551616 + un10 = (hi * 18446744073709551616 + lo) * p) (h1 : un10 = un1 * 4294967296 + un0) (h0 : un0 < 4294967296)
 (hy : 0 < yn1) (hq1 : q1 = un32 / yn1) (h21 : un21 = (un32 % yn1) * 4294967296 + un1) (hq0 : q0 = un21 / yn1) : q1 * 4294967296 + q0 = (hi * 18446744073709551616 + lo) / y := by
 have e1 : yn1 * q1 + un32 % yn1 = un32 := by rw [hq1]; exact Nat.div_add_mod un32 yn1
 have e2 : yn1 * q0 + un21 % yn1 = un21 := by rw [hq0]; exact Nat.div_add_mod un21 yn1
 have l2 := Nat.mod_lt un21 hy
 obtain ⟨r1, hr1⟩ : ∃ r, r = un32 % yn1 := ⟨_, rfl⟩
 obtain ⟨r0, hr0⟩ : ∃ r, r = un21 % yn1 := ⟨_, rfl⟩
 rw [← hr1] at e1 h21
 rw [← hr0] at e2 l2
 have hy0 : 0 < y := by omega
 obtain ⟨A, hA⟩ : ∃ A, A = yn1 * q1 := ⟨_, rfl⟩
 obtain ⟨B, hB⟩ : ∃ B, B = yn1 * q0 := ⟨_, rfl⟩
 have e3 : (q1 * 4294967296 + q0) * Y = A * 18446744073709551616 + B * 4294967296 := by
  rw [h32, hA, hB, Nat.add_mul]
  congr 1
  · rw [Nat.mul_mul_mul_comm, Nat.mul_comm q1 yn1]
  · rw [← Nat.mul_assoc, Nat.mul_comm q0 yn1]
 rw [← hA] at e1
 rw [← hB] at e2
 have lt : (hi * 18446744073709551616 + lo) * p = (q1 * 4294967296 + q0) * Y + (r0 * 4294967296 + un0) := by
  rw [e3, ← hN]; omega
 have lt2 : r0 * 4294967296 + un0 < Y := by rw [h32]; omega
 have : (hi * 18446744073709551616 + lo) * p / (y * p) = q1 * 4294967296 + q0 := by
  rw [← hY, lt, Nat.mul_comm (q1 * 4294967296 + q0) Y, Nat.mul_add_div (by omega), Nat.div_eq_of_lt lt2, Nat.add_zero]
 rw [← this, Nat.mul_div_mul_right _ _ hp]
theorem vstep (U t1 W rh V : Nat) (eV : V = rh * 4294967296 + t1) (hd : W + rh = U) (hl : V < 18446744073709551616) :
 IntKind.u64.wrap (IntKind.u64.wrap (IntKind.u64.wrap ((U : Int) * 4294967296) + (t1 : Int)) - IntKind.u64.wrap ((W * 4294967296 : Nat) : Int)) = (V : Int) := by
 rw [wu64, wu64, wu64, wu64]
 omega
theorem div_facts (hi lo y : Int) (h0 : 0 ≤ hi) (h1 : hi < y) (h2 : y < 4294967296) (h3 : 0 ≤ lo) (h4 : lo < 18446744073709551616) :
 ∃ s p Y n1 H t p2 L1 U T t1 t0 q1 Q rh R1 R A1 A2 A3 V q0 B1 rh2 C1 C2 D1 : Int,
  64 - (Lib.bitLen y.toNat : Int) = s ∧ IntKind.u64.wrap s = s ∧ (2 : Int) ^ min s.toNat 64 = p ∧ IntKind.u64.wrap (y * p) = Y ∧ Y / 4294967296 = n1 ∧ bits BinOp.and IntKind.u64 Y 4294967295 = 0 ∧
  IntKind.u64.wrap (hi * p) = H ∧ IntKind.u64.wrap (64 - s) = t ∧ (2 : Int) ^ min t.toNat 64 = p2 ∧ lo / p2 = L1 ∧ bits BinOp.or IntKind.u64 H L1 = U ∧
  IntKind.u64.wrap (lo * p) = T ∧ T / 4294967296 = t1 ∧ bits BinOp.and IntKind.u64 T 4294967295 = t0 ∧
  ¬ n1 = 0 ∧ IntKind.u64.wrap (U.tdiv n1) = q1 ∧ IntKind.u64.wrap (q1 * n1) = Q ∧ IntKind.u64.wrap (U - Q) = rh ∧
  decide (4294967296 ≤ q1) = false ∧ IntKind.u64.wrap (4294967296 * rh) = R1 ∧ IntKind.u64.wrap (R1 + t1) = R ∧ decide (R < 0) = false ∧
  IntKind.u64.wrap (U * 4294967296) = A1 ∧ IntKind.u64.wrap (A1 + t1) = A2 ∧ IntKind.u64.wrap (q1 * Y) = A3 ∧ IntKind.u64.wrap (A2 - A3) = V ∧
  IntKind.u64.wrap (V.tdiv n1) = q0 ∧ IntKind.u64.wrap (q0 * n1) = B1 ∧ IntKind.u64.wrap (V - B1) = rh2 ∧
  decide (4294967296 ≤ q0) = false ∧ IntKind.u64.wrap (4294967296 * rh2) = C1 ∧ IntKind.u64.wrap (C1 + t0) = C2 ∧ decide (C2 < 0) = false ∧
  IntKind.u64.wrap (q1 * 4294967296) = D1 ∧ IntKind.u64.wrap (D1 + q0) = (hi * 18446744073709551616 + lo) / y ∧ 0 ≤ s ∧ 0 ≤ t := by
 obtain ⟨hn, rfl⟩ := Int.eq_ofNat_of_zero_le h0
 obtain ⟨ln, rfl⟩ := Int.eq_ofNat_of_zero_le h3
 obtain ⟨yn, rfl⟩ := Int.eq_ofNat_of_zero_le (show 0 ≤ y by omega)
 have k1 : hn < yn := by omega
 have k2 : yn < 4294967296 := by omega
 have k3 : ln < 18446744073709551616 := by omega
 obtain ⟨b, hb⟩ : ∃ b, b = Lib.bitLen yn := ⟨_, rfl⟩
 have hb32 : b ≤ 32 := by rw [hb]; exact Lib.bitLen_le yn 32 (by decide) k2
 obtain ⟨b1, _, b2⟩ := Lib.bitLenAux_bounds 64 yn (Nat.lt_trans k2 (by decide)) (by omega)
 change 1 ≤ Lib.bitLen yn at b1
 change yn < 2 ^ Lib.bitLen yn at b2
 rw [← hb] at b1 b2
 obtain ⟨p2, hp2⟩ : ∃ p2, p2 = 2 ^ b := ⟨_, rfl⟩
 obtain ⟨p0, hp0⟩ : ∃ p0, p0 = 2 ^ (32 - b) := ⟨_, rfl⟩
 have e02 : p0 * p2 = 4294967296 := by rw [hp0, hp2, ← Nat.pow_add, show 32 - b + b = 32 by omega]
 have p0pos : 0 < p0 := by rw [hp0]; exact Nat.two_pow_pos _
 have p2pos : 0 < p2 := by rw [hp2]; exact Nat.two_pow_pos _
 obtain ⟨p, hp⟩ : ∃ p, p = p0 * 4294967296 := ⟨_, rfl⟩
 have hpp : p = 2 ^ (64 - b) := by rw [hp, hp0, show (4294967296 : Nat) = 2 ^ 32 by decide, ← Nat.pow_add, show 32 - b + 32 = 64 - b by omega]
 have e12 : p * p2 = 18446744073709551616 := by rw [hp, Nat.mul_right_comm, e02]
 rw [← hp2] at b2
 have yp : yn * p0 < 4294967296 := by rw [← e02, Nat.mul_comm p0 p2]; exact Nat.mul_lt_mul_of_pos_right b2 p0pos
 obtain ⟨n1, hn1⟩ : ∃ n, n = yn * p0 := ⟨_, rfl⟩
 have n1pos : 0 < n1 := by rw [hn1]; exact Nat.mul_pos (by omega) p0pos
 have hYe : yn * p = n1 * 4294967296 := by rw [hp, hn1, Nat.mul_assoc]
 have hHle : hn * p + p ≤ yn * p := by rw [← Nat.succ_mul]; exact Nat.mul_le_mul_right _ k1
 obtain ⟨L1, hL1⟩ : ∃ x, x = ln / p2 := ⟨_, rfl⟩
 have hL1p : L1 < p := by rw [hL1]; exact Nat.div_lt_of_lt_mul (by rw [Nat.mul_comm, e12]; exact k3)
 obtain ⟨m, hm⟩ : ∃ x, x = ln % p2 := ⟨_, rfl⟩
 have hmp : m < p2 := by rw [hm]; exact Nat.mod_lt _ p2pos
 have hln : ln = p2 * L1 + m := by rw [hL1, hm]; exact (Nat.div_add_mod ln p2).symm
 have hT : ln * p = L1 * 18446744073709551616 + m * p := by rw [hln, Nat.add_mul, Nat.mul_right_comm, Nat.mul_comm p2 p, e12, Nat.mul_comm]
 have hTl : m * p < 18446744073709551616 := by rw [← e12, Nat.mul_comm p p2]; exact Nat.mul_lt_mul_of_pos_right hmp (by omega)
 obtain ⟨T, hTT⟩ : ∃ x, x = m * p := ⟨_, rfl⟩
 rw [← hTT] at hT hTl
 obtain ⟨H, hH⟩ : ∃ x, x = hn * p := ⟨_, rfl⟩
 rw [← hH, hYe] at hHle
 obtain ⟨U, hU⟩ : ∃ x, x = H + L1 := ⟨_, rfl⟩
 have hUl : U < n1 * 4294967296 := by omega
 rw [← hn1] at yp
 obtain ⟨q1, hq1⟩ : ∃ x, x = U / n1 := ⟨_, rfl⟩
 obtain ⟨rh, hrh⟩ : ∃ x, x = U % n1 := ⟨_, rfl⟩
 have d1 : n1 * q1 + rh = U := by rw [hq1, hrh]; exact Nat.div_add_mod U n1
 have d1l : rh < n1 := by rw [hrh]; exact Nat.mod_lt _ n1pos
 have q1l : q1 < 4294967296 := by rw [hq1]; exact Nat.div_lt_of_lt_mul hUl
 obtain ⟨W, hW⟩ : ∃ x, x = n1 * q1 := ⟨_, rfl⟩
 rw [← hW] at d1
 obtain ⟨t1, ht1⟩ : ∃ x, x = T / 4294967296 := ⟨_, rfl⟩
 obtain ⟨t0, ht0⟩ : ∃ x, x = T % 4294967296 := ⟨_, rfl⟩
 obtain ⟨V, hV⟩ : ∃ x, x = rh * 4294967296 + t1 := ⟨_, rfl⟩
 have hVl : V < n1 * 4294967296 := by omega
 obtain ⟨q0, hq0⟩ : ∃ x, x = V / n1 := ⟨_, rfl⟩
 obtain ⟨r2, hr2⟩ : ∃ x, x = V % n1 := ⟨_, rfl⟩
 have d2 : n1 * q0 + r2 = V := by rw [hq0, hr2]; exact Nat.div_add_mod V n1
 have d2l : r2 < n1 := by rw [hr2]; exact Nat.mod_lt _ n1pos
 have q0l : q0 < 4294967296 := by rw [hq0]; exact Nat.div_lt_of_lt_mul hVl
 obtain ⟨X, hX⟩ : ∃ x, x = n1 * q0 := ⟨_, rfl⟩
 rw [← hX] at d2
 have key := knuth hn ln yn p (n1 * 4294967296) n1 U T t1 t0 q1 q0 V rfl hYe.symm (by omega) k1 (by rw [hU, hH, Nat.add_mul (hn * 18446744073709551616), hT]; rw [Nat.mul_right_comm hn]; omega) (by omega) (by omega) n1pos hq1 (by rw [hV, hrh]) hq0
 have eQ : ((q1 : Int)) * (n1 : Int) = (W : Int) := by rw [hW, Nat.mul_comm]; exact (Int.natCast_mul q1 n1).symm
 have eB : ((q0 : Int)) * (n1 : Int) = (X : Int) := by rw [hX, Nat.mul_comm]; exact (Int.natCast_mul q0 n1).symm
 have eY : ((yn : Int)) * (p : Int) = ((n1 * 4294967296 : Nat) : Int) := by rw [← hYe]; exact (Int.natCast_mul yn p).symm
 have eH : ((hn : Int)) * (p : Int) = (H : Int) := by rw [hH]; exact (Int.natCast_mul hn p).symm
 have eT : ((ln : Int)) * (p : Int) = ((L1 * 18446744073709551616 + T : Nat) : Int) := by rw [← hT]; exact (Int.natCast_mul ln p).symm
 have eA : ((q1 : Int)) * ((n1 * 4294967296 : Nat) : Int) = ((W * 4294967296 : Nat) : Int) := by rw [Int.natCast_mul, ← Int.mul_assoc, eQ]; rfl
 have hk64 : ∀ n : Int, 0 ≤ n → n < 2 ^ 64 → IntKind.u64.wrap n = n := fun n a c => by rw [wu64]; omega
 refine ⟨((64 - b : Nat) : Int), (p : Int), ((n1 * 4294967296 : Nat) : Int), (n1 : Int), (H : Int), (b : Int), (p2 : Int), (L1 : Int), (U : Int), (T : Int), (t1 : Int), (t0 : Int), (q1 : Int), (W : Int), (rh : Int), ((4294967296 * rh : Nat) : Int), ((4294967296 * rh + t1 : Nat) : Int), IntKind.u64.wrap ((U : Int) * 4294967296), IntKind.u64.wrap (IntKind.u64.wrap ((U : Int) * 4294967296) + (t1 : Int)), IntKind.u64.wrap ((q1 : Int) * ((n1 * 4294967296 : Nat) : Int)), (V : Int), (q0 : Int), (X : Int), (r2 : Int), ((4294967296 * r2 : Nat) : Int), ((4294967296 * r2 + t0 : Nat) : Int), ((q1 * 4294967296 : Nat) : Int), ?_⟩
 refine ⟨?_, ?_, ?_, ?_, ?_, ?_, ?_, ?_, ?_, ?_, ?_, ?_, ?_, ?_, ?_, ?_, ?_, ?_, ?_, ?_, ?_, ?_, rfl, rfl, rfl, ?_, ?_, ?_, ?_, ?_, ?_, ?_, ?_, ?_, ?_, ?_, ?_⟩
 · rw [Int.toNat_natCast, ← hb]; omega
 · rw [wu64]; omega
 · rw [Int.toNat_natCast, show min (64 - b) 64 = 64 - b by omega, hpp]; simp
 · rw [eY, wu64]; omega
 · omega
 · have := bits_mask .u64 64 (by decide) hk64 32 (by decide) ((n1 * 4294967296 : Nat) : Int) (by omega) (by omega)
   rw [show ((2 : Int) ^ 32 - 1) = 4294967295 by decide] at this
   rw [this]
   omega
 · rw [eH, wu64]; omega
 · rw [wu64]; omega
 · rw [Int.toNat_natCast, show min b 64 = b by omega, hp2]; simp
 · rw [hL1]; exact (Int.natCast_ediv ln p2).symm
 · rw [hU]
   have hmod : ((H : Nat) : Int) % 2 ^ (64 - b) = 0 := by
    have e : ((2 : Int) ^ (64 - b)) = (p : Int) := by rw [hpp]; simp
    rw [e, hH, ← Int.natCast_emod, Nat.mul_mod_left]
    rfl
   have hlt : (L1 : Int) < 2 ^ (64 - b) := by
    have e : ((2 : Int) ^ (64 - b)) = (p : Int) := by rw [hpp]; simp
    rw [e]; omega
   have := bits_join .u64 64 (by decide) hk64 (64 - b) (H : Int) (L1 : Int) (by omega) hmod (by omega) (by omega) hlt (by omega)
   rw [this]
   omega
 · rw [eT, wu64]; omega
 · omega
 · have := bits_mask .u64 64 (by decide) hk64 32 (by decide) (T : Int) (by omega) (by omega)
   rw [show ((2 : Int) ^ 32 - 1) = 4294967295 by decide] at this
   rw [this]
   omega
 · omega
 · rw [← Int.ofNat_tdiv, ← hq1, wu64]; omega
 · rw [eQ, wu64]; omega
 · rw [wu64]; omega
 · exact decide_eq_false (by omega)
 · rw [wu64]; omega
 · rw [wu64]; omega
 · exact decide_eq_false (by omega)
 · rw [eA]; exact vstep U t1 W rh V hV d1 (by omega)
 · rw [← Int.ofNat_tdiv, ← hq0, wu64]; omega
 · rw [eB, wu64]; omega
 · rw [wu64]; omega
 · exact decide_eq_false (by omega)
 · rw [wu64]; omega
 · rw [wu64]; omega
 · exact decide_eq_false (by omega)
 · rw [wu64]; omega
 · rw [wu64]
   have e : ((hn : Int) * 18446744073709551616 + (ln : Int)) = ((hn * 18446744073709551616 + ln : Nat) : Int) := by omega
   rw [e, ← Int.natCast_ediv, ← key]
   omega
 · omega
 · omega
theorem div64_calls (hi lo y : Int) (h0 : 0 ≤ hi) (h1 : hi < y) (h2 : y < 4294967296) (h3 : 0 ≤ lo) (h4 : lo < 18446744073709551616) (w : World) :
 Calls Tryz.prog 163 #[.int .u64 hi, .int .u64 lo, .int .u64 y] w fun e w' => ∃ r, e = .returned (.tuple #[.int .u64 ((hi * 18446744073709551616 + lo) / y), .int .u64 r]) ∧ Below w.heap.size w w' := by
 have z1 : (y == 0) = false := by simp; omega
 have z2 : decide (y ≤ hi) = false := decide_eq_false (by omega)
 have z5 : ¬ y = 0 := by omega
 by_cases c0 : hi = 0
 · have z3 : (hi == 0) = true := by simpa using c0
   have HB : Aside0 (Below w.heap.size w w.drew) := ⟨(Below.refl _ w).drew⟩
   have HQ : Aside0 (IntKind.u64.wrap (lo.tdiv y) = (hi * 18446744073709551616 + lo) / y) := ⟨by
    rw [c0, Int.zero_mul, Int.zero_add]
    obtain ⟨ln, rfl⟩ := Int.eq_ofNat_of_zero_le h3
    obtain ⟨yn, rfl⟩ := Int.eq_ofNat_of_zero_le (show 0 ≤ y by omega)
    rw [← Int.ofNat_tdiv, ← Int.natCast_ediv, wu64]
    have h5 := Nat.div_le_self ln yn
    obtain ⟨d, hd⟩ : ∃ d, d = ln / yn := ⟨_, rfl⟩
    rw [← hd] at h5 ⊢
    omega⟩
   clear h0 h1 h2 h3 h4 c0
   go_enter Tryz.func163, Tryz.ntmps163
   go_wp2
   go_region
   go_wp2
   go_ret2
   exact ⟨_, by rw [HQ.out]; rfl, HB.out⟩
 · have z3 : (hi == 0) = false := by simpa using c0
   have HL := Aside0.mk (Tryz.bits_LeadingZeros64 y w (by omega) (by omega))
   obtain ⟨s, p, Y, n1, H, t, p2, L1, U, T, t1, t0, q1, Q, rh, R1, R, A1, A2, A3, V, q0, B1, rh2, C1, C2, D1, f1, f2, f3, f4, f5, f6, f7, f8, f9, f10, f11, f12, f13, f14, f15, f16, f17, f18, f19, f20, f21, f22, f23, f24, f25, f26, f27, f28, f29, f30, f31, f32, f33, f34, f35, f36, f37⟩ := div_facts hi lo y h0 h1 h2 h3 h4
   rw [f1] at HL
   have HD := Aside0.mk f35
   have g0 : IntKind.u64.wrap 0 = 0 := by decide
   have g1 : decide (0 > R) = false := f22
   have g2 : decide (0 > C2) = false := f33
   clear h0 h1 h2 h3 h4 c0 f35 f1
   go_enter Tryz.func163, Tryz.ntmps163
   go_wp2_with fail
   refine HL.out.mono ?_
   rintro e w1 ⟨rfl, rfl⟩
   clear HL
   go_wp2
   go_rounds 1
   go_rounds 1
   go_ret2
   exact ⟨_, by rw [HD.out]; rfl, Below.refl _ _⟩
end Go.Proofs.YtecgkcgfeghhgaaGreatDoor.PAll
set_option linter.unusedVariables false
set_option linter.unusedSimpArgs false
namespace Go.Proofs.YtecgkcgfeghhgaaGreatDoor.PAll
open Go.RowKit Go.Proofs.YtecgkcgfeghhgaaGreatDoorW.PrintWords Go.Proofs.YtecgkcgfeghhgaaGreatDoorW.PrintLast Go.Proofs.YtecgkcgfeghhgaaGreatDoorW.PrintMore
open Go.Shelf Go.Lib
theorem sub64 (y c : Int) (hy : 0 ≤ y) (hy1 : y < 18446744073709551616) (hc : 0 ≤ c) (hc1 : c ≤ 1) (w : World) :
 (callFunc 162 #[.int .u64 0, .int .u64 y, .int .u64 c]).run Tryz.prog w = .ok (.value (.tuple #[.int .u64 ((18446744073709551616 - y - c) % 18446744073709551616), .int .u64 (if 0 < y + c then 1 else 0)])) w := by
 obtain ⟨b, rfl⟩ := Int.eq_ofNat_of_zero_le hy
 obtain ⟨d, rfl⟩ := Int.eq_ofNat_of_zero_le hc
 have h := Any7.bits_Sub64 sub64L 0 b d (by omega) w
 change (callFunc 162 _).run _ _ = _ at h
 have e1 : (((0 + 18446744073709551616 - b - d) % 18446744073709551616 : Nat) : Int) = (18446744073709551616 - (b : Int) - (d : Int)) % 18446744073709551616 := by omega
 have e2 : ((if 0 < b + d then 1 else 0 : Nat) : Int) = if 0 < (b : Int) + (d : Int) then 1 else 0 := by split <;> split <;> omega
 rw [e1, e2] at h
 exact h
theorem mean_zero (b : Nat) (h l n : Int) (w : World) (hb : w.heap[b]? = some (.cells #[.int .u64 h, .int .u64 l, .int .u64 n] 125 (0, 0))) (hn : n = 0) :
 Calls Tryz.prog 161 #[.pointer (some ⟨b, 0, none⟩)] w fun e w' => e = .returned (.agg #[.int .u8 0, .int .i64 0, .string ⟨#[]⟩, .int .i64 0]) ∧ Below w.heap.size w w' := by
 have hlt : b < w.heap.size := (Array.getElem?_eq_some_iff.1 hb).1
 have HLT := Aside0.mk hlt
 have HBK := Aside0.mk hb
 have hnb : (n == 0) = true := by simp [hn]
 clear hb hlt hn
 go_enter Tryz.func161, Tryz.ntmps161
 go_wp2_with (first | ((with_reducible refine gate_dst (N := 2) rfl ?_); refine box_event ?hg (N := 2) ?hd (cs := #[.int .u8 0, .int .i64 0, .string (⟨#[]⟩ : ByteArray), .int .i64 0]) (t := 38) ?hr ?_; (case hd => rfl); (case hg => rfl); (case hr => first | (go_simp; done) | (go_simp; rfl)); intro q hq W hN hb1; have C0 := (hb1.block b HLT.out).trans HBK.out; have HC0 := Aside0.mk C0; have HB1 := Aside0.mk hb1; have HQ := Aside0.mk hq; have HN0 := Aside0.mk hN; have F0 : W.cell? ⟨b, 0, none⟩ = some (.int .u64 h) := (blk_cell C0 0).trans rfl; have F1 : W.cell? ⟨b, 1, none⟩ = some (.int .u64 l) := (blk_cell C0 1).trans rfl; have F2 : W.cell? ⟨b, 2, none⟩ = some (.int .u64 n) := (blk_cell C0 2).trans rfl; have G0 : W.cell? ⟨q, 0, none⟩ = some (.int .u8 0) := (blk_cell hN 0).trans rfl; have G1 : W.cell? ⟨q, 1, none⟩ = some (.int .i64 0) := (blk_cell hN 1).trans rfl; have G2 : W.cell? ⟨q, 2, none⟩ = some (.string ⟨#[]⟩) := (blk_cell hN 2).trans rfl; have G3 : W.cell? ⟨q, 3, none⟩ = some (.int .i64 0) := (blk_cell hN 3).trans rfl; have F4 : ∀ j, W.frozen? ⟨q, j, none⟩ = false := (fun j => by simp [World.frozen?, hN]); clear hb1 hq hN C0))
 refine bodyPost_ret (results_cell_row rfl _ _ q 38 #[.int .u8 0, .int .i64 0, .string (⟨#[]⟩ : ByteArray), .int .i64 0] (0, 0) _ rfl (out_cells HN0.out _ _ _ _) Tryz.underlying38 rfl (by kernel_rfl)) rfl ?_
 exact ⟨rfl, out_below HB1.out HQ.out _ _ _ _⟩
theorem mean_some (b : Nat) (h l n : Int) (w : World) (hb : w.heap[b]? = some (.cells #[.int .u64 h, .int .u64 l, .int .u64 n] 125 (0, 0))) (h0 : 0 ≤ h) (h1 : h < 18446744073709551616) (l0 : 0 ≤ l) (l1 : l < 18446744073709551616) (n0 : 0 < n) (n1 : n < 4294967296)
 (H L q0 X : Int) (neg : Bool) (hneg : decide (wrap64 h < 0) = neg) (hH : H = if neg = true then (18446744073709551616 - h - (if 0 < l then 1 else 0)) % 18446744073709551616 else h) (hL : L = if neg = true then (18446744073709551616 - l) % 18446744073709551616 else l)
 (hq : (H.tmod n * 18446744073709551616 + L) / n = q0) (hX : X = if neg = true then wrap64 (IntKind.u64.wrap (-q0)) else wrap64 q0) :
 Calls Tryz.prog 161 #[.pointer (some ⟨b, 0, none⟩)] w fun e w' => e = .returned (.agg #[.int .u8 1, .int .i64 X, .string ⟨#[]⟩, .int .i64 0]) ∧ Below w.heap.size w w' := by
 have hlt : b < w.heap.size := (Array.getElem?_eq_some_iff.1 hb).1
 have HLT := Aside0.mk hlt
 have HBK := Aside0.mk hb
 have hnb : (n == 0) = false := by simp; omega
 have hnz : ¬ n = 0 := by omega
 have hm : 0 ≤ H.tmod n ∧ H.tmod n < n := by
  have hh : 0 ≤ H := by rw [hH]; split <;> omega
  exact ⟨Int.tmod_nonneg _ hh, Int.tmod_lt_of_pos _ n0⟩
 have hLb : 0 ≤ L ∧ L < 18446744073709551616 := by rw [hL]; split <;> omega
 obtain ⟨R, hR⟩ : ∃ R, H.tmod n = R := ⟨_, rfl⟩
 rw [hR] at hm hq
 have HDIV : ∀ W : World, Aside0 (Calls Tryz.prog 163 #[.int .u64 R, .int .u64 L, .int .u64 n] W fun e w' => ∃ r, e = .returned (.tuple #[.int .u64 q0, .int .u64 r]) ∧ Below W.heap.size W w') := fun W => ⟨by rw [← hq]; exact div64_calls R L n hm.1 hm.2 n1 hLb.1 hLb.2 W⟩
 cases neg with
 | false =>
  simp only [Bool.false_eq_true, if_false] at hH hL hX
  have hH := hH.symm
  have hL := hL.symm
  have hX := hX.symm
  subst hH
  subst hL
  subst hX
  clear hb hlt h0 h1 l0 l1 n0 n1 hm hLb hq
  go_enter Tryz.func161, Tryz.ntmps161
  go_wp2_with (first | ((with_reducible refine gate_dst (N := 2) rfl ?_); refine box_event ?hg (N := 2) ?hd (cs := #[.int .u8 0, .int .i64 0, .string (⟨#[]⟩ : ByteArray), .int .i64 0]) (t := 38) ?hr ?_; (case hd => rfl); (case hg => rfl); (case hr => first | (go_simp; done) | (go_simp; rfl)); intro q hq W hN hb1; have C0 := (hb1.block b HLT.out).trans HBK.out; have HC0 := Aside0.mk C0; have HB1 := Aside0.mk hb1; have HQ := Aside0.mk hq; have HN0 := Aside0.mk hN; have F0 : W.cell? ⟨b, 0, none⟩ = some (.int .u64 h) := (blk_cell C0 0).trans rfl; have F1 : W.cell? ⟨b, 1, none⟩ = some (.int .u64 l) := (blk_cell C0 1).trans rfl; have F2 : W.cell? ⟨b, 2, none⟩ = some (.int .u64 n) := (blk_cell C0 2).trans rfl; have G0 : W.cell? ⟨q, 0, none⟩ = some (.int .u8 0) := (blk_cell hN 0).trans rfl; have G1 : W.cell? ⟨q, 1, none⟩ = some (.int .i64 0) := (blk_cell hN 1).trans rfl; have G2 : W.cell? ⟨q, 2, none⟩ = some (.string ⟨#[]⟩) := (blk_cell hN 2).trans rfl; have G3 : W.cell? ⟨q, 3, none⟩ = some (.int .i64 0) := (blk_cell hN 3).trans rfl; have F4 : ∀ j, W.frozen? ⟨q, j, none⟩ = false := (fun j => by simp [World.frozen?, hN]); clear hb1 hq hN C0))
  go_region
  obtain ⟨W2, hW2⟩ : ∃ W2, W2 = W.drew := ⟨_, rfl⟩
  rw [← hW2]
  have HBW : Aside0 (Below W.heap.size W W2) := ⟨by rw [hW2]; exact (Below.refl _ W).drew⟩
  clear hW2 F0 F1 F2 F4 G0 G1 G2 G3
  have F2 : W2.cell? ⟨b, 2, none⟩ = some (.int .u64 n) := (blk_cell ((HBW.out.block b (blk_lt HC0.out)).trans HC0.out) 2).trans rfl
  go_wp2
  go_region_held3 (fun W' => W'.cell? ⟨b, 2, none⟩ = some (.int .u64 n)) (go_keep) (first | (go_at_call 163; (with_reducible refine (HDIV _).out.mono ?_); rintro e w1 ⟨r, rfl, hg1⟩; have r0 := cB_ (w := W2.drew) hg1 F2; have HB2 := Aside0.mk ((Below.refl _ W2).drew.trans hg1); clear hg1))
  clear r0 F2
  go_wp2_with fail
  refine (value_Int.calls (wrap64 q0) 1 (wrap64 q0) ⟨#[]⟩ w1 rfl).mono ?_
  rintro e W3 ⟨rfl, hb3⟩
  have HB4 : Aside0 (Below W.heap.size W W3) := ⟨(HBW.out.trans (HB2.out.mono HBW.out.size)).trans (hb3.mono (HBW.out.trans (HB2.out.mono HBW.out.size)).size)⟩
  have hN3 := (HB4.out.block q (blk_lt HN0.out)).trans HN0.out
  have HN3 := Aside0.mk hN3
  have HB3 : Aside0 (Below w.heap.size w W3) := ⟨HB1.out.trans (HB4.out.mono HB1.out.size)⟩
  have G0 : W3.cell? ⟨q, 0, none⟩ = some (.int .u8 0) := (blk_cell hN3 0).trans rfl
  have G1 : W3.cell? ⟨q, 1, none⟩ = some (.int .i64 0) := (blk_cell hN3 1).trans rfl
  have G2 : W3.cell? ⟨q, 2, none⟩ = some (.string ⟨#[]⟩) := (blk_cell hN3 2).trans rfl
  have G3 : W3.cell? ⟨q, 3, none⟩ = some (.int .i64 0) := (blk_cell hN3 3).trans rfl
  have F4 : ∀ j, W3.frozen? ⟨q, j, none⟩ = false := (fun j => by simp [World.frozen?, hN3])
  clear hb3 hN3
  go_wp2
  refine bodyPost_ret (results_cell_row rfl _ _ q 38 #[.int .u8 1, .int .i64 (wrap64 q0), .string (⟨#[]⟩ : ByteArray), .int .i64 0] (0, 0) _ rfl (out_cells HN3.out _ _ _ _) Tryz.underlying38 rfl (by kernel_rfl)) rfl ?_
  exact ⟨rfl, out_below HB3.out HQ.out _ _ _ _⟩
 | true =>
  simp only [if_true] at hH hL hX
  obtain ⟨br, hbr⟩ : ∃ br : Int, (if 0 < l then 1 else 0) = br := ⟨_, rfl⟩
  rw [hbr] at hH
  have hb01 : 0 ≤ br ∧ br ≤ 1 := by rw [← hbr]; split <;> omega
  have A1 : ∀ W, (callFunc 162 #[.int .u64 0, .int .u64 l, .int .u64 0]).run Tryz.prog W = .ok (.value (.tuple #[.int .u64 L, .int .u64 br])) W := fun W => by
   rw [sub64 l 0 l0 l1 (by omega) (by omega) W, Int.add_zero, hbr, hL, Int.sub_zero]
  obtain ⟨br2, hbr2⟩ : ∃ br2 : Int, (if 0 < h + br then 1 else 0) = br2 := ⟨_, rfl⟩
  have A2 : ∀ W, (callFunc 162 #[.int .u64 0, .int .u64 h, .int .u64 br]).run Tryz.prog W = .ok (.value (.tuple #[.int .u64 H, .int .u64 br2])) W := fun W => by
   rw [sub64 h br h0 h1 hb01.1 hb01.2 W, hH, hbr2]
  obtain ⟨Q, hQ⟩ : ∃ Q, IntKind.u64.wrap (-q0) = Q := ⟨_, rfl⟩
  rw [hQ] at hX
  have hX := hX.symm
  subst hX
  clear hb hlt h0 h1 l0 l1 n0 n1 hm hLb hq hH hL hbr hbr2 hb01
  go_enter Tryz.func161, Tryz.ntmps161
  go_wp2_with (first | ((with_reducible refine gate_dst (N := 2) rfl ?_); refine box_event ?hg (N := 2) ?hd (cs := #[.int .u8 0, .int .i64 0, .string (⟨#[]⟩ : ByteArray), .int .i64 0]) (t := 38) ?hr ?_; (case hd => rfl); (case hg => rfl); (case hr => first | (go_simp; done) | (go_simp; rfl)); intro q hq W hN hb1; have C0 := (hb1.block b HLT.out).trans HBK.out; have HC0 := Aside0.mk C0; have HB1 := Aside0.mk hb1; have HQ := Aside0.mk hq; have HN0 := Aside0.mk hN; have F0 : W.cell? ⟨b, 0, none⟩ = some (.int .u64 h) := (blk_cell C0 0).trans rfl; have F1 : W.cell? ⟨b, 1, none⟩ = some (.int .u64 l) := (blk_cell C0 1).trans rfl; have F2 : W.cell? ⟨b, 2, none⟩ = some (.int .u64 n) := (blk_cell C0 2).trans rfl; have G0 : W.cell? ⟨q, 0, none⟩ = some (.int .u8 0) := (blk_cell hN 0).trans rfl; have G1 : W.cell? ⟨q, 1, none⟩ = some (.int .i64 0) := (blk_cell hN 1).trans rfl; have G2 : W.cell? ⟨q, 2, none⟩ = some (.string ⟨#[]⟩) := (blk_cell hN 2).trans rfl; have G3 : W.cell? ⟨q, 3, none⟩ = some (.int .i64 0) := (blk_cell hN 3).trans rfl; have F4 : ∀ j, W.frozen? ⟨q, j, none⟩ = false := (fun j => by simp [World.frozen?, hN]); clear hb1 hq hN C0))
  go_region
  obtain ⟨W2, hW2⟩ : ∃ W2, W2 = W.drew := ⟨_, rfl⟩
  rw [← hW2]
  have HBW : Aside0 (Below W.heap.size W W2) := ⟨by rw [hW2]; exact (Below.refl _ W).drew⟩
  clear hW2 F0 F1 F2 F4 G0 G1 G2 G3
  have F2 : W2.cell? ⟨b, 2, none⟩ = some (.int .u64 n) := (blk_cell ((HBW.out.block b (blk_lt HC0.out)).trans HC0.out) 2).trans rfl
  go_wp2
  go_region_held3 (fun W' => W'.cell? ⟨b, 2, none⟩ = some (.int .u64 n)) (go_keep) (first | (go_at_call 163; (with_reducible refine (HDIV _).out.mono ?_); rintro e w1 ⟨r, rfl, hg1⟩; have r0 := cB_ (w := W2.drew) hg1 F2; have HB2 := Aside0.mk ((Below.refl _ W2).drew.trans hg1); clear hg1))
  clear r0 F2
  go_wp2_with fail
  refine (value_Int.calls (wrap64 Q) 1 (wrap64 Q) ⟨#[]⟩ w1 rfl).mono ?_
  rintro e W3 ⟨rfl, hb3⟩
  have HB4 : Aside0 (Below W.heap.size W W3) := ⟨(HBW.out.trans (HB2.out.mono HBW.out.size)).trans (hb3.mono (HBW.out.trans (HB2.out.mono HBW.out.size)).size)⟩
  have hN3 := (HB4.out.block q (blk_lt HN0.out)).trans HN0.out
  have HN3 := Aside0.mk hN3
  have HB3 : Aside0 (Below w.heap.size w W3) := ⟨HB1.out.trans (HB4.out.mono HB1.out.size)⟩
  have G0 : W3.cell? ⟨q, 0, none⟩ = some (.int .u8 0) := (blk_cell hN3 0).trans rfl
  have G1 : W3.cell? ⟨q, 1, none⟩ = some (.int .i64 0) := (blk_cell hN3 1).trans rfl
  have G2 : W3.cell? ⟨q, 2, none⟩ = some (.string ⟨#[]⟩) := (blk_cell hN3 2).trans rfl
  have G3 : W3.cell? ⟨q, 3, none⟩ = some (.int .i64 0) := (blk_cell hN3 3).trans rfl
  have F4 : ∀ j, W3.frozen? ⟨q, j, none⟩ = false := (fun j => by simp [World.frozen?, hN3])
  clear hb3 hN3
  go_wp2
  refine bodyPost_ret (results_cell_row rfl _ _ q 38 #[.int .u8 1, .int .i64 (wrap64 Q), .string (⟨#[]⟩ : ByteArray), .int .i64 0] (0, 0) _ rfl (out_cells HN3.out _ _ _ _) Tryz.underlying38 rfl (by kernel_rfl)) rfl ?_
  exact ⟨rfl, out_below HB3.out HQ.out _ _ _ _⟩
end Go.Proofs.YtecgkcgfeghhgaaGreatDoor.PAll
set_option linter.unusedVariables false
set_option linter.unusedSimpArgs false
namespace Go.Proofs.YtecgkcgfeghhgaaGreatDoor.PAll
open Go.RowKit Go.Proofs.YtecgkcgfeghhgaaGreatDoorW.PrintWords Go.Proofs.YtecgkcgfeghhgaaGreatDoorW.PrintLast Go.Proofs.YtecgkcgfeghhgaaGreatDoorW.PrintMore
def meanH (h l : Int) : Int := if decide (wrap64 h < 0) = true then (18446744073709551616 - h - (if 0 < l then 1 else 0)) % 18446744073709551616 else h
def meanL (h l : Int) : Int := if decide (wrap64 h < 0) = true then (18446744073709551616 - l) % 18446744073709551616 else l
def meanQ (h l n : Int) : Int := ((meanH h l).tmod n * 18446744073709551616 + meanL h l) / n
def meanX (h l n : Int) : Int := if decide (wrap64 h < 0) = true then wrap64 (IntKind.u64.wrap (-meanQ h l n)) else wrap64 (meanQ h l n)
def meanOut (h l n : Int) : Int × Int × ByteArray × Int := if n = 0 then (0, 0, ⟨#[]⟩, 0) else (1, meanX h l n, ⟨#[]⟩, 0)
def meanG : Gath where
 σ := Int × Int × Int
 T := 123
 S := 125
 take := 158
 done := 161
 cells := fun s => #[.int .u64 s.1, .int .u64 s.2.1, .int .u64 s.2.2]
 init := (0, 0, 0)
 step := tStep
 out := fun s => meanOut s.1 s.2.1 s.2.2
 good := fun _ => True
 inv := fun s => 0 ≤ s.1 ∧ s.1 < 18446744073709551616 ∧ 0 ≤ s.2.1 ∧ s.2.1 < 18446744073709551616
 inv0 := by decide
 step_inv := fun s v _ _ => by
  simp only [tStep]
  omega
 hmt := fun a w => by kernel_rfl
 hmd := fun a w => by kernel_rfl
 het := enters_of Tryz.func158 (by kernel_rfl) rfl
 hed := enters_of Tryz.func161 (by kernel_rfl) rfl
 htake := fun b s v w hi _ hb => total_take 125 b s.1 s.2.1 s.2.2 v w hb hi.1 hi.2.2.1 hi.2.2.2
 fin := fun s => 0 ≤ s.2.2 ∧ s.2.2 < 4294967296
 hdone := fun b s w hi hf hb => by
  by_cases hn : s.2.2 = 0
  · simp only [meanOut, if_pos hn]
    exact mean_zero b s.1 s.2.1 s.2.2 w hb hn
  · simp only [meanOut, if_neg hn]
    exact mean_some b s.1 s.2.1 s.2.2 w hb hi.1 hi.2.1 hi.2.2.1 hi.2.2.2 (by omega) hf.2 _ _ _ _ _ rfl rfl rfl rfl rfl
def extG (sg : Int) (hs : sg = 1 ∨ sg = -1) : Gath where
 σ := Bool × V
 T := 126
 S := 128
 take := 166
 done := 165
 cells := fun s => #[.int .i64 sg, .bool s.1, .int .u8 s.2.f0, .int .i64 s.2.f1, .string s.2.f2]
 init := (false, ⟨0, 0, ⟨#[]⟩⟩)
 step := eStep sg
 out := fun s => (s.2.f0, s.2.f1, s.2.f2, 0)
 good := KindOk
 inv := fun _ => True
 inv0 := trivial
 step_inv := fun _ _ _ _ => trivial
 hmt := fun a w => by kernel_rfl
 hmd := fun a w => by kernel_rfl
 het := enters_of Tryz.func166 (by kernel_rfl) rfl
 hed := enters_of Tryz.func165 (by kernel_rfl) rfl
 htake := fun b s v w _ hk hb => extreme_take b sg s.1 s.2 v w hb hs hk
 fin := fun _ => True
 hdone := fun b s w _ _ hb => extreme_done b sg s.1 s.2 w hb
def avgR (vs : List V) : Int × Int × ByteArray × Int := if vs = [] then (0, 0, ⟨#[]⟩, 0) else (1, (sumV vs).tdiv vs.length, ⟨#[]⟩, 0)
theorem mean_pos (S n : Int) (n0 : 0 < n) (h0 : 0 ≤ S) (h1 : S ≤ 9223372036854775807 * n) (n1 : n < 4294967296) : meanX ((S / 18446744073709551616) % 18446744073709551616) (S % 18446744073709551616) n = S.tdiv n := by
 obtain ⟨h, hh⟩ : ∃ h, h = (S / 18446744073709551616) % 18446744073709551616 := ⟨_, rfl⟩
 obtain ⟨l, hl⟩ : ∃ l, l = S % 18446744073709551616 := ⟨_, rfl⟩
 rw [← hh, ← hl]
 have hb : 0 ≤ h ∧ h < n := by omega
 have hneg : decide (wrap64 h < 0) = false := decide_eq_false (by unfold wrap64; omega)
 have hS : h * 18446744073709551616 + l = S := by omega
 unfold meanX meanQ meanH meanL
 rw [hneg]
 simp only [Bool.false_eq_true, if_false]
 rw [Int.tmod_eq_of_lt hb.1 hb.2, hS, Int.tdiv_eq_ediv_of_nonneg h0]
 have q1 : S / n ≤ 9223372036854775807 := Int.ediv_le_of_le_mul n0 h1
 have q0 : 0 ≤ S / n := Int.ediv_nonneg h0 (by omega)
 obtain ⟨q, hq⟩ : ∃ q, q = S / n := ⟨_, rfl⟩
 rw [← hq] at q0 q1 ⊢
 unfold wrap64
 omega
theorem mean_neg (M n : Int) (n0 : 0 < n) (h0 : 0 < M) (h1 : M ≤ 9223372036854775808 * n) (n1 : n < 4294967296) : meanX ((-M / 18446744073709551616) % 18446744073709551616) (-M % 18446744073709551616) n = (-M).tdiv n := by
 obtain ⟨h, hh⟩ : ∃ h, h = (-M / 18446744073709551616) % 18446744073709551616 := ⟨_, rfl⟩
 obtain ⟨l, hl⟩ : ∃ l, l = -M % 18446744073709551616 := ⟨_, rfl⟩
 rw [← hh, ← hl]
 have hneg : decide (wrap64 h < 0) = true := decide_eq_true (by unfold wrap64; omega)
 have hH : meanH h l = M / 18446744073709551616 := by
  unfold meanH
  rw [if_pos hneg]
  split <;> omega
 have hL : meanL h l = M % 18446744073709551616 := by
  unfold meanL
  rw [if_pos hneg]
  omega
 have hHn : 0 ≤ M / 18446744073709551616 ∧ M / 18446744073709551616 < n := by omega
 have hS : M / 18446744073709551616 * 18446744073709551616 + M % 18446744073709551616 = M := by omega
 unfold meanX meanQ
 rw [if_pos hneg, hH, hL, Int.tmod_eq_of_lt hHn.1 hHn.2, hS, Int.neg_tdiv, Int.tdiv_eq_ediv_of_nonneg (by omega)]
 have q1 : M / n ≤ 9223372036854775808 := Int.ediv_le_of_le_mul n0 h1
 have q0 : 0 ≤ M / n := Int.ediv_nonneg (by omega) (by omega)
 obtain ⟨q, hq⟩ : ∃ q, q = M / n := ⟨_, rfl⟩
 rw [← hq] at q0 q1 ⊢
 rw [u64w]
 unfold wrap64
 omega
theorem mean_fin (vs : List V) (h : ∀ v ∈ vs, okInt v) (hn : vs.length < 4294967296) : meanG.fin (vs.foldl meanG.step meanG.init) ∧ meanG.out (vs.foldl meanG.step meanG.init) = avgR vs := by
 have e := total_fold vs 0 0 h (by omega) (by omega)
 have e0 : stOf 0 0 = (0, 0, 0) := by decide
 rw [e0, Int.zero_add, Int.zero_add] at e
 change (fun s : Int × Int × Int => 0 ≤ s.2.2 ∧ s.2.2 < 4294967296) (vs.foldl tStep (0, 0, 0)) ∧ (fun s : Int × Int × Int => meanOut s.1 s.2.1 s.2.2) (vs.foldl tStep (0, 0, 0)) = _
 rw [e]
 have hb := sumV_bd vs h
 refine ⟨⟨by show (0 : Int) ≤ (vs.length : Int); omega, by show (vs.length : Int) < 4294967296; omega⟩, ?_⟩
 unfold avgR
 by_cases c0 : vs = []
 · subst c0
   simp [stOf, meanOut]
 · have hp : 0 < vs.length := List.length_pos_iff.2 c0
   rw [if_neg c0]
   show meanOut _ _ _ = _
   unfold meanOut
   rw [if_neg (by show ¬ (vs.length : Int) = 0; omega)]
   congr 2
   obtain ⟨S, hS⟩ : ∃ S, S = sumV vs := ⟨_, rfl⟩
   rw [← hS] at hb ⊢
   by_cases c : 0 ≤ S
   · exact mean_pos S vs.length (by omega) c hb.2 (by omega)
   · obtain ⟨M, hM⟩ : ∃ M, M = -S := ⟨_, rfl⟩
     obtain rfl : S = -M := by omega
     exact mean_neg M vs.length (by omega) (by omega) (by omega) (by omega)
theorem aggregate_bad (k : Nat) (fn : Int) (d : Bool) (A2 : Option Addr) (c2 : Nat) (l : List V) (w : World) (hr : Kd.C kV w A2 l.length l) (hc : l.length ≤ c2) (hall : bag_allowed.f k fn d l = some false) :
 Calls Tryz.prog 21 #[.int .u8 fn, .bool d, .slice A2 l.length c2] w fun e w' => e = .returned (.agg #[.int .u8 0, .int .i64 0, .string ⟨#[]⟩, .int .i64 1]) ∧ Below w.heap.size w w' := by
 have HR := Aside0.mk hr
 have HC := Aside0.mk hc
 have HA := Aside0.mk hall
 clear hr hc hall
 go_enter Tryz.func21, Tryz.ntmps21
 go_wp2_with (first | ((with_reducible refine gate_dst (N := 6) rfl ?_); refine box_event ?hg (N := 6) ?hd (cs := #[.int .u8 0, .int .i64 0, .string (⟨#[]⟩ : ByteArray), .int .i64 0]) (t := 38) ?hr ?_; (case hd => rfl); (case hg => rfl); (case hr => first | (go_simp; done) | (go_simp; rfl)); intro q hq W hN hb1; have HB1 := Aside0.mk hb1; have HQ := Aside0.mk hq; have HN0 := Aside0.mk hN; clear hb1 hq hN))
 refine (bag_allowed.calls k fn d A2 c2 l false W (Kd.C_below HR.out HB1.out) HC.out HA.out).mono ?_
 rintro e w3 ⟨rfl, hb2⟩
 have hN3 := (hb2.block q (blk_lt HN0.out)).trans HN0.out
 have HN3 := Aside0.mk hN3
 have HB3 := Aside0.mk (HB1.out.trans (hb2.mono HB1.out.size))
 have G0 : w3.cell? ⟨q, 0, none⟩ = some (.int .u8 0) := (blk_cell hN3 0).trans rfl
 have G1 : w3.cell? ⟨q, 1, none⟩ = some (.int .i64 0) := (blk_cell hN3 1).trans rfl
 have G2 : w3.cell? ⟨q, 2, none⟩ = some (.string ⟨#[]⟩) := (blk_cell hN3 2).trans rfl
 have G3 : w3.cell? ⟨q, 3, none⟩ = some (.int .i64 0) := (blk_cell hN3 3).trans rfl
 have F4 : ∀ j, w3.frozen? ⟨q, j, none⟩ = false := fun j => by simp [World.frozen?, hN3]
 clear hb2 hN3
 go_wp2
 refine bodyPost_ret (results_cell_row rfl _ _ q 38 _ (0, 0) _ rfl (out_cells HN3.out _ _ _ _) Tryz.underlying38 rfl (by kernel_rfl)) rfl ?_
 exact ⟨rfl, out_below HB3.out HQ.out _ _ _ _⟩
noncomputable def extR (sg : Int) (vs : List V) : Int × Int × ByteArray × Int := (fun s : Bool × V => (s.2.f0, s.2.f1, s.2.f2, 0)) (vs.foldl (eStep sg) (false, ⟨0, 0, ⟨#[]⟩⟩))
noncomputable def aggV (fn : Int) (vs : List V) : Int × Int × ByteArray × Int :=
 if fn = 2 then sumR vs else if fn = 3 then extR 1 vs else if fn = 4 then extR (-1) vs else if fn = 5 then avgR vs else (1, (vs.length : Int), ⟨#[]⟩, 0)
noncomputable def aggR (fn : Int) (d : Bool) (vs : List V) : Int × Int × ByteArray × Int :=
 if allowedB fn d vs = true then aggV fn (pickV fn d [] vs) else (0, 0, ⟨#[]⟩, 1)
theorem kindFrom_valid : ∀ (vs : List V) (k k' : Int), kindFrom k vs = some k' → ∀ v ∈ vs, validV v = true
 | [], _, _, _ => by simp
 | v :: vs, k, k', h => by
  unfold kindFrom at h
  split at h
  case isFalse => cases h
  rename_i hc
  intro u hu
  rcases List.mem_cons.1 hu with rfl | hu
  · exact hc.1
  · exact kindFrom_valid vs _ _ h u hu
theorem allowedB_valid {fn : Int} {d : Bool} {vs : List V} (h : allowedB fn d vs = true) : fn ≤ 5 ∧ ∀ v ∈ vs, validV v = true := by
 unfold allowedB at h
 split at h
 · cases h
 rename_i hc
 refine ⟨by omega, ?_⟩
 cases hk : kindFrom 0 vs with
 | none => rw [hk] at h; cases h
 | some k => exact kindFrom_valid vs 0 k hk
theorem pickV_sub (fn : Int) (d : Bool) : ∀ (vs : List V) (seen : List ByteArray), (∀ v ∈ pickV fn d seen vs, v ∈ vs) ∧ (pickV fn d seen vs).length ≤ vs.length
 | [], _ => by simp [pickV]
 | v :: vs, seen => by
  have h1 := pickV_sub fn d vs seen
  have h2 := pickV_sub fn d vs (nameOf [v] :: seen)
  have e1 : ∀ seen', (∀ u ∈ pickV fn d seen' vs, u ∈ vs) ∧ (pickV fn d seen' vs).length ≤ vs.length → (∀ u ∈ v :: pickV fn d seen' vs, u ∈ v :: vs) ∧ (v :: pickV fn d seen' vs).length ≤ (v :: vs).length := fun seen' h => ⟨fun u hu => by
   rcases List.mem_cons.1 hu with rfl | hu
   · exact List.mem_cons_self
   · exact List.mem_cons_of_mem _ (h.1 u hu), by simp; exact h.2⟩
  have e2 : (∀ u ∈ pickV fn d seen vs, u ∈ v :: vs) ∧ (pickV fn d seen vs).length ≤ (v :: vs).length := ⟨fun u hu => List.mem_cons_of_mem _ (h1.1 u hu), by simp; omega⟩
  simp only [pickV]
  split
  · exact e2
  · split
    · split
      · exact e2
      · exact e1 _ h2
    · exact e1 _ h1
def AggOk (fn : Int) (vs : List V) : Prop := 0 ≤ fn ∧ (fn = 5 → vs.length < 4294967296) ∧ (∀ v ∈ vs, RowOk [v]) ∧ vs.length ≤ 1099511627776
open Classical in
noncomputable def bag_Aggregate.f (fn : Int) (d : Bool) (vs : List V) : Option (Int × Int × ByteArray × Int) := if AggOk fn vs then some (aggR fn d vs) else none
theorem bag_Aggregate.calls (a0 : Int) (a1 : Bool) (A2 : Option Addr) (c2 : Nat) (l2 : List V) (r1 r2 : Int) (r3 : ByteArray) (r4 : Int) (w : World) (hr2 : Kd.C kV w A2 l2.length l2) (hc2 : l2.length ≤ c2) (hT : LaidT w) (h : bag_Aggregate.f a0 a1 l2 = some (r1, r2, r3, r4)) :
 Calls Tryz.prog 21 #[.int .u8 a0, .bool a1, .slice A2 l2.length c2] w fun e w' => e = .returned (.agg #[.int .u8 r1, .int .i64 r2, .string r3, .int .i64 r4]) ∧ Below w.heap.size w w' := by
 unfold bag_Aggregate.f at h
 split at h
 case isFalse => cases h
 rename_i hok
 obtain ⟨hf0, hf1, hok, hn⟩ := hok
 have h := Option.some.inj h
 have hv : ∀ v ∈ l2, VOk v := fun v hv => (hok v hv).1 v (by simp)
 obtain ⟨k, hk⟩ := (allowed_ev a0 a1 l2 hv hn).rounds
 unfold aggR at h
 cases hq : allowedB a0 a1 l2 with
 | false =>
  rw [hq] at hk h
  simp only [Bool.false_eq_true, if_false, Prod.mk.injEq] at h
  obtain ⟨rfl, rfl, rfl, rfl⟩ := h
  exact aggregate_bad k a0 a1 A2 c2 l2 w hr2 hc2 hk
 | true =>
  rw [hq] at hk h
  rw [if_pos rfl] at h
  obtain ⟨hle, hval⟩ := allowedB_valid hq
  obtain ⟨hsub, hlen⟩ := pickV_sub a0 a1 l2 []
  have hkind : ∀ v ∈ pickV a0 a1 [] l2, KindOk v := fun v hm => valid_kind (hval v (hsub v hm))
  have hint : ∀ v ∈ pickV a0 a1 [] l2, okInt v := fun v hm => by have := hv v (hsub v hm); exact ⟨this.2.2.1, this.2.2.2⟩
  unfold aggV at h
  by_cases h2 : a0 = 2
  · subst h2
    rw [if_pos rfl] at h
    have hc := aggregate_walk totalG k 2 a1 A2 c2 l2 w hT hr2 hc2 hok hn hk (fun _ _ => trivial) trivial (fun w => gath_sum w)
    have e := total_out (pickV 2 a1 [] l2) hint (Nat.le_trans hlen hn)
    rw [e, h] at hc
    exact hc
  · rw [if_neg h2] at h
    by_cases h3 : a0 = 3
    · subst h3
      rw [if_pos rfl] at h
      have hc := aggregate_walk (extG 1 (.inl rfl)) k 3 a1 A2 c2 l2 w hT hr2 hc2 hok hn hk hkind trivial (fun w => gath_min w)
      have e : (extG 1 (.inl rfl)).out ((pickV 3 a1 [] l2).foldl (extG 1 (.inl rfl)).step (extG 1 (.inl rfl)).init) = (r1, r2, r3, r4) := h
      rw [e] at hc
      exact hc
    · rw [if_neg h3] at h
      by_cases h4 : a0 = 4
      · subst h4
        rw [if_pos rfl] at h
        have hc := aggregate_walk (extG (-1) (.inr rfl)) k 4 a1 A2 c2 l2 w hT hr2 hc2 hok hn hk hkind trivial (fun w => gath_max w)
        have e : (extG (-1) (.inr rfl)).out ((pickV 4 a1 [] l2).foldl (extG (-1) (.inr rfl)).step (extG (-1) (.inr rfl)).init) = (r1, r2, r3, r4) := h
        rw [e] at hc
        exact hc
      · rw [if_neg h4] at h
        by_cases h5 : a0 = 5
        · subst h5
          rw [if_pos rfl] at h
          obtain ⟨e1, e2⟩ := mean_fin (pickV 5 a1 [] l2) hint (Nat.lt_of_le_of_lt hlen (hf1 rfl))
          have hc := aggregate_walk meanG k 5 a1 A2 c2 l2 w hT hr2 hc2 hok hn hk (fun _ _ => trivial) e1 (fun w => gath_avg w)
          rw [e2, h] at hc
          exact hc
        · rw [if_neg h5] at h
          have hc := aggregate_walk countG k a0 a1 A2 c2 l2 w hT hr2 hc2 hok hn hk (fun _ _ => trivial) trivial (fun w => gath_count a0 (by omega) w)
          have e := count_fold (pickV a0 a1 [] l2) 0 (Int.le_refl _) (by omega)
          change Calls _ _ _ _ fun e w' => e = .returned (.agg #[.int .u8 1, .int .i64 ((pickV a0 a1 [] l2).foldl cStep 0), .string ⟨#[]⟩, .int .i64 0]) ∧ _ at hc
          rw [e, Int.zero_add] at hc
          simp only [Prod.mk.injEq] at h
          obtain ⟨rfl, rfl, rfl, rfl⟩ := h
          exact hc
end Go.Proofs.YtecgkcgfeghhgaaGreatDoor.PAll
namespace Go.Proofs.YtecgkcgfeghhgaaGreatDoor.PAll
open Go.RowKit Go.Proofs.YtecgkcgfeghhgaaGreatDoorW.PrintWords Go.Proofs.YtecgkcgfeghhgaaGreatDoorW.PrintLast Go.Proofs.YtecgkcgfeghhgaaGreatDoorW.PrintMore
attribute [local go_sem] max2_int min2_int max_two min_two max_three min_three max_four min_four
set_option linter.unusedVariables false
set_option linter.unusedSimpArgs false
def r1_Int.f (a0 : Int) : Option (Int × Int × ByteArray) := some (1, a0, (⟨#[]⟩ : ByteArray))
theorem r1_Int.calls (a0 : Int) (r1 : Int) (r2 : Int) (r3 : ByteArray) (w : World) (h : r1_Int.f a0 = some (r1, r2, r3)) :
 Calls Tryz.prog 43 #[.int .i64 a0] w fun e w' => e = .returned (.agg #[.int .u8 r1, .int .i64 r2, .string r3]) ∧ Below w.heap.size w w' := by
 have hu36 := Tryz.underlying36
 have HB := Aside0.mk (Below.refl w.heap.size w)
 have H : (some (1, a0, (⟨#[]⟩ : ByteArray))) = some (r1, r2, r3) := h
 clear h
 simp only [Option.some.injEq, Prod.mk.injEq] at H
 obtain ⟨rfl, rfl, rfl⟩ := H
 go_enter Tryz.func43, Tryz.ntmps43
 go_wp2_with (first | ((with_reducible refine gate_dst (N := 2) rfl ?_); refine box_event ?hg (N := 2) ?hd (cs := #[.int .u8 0, .int .i64 0, .string (⟨#[]⟩ : ByteArray)]) (t := 36) ?hr ?_; (case hd => rfl); (case hg => rfl); (case hr => first | (go_simp; done) | (go_simp; rfl)); intro gb124 hg w2 hbox hb; have n0_ := Aside0.mk (below_step (by repeat (first | (with_reducible first | exact HB.out | apply bA_ | apply bN_ | apply b1_) | exact HB.out)) hb); have n1_ := Aside0.mk (hbox); have n2_ := Aside0.mk ((by rw [hg]; exact (below_size (by repeat (first | (with_reducible first | exact HB.out | apply bA_ | apply bN_ | apply b1_) | exact HB.out))) : w.heap.size ≤ gb124)); have n3_ := Aside0.mk ((by rw [hg]; exact (below_size (by repeat (first | (with_reducible first | exact HB.out | apply bA_ | apply bN_ | apply b1_) | exact HB.out))) : w.heap.size ≤ gb124)); clear HB; have HB := n0_; have BK124 := n1_; have GW124 := n2_; have GE124 := n3_; clear n0_ n1_ n2_ n3_; clear hb hbox hg; have hcz3_0 : w2.cell? ⟨gb124, 0, none⟩ = some (.int .u8 0) := (blk_cell BK124.out 0).trans rfl; have hcz3_1 : w2.cell? ⟨gb124, 1, none⟩ = some (.int .i64 0) := (blk_cell BK124.out 1).trans rfl; have hcz3_2 : w2.cell? ⟨gb124, 2, none⟩ = some (.string (⟨#[]⟩ : ByteArray)) := (blk_cell BK124.out 2).trans rfl; have hfz3_0 := blk_frozen BK124.out 0; have hfz3_1 := blk_frozen BK124.out 1; have hfz3_2 := blk_frozen BK124.out 2))
 refine bodyPost_ret (results_cell_row rfl _ _ gb124 36 #[.int .u8 1, .int .i64 a0, .string (⟨#[]⟩ : ByteArray)] (0, 0) _ rfl (by (with_reducible repeat (first | refine blk_drewN ?_ _ | refine blk_drew ?_ | refine blk_alloc ?_ _)); refine blk_put (cs := #[.int .u8 1, .int .i64 a0, .string (⟨#[]⟩ : ByteArray)]) ?_ 2 _ rfl; (with_reducible repeat (first | refine blk_drewN ?_ _ | refine blk_drew ?_ | refine blk_alloc ?_ _)); refine blk_put (cs := #[.int .u8 1, .int .i64 0, .string (⟨#[]⟩ : ByteArray)]) ?_ 1 _ rfl; (with_reducible repeat (first | refine blk_drewN ?_ _ | refine blk_drew ?_ | refine blk_alloc ?_ _)); refine blk_put (cs := #[.int .u8 0, .int .i64 0, .string (⟨#[]⟩ : ByteArray)]) ?_ 0 _ rfl; (with_reducible repeat (first | refine blk_drewN ?_ _ | refine blk_drew ?_ | refine blk_alloc ?_ _)); exact BK124.out) Tryz.underlying36 rfl (by kernel_rfl)) rfl ?_
 exact ⟨by first | rfl | (simp [*, errW_none, errW_some] <;> rfl), by repeat (first | (with_reducible first | exact HB.out | apply bA_ | apply bN_ | apply b1_ | refine below_set ?_ GE124.out) | exact HB.out)⟩
mutual
def r6_aggregable.j0 : Nat → Int → List (S36) → Bool → Option (Bool)
 | 0, _, _, _ => none
 | k + 1, x0, x2, x17 => if x17 = true then (some false) else (r6_aggregable.l0 k x0 x2 0 0)
def r6_aggregable.l0 : Nat → Int → List (S36) → Int → Int → Option (Bool)
 | 0, _, _, _, _ => none
 | k + 1, x0, x2, x7, x8 => if x8 < (x2.length : Int) then (if 0 ≤ x8 then ((r1_Valid.f ((rd_T36 x2 x8).f0) ((rd_T36 x2 x8).f1) ((rd_T36 x2 x8).f2)).bind fun t264 => (if t264 = true then ((r6_fits.f ((rd_T36 x2 x8).f0) ((rd_T36 x2 x8).f1) ((rd_T36 x2 x8).f2) x7).bind fun t266 => (r6_aggregable.j2 k x0 x2 x7 x8 (!t266))) else (r6_aggregable.j2 k x0 x2 x7 x8 true))) else (none)) else (if x7 = 0 then (some true) else (if x7 = 1 then (some true) else (if x0 = 2 then (some false) else (some (x0 != 5)))))
def r6_aggregable.j2 : Nat → Int → List (S36) → Int → Int → Bool → Option (Bool)
 | 0, _, _, _, _, _ => none
 | k + 1, x0, x2, x7, x8, x38 => if x38 = true then (some false) else (if 0 ≤ x8 then (if x8 < (x2.length : Int) then (if ((rd_T36 x2 x8).f0) = 0 then (r6_aggregable.l0 k x0 x2 x7 (wrap64 (x8 + 1))) else (r6_aggregable.l0 k x0 x2 ((rd_T36 x2 x8).f0) (wrap64 (x8 + 1)))) else (none)) else (none))
end
def r6_aggregable.f (k : Nat) (a0 : Int) (a1 : Bool) (l2 : List (S36)) : Option (Bool) := if a0 > 5 then (r6_aggregable.j0 k a0 l2 true) else (if a0 = 0 then (r6_aggregable.j0 k a0 l2 a1) else (r6_aggregable.j0 k a0 l2 false))
theorem r6_aggregable.calls (k : Nat) (a0 : Int) (a1 : Bool) (A2 : Option Addr) (c2 : Nat) (l2 : List (S36)) (r : Bool) (w : World) (hr2 : Kd.C k36 w A2 l2.length l2) (hc2 : l2.length ≤ c2) (h : r6_aggregable.f k a0 a1 l2 = some r) :
 Calls Tryz.prog 51 #[.int .u8 a0, .bool a1, .slice A2 l2.length c2] w fun e w' => e = .returned (.bool r) ∧ Below w.heap.size w w' := by
 have hu36 := Tryz.underlying36
 have HR2 := Aside0.mk hr2
 have HC2 := Aside0.mk hc2
 clear hr2 hc2
 have HB := Aside0.mk (Below.refl w.heap.size w)
 have H : (if a0 > 5 then (r6_aggregable.j0 k a0 l2 true) else (if a0 = 0 then (r6_aggregable.j0 k a0 l2 a1) else (r6_aggregable.j0 k a0 l2 false))) = some r := h
 clear h
 have HC4 := Aside0.mk H
 clear H
 go_enter Tryz.func51, Tryz.ntmps51
 go_upto_region 1 with (fail)
 go_cut [17] (fun v17 wc => ∃ (kq : Nat) (x17_3 : Bool), v17 = .bool x17_3 ∧ Aside0 (r6_aggregable.j0 kq a0 l2 x17_3 = some r) ∧ Aside0 (kq ≤ k) ∧ Aside0 (Below w.heap.size w wc))
 case first =>
  have H := HC4.out
  clear HC4
  by_cases c5 : a0 > 5
  · rw [if_pos c5] at H
    have c5b0 : decide (5 < a0) = true := dT_ c5
    clear c5
    (first | rw [c5b0] | (simp only [i64_w, i32_w]; rw [c5b0]) | skip)
    have H' := Aside0.mk H
    clear H
    go_wp2
    go_meet
    case rel => exact ⟨_, (true), (by first | rfl | (simp; done) | (simp [*]; done)), H', ⟨by first | omega | exact Nat.le_refl _⟩, ⟨by repeat (first | (with_reducible first | exact HB.out | apply bA_ | apply bN_ | apply b1_) | exact HB.out)⟩⟩
  · rw [if_neg c5] at H
    have c5b0 : decide (5 < a0) = false := dF_ c5
    clear c5
    (first | rw [c5b0] | (simp only [i64_w, i32_w]; rw [c5b0]) | skip)
    by_cases c6 : a0 = 0
    · rw [if_pos c6] at H
      have c6b0 : (a0 == 0) = true := beq_iff_eq.mpr c6
      have c6b1 : (a0 != 0) = false := bne_eq_false_iff_eq.mpr c6
      clear c6
      have H' := Aside0.mk H
      clear H
      go_wp2
      go_meet
      case rel => exact ⟨_, (a1), (by first | rfl | (simp; done) | (simp [*]; done)), H', ⟨by first | omega | exact Nat.le_refl _⟩, ⟨by repeat (first | (with_reducible first | exact HB.out | apply bA_ | apply bN_ | apply b1_) | exact HB.out)⟩⟩
    · rw [if_neg c6] at H
      have c6b0 : (a0 == 0) = false := beq_eq_false_iff_ne.mpr c6
      have c6b1 : (a0 != 0) = true := bne_iff_ne.mpr c6
      have H' := Aside0.mk H
      clear H
      go_wp2
      go_meet
      case rel => exact ⟨_, (false), (by first | rfl | (simp; done) | (simp [*]; done)), H', ⟨by first | omega | exact Nat.le_refl _⟩, ⟨by repeat (first | (with_reducible first | exact HB.out | apply bA_ | apply bN_ | apply b1_) | exact HB.out)⟩⟩
 case rest =>
  clear HC4
  try clear c2
  try clear p2
  try clear c5
  try clear c5b0
  try clear c6
  try clear c6b0
  try clear c6b1
  obtain ⟨kq, x17_3, rfl, HA, HJ3, HB⟩ := hcut
  cases kq with
  | zero => exact absurd HA.out (by simp [r6_aggregable.j0])
  | succ kj3 =>
   have H := HA.out
   clear HA
   simp only [r6_aggregable.j0] at H
   by_cases c7 : x17_3 = true
   · subst c7
     have H1 : (some false) = some r := by rw [if_pos rfl] at H; exact H
     clear H
     have H := H1
     clear H1
     obtain rfl := Option.some.inj H
     go_wp2
     go_ret
     exact ⟨by first | rfl | (simp [*, errW_none, errW_some] <;> rfl), by repeat (first | (with_reducible first | exact HB.out | apply bA_ | apply bN_ | apply b1_) | exact HB.out)⟩
   · replace c7 := Bool.eq_false_iff.mpr c7
     subst c7
     have H1 : (r6_aggregable.l0 kj3 a0 l2 0 0) = some r := by rw [if_neg (show ¬ (false = true) by decide)] at H; exact H
     clear H
     have H := H1
     clear H1
     have H' := Aside0.mk H
     clear H
     go_wp2
     go_loopg [7, 8] kj3 (fun kq v7 v8 w' => ∃ (x7_2 : Int) (x8_2 : Int), v7 = .int .u8 x7_2 ∧ v8 = .int .i64 x8_2 ∧ Aside0 (r6_aggregable.l0 kq a0 l2 x7_2 x8_2 = some r) ∧ Aside0 (kq ≤ kj3) ∧ Aside0 (Below w.heap.size w w'))
     case atStart => exact ⟨(0), (0), (by first | rfl | (simp; done) | (simp [*]; done)), (by first | rfl | (simp; done) | (simp [*]; done)), H', ⟨Nat.le_refl _⟩, ⟨by repeat (first | (with_reducible first | exact HB.out | apply bA_ | apply bN_ | apply b1_) | exact HB.out)⟩⟩
     case round =>
      clear H'
      try clear c2
      try clear p2
      try clear c5
      try clear c5b0
      try clear c6
      try clear c6b0
      try clear c6b1
      try clear c7
      try clear p2
      obtain ⟨x7_2, x8_2, rfl, rfl, HA, HK2, HB⟩ := hrel
      cases gk with
      | zero => exact absurd HA.out (by simp [r6_aggregable.l0])
      | succ k2 =>
       have H := HA.out
       clear HA
       simp only [r6_aggregable.l0] at H
       by_cases c8 : x8_2 < (l2.length : Int)
       · rw [if_pos c8] at H
         have c8b0 : decide (x8_2 < (l2.length : Int)) = true := dT_ c8
         clear c8
         have HC9 := Aside0.mk H
         clear H
         go_upto_region 7 with (fail)
         go_cut [38] (fun v38 wc => ∃ (kq : Nat) (x38_8 : Bool), v38 = .bool x38_8 ∧ Aside0 (r6_aggregable.j2 kq a0 l2 x7_2 x8_2 x38_8 = some r) ∧ Aside0 (kq ≤ k2) ∧ Aside0 (Below w.heap.size w wc))
         case first =>
          have H := HC9.out
          clear HC9
          by_cases c10 : 0 ≤ x8_2
          · rw [if_pos c10] at H
            have c10b0 : decide (0 ≤ x8_2) = true := dT_ c10
            clear c10
            (first | rw [c10b0] | (simp only [i64_w, i32_w]; rw [c10b0]) | skip)
            replace H := Option.bind_eq_some_iff.mp H
            obtain ⟨t264, A110, H⟩ := H
            replace H : (if t264 = true then ((r6_fits.f ((rd_T36 l2 x8_2).f0) ((rd_T36 l2 x8_2).f1) ((rd_T36 l2 x8_2).f2) x7_2).bind fun t266 => (r6_aggregable.j2 k2 a0 l2 x7_2 x8_2 (!t266))) else (r6_aggregable.j2 k2 a0 l2 x7_2 x8_2 true)) = some r := H
            have A11 := Aside0.mk A110
            clear A110
            by_cases c12 : t264 = true
            · subst c12
              have H1 : ((r6_fits.f ((rd_T36 l2 x8_2).f0) ((rd_T36 l2 x8_2).f1) ((rd_T36 l2 x8_2).f2) x7_2).bind fun t266 => (r6_aggregable.j2 k2 a0 l2 x7_2 x8_2 (!t266))) = some r := by rw [if_pos rfl] at H; exact H
              clear H
              have H := H1
              clear H1
              replace H := Option.bind_eq_some_iff.mp H
              obtain ⟨t266, A130, H⟩ := H
              replace H : (r6_aggregable.j2 k2 a0 l2 x7_2 x8_2 (!t266)) = some r := H
              have A13 := Aside0.mk A130
              clear A130
              have H' := Aside0.mk H
              clear H
              have p263 : 0 ≤ (x8_2 : Int) := oT_ (by assumption)
              have q263 : x8_2 < (l2.length : Int) := oT_ (by assumption)
              obtain ⟨ad263, e263, hx263_0, hx263_1, hx263_2⟩ := at_T36 HR2.out x8_2 p263 q263
              cases e263
              replace hx263_0 := (HB.out.cell (bLC_ w _ hx263_0)).trans hx263_0
              replace hx263_1 := (HB.out.cell (bLC_ w _ hx263_1)).trans hx263_1
              replace hx263_2 := (HB.out.cell (bLC_ w _ hx263_2)).trans hx263_2
              replace p263 := eq_true p263
              replace q263 := eq_true q263
              go_wp2_with (first | ((with_reducible refine gate_callee (f := 40) rfl ?_); refine goesL_ (some 28) rfl rfl Tryz.func40 (by kernel_rfl) rfl #[.agg #[.int .u8 ((rd_T36 l2 x8_2).f0), .int .i64 ((rd_T36 l2 x8_2).f1), .string ((rd_T36 l2 x8_2).f2)]] rfl (by (try simp only [List.map_toArray, List.map_cons, List.map_nil]); first | done | rfl | (simp only [List.length_drop, List.length_take]; rfl)) ?_; (with_reducible refine (r1_Valid.calls ((rd_T36 l2 x8_2).f0) ((rd_T36 l2 x8_2).f1) ((rd_T36 l2 x8_2).f2) true _ A11.out).mono ?_); rintro e w14 ⟨rfl, hb⟩; refine ⟨_, rfl, ?_⟩; have n0_ := Aside0.mk (below_step (by repeat (first | (with_reducible first | exact HB.out | apply bA_ | apply bN_ | apply b1_) | exact HB.out)) hb); clear HB; have HB := n0_; clear n0_; (try clear hb); (try clear hb2); (try clear hk); (try clear hi); have p265 : 0 ≤ (x8_2 : Int) := oT_ (by assumption); have q265 : x8_2 < (l2.length : Int) := oT_ (by assumption); obtain ⟨ad265, e265, hx265_0, hx265_1, hx265_2⟩ := at_T36 HR2.out x8_2 p265 q265; obtain rfl : ad263 = ad265 := (by injection e265); replace hx265_0 := (HB.out.cell (bLC_ w _ hx265_0)).trans hx265_0; replace hx265_1 := (HB.out.cell (bLC_ w _ hx265_1)).trans hx265_1; replace hx265_2 := (HB.out.cell (bLC_ w _ hx265_2)).trans hx265_2; replace p265 := eq_true p265; replace q265 := eq_true q265) | (go_at_call 41; (with_reducible refine (r6_fits.calls ((rd_T36 l2 x8_2).f0) ((rd_T36 l2 x8_2).f1) ((rd_T36 l2 x8_2).f2) x7_2 t266 _ A13.out).mono ?_); rintro e w15 ⟨rfl, hb⟩; have n0_ := Aside0.mk (below_step (by repeat (first | (with_reducible first | exact HB.out | apply bA_ | apply bN_ | apply b1_) | exact HB.out)) hb); clear HB; have HB := n0_; clear n0_; (try clear hb); (try clear hb2); (try clear hk); (try clear hi)))
              go_meet
              case rel => exact ⟨_, (!t266), (by first | rfl | (simp; done) | (simp [*]; done)), H', ⟨by have := HJ3.out; have := HK2.out; first | omega | exact Nat.le_refl _⟩, ⟨by repeat (first | (with_reducible first | exact HB.out | apply bA_ | apply bN_ | apply b1_) | exact HB.out)⟩⟩
            · replace c12 := Bool.eq_false_iff.mpr c12
              subst c12
              have H1 : (r6_aggregable.j2 k2 a0 l2 x7_2 x8_2 true) = some r := by rw [if_neg (show ¬ (false = true) by decide)] at H; exact H
              clear H
              have H := H1
              clear H1
              have H' := Aside0.mk H
              clear H
              have p263 : 0 ≤ (x8_2 : Int) := oT_ (by assumption)
              have q263 : x8_2 < (l2.length : Int) := oT_ (by assumption)
              obtain ⟨ad263, e263, hx263_0, hx263_1, hx263_2⟩ := at_T36 HR2.out x8_2 p263 q263
              cases e263
              replace hx263_0 := (HB.out.cell (bLC_ w _ hx263_0)).trans hx263_0
              replace hx263_1 := (HB.out.cell (bLC_ w _ hx263_1)).trans hx263_1
              replace hx263_2 := (HB.out.cell (bLC_ w _ hx263_2)).trans hx263_2
              replace p263 := eq_true p263
              replace q263 := eq_true q263
              go_wp2_with (first | ((with_reducible refine gate_callee (f := 40) rfl ?_); refine goesL_ (some 28) rfl rfl Tryz.func40 (by kernel_rfl) rfl #[.agg #[.int .u8 ((rd_T36 l2 x8_2).f0), .int .i64 ((rd_T36 l2 x8_2).f1), .string ((rd_T36 l2 x8_2).f2)]] rfl (by (try simp only [List.map_toArray, List.map_cons, List.map_nil]); first | done | rfl | (simp only [List.length_drop, List.length_take]; rfl)) ?_; (with_reducible refine (r1_Valid.calls ((rd_T36 l2 x8_2).f0) ((rd_T36 l2 x8_2).f1) ((rd_T36 l2 x8_2).f2) false _ A11.out).mono ?_); rintro e w16 ⟨rfl, hb⟩; refine ⟨_, rfl, ?_⟩; have n0_ := Aside0.mk (below_step (by repeat (first | (with_reducible first | exact HB.out | apply bA_ | apply bN_ | apply b1_) | exact HB.out)) hb); clear HB; have HB := n0_; clear n0_; (try clear hb); (try clear hb2); (try clear hk); (try clear hi)))
              go_meet
              case rel => exact ⟨_, (true), (by first | rfl | (simp; done) | (simp [*]; done)), H', ⟨by have := HJ3.out; have := HK2.out; first | omega | exact Nat.le_refl _⟩, ⟨by repeat (first | (with_reducible first | exact HB.out | apply bA_ | apply bN_ | apply b1_) | exact HB.out)⟩⟩
          · rw [if_neg c10] at H
            exact absurd H (by simp)
         case rest =>
          clear HC9
          try clear c1
          try clear c2
          try clear p2
          try clear q2
          try clear hx2
          try clear c4
          try clear c5
          try clear c5b0
          try clear c6
          try clear c6b0
          try clear c6b1
          try clear c7
          try clear c8
          try clear c8b0
          try clear c10
          try clear c10b0
          try clear c12
          try clear hx263_0
          try clear hx263_1
          try clear hx263_2
          try clear hx265_0
          try clear hx265_1
          try clear hx265_2
          try clear p2
          try clear p263
          try clear p265
          try clear q263
          try clear q265
          obtain ⟨kq, x38_8, rfl, HA, HJ8, HB⟩ := hcut
          cases kq with
          | zero => exact absurd HA.out (by simp [r6_aggregable.j2])
          | succ kj8 =>
           have H := HA.out
           clear HA
           simp only [r6_aggregable.j2] at H
           by_cases c17 : x38_8 = true
           · subst c17
             have H1 : (some false) = some r := by rw [if_pos rfl] at H; exact H
             clear H
             have H := H1
             clear H1
             obtain rfl := Option.some.inj H
             go_wp2
             go_ret
             exact ⟨by first | rfl | (simp [*, errW_none, errW_some] <;> rfl), by repeat (first | (with_reducible first | exact HB.out | apply bA_ | apply bN_ | apply b1_) | exact HB.out)⟩
           · replace c17 := Bool.eq_false_iff.mpr c17
             subst c17
             have H1 : (if 0 ≤ x8_2 then (if x8_2 < (l2.length : Int) then (if ((rd_T36 l2 x8_2).f0) = 0 then (r6_aggregable.l0 kj8 a0 l2 x7_2 (wrap64 (x8_2 + 1))) else (r6_aggregable.l0 kj8 a0 l2 ((rd_T36 l2 x8_2).f0) (wrap64 (x8_2 + 1)))) else (none)) else (none)) = some r := by rw [if_neg (show ¬ (false = true) by decide)] at H; exact H
             clear H
             have H := H1
             clear H1
             by_cases c18 : 0 ≤ x8_2
             · rw [if_pos c18] at H
               have c18b0 : decide (0 ≤ x8_2) = true := dT_ c18
               clear c18
               by_cases c19 : x8_2 < (l2.length : Int)
               · rw [if_pos c19] at H
                 have c19b0 : decide (x8_2 < (l2.length : Int)) = true := dT_ c19
                 clear c19
                 by_cases c20 : ((rd_T36 l2 x8_2).f0) = 0
                 · rw [if_pos c20] at H
                   have c20b0 : (((rd_T36 l2 x8_2).f0) == 0) = true := beq_iff_eq.mpr c20
                   have c20b1 : (((rd_T36 l2 x8_2).f0) != 0) = false := bne_eq_false_iff_eq.mpr c20
                   clear c20
                   have H' := Aside0.mk H
                   clear H
                   have p267 : 0 ≤ (x8_2 : Int) := oT_ (by assumption)
                   have q267 : x8_2 < (l2.length : Int) := oT_ (by assumption)
                   obtain ⟨ad267, e267, hx267_0, hx267_1, hx267_2⟩ := at_T36 HR2.out x8_2 p267 q267
                   cases e267
                   replace hx267_0 := (HB.out.cell (bLC_ w _ hx267_0)).trans hx267_0
                   replace hx267_1 := (HB.out.cell (bLC_ w _ hx267_1)).trans hx267_1
                   replace hx267_2 := (HB.out.cell (bLC_ w _ hx267_2)).trans hx267_2
                   replace p267 := eq_true p267
                   replace q267 := eq_true q267
                   go_wp2
                   go_roundg kj8
                   case measure => have := HJ3.out; have := HK2.out; have := HJ8.out; omega
                   case rel => exact ⟨(x7_2), (wrap64 (x8_2 + 1)), (by first | rfl | (simp; done) | (simp [*]; done)), (by first | rfl | (simp; done) | (simp [*]; done)), H', ⟨by have := HJ3.out; have := HK2.out; have := HJ8.out; omega⟩, ⟨by repeat (first | (with_reducible first | exact HB.out | apply bA_ | apply bN_ | apply b1_) | exact HB.out)⟩⟩
                 · rw [if_neg c20] at H
                   have c20b0 : (((rd_T36 l2 x8_2).f0) == 0) = false := beq_eq_false_iff_ne.mpr c20
                   have c20b1 : (((rd_T36 l2 x8_2).f0) != 0) = true := bne_iff_ne.mpr c20
                   have H' := Aside0.mk H
                   clear H
                   have p267 : 0 ≤ (x8_2 : Int) := oT_ (by assumption)
                   have q267 : x8_2 < (l2.length : Int) := oT_ (by assumption)
                   obtain ⟨ad267, e267, hx267_0, hx267_1, hx267_2⟩ := at_T36 HR2.out x8_2 p267 q267
                   cases e267
                   replace hx267_0 := (HB.out.cell (bLC_ w _ hx267_0)).trans hx267_0
                   replace hx267_1 := (HB.out.cell (bLC_ w _ hx267_1)).trans hx267_1
                   replace hx267_2 := (HB.out.cell (bLC_ w _ hx267_2)).trans hx267_2
                   replace p267 := eq_true p267
                   replace q267 := eq_true q267
                   have p268 : 0 ≤ (x8_2 : Int) := oT_ (by assumption)
                   have q268 : x8_2 < (l2.length : Int) := oT_ (by assumption)
                   obtain ⟨ad268, e268, hx268_0, hx268_1, hx268_2⟩ := at_T36 HR2.out x8_2 p268 q268
                   obtain rfl : ad267 = ad268 := (by injection e268)
                   replace hx268_0 := (HB.out.cell (bLC_ w _ hx268_0)).trans hx268_0
                   replace hx268_1 := (HB.out.cell (bLC_ w _ hx268_1)).trans hx268_1
                   replace hx268_2 := (HB.out.cell (bLC_ w _ hx268_2)).trans hx268_2
                   replace p268 := eq_true p268
                   replace q268 := eq_true q268
                   go_wp2
                   go_roundg kj8
                   case measure => have := HJ3.out; have := HK2.out; have := HJ8.out; omega
                   case rel => exact ⟨((rd_T36 l2 x8_2).f0), (wrap64 (x8_2 + 1)), (by first | rfl | (simp; done) | (simp [*]; done)), (by first | rfl | (simp; done) | (simp [*]; done)), H', ⟨by have := HJ3.out; have := HK2.out; have := HJ8.out; omega⟩, ⟨by repeat (first | (with_reducible first | exact HB.out | apply bA_ | apply bN_ | apply b1_) | exact HB.out)⟩⟩
               · rw [if_neg c19] at H
                 exact absurd H (by simp)
             · rw [if_neg c18] at H
               exact absurd H (by simp)
       · rw [if_neg c8] at H
         have c8b0 : decide (x8_2 < (l2.length : Int)) = false := dF_ c8
         clear c8
         by_cases c21 : x7_2 = 0
         · rw [if_pos c21] at H
           have c21b0 : (x7_2 == 0) = true := beq_iff_eq.mpr c21
           have c21b1 : (x7_2 != 0) = false := bne_eq_false_iff_eq.mpr c21
           clear c21
           obtain rfl := Option.some.inj H
           go_wp2
           go_ret
           exact ⟨by first | rfl | (simp [*, errW_none, errW_some] <;> rfl), by repeat (first | (with_reducible first | exact HB.out | apply bA_ | apply bN_ | apply b1_) | exact HB.out)⟩
         · rw [if_neg c21] at H
           have c21b0 : (x7_2 == 0) = false := beq_eq_false_iff_ne.mpr c21
           have c21b1 : (x7_2 != 0) = true := bne_iff_ne.mpr c21
           by_cases c22 : x7_2 = 1
           · rw [if_pos c22] at H
             have c22b0 : (x7_2 == 1) = true := beq_iff_eq.mpr c22
             have c22b1 : (x7_2 != 1) = false := bne_eq_false_iff_eq.mpr c22
             clear c22
             obtain rfl := Option.some.inj H
             go_wp2
             go_ret
             exact ⟨by first | rfl | (simp [*, errW_none, errW_some] <;> rfl), by repeat (first | (with_reducible first | exact HB.out | apply bA_ | apply bN_ | apply b1_) | exact HB.out)⟩
           · rw [if_neg c22] at H
             have c22b0 : (x7_2 == 1) = false := beq_eq_false_iff_ne.mpr c22
             have c22b1 : (x7_2 != 1) = true := bne_iff_ne.mpr c22
             by_cases c23 : a0 = 2
             · rw [if_pos c23] at H
               have c23b0 : (a0 == 2) = true := beq_iff_eq.mpr c23
               have c23b1 : (a0 != 2) = false := bne_eq_false_iff_eq.mpr c23
               clear c23
               obtain rfl := Option.some.inj H
               go_wp2
               go_ret
               exact ⟨by first | rfl | (simp [*, errW_none, errW_some] <;> rfl), by repeat (first | (with_reducible first | exact HB.out | apply bA_ | apply bN_ | apply b1_) | exact HB.out)⟩
             · rw [if_neg c23] at H
               have c23b0 : (a0 == 2) = false := beq_eq_false_iff_ne.mpr c23
               have c23b1 : (a0 != 2) = true := bne_iff_ne.mpr c23
               obtain rfl := Option.some.inj H
               go_wp2
               go_ret
               exact ⟨by first | rfl | (simp [*, errW_none, errW_some] <;> rfl), by repeat (first | (with_reducible first | exact HB.out | apply bA_ | apply bN_ | apply b1_) | exact HB.out)⟩
mutual
def r6_counted.l0 : Nat → List (S36) → Bool → List (S36) → Int → Option ((List (S36)))
 | 0, _, _, _, _ => none
 | k + 1, x0, x1, x5, x6 => if x6 < (x0.length : Int) then (if 0 ≤ x6 then (r6_counted.l1 k x0 x1 x5 x6 (((rd_T36 x0 x6).f0) != 0) 0) else (none)) else (some x5)
def r6_counted.l1 : Nat → List (S36) → Bool → List (S36) → Int → Bool → Int → Option ((List (S36)))
 | 0, _, _, _, _, _, _ => none
 | k + 1, x0, x1, x5, x6, x7, x8 => if x8 < (x5.length : Int) then (if x7 = true then (r6_counted.j2 k x0 x1 x5 x6 x7 x8 x1) else (r6_counted.j2 k x0 x1 x5 x6 x7 x8 false)) else (r6_counted.j2 k x0 x1 x5 x6 x7 x8 false)
def r6_counted.j2 : Nat → List (S36) → Bool → List (S36) → Int → Bool → Int → Bool → Option ((List (S36)))
 | 0, _, _, _, _, _, _, _ => none
 | k + 1, x0, x1, x5, x6, x7, x8, x30 => if x30 = true then (if 0 ≤ x8 then (if x8 < (x5.length : Int) then (if 0 ≤ x6 then (if x6 < (x0.length : Int) then ((r1_Same.f ((rd_T36 x5 x8).f0) ((rd_T36 x5 x8).f1) ((rd_T36 x5 x8).f2) ((rd_T36 x0 x6).f0) ((rd_T36 x0 x6).f1) ((rd_T36 x0 x6).f2)).bind fun t272 => (if t272 = true then (r6_counted.l1 k x0 x1 x5 x6 false (wrap64 (x8 + 1))) else (r6_counted.l1 k x0 x1 x5 x6 x7 (wrap64 (x8 + 1))))) else (none)) else (none)) else (none)) else (none)) else (if x7 = true then (if 0 ≤ x6 then (if x6 < (x0.length : Int) then (if x5.length < 4398046511104 then (r6_counted.l0 k x0 x1 (x5 ++ [(⟨(rd_T36 x0 x6).f0, (rd_T36 x0 x6).f1, (rd_T36 x0 x6).f2⟩ : S36)]) (wrap64 (x6 + 1))) else (none)) else (none)) else (none)) else (r6_counted.l0 k x0 x1 x5 (wrap64 (x6 + 1))))
end
def r6_counted.f (k : Nat) (l0 : List (S36)) (a1 : Bool) : Option ((List (S36))) := r6_counted.l0 k l0 a1 ([] : List (S36)) 0
def r6_counted.T9 : Bool × List (List Nat × List Nat) := (true, [([], []), ([], []), ([0, 1], [0, 1]), ([2], [2]), ([], []), ([], []), ([4, 5], [4, 5]), ([6], [6]), ([3, 7], [3, 7])])
def r6_counted.B9 : List Nat := [0, 0, 3, 7, 0, 0, 48, 112, 255]
theorem r6_counted.tab9 : rtab .any (opsOf Tryz.f52 9) = r6_counted.T9 := by kernel_rfl
theorem r6_counted.bits9 : waitsOk r6_counted.T9.2 r6_counted.B9 = true := by kernel_rfl
theorem r6_counted.calls (k : Nat) (A0 : Option Addr) (c0 : Nat) (l0 : List (S36)) (a1 : Bool) (r : List (S36)) (w : World) (hr0 : Kd.C k36 w A0 l0.length l0) (hc0 : l0.length ≤ c0) (h : r6_counted.f k l0 a1 = some r) :
 Calls Tryz.prog 52 #[.slice A0 l0.length c0, .bool a1] w fun e w' => ∃ v0_ : Value, e = .returned (v0_) ∧ Kd.R k36 36 w' w.heap.size (fun _ => True) v0_ r ∧ Below w.heap.size w w' := by
 have hu36 := Tryz.underlying36
 have HR0 := Aside0.mk hr0
 have HC0 := Aside0.mk hc0
 clear hr0 hc0
 have HB := Aside0.mk (Below.refl w.heap.size w)
 have H : (r6_counted.l0 k l0 a1 ([] : List (S36)) 0) = some r := h
 clear h
 have H' := Aside0.mk H
 clear H
 go_enter Tryz.func52, Tryz.ntmps52
 go_wp2
 go_loopg [5, 6] k (fun kq v5 v6 w' => ∃ (x5_1 : List (S36)) (x6_1 : Int), v6 = .int .i64 x6_1 ∧ Aside0 (r6_counted.l0 kq l0 a1 x5_1 x6_1 = some r) ∧ Aside0 (kq ≤ k) ∧ Aside0 (Kd.R k36 36 w' w.heap.size (fun _ => True) v5 x5_1) ∧ Aside0 (Below w.heap.size w w'))
 case atStart => exact ⟨(([] : List (S36))), (0), (by first | rfl | (simp; done) | (simp [*]; done)), H', ⟨Nat.le_refl _⟩, ⟨by first | exact Kd.R_nil _ _ _ _ _ | exact Kd.N_nil _ _ _ _ _ | exact Kd.V_nil _ _ _ _ _ | exact Kd.Q_nil _ _ _ _ _ | exact Kd.S_nil _ _ _ _ _⟩, ⟨by repeat (first | (with_reducible first | exact HB.out | apply bA_ | apply bN_ | apply b1_) | exact HB.out)⟩⟩
 case round =>
  clear H'
  try clear p2
  obtain ⟨x5_1, x6_1, rfl, HA, HK1, HO_5, HB⟩ := hrel
  cases gk with
  | zero => exact absurd HA.out (by simp [r6_counted.l0])
  | succ k1 =>
   have H := HA.out
   clear HA
   simp only [r6_counted.l0] at H
   by_cases c3 : x6_1 < (l0.length : Int)
   · rw [if_pos c3] at H
     have c3b0 : decide (x6_1 < (l0.length : Int)) = true := dT_ c3
     clear c3
     by_cases c4 : 0 ≤ x6_1
     · rw [if_pos c4] at H
       have c4b0 : decide (0 ≤ x6_1) = true := dT_ c4
       clear c4
       have H' := Aside0.mk H
       clear H
       have p269 : 0 ≤ (x6_1 : Int) := oT_ (by assumption)
       have q269 : x6_1 < (l0.length : Int) := oT_ (by assumption)
       obtain ⟨ad269, e269, hx269_0, hx269_1, hx269_2⟩ := at_T36 HR0.out x6_1 p269 q269
       cases e269
       replace hx269_0 := (HB.out.cell (bLC_ w _ hx269_0)).trans hx269_0
       replace hx269_1 := (HB.out.cell (bLC_ w _ hx269_1)).trans hx269_1
       replace hx269_2 := (HB.out.cell (bLC_ w _ hx269_2)).trans hx269_2
       replace p269 := eq_true p269
       replace q269 := eq_true q269
       go_wp2
       go_loopg [7, 8] k1 (fun kq v7 v8 w' => ∃ (x7_2 : Bool) (x8_2 : Int), v7 = .bool x7_2 ∧ v8 = .int .i64 x8_2 ∧ Aside0 (r6_counted.l1 kq l0 a1 x5_1 x6_1 x7_2 x8_2 = some r) ∧ Aside0 (kq ≤ k1) ∧ Aside0 (Kd.R k36 36 w' w.heap.size (fun _ => True) u5 x5_1) ∧ Aside0 (Below w.heap.size w w'))
       case atStart => exact ⟨((((rd_T36 l0 x6_1).f0) != 0)), (0), (by first | rfl | (simp; done) | (simp [*]; done)), (by first | rfl | (simp; done) | (simp [*]; done)), H', ⟨Nat.le_refl _⟩, ⟨by (with_reducible repeat (first | apply Kd.R_alloc | apply Kd.R_drewN | apply Kd.R_drew)); exact HO_5.out⟩, ⟨by repeat (first | (with_reducible first | exact HB.out | apply bA_ | apply bN_ | apply b1_) | exact HB.out)⟩⟩
       case round =>
        clear H'
        try clear p2
        try clear q2
        try clear hx2
        try clear c3
        try clear c3b0
        try clear c4
        try clear c4b0
        try clear hx269_0
        try clear hx269_1
        try clear hx269_2
        try clear p2
        try clear p269
        try clear q269
        obtain ⟨x7_2, x8_2, rfl, rfl, HA, HK2, HO_5, HB⟩ := hrel
        cases gk with
        | zero => exact absurd HA.out (by simp [r6_counted.l1])
        | succ k2 =>
         have H := HA.out
         clear HA
         simp only [r6_counted.l1] at H
         have HC5 := Aside0.mk H
         clear H
         go_upto_region 7 with (fail)
         go_cut [30] (fun v30 wc => ∃ (kq : Nat) (x30_4 : Bool), v30 = .bool x30_4 ∧ Aside0 (r6_counted.j2 kq l0 a1 x5_1 x6_1 x7_2 x8_2 x30_4 = some r) ∧ Aside0 (kq ≤ k2) ∧ Aside0 (Kd.R k36 36 wc w.heap.size (fun _ => True) u5 x5_1) ∧ Aside0 (Below w.heap.size w wc))
         case first =>
          have H := HC5.out
          clear HC5
          by_cases c6 : x8_2 < (x5_1.length : Int)
          · rw [if_pos c6] at H
            have c6b0 : decide (x8_2 < (x5_1.length : Int)) = true := dT_ c6
            clear c6
            (first | rw [c6b0] | (simp only [i64_w, i32_w]; rw [c6b0]) | skip)
            by_cases c7 : x7_2 = true
            · subst c7
              have H1 : (r6_counted.j2 k2 l0 a1 x5_1 x6_1 true x8_2 a1) = some r := by rw [if_pos rfl] at H; exact H
              clear H
              have H := H1
              clear H1
              have H' := Aside0.mk H
              clear H
              obtain ⟨Ao8, co8, eo8⟩ := Kd.R_slice HO_5.out
              subst eo8
              go_wp2
              go_meet
              case rel => exact ⟨_, (a1), (by first | rfl | (simp; done) | (simp [*]; done)), H', ⟨by have := HK1.out; have := HK2.out; first | omega | exact Nat.le_refl _⟩, ⟨by (with_reducible repeat (first | apply Kd.R_alloc | apply Kd.R_drewN | apply Kd.R_drew)); exact HO_5.out⟩, ⟨by repeat (first | (with_reducible first | exact HB.out | apply bA_ | apply bN_ | apply b1_) | exact HB.out)⟩⟩
            · replace c7 := Bool.eq_false_iff.mpr c7
              subst c7
              have H1 : (r6_counted.j2 k2 l0 a1 x5_1 x6_1 false x8_2 false) = some r := by rw [if_neg (show ¬ (false = true) by decide)] at H; exact H
              clear H
              have H := H1
              clear H1
              have H' := Aside0.mk H
              clear H
              obtain ⟨Ao9, co9, eo9⟩ := Kd.R_slice HO_5.out
              subst eo9
              go_wp2
              go_meet
              case rel => exact ⟨_, (false), (by first | rfl | (simp; done) | (simp [*]; done)), H', ⟨by have := HK1.out; have := HK2.out; first | omega | exact Nat.le_refl _⟩, ⟨by (with_reducible repeat (first | apply Kd.R_alloc | apply Kd.R_drewN | apply Kd.R_drew)); exact HO_5.out⟩, ⟨by repeat (first | (with_reducible first | exact HB.out | apply bA_ | apply bN_ | apply b1_) | exact HB.out)⟩⟩
          · rw [if_neg c6] at H
            have c6b0 : decide (x8_2 < (x5_1.length : Int)) = false := dF_ c6
            clear c6
            (first | rw [c6b0] | (simp only [i64_w, i32_w]; rw [c6b0]) | skip)
            have H' := Aside0.mk H
            clear H
            obtain ⟨Ao10, co10, eo10⟩ := Kd.R_slice HO_5.out
            subst eo10
            go_wp2
            go_meet
            case rel => exact ⟨_, (false), (by first | rfl | (simp; done) | (simp [*]; done)), H', ⟨by have := HK1.out; have := HK2.out; first | omega | exact Nat.le_refl _⟩, ⟨by (with_reducible repeat (first | apply Kd.R_alloc | apply Kd.R_drewN | apply Kd.R_drew)); exact HO_5.out⟩, ⟨by repeat (first | (with_reducible first | exact HB.out | apply bA_ | apply bN_ | apply b1_) | exact HB.out)⟩⟩
         case rest =>
          clear HC5
          try clear p2
          try clear q2
          try clear hx2
          try clear c3
          try clear c3b0
          try clear c4
          try clear c4b0
          try clear c5
          try clear c6
          try clear c6b0
          try clear c7
          try clear hx269_0
          try clear hx269_1
          try clear hx269_2
          try clear p2
          try clear p269
          try clear q2
          try clear q269
          obtain ⟨kq, x30_4, rfl, HA, HJ4, HO_5, HB⟩ := hcut
          cases kq with
          | zero => exact absurd HA.out (by simp [r6_counted.j2])
          | succ kj4 =>
           have H := HA.out
           clear HA
           simp only [r6_counted.j2] at H
           by_cases c11 : x30_4 = true
           · subst c11
             have H1 : (if 0 ≤ x8_2 then (if x8_2 < (x5_1.length : Int) then (if 0 ≤ x6_1 then (if x6_1 < (l0.length : Int) then ((r1_Same.f ((rd_T36 x5_1 x8_2).f0) ((rd_T36 x5_1 x8_2).f1) ((rd_T36 x5_1 x8_2).f2) ((rd_T36 l0 x6_1).f0) ((rd_T36 l0 x6_1).f1) ((rd_T36 l0 x6_1).f2)).bind fun t272 => (if t272 = true then (r6_counted.l1 kj4 l0 a1 x5_1 x6_1 false (wrap64 (x8_2 + 1))) else (r6_counted.l1 kj4 l0 a1 x5_1 x6_1 x7_2 (wrap64 (x8_2 + 1))))) else (none)) else (none)) else (none)) else (none)) = some r := by rw [if_pos rfl] at H; exact H
             clear H
             have H := H1
             clear H1
             by_cases c12 : 0 ≤ x8_2
             · rw [if_pos c12] at H
               have c12b0 : decide (0 ≤ x8_2) = true := dT_ c12
               clear c12
               by_cases c13 : x8_2 < (x5_1.length : Int)
               · rw [if_pos c13] at H
                 have c13b0 : decide (x8_2 < (x5_1.length : Int)) = true := dT_ c13
                 clear c13
                 by_cases c14 : 0 ≤ x6_1
                 · rw [if_pos c14] at H
                   have c14b0 : decide (0 ≤ x6_1) = true := dT_ c14
                   clear c14
                   by_cases c15 : x6_1 < (l0.length : Int)
                   · rw [if_pos c15] at H
                     have c15b0 : decide (x6_1 < (l0.length : Int)) = true := dT_ c15
                     clear c15
                     replace H := Option.bind_eq_some_iff.mp H
                     obtain ⟨t272, A160, H⟩ := H
                     replace H : (if t272 = true then (r6_counted.l1 kj4 l0 a1 x5_1 x6_1 false (wrap64 (x8_2 + 1))) else (r6_counted.l1 kj4 l0 a1 x5_1 x6_1 x7_2 (wrap64 (x8_2 + 1)))) = some r := H
                     have A16 := Aside0.mk A160
                     clear A160
                     by_cases c17 : t272 = true
                     · subst c17
                       have H1 : (r6_counted.l1 kj4 l0 a1 x5_1 x6_1 false (wrap64 (x8_2 + 1))) = some r := by rw [if_pos rfl] at H; exact H
                       clear H
                       have H := H1
                       clear H1
                       have H' := Aside0.mk H
                       clear H
                       try go_wp2
                       have n0_ := Aside0.mk (Kd.R_drew HO_5.out)
                       have n1_ := Aside0.mk (b1_ HB.out)
                       clear HO_5
                       clear HB
                       have HO_5 := n0_
                       have HB := n1_
                       clear n0_ n1_
                       obtain ⟨Ao19, co19, eo19⟩ := Kd.R_slice HO_5.out
                       (first | subst eo19 | (injection eo19 with f1_ f2_ f3_; have f4_ := f1_.symm; have f5_ := f3_.symm; clear f1_ f2_ f3_; subst f4_; subst f5_))
                       have p270 : 0 ≤ (x8_2 : Int) := oT_ (by assumption)
                       have q270 : x8_2 < (x5_1.length : Int) := oT_ (by assumption)
                       obtain ⟨ad270, e270, hx270_0, hx270_1, hx270_2⟩ := at_T36 (Kd.R_reads' HO_5.out).2.2 x8_2 p270 q270
                       cases e270
                       replace p270 := eq_true p270
                       replace q270 := eq_true q270
                       have p271 : 0 ≤ (x6_1 : Int) := oT_ (by assumption)
                       have q271 : x6_1 < (l0.length : Int) := oT_ (by assumption)
                       obtain ⟨ad271, e271, hx271_0, hx271_1, hx271_2⟩ := at_T36 HR0.out x6_1 p271 q271
                       have hw271_2 := hx271_2
                       have hw271_1 := hx271_1
                       have hw271_0 := hx271_0
                       obtain rfl : ad269 = ad271 := (by injection e271)
                       replace hx271_0 := (HB.out.cell (bLC_ w _ hx271_0)).trans hx271_0
                       replace hx271_1 := (HB.out.cell (bLC_ w _ hx271_1)).trans hx271_1
                       replace hx271_2 := (HB.out.cell (bLC_ w _ hx271_2)).trans hx271_2
                       replace p271 := eq_true p271
                       replace q271 := eq_true q271
                       refine start_ (n := 9) (S := fun w' => w'.cell? (ad270.add ((x8_2).toNat * 3)) = some (.int .u8 ((rd_T36 x5_1 x8_2).f0)) ∧ w'.cell? ⟨(ad270.add ((x8_2).toNat * 3)).block, (ad270.add ((x8_2).toNat * 3)).off + 1, none⟩ = some (.int .i64 ((rd_T36 x5_1 x8_2).f1)) ∧ w'.cell? ⟨(ad270.add ((x8_2).toNat * 3)).block, (ad270.add ((x8_2).toNat * 3)).off + 2, none⟩ = some (.string ((rd_T36 x5_1 x8_2).f2)) ∧ w'.cell? (ad269.add ((x6_1).toNat * 3)) = some (.int .u8 ((rd_T36 l0 x6_1).f0)) ∧ w'.cell? ⟨(ad269.add ((x6_1).toNat * 3)).block, (ad269.add ((x6_1).toNat * 3)).off + 1, none⟩ = some (.int .i64 ((rd_T36 l0 x6_1).f1)) ∧ w'.cell? ⟨(ad269.add ((x6_1).toNat * 3)).block, (ad269.add ((x6_1).toNat * 3)).off + 2, none⟩ = some (.string ((rd_T36 l0 x6_1).f2))) (ds := []) #[X_,X_,X_,X_,X_,X_,X_,X_,X_] (by kernel_rfl) rfl rfl ⟨hx270_0, hx270_1, hx270_2, ((HB.out.cell (bLC_ w _ hw271_0)).trans hw271_0), ((HB.out.cell (bLC_ w _ hw271_1)).trans hw271_1), ((HB.out.cell (bLC_ w _ hw271_2)).trans hw271_2)⟩ (fun hHeld => ?_); refine with_tabW r6_counted.tab9 r6_counted.bits9 (fun HT_ HW_ => ?_)
                       generalize wc.drew = w18 at HO_5 HB hx270_0 hx270_1 hx270_2 hx271_0 hx271_1 hx271_2 hHeld ⊢
                       refine pure_ (i := 0) (N := some 33) (v := ?_) (a' := ?_) #[Y_,X_,X_,X_,X_,X_,X_,X_,X_] rfl rfl (any_of HT_.out (by kernel_rfl)) (fun _ _ _ h => h) (Or.inl ⟨by rfl, ?_⟩) ?_ ?_
                       rotate_left
                       · intro w'
                         go_simp
                         with_reducible rfl
                       rotate_left
                       · simp only [Act.put, sTA_, sCZ_, sCS_, i64_w, i32_w]
                         rfl
                       refine pure_ (i := 1) (N := some 34) (v := ?_) (a' := ?_) #[Y_,Y_,X_,X_,X_,X_,X_,X_,X_] rfl rfl (any_of HT_.out (by kernel_rfl)) (fun _ _ _ h => h) (Or.inl ⟨by rfl, ?_⟩) ?_ ?_
                       rotate_left
                       · intro w'
                         go_simp
                         with_reducible rfl
                       rotate_left
                       · simp only [Act.put, sTA_, sCZ_, sCS_, i64_w, i32_w]
                         rfl
                       refine pure_ (i := 2) (N := some 35) (v := ?_) (a' := ?_) #[Y_,Y_,Y_,X_,X_,X_,X_,X_,X_] rfl rfl (any_of HT_.out (by kernel_rfl)) (fun _ _ _ h => h) (Or.inl ⟨by rfl, ?_⟩) ?_ ?_
                       rotate_left
                       · intro w'
                         go_simp
                         with_reducible rfl
                       rotate_left
                       · simp only [Act.put, sTA_, sCZ_, sCS_, i64_w, i32_w]
                         rfl
                       refine pure_ (i := 4) (N := some 37) (v := ?_) (a' := ?_) #[Y_,Y_,Y_,X_,Y_,X_,X_,X_,X_] rfl rfl (any_of HT_.out (by kernel_rfl)) (fun _ _ _ h => h) (Or.inl ⟨by rfl, ?_⟩) ?_ ?_
                       rotate_left
                       · intro w'
                         go_simp
                         with_reducible rfl
                       rotate_left
                       · simp only [Act.put, sTA_, sCZ_, sCS_, i64_w, i32_w]
                         rfl
                       refine pure_ (i := 5) (N := some 38) (v := ?_) (a' := ?_) #[Y_,Y_,Y_,X_,Y_,Y_,X_,X_,X_] rfl rfl (any_of HT_.out (by kernel_rfl)) (fun _ _ _ h => h) (Or.inl ⟨by rfl, ?_⟩) ?_ ?_
                       rotate_left
                       · intro w'
                         go_simp
                         with_reducible rfl
                       rotate_left
                       · simp only [Act.put, sTA_, sCZ_, sCS_, i64_w, i32_w]
                         rfl
                       refine pure_ (i := 6) (N := some 39) (v := ?_) (a' := ?_) #[Y_,Y_,Y_,X_,Y_,Y_,Y_,X_,X_] rfl rfl (any_of HT_.out (by kernel_rfl)) (fun _ _ _ h => h) (Or.inl ⟨by rfl, ?_⟩) ?_ ?_
                       rotate_left
                       · intro w'
                         go_simp
                         with_reducible rfl
                       rotate_left
                       · simp only [Act.put, sTA_, sCZ_, sCS_, i64_w, i32_w]
                         rfl
                       refine take_ (i := 3) (N := some 36) (v := ?_) (a' := ?_) #[Y_,Y_,Y_,Y_,Y_,Y_,Y_,X_,X_] rfl rfl (take_ofW HT_.out HW_.out (by kernel_rfl)) (fun _ _ _ h => h) (Or.inl ⟨by rfl, ?_⟩) hHeld ?_ ?_
                       rotate_left
                       · rintro w' ⟨s0, s1, s2, s3, s4, s5⟩
                         go_simp
                         with_reducible rfl
                       rotate_left
                       · simp only [Act.put, sTA_, sCZ_, sCS_, i64_w, i32_w]
                         rfl
                       refine take_ (i := 7) (N := some 40) (v := ?_) (a' := ?_) #[Y_,Y_,Y_,Y_,Y_,Y_,Y_,Y_,X_] rfl rfl (take_ofW HT_.out HW_.out (by kernel_rfl)) (fun _ _ _ h => h) (Or.inl ⟨by rfl, ?_⟩) hHeld ?_ ?_
                       rotate_left
                       · rintro w' ⟨s0, s1, s2, s3, s4, s5⟩
                         go_simp
                         with_reducible rfl
                       rotate_left
                       · simp only [Act.put, sTA_, sCZ_, sCS_, i64_w, i32_w]
                         rfl
                       refine one_ (i := 8) (N := some 41) #[Y_,Y_,Y_,Y_,Y_,Y_,Y_,Y_,Y_] rfl rfl (one_of HT_.out (by kernel_rfl)) (by decide) (fun K hK => ?_)
                       refine goes_ Tryz.func22 (by kernel_rfl) rfl #[.agg #[.int .u8 ((rd_T36 x5_1 x8_2).f0), .int .i64 ((rd_T36 x5_1 x8_2).f1), .string ((rd_T36 x5_1 x8_2).f2)], .agg #[.int .u8 ((rd_T36 l0 x6_1).f0), .int .i64 ((rd_T36 l0 x6_1).f1), .string ((rd_T36 l0 x6_1).f2)]] (by rfl) rfl rfl (by (try simp only [List.map_toArray, List.map_cons, List.map_nil]); first | done | rfl | (simp only [List.length_drop, List.length_take]; rfl)) ?_
                       with_reducible refine (r1_Same.calls ((rd_T36 x5_1 x8_2).f0) ((rd_T36 x5_1 x8_2).f1) ((rd_T36 x5_1 x8_2).f2) ((rd_T36 l0 x6_1).f0) ((rd_T36 l0 x6_1).f1) ((rd_T36 l0 x6_1).f2) true _ A16.out).mono ?_
                       rintro e w20 ⟨rfl, hb⟩
                       have HS0_ := (hb.cell (bLC_ _ _ (hHeld.1))).trans (hHeld.1)
                       have HS1_ := (hb.cell (bLC_ _ _ (hHeld.2.1))).trans (hHeld.2.1)
                       have HS2_ := (hb.cell (bLC_ _ _ (hHeld.2.2.1))).trans (hHeld.2.2.1)
                       refine ⟨_, rfl, ?_⟩
                       have n0_ := Aside0.mk (Kd.R_below (by (with_reducible repeat (first | apply Kd.R_alloc | apply Kd.R_drewN | apply Kd.R_drew)); exact HO_5.out) hb)
                       have n1_ := Aside0.mk (below_step (by repeat (first | (with_reducible first | exact HB.out | apply bA_ | apply bN_ | apply b1_) | exact HB.out)) hb)
                       clear HO_5
                       clear HB
                       have HO_5 := n0_
                       have HB := n1_
                       clear n0_ n1_
                       (try clear hb)
                       (try clear hb2)
                       (try clear hk)
                       (try clear hi)
                       refine hK.out _ _ ⟨HS0_, HS1_, HS2_, ((HB.out.cell (bLC_ w _ hw271_0)).trans hw271_0), ((HB.out.cell (bLC_ w _ hw271_1)).trans hw271_1), ((HB.out.cell (bLC_ w _ hw271_2)).trans hw271_2)⟩ (fun hHeld => ?_)
                       clear hK K
                       refine norm_ (a' := ?_) ?_ ?_
                       rotate_left
                       · show Act.put _ (some 41) _ = _
                         simp only [Act.put, sTA_, sCZ_, sCS_, i64_w, i32_w]
                         rfl
                       refine done_ (done_of HT_.out (by kernel_rfl)) ?_
                       try go_wp2
                       go_roundg kj4
                       case measure => have := HK1.out; have := HK2.out; have := HJ4.out; omega
                       case rel => exact ⟨(false), (wrap64 (x8_2 + 1)), (by first | rfl | (simp; done) | (simp [*]; done)), (by first | rfl | (simp; done) | (simp [*]; done)), H', ⟨by have := HK1.out; have := HK2.out; have := HJ4.out; omega⟩, ⟨by (with_reducible repeat (first | apply Kd.R_alloc | apply Kd.R_drewN | apply Kd.R_drew)); exact HO_5.out⟩, ⟨by repeat (first | (with_reducible first | exact HB.out | apply bA_ | apply bN_ | apply b1_) | exact HB.out)⟩⟩
                     · replace c17 := Bool.eq_false_iff.mpr c17
                       subst c17
                       have H1 : (r6_counted.l1 kj4 l0 a1 x5_1 x6_1 x7_2 (wrap64 (x8_2 + 1))) = some r := by rw [if_neg (show ¬ (false = true) by decide)] at H; exact H
                       clear H
                       have H := H1
                       clear H1
                       have H' := Aside0.mk H
                       clear H
                       try go_wp2
                       have n0_ := Aside0.mk (Kd.R_drew HO_5.out)
                       have n1_ := Aside0.mk (b1_ HB.out)
                       clear HO_5
                       clear HB
                       have HO_5 := n0_
                       have HB := n1_
                       clear n0_ n1_
                       obtain ⟨Ao22, co22, eo22⟩ := Kd.R_slice HO_5.out
                       (first | subst eo22 | (injection eo22 with f1_ f2_ f3_; have f4_ := f1_.symm; have f5_ := f3_.symm; clear f1_ f2_ f3_; subst f4_; subst f5_))
                       have p270 : 0 ≤ (x8_2 : Int) := oT_ (by assumption)
                       have q270 : x8_2 < (x5_1.length : Int) := oT_ (by assumption)
                       obtain ⟨ad270, e270, hx270_0, hx270_1, hx270_2⟩ := at_T36 (Kd.R_reads' HO_5.out).2.2 x8_2 p270 q270
                       cases e270
                       replace p270 := eq_true p270
                       replace q270 := eq_true q270
                       have p271 : 0 ≤ (x6_1 : Int) := oT_ (by assumption)
                       have q271 : x6_1 < (l0.length : Int) := oT_ (by assumption)
                       obtain ⟨ad271, e271, hx271_0, hx271_1, hx271_2⟩ := at_T36 HR0.out x6_1 p271 q271
                       have hw271_2 := hx271_2
                       have hw271_1 := hx271_1
                       have hw271_0 := hx271_0
                       obtain rfl : ad269 = ad271 := (by injection e271)
                       replace hx271_0 := (HB.out.cell (bLC_ w _ hx271_0)).trans hx271_0
                       replace hx271_1 := (HB.out.cell (bLC_ w _ hx271_1)).trans hx271_1
                       replace hx271_2 := (HB.out.cell (bLC_ w _ hx271_2)).trans hx271_2
                       replace p271 := eq_true p271
                       replace q271 := eq_true q271
                       refine start_ (n := 9) (S := fun w' => w'.cell? (ad270.add ((x8_2).toNat * 3)) = some (.int .u8 ((rd_T36 x5_1 x8_2).f0)) ∧ w'.cell? ⟨(ad270.add ((x8_2).toNat * 3)).block, (ad270.add ((x8_2).toNat * 3)).off + 1, none⟩ = some (.int .i64 ((rd_T36 x5_1 x8_2).f1)) ∧ w'.cell? ⟨(ad270.add ((x8_2).toNat * 3)).block, (ad270.add ((x8_2).toNat * 3)).off + 2, none⟩ = some (.string ((rd_T36 x5_1 x8_2).f2)) ∧ w'.cell? (ad269.add ((x6_1).toNat * 3)) = some (.int .u8 ((rd_T36 l0 x6_1).f0)) ∧ w'.cell? ⟨(ad269.add ((x6_1).toNat * 3)).block, (ad269.add ((x6_1).toNat * 3)).off + 1, none⟩ = some (.int .i64 ((rd_T36 l0 x6_1).f1)) ∧ w'.cell? ⟨(ad269.add ((x6_1).toNat * 3)).block, (ad269.add ((x6_1).toNat * 3)).off + 2, none⟩ = some (.string ((rd_T36 l0 x6_1).f2))) (ds := []) #[X_,X_,X_,X_,X_,X_,X_,X_,X_] (by kernel_rfl) rfl rfl ⟨hx270_0, hx270_1, hx270_2, ((HB.out.cell (bLC_ w _ hw271_0)).trans hw271_0), ((HB.out.cell (bLC_ w _ hw271_1)).trans hw271_1), ((HB.out.cell (bLC_ w _ hw271_2)).trans hw271_2)⟩ (fun hHeld => ?_); refine with_tabW r6_counted.tab9 r6_counted.bits9 (fun HT_ HW_ => ?_)
                       generalize wc.drew = w21 at HO_5 HB hx270_0 hx270_1 hx270_2 hx271_0 hx271_1 hx271_2 hHeld ⊢
                       refine pure_ (i := 0) (N := some 33) (v := ?_) (a' := ?_) #[Y_,X_,X_,X_,X_,X_,X_,X_,X_] rfl rfl (any_of HT_.out (by kernel_rfl)) (fun _ _ _ h => h) (Or.inl ⟨by rfl, ?_⟩) ?_ ?_
                       rotate_left
                       · intro w'
                         go_simp
                         with_reducible rfl
                       rotate_left
                       · simp only [Act.put, sTA_, sCZ_, sCS_, i64_w, i32_w]
                         rfl
                       refine pure_ (i := 1) (N := some 34) (v := ?_) (a' := ?_) #[Y_,Y_,X_,X_,X_,X_,X_,X_,X_] rfl rfl (any_of HT_.out (by kernel_rfl)) (fun _ _ _ h => h) (Or.inl ⟨by rfl, ?_⟩) ?_ ?_
                       rotate_left
                       · intro w'
                         go_simp
                         with_reducible rfl
                       rotate_left
                       · simp only [Act.put, sTA_, sCZ_, sCS_, i64_w, i32_w]
                         rfl
                       refine pure_ (i := 2) (N := some 35) (v := ?_) (a' := ?_) #[Y_,Y_,Y_,X_,X_,X_,X_,X_,X_] rfl rfl (any_of HT_.out (by kernel_rfl)) (fun _ _ _ h => h) (Or.inl ⟨by rfl, ?_⟩) ?_ ?_
                       rotate_left
                       · intro w'
                         go_simp
                         with_reducible rfl
                       rotate_left
                       · simp only [Act.put, sTA_, sCZ_, sCS_, i64_w, i32_w]
                         rfl
                       refine pure_ (i := 4) (N := some 37) (v := ?_) (a' := ?_) #[Y_,Y_,Y_,X_,Y_,X_,X_,X_,X_] rfl rfl (any_of HT_.out (by kernel_rfl)) (fun _ _ _ h => h) (Or.inl ⟨by rfl, ?_⟩) ?_ ?_
                       rotate_left
                       · intro w'
                         go_simp
                         with_reducible rfl
                       rotate_left
                       · simp only [Act.put, sTA_, sCZ_, sCS_, i64_w, i32_w]
                         rfl
                       refine pure_ (i := 5) (N := some 38) (v := ?_) (a' := ?_) #[Y_,Y_,Y_,X_,Y_,Y_,X_,X_,X_] rfl rfl (any_of HT_.out (by kernel_rfl)) (fun _ _ _ h => h) (Or.inl ⟨by rfl, ?_⟩) ?_ ?_
                       rotate_left
                       · intro w'
                         go_simp
                         with_reducible rfl
                       rotate_left
                       · simp only [Act.put, sTA_, sCZ_, sCS_, i64_w, i32_w]
                         rfl
                       refine pure_ (i := 6) (N := some 39) (v := ?_) (a' := ?_) #[Y_,Y_,Y_,X_,Y_,Y_,Y_,X_,X_] rfl rfl (any_of HT_.out (by kernel_rfl)) (fun _ _ _ h => h) (Or.inl ⟨by rfl, ?_⟩) ?_ ?_
                       rotate_left
                       · intro w'
                         go_simp
                         with_reducible rfl
                       rotate_left
                       · simp only [Act.put, sTA_, sCZ_, sCS_, i64_w, i32_w]
                         rfl
                       refine take_ (i := 3) (N := some 36) (v := ?_) (a' := ?_) #[Y_,Y_,Y_,Y_,Y_,Y_,Y_,X_,X_] rfl rfl (take_ofW HT_.out HW_.out (by kernel_rfl)) (fun _ _ _ h => h) (Or.inl ⟨by rfl, ?_⟩) hHeld ?_ ?_
                       rotate_left
                       · rintro w' ⟨s0, s1, s2, s3, s4, s5⟩
                         go_simp
                         with_reducible rfl
                       rotate_left
                       · simp only [Act.put, sTA_, sCZ_, sCS_, i64_w, i32_w]
                         rfl
                       refine take_ (i := 7) (N := some 40) (v := ?_) (a' := ?_) #[Y_,Y_,Y_,Y_,Y_,Y_,Y_,Y_,X_] rfl rfl (take_ofW HT_.out HW_.out (by kernel_rfl)) (fun _ _ _ h => h) (Or.inl ⟨by rfl, ?_⟩) hHeld ?_ ?_
                       rotate_left
                       · rintro w' ⟨s0, s1, s2, s3, s4, s5⟩
                         go_simp
                         with_reducible rfl
                       rotate_left
                       · simp only [Act.put, sTA_, sCZ_, sCS_, i64_w, i32_w]
                         rfl
                       refine one_ (i := 8) (N := some 41) #[Y_,Y_,Y_,Y_,Y_,Y_,Y_,Y_,Y_] rfl rfl (one_of HT_.out (by kernel_rfl)) (by decide) (fun K hK => ?_)
                       refine goes_ Tryz.func22 (by kernel_rfl) rfl #[.agg #[.int .u8 ((rd_T36 x5_1 x8_2).f0), .int .i64 ((rd_T36 x5_1 x8_2).f1), .string ((rd_T36 x5_1 x8_2).f2)], .agg #[.int .u8 ((rd_T36 l0 x6_1).f0), .int .i64 ((rd_T36 l0 x6_1).f1), .string ((rd_T36 l0 x6_1).f2)]] (by rfl) rfl rfl (by (try simp only [List.map_toArray, List.map_cons, List.map_nil]); first | done | rfl | (simp only [List.length_drop, List.length_take]; rfl)) ?_
                       with_reducible refine (r1_Same.calls ((rd_T36 x5_1 x8_2).f0) ((rd_T36 x5_1 x8_2).f1) ((rd_T36 x5_1 x8_2).f2) ((rd_T36 l0 x6_1).f0) ((rd_T36 l0 x6_1).f1) ((rd_T36 l0 x6_1).f2) false _ A16.out).mono ?_
                       rintro e w23 ⟨rfl, hb⟩
                       have HS0_ := (hb.cell (bLC_ _ _ (hHeld.1))).trans (hHeld.1)
                       have HS1_ := (hb.cell (bLC_ _ _ (hHeld.2.1))).trans (hHeld.2.1)
                       have HS2_ := (hb.cell (bLC_ _ _ (hHeld.2.2.1))).trans (hHeld.2.2.1)
                       refine ⟨_, rfl, ?_⟩
                       have n0_ := Aside0.mk (Kd.R_below (by (with_reducible repeat (first | apply Kd.R_alloc | apply Kd.R_drewN | apply Kd.R_drew)); exact HO_5.out) hb)
                       have n1_ := Aside0.mk (below_step (by repeat (first | (with_reducible first | exact HB.out | apply bA_ | apply bN_ | apply b1_) | exact HB.out)) hb)
                       clear HO_5
                       clear HB
                       have HO_5 := n0_
                       have HB := n1_
                       clear n0_ n1_
                       (try clear hb)
                       (try clear hb2)
                       (try clear hk)
                       (try clear hi)
                       refine hK.out _ _ ⟨HS0_, HS1_, HS2_, ((HB.out.cell (bLC_ w _ hw271_0)).trans hw271_0), ((HB.out.cell (bLC_ w _ hw271_1)).trans hw271_1), ((HB.out.cell (bLC_ w _ hw271_2)).trans hw271_2)⟩ (fun hHeld => ?_)
                       clear hK K
                       refine norm_ (a' := ?_) ?_ ?_
                       rotate_left
                       · show Act.put _ (some 41) _ = _
                         simp only [Act.put, sTA_, sCZ_, sCS_, i64_w, i32_w]
                         rfl
                       refine done_ (done_of HT_.out (by kernel_rfl)) ?_
                       try go_wp2
                       go_roundg kj4
                       case measure => have := HK1.out; have := HK2.out; have := HJ4.out; omega
                       case rel => exact ⟨(x7_2), (wrap64 (x8_2 + 1)), (by first | rfl | (simp; done) | (simp [*]; done)), (by first | rfl | (simp; done) | (simp [*]; done)), H', ⟨by have := HK1.out; have := HK2.out; have := HJ4.out; omega⟩, ⟨by (with_reducible repeat (first | apply Kd.R_alloc | apply Kd.R_drewN | apply Kd.R_drew)); exact HO_5.out⟩, ⟨by repeat (first | (with_reducible first | exact HB.out | apply bA_ | apply bN_ | apply b1_) | exact HB.out)⟩⟩
                   · rw [if_neg c15] at H
                     exact absurd H (by simp)
                 · rw [if_neg c14] at H
                   exact absurd H (by simp)
               · rw [if_neg c13] at H
                 exact absurd H (by simp)
             · rw [if_neg c12] at H
               exact absurd H (by simp)
           · replace c11 := Bool.eq_false_iff.mpr c11
             subst c11
             have H1 : (if x7_2 = true then (if 0 ≤ x6_1 then (if x6_1 < (l0.length : Int) then (if x5_1.length < 4398046511104 then (r6_counted.l0 kj4 l0 a1 (x5_1 ++ [(⟨(rd_T36 l0 x6_1).f0, (rd_T36 l0 x6_1).f1, (rd_T36 l0 x6_1).f2⟩ : S36)]) (wrap64 (x6_1 + 1))) else (none)) else (none)) else (none)) else (r6_counted.l0 kj4 l0 a1 x5_1 (wrap64 (x6_1 + 1)))) = some r := by rw [if_neg (show ¬ (false = true) by decide)] at H; exact H
             clear H
             have H := H1
             clear H1
             by_cases c24 : x7_2 = true
             · subst c24
               have H1 : (if 0 ≤ x6_1 then (if x6_1 < (l0.length : Int) then (if x5_1.length < 4398046511104 then (r6_counted.l0 kj4 l0 a1 (x5_1 ++ [(⟨(rd_T36 l0 x6_1).f0, (rd_T36 l0 x6_1).f1, (rd_T36 l0 x6_1).f2⟩ : S36)]) (wrap64 (x6_1 + 1))) else (none)) else (none)) else (none)) = some r := by rw [if_pos rfl] at H; exact H
               clear H
               have H := H1
               clear H1
               by_cases c25 : 0 ≤ x6_1
               · rw [if_pos c25] at H
                 have c25b0 : decide (0 ≤ x6_1) = true := dT_ c25
                 clear c25
                 by_cases c26 : x6_1 < (l0.length : Int)
                 · rw [if_pos c26] at H
                   have c26b0 : decide (x6_1 < (l0.length : Int)) = true := dT_ c26
                   clear c26
                   by_cases c27 : x5_1.length < 4398046511104
                   · rw [if_pos c27] at H
                     have LMc27 := Aside0.mk c27
                     clear c27
                     obtain ⟨y274, hy274⟩ : ∃ y_ : List (S36), y_ = (x5_1 ++ [(⟨(rd_T36 l0 x6_1).f0, (rd_T36 l0 x6_1).f1, (rd_T36 l0 x6_1).f2⟩ : S36)]) := ⟨_, rfl⟩
                     replace H : (r6_counted.l0 kj4 l0 a1 y274 (wrap64 (x6_1 + 1))) = some r := by first | (rw [hy274]; with_reducible exact H) | (have H2_ := (Option.bind_some _ _).symm.trans H; rw [hy274]; with_reducible exact H2_) | (have H2_ := (Option.bind_some _ _).symm.trans H; with_reducible exact H2_) | with_reducible exact H | (rw [hy274]; exact H) | exact H
                     have Ny274 := Aside0.mk hy274
                     clear hy274
                     have H' := Aside0.mk H
                     clear H
                     have p273 : 0 ≤ (x6_1 : Int) := oT_ (by assumption)
                     have q273 : x6_1 < (l0.length : Int) := oT_ (by assumption)
                     obtain ⟨ad273, e273, hx273_0, hx273_1, hx273_2⟩ := at_T36 HR0.out x6_1 p273 q273
                     obtain rfl : ad269 = ad273 := (by injection e273)
                     replace hx273_0 := (HB.out.cell (bLC_ w _ hx273_0)).trans hx273_0
                     replace hx273_1 := (HB.out.cell (bLC_ w _ hx273_1)).trans hx273_1
                     replace hx273_2 := (HB.out.cell (bLC_ w _ hx273_2)).trans hx273_2
                     replace p273 := eq_true p273
                     replace q273 := eq_true q273
                     go_wp2_with (first | ((with_reducible refine gate_builtin (b := .append) (xs := #[.tmp 43, .tmp 48]) rfl ?_); at_builtin; refine Kd.R_append k36 (w0 := w) w.heap.size rfl (.tmp 43) (.tmp 48) 33 36 (.agg #[(.int .u8 0), (.int .i64 0), (.string ⟨#[]⟩)]) 32 rfl Tryz.underlying33 info36 rfl (by decide) (by omega) u5 x5_1 (⟨(rd_T36 l0 x6_1).f0, (rd_T36 l0 x6_1).f1, (rd_T36 l0 x6_1).f2⟩ : S36) [.int .u8 ((rd_T36 l0 x6_1).f0), .int .i64 ((rd_T36 l0 x6_1).f1), .string ((rd_T36 l0 x6_1).f2)] (fun _ => True) (fun _ => False) rfl rfl ?aP (fun _ hk => hk.elim) ?aF ?aO ?aB ?aS ?aL ?_; (case aP => exact k36_mkM _ _ _ (⟨(rd_T36 l0 x6_1).f0, (rd_T36 l0 x6_1).f1, (rd_T36 l0 x6_1).f2⟩ : S36)); (case aB => exact (by repeat (first | (with_reducible first | exact HB.out | apply bA_ | apply bN_ | apply b1_) | exact HB.out))); (case aF => exact (fun _ _ => trivial)); (case aO => exact (by (with_reducible repeat (first | apply Kd.R_alloc | apply Kd.R_drewN | apply Kd.R_drew)); exact HO_5.out)); (case aS => exact (below_size (by repeat (first | (with_reducible first | exact HB.out | apply bA_ | apply bN_ | apply b1_) | exact HB.out)))); (case aL => have := LMc27.out; omega); intro v275 w28 ho hb hg hat; rw [← Ny274.out] at ho; have n0_ := Aside0.mk (hb); have n1_ := Aside0.mk (ho); clear HB; clear HO_5; have HB := n0_; have HO276 := n1_; clear n0_ n1_; clear ho hb hg hat))
                     go_roundg kj4
                     case measure => have := HK1.out; have := HK2.out; have := HJ4.out; omega
                     case rel => exact ⟨(y274), (wrap64 (x6_1 + 1)), (by first | rfl | (simp; done) | (simp [*]; done)), H', ⟨by have := HK1.out; have := HK2.out; have := HJ4.out; omega⟩, ⟨by (with_reducible repeat (first | apply Kd.R_alloc | apply Kd.R_drewN | apply Kd.R_drew)); exact HO276.out⟩, ⟨by repeat (first | (with_reducible first | exact HB.out | apply bA_ | apply bN_ | apply b1_) | exact HB.out)⟩⟩
                   · rw [if_neg c27] at H
                     exact absurd H (by simp)
                 · rw [if_neg c26] at H
                   exact absurd H (by simp)
               · rw [if_neg c25] at H
                 exact absurd H (by simp)
             · replace c24 := Bool.eq_false_iff.mpr c24
               subst c24
               have H1 : (r6_counted.l0 kj4 l0 a1 x5_1 (wrap64 (x6_1 + 1))) = some r := by rw [if_neg (show ¬ (false = true) by decide)] at H; exact H
               clear H
               have H := H1
               clear H1
               have H' := Aside0.mk H
               clear H
               go_wp2
               go_roundg kj4
               case measure => have := HK1.out; have := HK2.out; have := HJ4.out; omega
               case rel => exact ⟨(x5_1), (wrap64 (x6_1 + 1)), (by first | rfl | (simp; done) | (simp [*]; done)), H', ⟨by have := HK1.out; have := HK2.out; have := HJ4.out; omega⟩, ⟨by (with_reducible repeat (first | apply Kd.R_alloc | apply Kd.R_drewN | apply Kd.R_drew)); exact HO_5.out⟩, ⟨by repeat (first | (with_reducible first | exact HB.out | apply bA_ | apply bN_ | apply b1_) | exact HB.out)⟩⟩
     · rw [if_neg c4] at H
       exact absurd H (by simp)
   · rw [if_neg c3] at H
     have c3b0 : decide (x6_1 < (l0.length : Int)) = false := dF_ c3
     clear c3
     obtain rfl := Option.some.inj H
     go_wp2
     go_ret
     exact ⟨_, by first | rfl | (simp [*, errW_none, errW_some] <;> rfl), by (with_reducible repeat (first | apply Kd.R_alloc | apply Kd.R_drewN | apply Kd.R_drew)); exact HO_5.out, by repeat (first | (with_reducible first | exact HB.out | apply bA_ | apply bN_ | apply b1_) | exact HB.out)⟩
def r6_total.l0 : Nat → List (S36) → Int → Int → Int → Option (Int × Int)
 | 0, _, _, _, _ => none
 | k + 1, x0, x4, x5, x6 => if x6 < (x0.length : Int) then (if 0 ≤ x6 then (r6_total.l0 k x0 (wrap64 ((wrap64 (x4 + (((rd_T36 x0 x6).f1) / 4294967296))) + ((wrap64 (x5 + (Go.bits .and .i64 ((rd_T36 x0 x6).f1) 4294967295))) / 4294967296))) (Go.bits .and .i64 (wrap64 (x5 + (Go.bits .and .i64 ((rd_T36 x0 x6).f1) 4294967295))) 4294967295) (wrap64 (x6 + 1))) else (none)) else (some (x4, x5))
def r6_total.f (k : Nat) (l0 : List (S36)) : Option (Int × Int) := r6_total.l0 k l0 0 0 0
theorem r6_total.calls (k : Nat) (A0 : Option Addr) (c0 : Nat) (l0 : List (S36)) (r1 : Int) (r2 : Int) (w : World) (hr0 : Kd.C k36 w A0 l0.length l0) (hc0 : l0.length ≤ c0) (h : r6_total.f k l0 = some (r1, r2)) :
 Calls Tryz.prog 84 #[.slice A0 l0.length c0] w fun e w' => e = .returned (.tuple #[.int .i64 r1, .int .i64 r2]) ∧ Drawn0 w w' := by
 have HR0 := Aside0.mk hr0
 have HC0 := Aside0.mk hc0
 clear hr0 hc0
 have H : (r6_total.l0 k l0 0 0 0) = some (r1, r2) := h
 clear h
 have H' := Aside0.mk H
 clear H
 go_enter Tryz.func84, Tryz.ntmps84
 go_wp2
 go_loopg [4, 5, 6] k (fun kq v4 v5 v6 w' => ∃ (x4_1 : Int) (x5_1 : Int) (x6_1 : Int), v4 = .int .i64 x4_1 ∧ v5 = .int .i64 x5_1 ∧ v6 = .int .i64 x6_1 ∧ Aside0 (r6_total.l0 kq l0 x4_1 x5_1 x6_1 = some (r1, r2)) ∧ Aside0 (kq ≤ k) ∧ Drawn0 w w')
 case atStart => exact ⟨(0), (0), (0), (by first | rfl | (simp; done) | (simp [*]; done)), (by first | rfl | (simp; done) | (simp [*]; done)), (by first | rfl | (simp; done) | (simp [*]; done)), H', ⟨Nat.le_refl _⟩, by repeat (first | exact Drawn0.refl _ | apply Drawn0.step)⟩
 case round =>
  clear H'
  obtain ⟨x4_1, x5_1, x6_1, rfl, rfl, rfl, HA, HK1, ⟨m1, rfl⟩⟩ := hrel
  cases gk with
  | zero => exact absurd HA.out (by simp [r6_total.l0])
  | succ k1 =>
   have H := HA.out
   clear HA
   simp only [r6_total.l0] at H
   by_cases c2 : x6_1 < (l0.length : Int)
   · rw [if_pos c2] at H
     have c2b0 : decide (x6_1 < (l0.length : Int)) = true := dT_ c2
     clear c2
     by_cases c3 : 0 ≤ x6_1
     · rw [if_pos c3] at H
       have c3b0 : decide (0 ≤ x6_1) = true := dT_ c3
       clear c3
       have H' := Aside0.mk H
       clear H
       have p277 : 0 ≤ (x6_1 : Int) := oT_ (by assumption)
       have q277 : x6_1 < (l0.length : Int) := oT_ (by assumption)
       obtain ⟨ad277, e277, hx277_0, hx277_1, hx277_2⟩ := at_T36 HR0.out x6_1 p277 q277
       cases e277
       replace p277 := eq_true p277
       replace q277 := eq_true q277
       go_wp2
       go_roundg k1
       case measure => have := HK1.out; omega
       case rel => exact ⟨(wrap64 ((wrap64 (x4_1 + (((rd_T36 l0 x6_1).f1) / 4294967296))) + ((wrap64 (x5_1 + (Go.bits .and .i64 ((rd_T36 l0 x6_1).f1) 4294967295))) / 4294967296))), (Go.bits .and .i64 (wrap64 (x5_1 + (Go.bits .and .i64 ((rd_T36 l0 x6_1).f1) 4294967295))) 4294967295), (wrap64 (x6_1 + 1)), (by first | rfl | (simp; done) | (simp [*]; done)), (by first | rfl | (simp; done) | (simp [*]; done)), (by first | rfl | (simp; done) | (simp [*]; done)), H', ⟨by have := HK1.out; omega⟩, by repeat (first | exact Drawn0.refl _ | apply Drawn0.step)⟩
     · rw [if_neg c3] at H
       exact absurd H (by simp)
   · rw [if_neg c2] at H
     have c2b0 : decide (x6_1 < (l0.length : Int)) = false := dF_ c2
     clear c2
     simp only [Option.some.injEq, Prod.mk.injEq] at H
     obtain ⟨rfl, rfl⟩ := H
     go_wp2
     go_ret2
     exact ⟨by first | rfl | (simp; done) | (simp [*]; done), by repeat (first | exact Drawn0.refl _ | apply Drawn0.step)⟩
def r6_sum.f (k : Nat) (l0 : List (S36)) : Option (Int × Int × ByteArray × Int) := (r6_total.f k l0).bind fun bt279 => (if bt279.1 < (-2147483648) then (some (0, 0, (⟨#[]⟩ : ByteArray), 4)) else (if bt279.1 ≥ 2147483648 then (some (0, 0, (⟨#[]⟩ : ByteArray), 4)) else ((r1_Int.f (wrap64 ((wrap64 (bt279.1 * 4294967296)) + bt279.2))).bind fun bt281 => (some (bt281.1, bt281.2.1, bt281.2.2, 0)))))
theorem r6_sum.calls (k : Nat) (A0 : Option Addr) (c0 : Nat) (l0 : List (S36)) (r1 : Int) (r2 : Int) (r3 : ByteArray) (r4 : Int) (w : World) (hr0 : Kd.C k36 w A0 l0.length l0) (hc0 : l0.length ≤ c0) (h : r6_sum.f k l0 = some (r1, r2, r3, r4)) :
 Calls Tryz.prog 53 #[.slice A0 l0.length c0] w fun e w' => e = .returned (.agg #[.int .u8 r1, .int .i64 r2, .string r3, .int .i64 r4]) ∧ Below w.heap.size w w' := by
 have hu38 := Tryz.underlying38
 have HR0 := Aside0.mk hr0
 have HC0 := Aside0.mk hc0
 clear hr0 hc0
 have HB := Aside0.mk (Below.refl w.heap.size w)
 have H : ((r6_total.f k l0).bind fun bt279 => (if bt279.1 < (-2147483648) then (some (0, 0, (⟨#[]⟩ : ByteArray), 4)) else (if bt279.1 ≥ 2147483648 then (some (0, 0, (⟨#[]⟩ : ByteArray), 4)) else ((r1_Int.f (wrap64 ((wrap64 (bt279.1 * 4294967296)) + bt279.2))).bind fun bt281 => (some (bt281.1, bt281.2.1, bt281.2.2, 0)))))) = some (r1, r2, r3, r4) := h
 clear h
 replace H := Option.bind_eq_some_iff.mp H
 obtain ⟨⟨t279, t280⟩, A20, H⟩ := H
 replace H : (if t279 < (-2147483648) then (some (0, 0, (⟨#[]⟩ : ByteArray), 4)) else (if t279 ≥ 2147483648 then (some (0, 0, (⟨#[]⟩ : ByteArray), 4)) else ((r1_Int.f (wrap64 ((wrap64 (t279 * 4294967296)) + t280))).bind fun bt281 => (some (bt281.1, bt281.2.1, bt281.2.2, 0))))) = some (r1, r2, r3, r4) := H
 have A2 := Aside0.mk A20
 clear A20
 by_cases c3 : t279 < (-2147483648)
 · rw [if_pos c3] at H
   have c3b0 : decide (t279 < (-2147483648)) = true := dT_ c3
   clear c3
   simp only [Option.some.injEq, Prod.mk.injEq] at H
   obtain ⟨rfl, rfl, rfl, rfl⟩ := H
   go_enter Tryz.func53, Tryz.ntmps53
   go_wp2_with (first | ((with_reducible refine gate_dst (N := 2) rfl ?_); refine box_event ?hg (N := 2) ?hd (cs := #[.int .u8 0, .int .i64 0, .string (⟨#[]⟩ : ByteArray), .int .i64 0]) (t := 38) ?hr ?_; (case hd => rfl); (case hg => rfl); (case hr => first | (go_simp; done) | (go_simp; rfl)); intro gb278 hg w4 hbox hb; have n0_ := Aside0.mk (below_step (by repeat (first | (with_reducible first | exact HB.out | apply bA_ | apply bN_ | apply b1_) | exact HB.out)) hb); have n1_ := Aside0.mk (hbox); have n2_ := Aside0.mk ((by rw [hg]; exact (below_size (by repeat (first | (with_reducible first | exact HB.out | apply bA_ | apply bN_ | apply b1_) | exact HB.out))) : w.heap.size ≤ gb278)); have n3_ := Aside0.mk ((by rw [hg]; exact (below_size (by repeat (first | (with_reducible first | exact HB.out | apply bA_ | apply bN_ | apply b1_) | exact HB.out))) : w.heap.size ≤ gb278)); clear HB; have HB := n0_; have BK278 := n1_; have GW278 := n2_; have GE278 := n3_; clear n0_ n1_ n2_ n3_; clear hb hbox hg) | ((with_reducible refine gate_callee (f := 84) rfl ?_); refine goesL_ (some 7) rfl rfl Tryz.func84 (by kernel_rfl) rfl #[.slice A0 l0.length c0] rfl (by (try simp only [List.map_toArray, List.map_cons, List.map_nil]); first | done | rfl | (simp only [List.length_drop, List.length_take]; rfl)) ?_; (with_reducible refine (r6_total.calls k _ _ l0 t279 t280 _ ?side1 ?side2 A2.out).mono ?_); (case side1 => repeat (first | exact (Kd.C_below HR0.out HB.out) | (with_reducible refine Kd.cA_ ?_ _) | (with_reducible refine Kd.cN_ ?_ _) | (with_reducible refine Kd.cD_ ?_))); (case side2 => exact HC0.out); rintro e w' ⟨rfl, ⟨nd, rfl⟩⟩; refine ⟨_, rfl, ?_⟩; (try (rw [drewN_self w4]; generalize hq_ : World.drewN w4 _ = w4; have n0_ : Aside0 (w4.heap[gb278]? = some (.cells #[.int .u8 0, .int .i64 0, .string (⟨#[]⟩ : ByteArray), .int .i64 0] 38 (0, 0))) := ⟨by rw [← hq_]; exact (by (with_reducible repeat (first | refine blk_drewN ?_ _ | refine blk_drew ?_ | refine blk_alloc ?_ _)); exact BK278.out)⟩; have n1_ : Aside0 (Below w.heap.size w w4) := ⟨by rw [← hq_]; exact (by repeat (first | (with_reducible first | exact HB.out | apply bA_ | apply bN_ | apply b1_ | refine below_set ?_ GE278.out) | exact HB.out))⟩; clear BK278 HB hq_; have BK278 := n0_; have HB := n1_; clear n0_ n1_)); have hcz5_0 : w4.cell? ⟨gb278, 0, none⟩ = some (.int .u8 0) := (blk_cell BK278.out 0).trans rfl; have hcz5_1 : w4.cell? ⟨gb278, 1, none⟩ = some (.int .i64 0) := (blk_cell BK278.out 1).trans rfl; have hcz5_2 : w4.cell? ⟨gb278, 2, none⟩ = some (.string (⟨#[]⟩ : ByteArray)) := (blk_cell BK278.out 2).trans rfl; have hcz5_3 : w4.cell? ⟨gb278, 3, none⟩ = some (.int .i64 0) := (blk_cell BK278.out 3).trans rfl; have hfz5_0 := blk_frozen BK278.out 0; have hfz5_1 := blk_frozen BK278.out 1; have hfz5_2 := blk_frozen BK278.out 2; have hfz5_3 := blk_frozen BK278.out 3))
   refine bodyPost_ret (results_cell_row rfl _ _ gb278 38 #[.int .u8 0, .int .i64 0, .string (⟨#[]⟩ : ByteArray), .int .i64 4] (0, 0) _ rfl (by (with_reducible repeat (first | refine blk_drewN ?_ _ | refine blk_drew ?_ | refine blk_alloc ?_ _)); refine blk_put (cs := #[.int .u8 0, .int .i64 0, .string (⟨#[]⟩ : ByteArray), .int .i64 0]) ?_ 3 _ rfl; (with_reducible repeat (first | refine blk_drewN ?_ _ | refine blk_drew ?_ | refine blk_alloc ?_ _)); refine blk_put (cs := #[.int .u8 0, .int .i64 0, .string (⟨#[]⟩ : ByteArray), .int .i64 0]) ?_ 2 _ rfl; (with_reducible repeat (first | refine blk_drewN ?_ _ | refine blk_drew ?_ | refine blk_alloc ?_ _)); refine blk_put (cs := #[.int .u8 0, .int .i64 0, .string (⟨#[]⟩ : ByteArray), .int .i64 0]) ?_ 1 _ rfl; (with_reducible repeat (first | refine blk_drewN ?_ _ | refine blk_drew ?_ | refine blk_alloc ?_ _)); refine blk_put (cs := #[.int .u8 0, .int .i64 0, .string (⟨#[]⟩ : ByteArray), .int .i64 0]) ?_ 0 _ rfl; (with_reducible repeat (first | refine blk_drewN ?_ _ | refine blk_drew ?_ | refine blk_alloc ?_ _)); exact BK278.out) Tryz.underlying38 rfl (by kernel_rfl)) rfl ?_
   exact ⟨by first | rfl | (simp [*, errW_none, errW_some] <;> rfl), by repeat (first | (with_reducible first | exact HB.out | apply bA_ | apply bN_ | apply b1_ | refine below_set ?_ GE278.out) | exact HB.out)⟩
 · rw [if_neg c3] at H
   have c3b0 : decide (t279 < (-2147483648)) = false := dF_ c3
   clear c3
   by_cases c6 : t279 ≥ 2147483648
   · rw [if_pos c6] at H
     have c6b0 : decide (2147483648 ≤ t279) = true := dT_ c6
     clear c6
     simp only [Option.some.injEq, Prod.mk.injEq] at H
     obtain ⟨rfl, rfl, rfl, rfl⟩ := H
     go_enter Tryz.func53, Tryz.ntmps53
     go_wp2_with (first | ((with_reducible refine gate_dst (N := 2) rfl ?_); refine box_event ?hg (N := 2) ?hd (cs := #[.int .u8 0, .int .i64 0, .string (⟨#[]⟩ : ByteArray), .int .i64 0]) (t := 38) ?hr ?_; (case hd => rfl); (case hg => rfl); (case hr => first | (go_simp; done) | (go_simp; rfl)); intro gb278 hg w7 hbox hb; have n0_ := Aside0.mk (below_step (by repeat (first | (with_reducible first | exact HB.out | apply bA_ | apply bN_ | apply b1_) | exact HB.out)) hb); have n1_ := Aside0.mk (hbox); have n2_ := Aside0.mk ((by rw [hg]; exact (below_size (by repeat (first | (with_reducible first | exact HB.out | apply bA_ | apply bN_ | apply b1_) | exact HB.out))) : w.heap.size ≤ gb278)); have n3_ := Aside0.mk ((by rw [hg]; exact (below_size (by repeat (first | (with_reducible first | exact HB.out | apply bA_ | apply bN_ | apply b1_) | exact HB.out))) : w.heap.size ≤ gb278)); clear HB; have HB := n0_; have BK278 := n1_; have GW278 := n2_; have GE278 := n3_; clear n0_ n1_ n2_ n3_; clear hb hbox hg) | ((with_reducible refine gate_callee (f := 84) rfl ?_); refine goesL_ (some 7) rfl rfl Tryz.func84 (by kernel_rfl) rfl #[.slice A0 l0.length c0] rfl (by (try simp only [List.map_toArray, List.map_cons, List.map_nil]); first | done | rfl | (simp only [List.length_drop, List.length_take]; rfl)) ?_; (with_reducible refine (r6_total.calls k _ _ l0 t279 t280 _ ?side1 ?side2 A2.out).mono ?_); (case side1 => repeat (first | exact (Kd.C_below HR0.out HB.out) | (with_reducible refine Kd.cA_ ?_ _) | (with_reducible refine Kd.cN_ ?_ _) | (with_reducible refine Kd.cD_ ?_))); (case side2 => exact HC0.out); rintro e w' ⟨rfl, ⟨nd, rfl⟩⟩; refine ⟨_, rfl, ?_⟩; (try (rw [drewN_self w7]; generalize hq_ : World.drewN w7 _ = w7; have n0_ : Aside0 (w7.heap[gb278]? = some (.cells #[.int .u8 0, .int .i64 0, .string (⟨#[]⟩ : ByteArray), .int .i64 0] 38 (0, 0))) := ⟨by rw [← hq_]; exact (by (with_reducible repeat (first | refine blk_drewN ?_ _ | refine blk_drew ?_ | refine blk_alloc ?_ _)); exact BK278.out)⟩; have n1_ : Aside0 (Below w.heap.size w w7) := ⟨by rw [← hq_]; exact (by repeat (first | (with_reducible first | exact HB.out | apply bA_ | apply bN_ | apply b1_ | refine below_set ?_ GE278.out) | exact HB.out))⟩; clear BK278 HB hq_; have BK278 := n0_; have HB := n1_; clear n0_ n1_)); have hcz8_0 : w7.cell? ⟨gb278, 0, none⟩ = some (.int .u8 0) := (blk_cell BK278.out 0).trans rfl; have hcz8_1 : w7.cell? ⟨gb278, 1, none⟩ = some (.int .i64 0) := (blk_cell BK278.out 1).trans rfl; have hcz8_2 : w7.cell? ⟨gb278, 2, none⟩ = some (.string (⟨#[]⟩ : ByteArray)) := (blk_cell BK278.out 2).trans rfl; have hcz8_3 : w7.cell? ⟨gb278, 3, none⟩ = some (.int .i64 0) := (blk_cell BK278.out 3).trans rfl; have hfz8_0 := blk_frozen BK278.out 0; have hfz8_1 := blk_frozen BK278.out 1; have hfz8_2 := blk_frozen BK278.out 2; have hfz8_3 := blk_frozen BK278.out 3))
     refine bodyPost_ret (results_cell_row rfl _ _ gb278 38 #[.int .u8 0, .int .i64 0, .string (⟨#[]⟩ : ByteArray), .int .i64 4] (0, 0) _ rfl (by (with_reducible repeat (first | refine blk_drewN ?_ _ | refine blk_drew ?_ | refine blk_alloc ?_ _)); refine blk_put (cs := #[.int .u8 0, .int .i64 0, .string (⟨#[]⟩ : ByteArray), .int .i64 0]) ?_ 3 _ rfl; (with_reducible repeat (first | refine blk_drewN ?_ _ | refine blk_drew ?_ | refine blk_alloc ?_ _)); refine blk_put (cs := #[.int .u8 0, .int .i64 0, .string (⟨#[]⟩ : ByteArray), .int .i64 0]) ?_ 2 _ rfl; (with_reducible repeat (first | refine blk_drewN ?_ _ | refine blk_drew ?_ | refine blk_alloc ?_ _)); refine blk_put (cs := #[.int .u8 0, .int .i64 0, .string (⟨#[]⟩ : ByteArray), .int .i64 0]) ?_ 1 _ rfl; (with_reducible repeat (first | refine blk_drewN ?_ _ | refine blk_drew ?_ | refine blk_alloc ?_ _)); refine blk_put (cs := #[.int .u8 0, .int .i64 0, .string (⟨#[]⟩ : ByteArray), .int .i64 0]) ?_ 0 _ rfl; (with_reducible repeat (first | refine blk_drewN ?_ _ | refine blk_drew ?_ | refine blk_alloc ?_ _)); exact BK278.out) Tryz.underlying38 rfl (by kernel_rfl)) rfl ?_
     exact ⟨by first | rfl | (simp [*, errW_none, errW_some] <;> rfl), by repeat (first | (with_reducible first | exact HB.out | apply bA_ | apply bN_ | apply b1_ | refine below_set ?_ GE278.out) | exact HB.out)⟩
   · rw [if_neg c6] at H
     have c6b0 : decide (2147483648 ≤ t279) = false := dF_ c6
     clear c6
     replace H := Option.bind_eq_some_iff.mp H
     obtain ⟨⟨t281, t282, t283⟩, A90, H⟩ := H
     replace H : (some (t281, t282, t283, 0)) = some (r1, r2, r3, r4) := H
     have A9 := Aside0.mk A90
     clear A90
     simp only [Option.some.injEq, Prod.mk.injEq] at H
     obtain ⟨rfl, rfl, rfl, rfl⟩ := H
     go_enter Tryz.func53, Tryz.ntmps53
     go_wp2_with (first | ((with_reducible refine gate_dst (N := 2) rfl ?_); refine box_event ?hg (N := 2) ?hd (cs := #[.int .u8 0, .int .i64 0, .string (⟨#[]⟩ : ByteArray), .int .i64 0]) (t := 38) ?hr ?_; (case hd => rfl); (case hg => rfl); (case hr => first | (go_simp; done) | (go_simp; rfl)); intro gb278 hg w10 hbox hb; have n0_ := Aside0.mk (below_step (by repeat (first | (with_reducible first | exact HB.out | apply bA_ | apply bN_ | apply b1_) | exact HB.out)) hb); have n1_ := Aside0.mk (hbox); have n2_ := Aside0.mk ((by rw [hg]; exact (below_size (by repeat (first | (with_reducible first | exact HB.out | apply bA_ | apply bN_ | apply b1_) | exact HB.out))) : w.heap.size ≤ gb278)); have n3_ := Aside0.mk ((by rw [hg]; exact (below_size (by repeat (first | (with_reducible first | exact HB.out | apply bA_ | apply bN_ | apply b1_) | exact HB.out))) : w.heap.size ≤ gb278)); clear HB; have HB := n0_; have BK278 := n1_; have GW278 := n2_; have GE278 := n3_; clear n0_ n1_ n2_ n3_; clear hb hbox hg) | ((with_reducible refine gate_callee (f := 84) rfl ?_); refine goesL_ (some 7) rfl rfl Tryz.func84 (by kernel_rfl) rfl #[.slice A0 l0.length c0] rfl (by (try simp only [List.map_toArray, List.map_cons, List.map_nil]); first | done | rfl | (simp only [List.length_drop, List.length_take]; rfl)) ?_; (with_reducible refine (r6_total.calls k _ _ l0 t279 t280 _ ?side1 ?side2 A2.out).mono ?_); (case side1 => repeat (first | exact (Kd.C_below HR0.out HB.out) | (with_reducible refine Kd.cA_ ?_ _) | (with_reducible refine Kd.cN_ ?_ _) | (with_reducible refine Kd.cD_ ?_))); (case side2 => exact HC0.out); rintro e w' ⟨rfl, ⟨nd, rfl⟩⟩; refine ⟨_, rfl, ?_⟩; (try (rw [drewN_self w10]; generalize hq_ : World.drewN w10 _ = w10; have n0_ : Aside0 (w10.heap[gb278]? = some (.cells #[.int .u8 0, .int .i64 0, .string (⟨#[]⟩ : ByteArray), .int .i64 0] 38 (0, 0))) := ⟨by rw [← hq_]; exact (by (with_reducible repeat (first | refine blk_drewN ?_ _ | refine blk_drew ?_ | refine blk_alloc ?_ _)); exact BK278.out)⟩; have n1_ : Aside0 (Below w.heap.size w w10) := ⟨by rw [← hq_]; exact (by repeat (first | (with_reducible first | exact HB.out | apply bA_ | apply bN_ | apply b1_ | refine below_set ?_ GE278.out) | exact HB.out))⟩; clear BK278 HB hq_; have BK278 := n0_; have HB := n1_; clear n0_ n1_))) | ((with_reducible refine gate_callee (f := 43) rfl ?_); refine goesL_ (some 21) rfl rfl Tryz.func43 (by kernel_rfl) rfl #[.int .i64 (wrap64 ((wrap64 (t279 * 4294967296)) + t280))] rfl (by (try simp only [List.map_toArray, List.map_cons, List.map_nil]); first | done | rfl | (simp only [List.length_drop, List.length_take]; rfl)) ?_; (with_reducible refine (r1_Int.calls (wrap64 ((wrap64 (t279 * 4294967296)) + t280)) t281 t282 t283 _ A9.out).mono ?_); rintro e w11 ⟨rfl, hb⟩; refine ⟨_, rfl, ?_⟩; have n0_ := Aside0.mk (blk_below (g := gb278) (o := .cells #[.int .u8 0, .int .i64 0, .string (⟨#[]⟩ : ByteArray), .int .i64 0] 38 (0, 0)) (by (with_reducible repeat (first | refine blk_drewN ?_ _ | refine blk_drew ?_ | refine blk_alloc ?_ _)); exact BK278.out) hb); have n1_ := Aside0.mk (below_step (by repeat (first | (with_reducible first | exact HB.out | apply bA_ | apply bN_ | apply b1_ | refine below_set ?_ GE278.out) | exact HB.out)) hb); clear BK278; clear HB; have BK278 := n0_; have HB := n1_; clear n0_ n1_; (try clear hb); (try clear hb2); (try clear hk); (try clear hi); have hcz12_0 : w11.cell? ⟨gb278, 0, none⟩ = some (.int .u8 0) := (blk_cell BK278.out 0).trans rfl; have hcz12_1 : w11.cell? ⟨gb278, 1, none⟩ = some (.int .i64 0) := (blk_cell BK278.out 1).trans rfl; have hcz12_2 : w11.cell? ⟨gb278, 2, none⟩ = some (.string (⟨#[]⟩ : ByteArray)) := (blk_cell BK278.out 2).trans rfl; have hcz12_3 : w11.cell? ⟨gb278, 3, none⟩ = some (.int .i64 0) := (blk_cell BK278.out 3).trans rfl; have hfz12_0 := blk_frozen BK278.out 0; have hfz12_1 := blk_frozen BK278.out 1; have hfz12_2 := blk_frozen BK278.out 2; have hfz12_3 := blk_frozen BK278.out 3))
     refine bodyPost_ret (results_cell_row rfl _ _ gb278 38 #[.int .u8 t281, .int .i64 t282, .string t283, .int .i64 0] (0, 0) _ rfl (by (with_reducible repeat (first | refine blk_drewN ?_ _ | refine blk_drew ?_ | refine blk_alloc ?_ _)); refine blk_put (cs := #[.int .u8 t281, .int .i64 t282, .string t283, .int .i64 0]) ?_ 3 _ rfl; (with_reducible repeat (first | refine blk_drewN ?_ _ | refine blk_drew ?_ | refine blk_alloc ?_ _)); refine blk_put (cs := #[.int .u8 t281, .int .i64 t282, .string (⟨#[]⟩ : ByteArray), .int .i64 0]) ?_ 2 _ rfl; (with_reducible repeat (first | refine blk_drewN ?_ _ | refine blk_drew ?_ | refine blk_alloc ?_ _)); refine blk_put (cs := #[.int .u8 t281, .int .i64 0, .string (⟨#[]⟩ : ByteArray), .int .i64 0]) ?_ 1 _ rfl; (with_reducible repeat (first | refine blk_drewN ?_ _ | refine blk_drew ?_ | refine blk_alloc ?_ _)); refine blk_put (cs := #[.int .u8 0, .int .i64 0, .string (⟨#[]⟩ : ByteArray), .int .i64 0]) ?_ 0 _ rfl; (with_reducible repeat (first | refine blk_drewN ?_ _ | refine blk_drew ?_ | refine blk_alloc ?_ _)); exact BK278.out) Tryz.underlying38 rfl (by kernel_rfl)) rfl ?_
     exact ⟨by first | rfl | (simp [*, errW_none, errW_some] <;> rfl), by repeat (first | (with_reducible first | exact HB.out | apply bA_ | apply bN_ | apply b1_ | refine below_set ?_ GE278.out) | exact HB.out)⟩
def r6_extreme.l0 : Nat → List (S36) → Bool → Int → Int → Int → ByteArray → Option (Int × Int × ByteArray × Int)
 | 0, _, _, _, _, _, _ => none
 | k + 1, x0, x1, x6, x287000, x287001, x287002 => if x6 < (x0.length : Int) then (if 0 ≤ x6 then ((r1_Compare.f k ((rd_T36 x0 x6).f0) ((rd_T36 x0 x6).f1) ((rd_T36 x0 x6).f2) x287000 x287001 x287002).bind fun t288 => (if x1 = true then (if t288 > 0 then (r6_extreme.l0 k x0 x1 (wrap64 (x6 + 1)) ((rd_T36 x0 x6).f0) ((rd_T36 x0 x6).f1) ((rd_T36 x0 x6).f2)) else (r6_extreme.l0 k x0 x1 (wrap64 (x6 + 1)) x287000 x287001 x287002)) else (if t288 < 0 then (r6_extreme.l0 k x0 x1 (wrap64 (x6 + 1)) ((rd_T36 x0 x6).f0) ((rd_T36 x0 x6).f1) ((rd_T36 x0 x6).f2)) else (r6_extreme.l0 k x0 x1 (wrap64 (x6 + 1)) x287000 x287001 x287002)))) else (none)) else (some (x287000, x287001, x287002, 0))
def r6_extreme.f (k : Nat) (l0 : List (S36)) (a1 : Bool) : Option (Int × Int × ByteArray × Int) := if 0 < (l0.length : Int) then (r6_extreme.l0 k l0 a1 1 ((rd_T36 l0 0).f0) ((rd_T36 l0 0).f1) ((rd_T36 l0 0).f2)) else (none)
theorem r6_extreme.calls (k : Nat) (A0 : Option Addr) (c0 : Nat) (l0 : List (S36)) (a1 : Bool) (r1 : Int) (r2 : Int) (r3 : ByteArray) (r4 : Int) (w : World) (hr0 : Kd.C k36 w A0 l0.length l0) (hc0 : l0.length ≤ c0) (h : r6_extreme.f k l0 a1 = some (r1, r2, r3, r4)) :
 Calls Tryz.prog 54 #[.slice A0 l0.length c0, .bool a1] w fun e w' => e = .returned (.agg #[.int .u8 r1, .int .i64 r2, .string r3, .int .i64 r4]) ∧ Below w.heap.size w w' := by
 have hu38 := Tryz.underlying38
 have hu36 := Tryz.underlying36
 have HR0 := Aside0.mk hr0
 have HC0 := Aside0.mk hc0
 clear hr0 hc0
 have HB := Aside0.mk (Below.refl w.heap.size w)
 have H : (if 0 < (l0.length : Int) then (r6_extreme.l0 k l0 a1 1 ((rd_T36 l0 0).f0) ((rd_T36 l0 0).f1) ((rd_T36 l0 0).f2)) else (none)) = some (r1, r2, r3, r4) := h
 clear h
 by_cases c3 : 0 < (l0.length : Int)
 · rw [if_pos c3] at H
   have c3b0 : decide (0 < (l0.length : Int)) = true := dT_ c3
   have c3b1 : decide (0 < l0.length) = true := dT_ (by omega)
   clear c3
   have H' := Aside0.mk H
   clear H
   go_enter Tryz.func54, Tryz.ntmps54
   go_wp2_with (first | ((with_reducible refine gate_dst (N := 4) rfl ?_); refine box_event ?hg (N := 4) ?hd (cs := #[.int .u8 0, .int .i64 0, .string (⟨#[]⟩ : ByteArray), .int .i64 0]) (t := 38) ?hr ?_; (case hd => rfl); (case hg => rfl); (case hr => first | (go_simp; done) | (go_simp; rfl)); intro gb284 hg w4 hbox hb; have n0_ := Aside0.mk (below_step (by repeat (first | (with_reducible first | exact HB.out | apply bA_ | apply bN_ | apply b1_) | exact HB.out)) hb); have n1_ := Aside0.mk (hbox); have n2_ := Aside0.mk ((by rw [hg]; exact (below_size (by repeat (first | (with_reducible first | exact HB.out | apply bA_ | apply bN_ | apply b1_) | exact HB.out))) : w.heap.size ≤ gb284)); have n3_ := Aside0.mk ((by rw [hg]; exact (below_size (by repeat (first | (with_reducible first | exact HB.out | apply bA_ | apply bN_ | apply b1_) | exact HB.out))) : w.heap.size ≤ gb284)); clear HB; have HB := n0_; have BK284 := n1_; have GW284 := n2_; have GE284 := n3_; clear n0_ n1_ n2_ n3_; clear hb hbox hg; have p285 : 0 ≤ (0 : Int) := (by omega); have q285 : 0 < (l0.length : Int) := oT_ (by assumption); obtain ⟨ad285, e285, hx285_0, hx285_1, hx285_2⟩ := at_T36 HR0.out 0 p285 q285; cases e285; have qi285 : (0 < l0.length) = True := eq_true (by omega); (try rw [show ((0 : Int)).toNat = 0 from rfl] at hx285_0); (try rw [show 0 * 3 = 0 from rfl] at hx285_0); (try rw [Addr.add_zero'] at hx285_0); (try rw [show ((0 : Int)).toNat = 0 from rfl] at hx285_1); (try rw [show 0 * 3 = 0 from rfl] at hx285_1); (try rw [Addr.add_zero'] at hx285_1); (try rw [show ((0 : Int)).toNat = 0 from rfl] at hx285_2); (try rw [show 0 * 3 = 0 from rfl] at hx285_2); (try rw [Addr.add_zero'] at hx285_2); replace hx285_0 := (HB.out.cell (bLC_ w _ hx285_0)).trans hx285_0; replace hx285_1 := (HB.out.cell (bLC_ w _ hx285_1)).trans hx285_1; replace hx285_2 := (HB.out.cell (bLC_ w _ hx285_2)).trans hx285_2; replace p285 := eq_true p285; replace q285 := eq_true q285) | ((with_reducible refine gate_dst (N := 5) rfl ?_); refine box_event ?hg (N := 5) ?hd (cs := #[.int .u8 0, .int .i64 0, .string (⟨#[]⟩ : ByteArray)]) (t := 36) ?hr ?_; (case hd => rfl); (case hg => rfl); (case hr => first | (go_simp; done) | (go_simp; rfl)); intro gb286 hg w5 hbox hb; have n0_ := Aside0.mk (blk_below (g := gb284) (o := .cells #[.int .u8 0, .int .i64 0, .string (⟨#[]⟩ : ByteArray), .int .i64 0] 38 (0, 0)) (by (with_reducible repeat (first | refine blk_drewN ?_ _ | refine blk_drew ?_ | refine blk_alloc ?_ _)); exact BK284.out) hb); have n1_ := Aside0.mk (below_step (by repeat (first | (with_reducible first | exact HB.out | apply bA_ | apply bN_ | apply b1_ | refine below_set ?_ GE284.out) | exact HB.out)) hb); have n2_ := Aside0.mk (hbox); have n3_ := Aside0.mk ((by rw [hg]; exact (below_size (by repeat (first | (with_reducible first | exact HB.out | apply bA_ | apply bN_ | apply b1_ | refine below_set ?_ GE284.out) | exact HB.out))) : w.heap.size ≤ gb286)); have n4_ := Aside0.mk ((by rw [hg]; exact (below_size (by repeat (first | (with_reducible first | exact HB.out | apply bA_ | apply bN_ | apply b1_ | refine below_set ?_ GE284.out) | exact HB.out))) : w.heap.size ≤ gb286)); have n5_ := Aside0.mk ((by rw [hg]; exact Nat.ne_of_lt (blk_lt (g := gb284) (o := .cells #[.int .u8 0, .int .i64 0, .string (⟨#[]⟩ : ByteArray), .int .i64 0] 38 (0, 0)) (by (with_reducible repeat (first | refine blk_drewN ?_ _ | refine blk_drew ?_ | refine blk_alloc ?_ _)); exact BK284.out)) : gb284 ≠ gb286)); have n6_ := Aside0.mk ((by rw [hg]; exact Nat.ne_of_gt (blk_lt (g := gb284) (o := .cells #[.int .u8 0, .int .i64 0, .string (⟨#[]⟩ : ByteArray), .int .i64 0] 38 (0, 0)) (by (with_reducible repeat (first | refine blk_drewN ?_ _ | refine blk_drew ?_ | refine blk_alloc ?_ _)); exact BK284.out)) : gb286 ≠ gb284)); clear BK284; clear HB; have BK284 := n0_; have HB := n1_; have BK286 := n2_; have GW286 := n3_; have GE286 := n4_; have NB284_286 := n5_; have NB286_284 := n6_; clear n0_ n1_ n2_ n3_ n4_ n5_ n6_; clear hb hbox hg; have hnb6 := NB286_284.out; have hnc6 := NB284_286.out; have hcz7_0 : w5.cell? ⟨gb286, 0, none⟩ = some (.int .u8 0) := (blk_cell BK286.out 0).trans rfl; have hcz7_1 : w5.cell? ⟨gb286, 1, none⟩ = some (.int .i64 0) := (blk_cell BK286.out 1).trans rfl; have hcz7_2 : w5.cell? ⟨gb286, 2, none⟩ = some (.string (⟨#[]⟩ : ByteArray)) := (blk_cell BK286.out 2).trans rfl; have hfz7_0 := blk_frozen BK286.out 0; have hfz7_1 := blk_frozen BK286.out 1; have hfz7_2 := blk_frozen BK286.out 2))
   go_loopg [6] k (fun kq v6 w' => ∃ (x6_1 : Int) (x287000_1 : Int) (x287001_1 : Int) (x287002_1 : ByteArray), v6 = .int .i64 x6_1 ∧ Aside0 (r6_extreme.l0 kq l0 a1 x6_1 x287000_1 x287001_1 x287002_1 = some (r1, r2, r3, r4)) ∧ Aside0 (kq ≤ k) ∧ Aside0 (w'.heap[gb284]? = some (.cells #[.int .u8 0, .int .i64 0, .string (⟨#[]⟩ : ByteArray), .int .i64 0] 38 (0, 0))) ∧ Aside0 (w'.heap[gb286]? = some (.cells #[.int .u8 x287000_1, .int .i64 x287001_1, .string x287002_1] 36 (0, 0))) ∧ Aside0 (Below w.heap.size w w'))
   case atStart => exact ⟨(1), ((rd_T36 l0 0).f0), ((rd_T36 l0 0).f1), ((rd_T36 l0 0).f2), (by first | rfl | (simp; done) | (simp [*]; done)), H', ⟨Nat.le_refl _⟩, ⟨by (with_reducible repeat (first | refine blk_drewN ?_ _ | refine blk_drew ?_ | refine blk_alloc ?_ _)); refine blk_far ?_ NB284_286.out _; (with_reducible repeat (first | refine blk_drewN ?_ _ | refine blk_drew ?_ | refine blk_alloc ?_ _)); refine blk_far ?_ NB284_286.out _; (with_reducible repeat (first | refine blk_drewN ?_ _ | refine blk_drew ?_ | refine blk_alloc ?_ _)); refine blk_far ?_ NB284_286.out _; (with_reducible repeat (first | refine blk_drewN ?_ _ | refine blk_drew ?_ | refine blk_alloc ?_ _)); exact BK284.out⟩, ⟨by (with_reducible repeat (first | refine blk_drewN ?_ _ | refine blk_drew ?_ | refine blk_alloc ?_ _)); refine blk_put (cs := #[.int .u8 ((rd_T36 l0 0).f0), .int .i64 ((rd_T36 l0 0).f1), .string (⟨#[]⟩ : ByteArray)]) ?_ 2 _ rfl; (with_reducible repeat (first | refine blk_drewN ?_ _ | refine blk_drew ?_ | refine blk_alloc ?_ _)); refine blk_put (cs := #[.int .u8 ((rd_T36 l0 0).f0), .int .i64 0, .string (⟨#[]⟩ : ByteArray)]) ?_ 1 _ rfl; (with_reducible repeat (first | refine blk_drewN ?_ _ | refine blk_drew ?_ | refine blk_alloc ?_ _)); refine blk_put (cs := #[.int .u8 0, .int .i64 0, .string (⟨#[]⟩ : ByteArray)]) ?_ 0 _ rfl; (with_reducible repeat (first | refine blk_drewN ?_ _ | refine blk_drew ?_ | refine blk_alloc ?_ _)); exact BK286.out⟩, ⟨by repeat (first | (with_reducible first | exact HB.out | apply bA_ | apply bN_ | apply b1_ | refine below_set ?_ GE284.out | refine below_set ?_ GE286.out) | exact HB.out)⟩⟩
   case round =>
    clear H'
    try clear p2
    try clear q2
    try clear hx2
    try clear qi2
    try clear c3
    try clear c3b0
    try clear c3b1
    try clear c5
    try clear c6
    try clear hcz7_0
    try clear hcz7_1
    try clear hcz7_2
    try clear hfz7_0
    try clear hfz7_1
    try clear hfz7_2
    try clear hx285_0
    try clear hx285_1
    try clear hx285_2
    try clear p285
    try clear q285
    obtain ⟨x6_1, x287000_1, x287001_1, x287002_1, rfl, HA, HK1, BK284, BK286, HB⟩ := hrel
    cases gk with
    | zero => exact absurd HA.out (by simp [r6_extreme.l0])
    | succ k1 =>
     have H := HA.out
     clear HA
     simp only [r6_extreme.l0] at H
     by_cases c8 : x6_1 < (l0.length : Int)
     · rw [if_pos c8] at H
       have c8b0 : decide (x6_1 < (l0.length : Int)) = true := dT_ c8
       clear c8
       by_cases c9 : 0 ≤ x6_1
       · rw [if_pos c9] at H
         have c9b0 : decide (0 ≤ x6_1) = true := dT_ c9
         clear c9
         replace H := Option.bind_eq_some_iff.mp H
         obtain ⟨t288, A100, H⟩ := H
         replace H : (if a1 = true then (if t288 > 0 then (r6_extreme.l0 k1 l0 a1 (wrap64 (x6_1 + 1)) ((rd_T36 l0 x6_1).f0) ((rd_T36 l0 x6_1).f1) ((rd_T36 l0 x6_1).f2)) else (r6_extreme.l0 k1 l0 a1 (wrap64 (x6_1 + 1)) x287000_1 x287001_1 x287002_1)) else (if t288 < 0 then (r6_extreme.l0 k1 l0 a1 (wrap64 (x6_1 + 1)) ((rd_T36 l0 x6_1).f0) ((rd_T36 l0 x6_1).f1) ((rd_T36 l0 x6_1).f2)) else (r6_extreme.l0 k1 l0 a1 (wrap64 (x6_1 + 1)) x287000_1 x287001_1 x287002_1))) = some (r1, r2, r3, r4) := H
         have A10 := Aside0.mk A100
         clear A100
         by_cases c11 : a1 = true
         · subst c11
           have H1 : (if t288 > 0 then (r6_extreme.l0 k1 l0 true (wrap64 (x6_1 + 1)) ((rd_T36 l0 x6_1).f0) ((rd_T36 l0 x6_1).f1) ((rd_T36 l0 x6_1).f2)) else (r6_extreme.l0 k1 l0 true (wrap64 (x6_1 + 1)) x287000_1 x287001_1 x287002_1)) = some (r1, r2, r3, r4) := by rw [if_pos rfl] at H; exact H
           clear H
           have H := H1
           clear H1
           by_cases c12 : t288 > 0
           · rw [if_pos c12] at H
             have c12b0 : decide (0 < t288) = true := dT_ c12
             clear c12
             have H' := Aside0.mk H
             clear H
             try go_wp2
             have n0_ := Aside0.mk (blk_drew BK284.out)
             have n1_ := Aside0.mk (blk_drew BK286.out)
             have n2_ := Aside0.mk (b1_ HB.out)
             clear BK284
             clear BK286
             clear HB
             have BK284 := n0_
             have BK286 := n1_
             have HB := n2_
             clear n0_ n1_ n2_
             have p287 : 0 ≤ (x6_1 : Int) := oT_ (by assumption)
             have q287 : x6_1 < (l0.length : Int) := oT_ (by assumption)
             obtain ⟨ad287, e287, hx287_0, hx287_1, hx287_2⟩ := at_T36 HR0.out x6_1 p287 q287
             have hw287_2 := hx287_2
             have hw287_1 := hx287_1
             have hw287_0 := hx287_0
             obtain rfl : ad285 = ad287 := (by injection e287)
             replace hx287_0 := (HB.out.cell (bLC_ w _ hx287_0)).trans hx287_0
             replace hx287_1 := (HB.out.cell (bLC_ w _ hx287_1)).trans hx287_1
             replace hx287_2 := (HB.out.cell (bLC_ w _ hx287_2)).trans hx287_2
             replace p287 := eq_true p287
             replace q287 := eq_true q287
             refine start_ (n := 7) (S := fun w' => w'.cell? ⟨gb286, 0, none⟩ = some (.int .u8 x287000_1) ∧ w'.cell? ⟨gb286, 1, none⟩ = some (.int .i64 x287001_1) ∧ w'.cell? ⟨gb286, 2, none⟩ = some (.string x287002_1) ∧ w'.cell? (ad285.add ((x6_1).toNat * 3)) = some (.int .u8 ((rd_T36 l0 x6_1).f0)) ∧ w'.cell? ⟨(ad285.add ((x6_1).toNat * 3)).block, (ad285.add ((x6_1).toNat * 3)).off + 1, none⟩ = some (.int .i64 ((rd_T36 l0 x6_1).f1)) ∧ w'.cell? ⟨(ad285.add ((x6_1).toNat * 3)).block, (ad285.add ((x6_1).toNat * 3)).off + 2, none⟩ = some (.string ((rd_T36 l0 x6_1).f2))) (ds := []) #[X_,X_,X_,X_,X_,X_,X_] (by kernel_rfl) rfl rfl ⟨(blk_cell BK286.out 0).trans rfl, (blk_cell BK286.out 1).trans rfl, (blk_cell BK286.out 2).trans rfl, ((HB.out.cell (bLC_ w _ hw287_0)).trans hw287_0), ((HB.out.cell (bLC_ w _ hw287_1)).trans hw287_1), ((HB.out.cell (bLC_ w _ hw287_2)).trans hw287_2)⟩ (fun hHeld => ?_)
             generalize wr.drew = w13 at BK284 BK286 HB hx287_0 hx287_1 hx287_2 hHeld ⊢
             refine pure_ (i := 0) (N := some 17) (v := ?_) (a' := ?_) #[Y_,X_,X_,X_,X_,X_,X_] rfl rfl (by kernel_rfl) (fun _ _ _ h => h) (Or.inl ⟨by rfl, ?_⟩) ?_ ?_
             rotate_left
             · intro w'
               go_simp
               with_reducible rfl
             rotate_left
             · simp only [Act.put, sTA_, sCZ_, sCS_, i64_w, i32_w]
               rfl
             refine pure_ (i := 1) (N := some 18) (v := ?_) (a' := ?_) #[Y_,Y_,X_,X_,X_,X_,X_] rfl rfl (by kernel_rfl) (fun _ _ _ h => h) (Or.inl ⟨by rfl, ?_⟩) ?_ ?_
             rotate_left
             · intro w'
               go_simp
               with_reducible rfl
             rotate_left
             · simp only [Act.put, sTA_, sCZ_, sCS_, i64_w, i32_w]
               rfl
             refine pure_ (i := 2) (N := some 19) (v := ?_) (a' := ?_) #[Y_,Y_,Y_,X_,X_,X_,X_] rfl rfl (by kernel_rfl) (fun _ _ _ h => h) (Or.inl ⟨by rfl, ?_⟩) ?_ ?_
             rotate_left
             · intro w'
               go_simp
               with_reducible rfl
             rotate_left
             · simp only [Act.put, sTA_, sCZ_, sCS_, i64_w, i32_w]
               rfl
             refine take_ (i := 3) (N := some 20) (v := ?_) (a' := ?_) #[Y_,Y_,Y_,Y_,X_,X_,X_] rfl rfl (by kernel_rfl) (fun _ _ _ h => h) (Or.inl ⟨by rfl, ?_⟩) hHeld ?_ ?_
             rotate_left
             · rintro w' ⟨s0, s1, s2, s3, s4, s5⟩
               go_simp
               with_reducible rfl
             rotate_left
             · simp only [Act.put, sTA_, sCZ_, sCS_, i64_w, i32_w]
               rfl
             refine take_ (i := 4) (N := some 21) (v := ?_) (a' := ?_) #[Y_,Y_,Y_,Y_,Y_,X_,X_] rfl rfl (by kernel_rfl) (fun _ _ _ h => h) (Or.inl ⟨by rfl, ?_⟩) hHeld ?_ ?_
             rotate_left
             · rintro w' ⟨s0, s1, s2, s3, s4, s5⟩
               go_simp
               with_reducible rfl
             rotate_left
             · simp only [Act.put, sTA_, sCZ_, sCS_, i64_w, i32_w]
               rfl
             refine one_ (i := 5) (N := some 22) #[Y_,Y_,Y_,Y_,Y_,Y_,X_] rfl rfl (by kernel_rfl) (by decide) (fun K hK => ?_)
             refine goes_ Tryz.func85 (by kernel_rfl) rfl #[.agg #[.int .u8 ((rd_T36 l0 x6_1).f0), .int .i64 ((rd_T36 l0 x6_1).f1), .string ((rd_T36 l0 x6_1).f2)], .agg #[.int .u8 x287000_1, .int .i64 x287001_1, .string x287002_1]] (by rfl) rfl rfl (by (try simp only [List.map_toArray, List.map_cons, List.map_nil]); first | done | rfl | (simp only [List.length_drop, List.length_take]; rfl)) ?_
             with_reducible refine (r1_Compare.calls k1 ((rd_T36 l0 x6_1).f0) ((rd_T36 l0 x6_1).f1) ((rd_T36 l0 x6_1).f2) x287000_1 x287001_1 x287002_1 t288 _ A10.out).mono ?_
             rintro e w14 ⟨rfl, hb⟩
             refine ⟨_, rfl, ?_⟩
             have n0_ := Aside0.mk (blk_below (g := gb284) (o := .cells #[.int .u8 0, .int .i64 0, .string (⟨#[]⟩ : ByteArray), .int .i64 0] 38 (0, 0)) (by (with_reducible repeat (first | refine blk_drewN ?_ _ | refine blk_drew ?_ | refine blk_alloc ?_ _)); exact BK284.out) hb)
             have n1_ := Aside0.mk (blk_below (g := gb286) (o := .cells #[.int .u8 x287000_1, .int .i64 x287001_1, .string x287002_1] 36 (0, 0)) (by (with_reducible repeat (first | refine blk_drewN ?_ _ | refine blk_drew ?_ | refine blk_alloc ?_ _)); exact BK286.out) hb)
             have n2_ := Aside0.mk (below_step (by repeat (first | (with_reducible first | exact HB.out | apply bA_ | apply bN_ | apply b1_ | refine below_set ?_ GE284.out | refine below_set ?_ GE286.out) | exact HB.out)) hb)
             clear BK284
             clear BK286
             clear HB
             have BK284 := n0_
             have BK286 := n1_
             have HB := n2_
             clear n0_ n1_ n2_
             (try clear hb)
             (try clear hb2)
             (try clear hk)
             (try clear hi)
             refine hK.out _ _ ⟨(blk_cell BK286.out 0).trans rfl, (blk_cell BK286.out 1).trans rfl, (blk_cell BK286.out 2).trans rfl, ((HB.out.cell (bLC_ w _ hw287_0)).trans hw287_0), ((HB.out.cell (bLC_ w _ hw287_1)).trans hw287_1), ((HB.out.cell (bLC_ w _ hw287_2)).trans hw287_2)⟩ (fun hHeld => ?_)
             clear hK K
             refine norm_ (a' := ?_) ?_ ?_
             rotate_left
             · show Act.put _ (some 22) _ = _
               simp only [Act.put, sTA_, sCZ_, sCS_, i64_w, i32_w]
               rfl
             refine pure_ (i := 6) (N := some 7) (v := ?_) (a' := ?_) #[Y_,Y_,Y_,Y_,Y_,Y_,Y_] rfl rfl (by kernel_rfl) (fun _ _ _ h => h) (Or.inl ⟨by rfl, ?_⟩) ?_ ?_
             rotate_left
             · intro w'
               go_simp
               with_reducible rfl
             rotate_left
             · simp only [Act.put, sTA_, sCZ_, sCS_, i64_w, i32_w]
               rfl
             refine done_ (by kernel_rfl) ?_
             have p289 : 0 ≤ (x6_1 : Int) := oT_ (by assumption)
             have q289 : x6_1 < (l0.length : Int) := oT_ (by assumption)
             obtain ⟨ad289, e289, hx289_0, hx289_1, hx289_2⟩ := at_T36 HR0.out x6_1 p289 q289
             obtain rfl : ad285 = ad289 := (by injection e289)
             replace hx289_0 := (HB.out.cell (bLC_ w _ hx289_0)).trans hx289_0
             replace hx289_1 := (HB.out.cell (bLC_ w _ hx289_1)).trans hx289_1
             replace hx289_2 := (HB.out.cell (bLC_ w _ hx289_2)).trans hx289_2
             replace p289 := eq_true p289
             replace q289 := eq_true q289
             have hnb15 := NB286_284.out
             have hnc15 := NB284_286.out
             have hcz16_0 : w14.cell? ⟨gb286, 0, none⟩ = some (.int .u8 x287000_1) := (blk_cell BK286.out 0).trans rfl
             have hcz16_1 : w14.cell? ⟨gb286, 1, none⟩ = some (.int .i64 x287001_1) := (blk_cell BK286.out 1).trans rfl
             have hcz16_2 : w14.cell? ⟨gb286, 2, none⟩ = some (.string x287002_1) := (blk_cell BK286.out 2).trans rfl
             have hfz16_0 := blk_frozen BK286.out 0
             have hfz16_1 := blk_frozen BK286.out 1
             have hfz16_2 := blk_frozen BK286.out 2
             try go_wp2
             go_roundg k1
             case measure => have := HK1.out; omega
             case rel => exact ⟨(wrap64 (x6_1 + 1)), ((rd_T36 l0 x6_1).f0), ((rd_T36 l0 x6_1).f1), ((rd_T36 l0 x6_1).f2), (by first | rfl | (simp; done) | (simp [*]; done)), H', ⟨by have := HK1.out; omega⟩, ⟨by (with_reducible repeat (first | refine blk_drewN ?_ _ | refine blk_drew ?_ | refine blk_alloc ?_ _)); refine blk_far ?_ NB284_286.out _; (with_reducible repeat (first | refine blk_drewN ?_ _ | refine blk_drew ?_ | refine blk_alloc ?_ _)); refine blk_far ?_ NB284_286.out _; (with_reducible repeat (first | refine blk_drewN ?_ _ | refine blk_drew ?_ | refine blk_alloc ?_ _)); refine blk_far ?_ NB284_286.out _; (with_reducible repeat (first | refine blk_drewN ?_ _ | refine blk_drew ?_ | refine blk_alloc ?_ _)); exact BK284.out⟩, ⟨by (with_reducible repeat (first | refine blk_drewN ?_ _ | refine blk_drew ?_ | refine blk_alloc ?_ _)); refine blk_put (cs := #[.int .u8 ((rd_T36 l0 x6_1).f0), .int .i64 ((rd_T36 l0 x6_1).f1), .string x287002_1]) ?_ 2 _ rfl; (with_reducible repeat (first | refine blk_drewN ?_ _ | refine blk_drew ?_ | refine blk_alloc ?_ _)); refine blk_put (cs := #[.int .u8 ((rd_T36 l0 x6_1).f0), .int .i64 x287001_1, .string x287002_1]) ?_ 1 _ rfl; (with_reducible repeat (first | refine blk_drewN ?_ _ | refine blk_drew ?_ | refine blk_alloc ?_ _)); refine blk_put (cs := #[.int .u8 x287000_1, .int .i64 x287001_1, .string x287002_1]) ?_ 0 _ rfl; (with_reducible repeat (first | refine blk_drewN ?_ _ | refine blk_drew ?_ | refine blk_alloc ?_ _)); exact BK286.out⟩, ⟨by repeat (first | (with_reducible first | exact HB.out | apply bA_ | apply bN_ | apply b1_ | refine below_set ?_ GE284.out | refine below_set ?_ GE286.out) | exact HB.out)⟩⟩
           · rw [if_neg c12] at H
             have c12b0 : decide (0 < t288) = false := dF_ c12
             clear c12
             have H' := Aside0.mk H
             clear H
             try go_wp2
             have n0_ := Aside0.mk (blk_drew BK284.out)
             have n1_ := Aside0.mk (blk_drew BK286.out)
             have n2_ := Aside0.mk (b1_ HB.out)
             clear BK284
             clear BK286
             clear HB
             have BK284 := n0_
             have BK286 := n1_
             have HB := n2_
             clear n0_ n1_ n2_
             have p287 : 0 ≤ (x6_1 : Int) := oT_ (by assumption)
             have q287 : x6_1 < (l0.length : Int) := oT_ (by assumption)
             obtain ⟨ad287, e287, hx287_0, hx287_1, hx287_2⟩ := at_T36 HR0.out x6_1 p287 q287
             have hw287_2 := hx287_2
             have hw287_1 := hx287_1
             have hw287_0 := hx287_0
             obtain rfl : ad285 = ad287 := (by injection e287)
             replace hx287_0 := (HB.out.cell (bLC_ w _ hx287_0)).trans hx287_0
             replace hx287_1 := (HB.out.cell (bLC_ w _ hx287_1)).trans hx287_1
             replace hx287_2 := (HB.out.cell (bLC_ w _ hx287_2)).trans hx287_2
             replace p287 := eq_true p287
             replace q287 := eq_true q287
             refine start_ (n := 7) (S := fun w' => w'.cell? ⟨gb286, 0, none⟩ = some (.int .u8 x287000_1) ∧ w'.cell? ⟨gb286, 1, none⟩ = some (.int .i64 x287001_1) ∧ w'.cell? ⟨gb286, 2, none⟩ = some (.string x287002_1) ∧ w'.cell? (ad285.add ((x6_1).toNat * 3)) = some (.int .u8 ((rd_T36 l0 x6_1).f0)) ∧ w'.cell? ⟨(ad285.add ((x6_1).toNat * 3)).block, (ad285.add ((x6_1).toNat * 3)).off + 1, none⟩ = some (.int .i64 ((rd_T36 l0 x6_1).f1)) ∧ w'.cell? ⟨(ad285.add ((x6_1).toNat * 3)).block, (ad285.add ((x6_1).toNat * 3)).off + 2, none⟩ = some (.string ((rd_T36 l0 x6_1).f2))) (ds := []) #[X_,X_,X_,X_,X_,X_,X_] (by kernel_rfl) rfl rfl ⟨(blk_cell BK286.out 0).trans rfl, (blk_cell BK286.out 1).trans rfl, (blk_cell BK286.out 2).trans rfl, ((HB.out.cell (bLC_ w _ hw287_0)).trans hw287_0), ((HB.out.cell (bLC_ w _ hw287_1)).trans hw287_1), ((HB.out.cell (bLC_ w _ hw287_2)).trans hw287_2)⟩ (fun hHeld => ?_)
             generalize wr.drew = w17 at BK284 BK286 HB hx287_0 hx287_1 hx287_2 hHeld ⊢
             refine pure_ (i := 0) (N := some 17) (v := ?_) (a' := ?_) #[Y_,X_,X_,X_,X_,X_,X_] rfl rfl (by kernel_rfl) (fun _ _ _ h => h) (Or.inl ⟨by rfl, ?_⟩) ?_ ?_
             rotate_left
             · intro w'
               go_simp
               with_reducible rfl
             rotate_left
             · simp only [Act.put, sTA_, sCZ_, sCS_, i64_w, i32_w]
               rfl
             refine pure_ (i := 1) (N := some 18) (v := ?_) (a' := ?_) #[Y_,Y_,X_,X_,X_,X_,X_] rfl rfl (by kernel_rfl) (fun _ _ _ h => h) (Or.inl ⟨by rfl, ?_⟩) ?_ ?_
             rotate_left
             · intro w'
               go_simp
               with_reducible rfl
             rotate_left
             · simp only [Act.put, sTA_, sCZ_, sCS_, i64_w, i32_w]
               rfl
             refine pure_ (i := 2) (N := some 19) (v := ?_) (a' := ?_) #[Y_,Y_,Y_,X_,X_,X_,X_] rfl rfl (by kernel_rfl) (fun _ _ _ h => h) (Or.inl ⟨by rfl, ?_⟩) ?_ ?_
             rotate_left
             · intro w'
               go_simp
               with_reducible rfl
             rotate_left
             · simp only [Act.put, sTA_, sCZ_, sCS_, i64_w, i32_w]
               rfl
             refine take_ (i := 3) (N := some 20) (v := ?_) (a' := ?_) #[Y_,Y_,Y_,Y_,X_,X_,X_] rfl rfl (by kernel_rfl) (fun _ _ _ h => h) (Or.inl ⟨by rfl, ?_⟩) hHeld ?_ ?_
             rotate_left
             · rintro w' ⟨s0, s1, s2, s3, s4, s5⟩
               go_simp
               with_reducible rfl
             rotate_left
             · simp only [Act.put, sTA_, sCZ_, sCS_, i64_w, i32_w]
               rfl
             refine take_ (i := 4) (N := some 21) (v := ?_) (a' := ?_) #[Y_,Y_,Y_,Y_,Y_,X_,X_] rfl rfl (by kernel_rfl) (fun _ _ _ h => h) (Or.inl ⟨by rfl, ?_⟩) hHeld ?_ ?_
             rotate_left
             · rintro w' ⟨s0, s1, s2, s3, s4, s5⟩
               go_simp
               with_reducible rfl
             rotate_left
             · simp only [Act.put, sTA_, sCZ_, sCS_, i64_w, i32_w]
               rfl
             refine one_ (i := 5) (N := some 22) #[Y_,Y_,Y_,Y_,Y_,Y_,X_] rfl rfl (by kernel_rfl) (by decide) (fun K hK => ?_)
             refine goes_ Tryz.func85 (by kernel_rfl) rfl #[.agg #[.int .u8 ((rd_T36 l0 x6_1).f0), .int .i64 ((rd_T36 l0 x6_1).f1), .string ((rd_T36 l0 x6_1).f2)], .agg #[.int .u8 x287000_1, .int .i64 x287001_1, .string x287002_1]] (by rfl) rfl rfl (by (try simp only [List.map_toArray, List.map_cons, List.map_nil]); first | done | rfl | (simp only [List.length_drop, List.length_take]; rfl)) ?_
             with_reducible refine (r1_Compare.calls k1 ((rd_T36 l0 x6_1).f0) ((rd_T36 l0 x6_1).f1) ((rd_T36 l0 x6_1).f2) x287000_1 x287001_1 x287002_1 t288 _ A10.out).mono ?_
             rintro e w18 ⟨rfl, hb⟩
             refine ⟨_, rfl, ?_⟩
             have n0_ := Aside0.mk (blk_below (g := gb284) (o := .cells #[.int .u8 0, .int .i64 0, .string (⟨#[]⟩ : ByteArray), .int .i64 0] 38 (0, 0)) (by (with_reducible repeat (first | refine blk_drewN ?_ _ | refine blk_drew ?_ | refine blk_alloc ?_ _)); exact BK284.out) hb)
             have n1_ := Aside0.mk (blk_below (g := gb286) (o := .cells #[.int .u8 x287000_1, .int .i64 x287001_1, .string x287002_1] 36 (0, 0)) (by (with_reducible repeat (first | refine blk_drewN ?_ _ | refine blk_drew ?_ | refine blk_alloc ?_ _)); exact BK286.out) hb)
             have n2_ := Aside0.mk (below_step (by repeat (first | (with_reducible first | exact HB.out | apply bA_ | apply bN_ | apply b1_ | refine below_set ?_ GE284.out | refine below_set ?_ GE286.out) | exact HB.out)) hb)
             clear BK284
             clear BK286
             clear HB
             have BK284 := n0_
             have BK286 := n1_
             have HB := n2_
             clear n0_ n1_ n2_
             (try clear hb)
             (try clear hb2)
             (try clear hk)
             (try clear hi)
             refine hK.out _ _ ⟨(blk_cell BK286.out 0).trans rfl, (blk_cell BK286.out 1).trans rfl, (blk_cell BK286.out 2).trans rfl, ((HB.out.cell (bLC_ w _ hw287_0)).trans hw287_0), ((HB.out.cell (bLC_ w _ hw287_1)).trans hw287_1), ((HB.out.cell (bLC_ w _ hw287_2)).trans hw287_2)⟩ (fun hHeld => ?_)
             clear hK K
             refine norm_ (a' := ?_) ?_ ?_
             rotate_left
             · show Act.put _ (some 22) _ = _
               simp only [Act.put, sTA_, sCZ_, sCS_, i64_w, i32_w]
               rfl
             refine pure_ (i := 6) (N := some 7) (v := ?_) (a' := ?_) #[Y_,Y_,Y_,Y_,Y_,Y_,Y_] rfl rfl (by kernel_rfl) (fun _ _ _ h => h) (Or.inl ⟨by rfl, ?_⟩) ?_ ?_
             rotate_left
             · intro w'
               go_simp
               with_reducible rfl
             rotate_left
             · simp only [Act.put, sTA_, sCZ_, sCS_, i64_w, i32_w]
               rfl
             refine done_ (by kernel_rfl) ?_
             try go_wp2
             go_roundg k1
             case measure => have := HK1.out; omega
             case rel => exact ⟨(wrap64 (x6_1 + 1)), (x287000_1), (x287001_1), (x287002_1), (by first | rfl | (simp; done) | (simp [*]; done)), H', ⟨by have := HK1.out; omega⟩, ⟨by (with_reducible repeat (first | refine blk_drewN ?_ _ | refine blk_drew ?_ | refine blk_alloc ?_ _)); exact BK284.out⟩, ⟨by (with_reducible repeat (first | refine blk_drewN ?_ _ | refine blk_drew ?_ | refine blk_alloc ?_ _)); exact BK286.out⟩, ⟨by repeat (first | (with_reducible first | exact HB.out | apply bA_ | apply bN_ | apply b1_ | refine below_set ?_ GE284.out | refine below_set ?_ GE286.out) | exact HB.out)⟩⟩
         · replace c11 := Bool.eq_false_iff.mpr c11
           subst c11
           have H1 : (if t288 < 0 then (r6_extreme.l0 k1 l0 false (wrap64 (x6_1 + 1)) ((rd_T36 l0 x6_1).f0) ((rd_T36 l0 x6_1).f1) ((rd_T36 l0 x6_1).f2)) else (r6_extreme.l0 k1 l0 false (wrap64 (x6_1 + 1)) x287000_1 x287001_1 x287002_1)) = some (r1, r2, r3, r4) := by rw [if_neg (show ¬ (false = true) by decide)] at H; exact H
           clear H
           have H := H1
           clear H1
           by_cases c19 : t288 < 0
           · rw [if_pos c19] at H
             have c19b0 : decide (t288 < 0) = true := dT_ c19
             clear c19
             have H' := Aside0.mk H
             clear H
             try go_wp2
             have n0_ := Aside0.mk (blk_drew BK284.out)
             have n1_ := Aside0.mk (blk_drew BK286.out)
             have n2_ := Aside0.mk (b1_ HB.out)
             clear BK284
             clear BK286
             clear HB
             have BK284 := n0_
             have BK286 := n1_
             have HB := n2_
             clear n0_ n1_ n2_
             have p287 : 0 ≤ (x6_1 : Int) := oT_ (by assumption)
             have q287 : x6_1 < (l0.length : Int) := oT_ (by assumption)
             obtain ⟨ad287, e287, hx287_0, hx287_1, hx287_2⟩ := at_T36 HR0.out x6_1 p287 q287
             have hw287_2 := hx287_2
             have hw287_1 := hx287_1
             have hw287_0 := hx287_0
             obtain rfl : ad285 = ad287 := (by injection e287)
             replace hx287_0 := (HB.out.cell (bLC_ w _ hx287_0)).trans hx287_0
             replace hx287_1 := (HB.out.cell (bLC_ w _ hx287_1)).trans hx287_1
             replace hx287_2 := (HB.out.cell (bLC_ w _ hx287_2)).trans hx287_2
             replace p287 := eq_true p287
             replace q287 := eq_true q287
             refine start_ (n := 7) (S := fun w' => w'.cell? ⟨gb286, 0, none⟩ = some (.int .u8 x287000_1) ∧ w'.cell? ⟨gb286, 1, none⟩ = some (.int .i64 x287001_1) ∧ w'.cell? ⟨gb286, 2, none⟩ = some (.string x287002_1) ∧ w'.cell? (ad285.add ((x6_1).toNat * 3)) = some (.int .u8 ((rd_T36 l0 x6_1).f0)) ∧ w'.cell? ⟨(ad285.add ((x6_1).toNat * 3)).block, (ad285.add ((x6_1).toNat * 3)).off + 1, none⟩ = some (.int .i64 ((rd_T36 l0 x6_1).f1)) ∧ w'.cell? ⟨(ad285.add ((x6_1).toNat * 3)).block, (ad285.add ((x6_1).toNat * 3)).off + 2, none⟩ = some (.string ((rd_T36 l0 x6_1).f2))) (ds := []) #[X_,X_,X_,X_,X_,X_,X_] (by kernel_rfl) rfl rfl ⟨(blk_cell BK286.out 0).trans rfl, (blk_cell BK286.out 1).trans rfl, (blk_cell BK286.out 2).trans rfl, ((HB.out.cell (bLC_ w _ hw287_0)).trans hw287_0), ((HB.out.cell (bLC_ w _ hw287_1)).trans hw287_1), ((HB.out.cell (bLC_ w _ hw287_2)).trans hw287_2)⟩ (fun hHeld => ?_)
             generalize wr.drew = w20 at BK284 BK286 HB hx287_0 hx287_1 hx287_2 hHeld ⊢
             refine pure_ (i := 0) (N := some 17) (v := ?_) (a' := ?_) #[Y_,X_,X_,X_,X_,X_,X_] rfl rfl (by kernel_rfl) (fun _ _ _ h => h) (Or.inl ⟨by rfl, ?_⟩) ?_ ?_
             rotate_left
             · intro w'
               go_simp
               with_reducible rfl
             rotate_left
             · simp only [Act.put, sTA_, sCZ_, sCS_, i64_w, i32_w]
               rfl
             refine pure_ (i := 1) (N := some 18) (v := ?_) (a' := ?_) #[Y_,Y_,X_,X_,X_,X_,X_] rfl rfl (by kernel_rfl) (fun _ _ _ h => h) (Or.inl ⟨by rfl, ?_⟩) ?_ ?_
             rotate_left
             · intro w'
               go_simp
               with_reducible rfl
             rotate_left
             · simp only [Act.put, sTA_, sCZ_, sCS_, i64_w, i32_w]
               rfl
             refine pure_ (i := 2) (N := some 19) (v := ?_) (a' := ?_) #[Y_,Y_,Y_,X_,X_,X_,X_] rfl rfl (by kernel_rfl) (fun _ _ _ h => h) (Or.inl ⟨by rfl, ?_⟩) ?_ ?_
             rotate_left
             · intro w'
               go_simp
               with_reducible rfl
             rotate_left
             · simp only [Act.put, sTA_, sCZ_, sCS_, i64_w, i32_w]
               rfl
             refine take_ (i := 3) (N := some 20) (v := ?_) (a' := ?_) #[Y_,Y_,Y_,Y_,X_,X_,X_] rfl rfl (by kernel_rfl) (fun _ _ _ h => h) (Or.inl ⟨by rfl, ?_⟩) hHeld ?_ ?_
             rotate_left
             · rintro w' ⟨s0, s1, s2, s3, s4, s5⟩
               go_simp
               with_reducible rfl
             rotate_left
             · simp only [Act.put, sTA_, sCZ_, sCS_, i64_w, i32_w]
               rfl
             refine take_ (i := 4) (N := some 21) (v := ?_) (a' := ?_) #[Y_,Y_,Y_,Y_,Y_,X_,X_] rfl rfl (by kernel_rfl) (fun _ _ _ h => h) (Or.inl ⟨by rfl, ?_⟩) hHeld ?_ ?_
             rotate_left
             · rintro w' ⟨s0, s1, s2, s3, s4, s5⟩
               go_simp
               with_reducible rfl
             rotate_left
             · simp only [Act.put, sTA_, sCZ_, sCS_, i64_w, i32_w]
               rfl
             refine one_ (i := 5) (N := some 22) #[Y_,Y_,Y_,Y_,Y_,Y_,X_] rfl rfl (by kernel_rfl) (by decide) (fun K hK => ?_)
             refine goes_ Tryz.func85 (by kernel_rfl) rfl #[.agg #[.int .u8 ((rd_T36 l0 x6_1).f0), .int .i64 ((rd_T36 l0 x6_1).f1), .string ((rd_T36 l0 x6_1).f2)], .agg #[.int .u8 x287000_1, .int .i64 x287001_1, .string x287002_1]] (by rfl) rfl rfl (by (try simp only [List.map_toArray, List.map_cons, List.map_nil]); first | done | rfl | (simp only [List.length_drop, List.length_take]; rfl)) ?_
             with_reducible refine (r1_Compare.calls k1 ((rd_T36 l0 x6_1).f0) ((rd_T36 l0 x6_1).f1) ((rd_T36 l0 x6_1).f2) x287000_1 x287001_1 x287002_1 t288 _ A10.out).mono ?_
             rintro e w21 ⟨rfl, hb⟩
             refine ⟨_, rfl, ?_⟩
             have n0_ := Aside0.mk (blk_below (g := gb284) (o := .cells #[.int .u8 0, .int .i64 0, .string (⟨#[]⟩ : ByteArray), .int .i64 0] 38 (0, 0)) (by (with_reducible repeat (first | refine blk_drewN ?_ _ | refine blk_drew ?_ | refine blk_alloc ?_ _)); exact BK284.out) hb)
             have n1_ := Aside0.mk (blk_below (g := gb286) (o := .cells #[.int .u8 x287000_1, .int .i64 x287001_1, .string x287002_1] 36 (0, 0)) (by (with_reducible repeat (first | refine blk_drewN ?_ _ | refine blk_drew ?_ | refine blk_alloc ?_ _)); exact BK286.out) hb)
             have n2_ := Aside0.mk (below_step (by repeat (first | (with_reducible first | exact HB.out | apply bA_ | apply bN_ | apply b1_ | refine below_set ?_ GE284.out | refine below_set ?_ GE286.out) | exact HB.out)) hb)
             clear BK284
             clear BK286
             clear HB
             have BK284 := n0_
             have BK286 := n1_
             have HB := n2_
             clear n0_ n1_ n2_
             (try clear hb)
             (try clear hb2)
             (try clear hk)
             (try clear hi)
             refine hK.out _ _ ⟨(blk_cell BK286.out 0).trans rfl, (blk_cell BK286.out 1).trans rfl, (blk_cell BK286.out 2).trans rfl, ((HB.out.cell (bLC_ w _ hw287_0)).trans hw287_0), ((HB.out.cell (bLC_ w _ hw287_1)).trans hw287_1), ((HB.out.cell (bLC_ w _ hw287_2)).trans hw287_2)⟩ (fun hHeld => ?_)
             clear hK K
             refine norm_ (a' := ?_) ?_ ?_
             rotate_left
             · show Act.put _ (some 22) _ = _
               simp only [Act.put, sTA_, sCZ_, sCS_, i64_w, i32_w]
               rfl
             refine pure_ (i := 6) (N := some 7) (v := ?_) (a' := ?_) #[Y_,Y_,Y_,Y_,Y_,Y_,Y_] rfl rfl (by kernel_rfl) (fun _ _ _ h => h) (Or.inl ⟨by rfl, ?_⟩) ?_ ?_
             rotate_left
             · intro w'
               go_simp
               with_reducible rfl
             rotate_left
             · simp only [Act.put, sTA_, sCZ_, sCS_, i64_w, i32_w]
               rfl
             refine done_ (by kernel_rfl) ?_
             have p290 : 0 ≤ (x6_1 : Int) := oT_ (by assumption)
             have q290 : x6_1 < (l0.length : Int) := oT_ (by assumption)
             obtain ⟨ad290, e290, hx290_0, hx290_1, hx290_2⟩ := at_T36 HR0.out x6_1 p290 q290
             obtain rfl : ad285 = ad290 := (by injection e290)
             replace hx290_0 := (HB.out.cell (bLC_ w _ hx290_0)).trans hx290_0
             replace hx290_1 := (HB.out.cell (bLC_ w _ hx290_1)).trans hx290_1
             replace hx290_2 := (HB.out.cell (bLC_ w _ hx290_2)).trans hx290_2
             replace p290 := eq_true p290
             replace q290 := eq_true q290
             have hnb22 := NB286_284.out
             have hnc22 := NB284_286.out
             have hcz23_0 : w21.cell? ⟨gb286, 0, none⟩ = some (.int .u8 x287000_1) := (blk_cell BK286.out 0).trans rfl
             have hcz23_1 : w21.cell? ⟨gb286, 1, none⟩ = some (.int .i64 x287001_1) := (blk_cell BK286.out 1).trans rfl
             have hcz23_2 : w21.cell? ⟨gb286, 2, none⟩ = some (.string x287002_1) := (blk_cell BK286.out 2).trans rfl
             have hfz23_0 := blk_frozen BK286.out 0
             have hfz23_1 := blk_frozen BK286.out 1
             have hfz23_2 := blk_frozen BK286.out 2
             try go_wp2
             go_roundg k1
             case measure => have := HK1.out; omega
             case rel => exact ⟨(wrap64 (x6_1 + 1)), ((rd_T36 l0 x6_1).f0), ((rd_T36 l0 x6_1).f1), ((rd_T36 l0 x6_1).f2), (by first | rfl | (simp; done) | (simp [*]; done)), H', ⟨by have := HK1.out; omega⟩, ⟨by (with_reducible repeat (first | refine blk_drewN ?_ _ | refine blk_drew ?_ | refine blk_alloc ?_ _)); refine blk_far ?_ NB284_286.out _; (with_reducible repeat (first | refine blk_drewN ?_ _ | refine blk_drew ?_ | refine blk_alloc ?_ _)); refine blk_far ?_ NB284_286.out _; (with_reducible repeat (first | refine blk_drewN ?_ _ | refine blk_drew ?_ | refine blk_alloc ?_ _)); refine blk_far ?_ NB284_286.out _; (with_reducible repeat (first | refine blk_drewN ?_ _ | refine blk_drew ?_ | refine blk_alloc ?_ _)); exact BK284.out⟩, ⟨by (with_reducible repeat (first | refine blk_drewN ?_ _ | refine blk_drew ?_ | refine blk_alloc ?_ _)); refine blk_put (cs := #[.int .u8 ((rd_T36 l0 x6_1).f0), .int .i64 ((rd_T36 l0 x6_1).f1), .string x287002_1]) ?_ 2 _ rfl; (with_reducible repeat (first | refine blk_drewN ?_ _ | refine blk_drew ?_ | refine blk_alloc ?_ _)); refine blk_put (cs := #[.int .u8 ((rd_T36 l0 x6_1).f0), .int .i64 x287001_1, .string x287002_1]) ?_ 1 _ rfl; (with_reducible repeat (first | refine blk_drewN ?_ _ | refine blk_drew ?_ | refine blk_alloc ?_ _)); refine blk_put (cs := #[.int .u8 x287000_1, .int .i64 x287001_1, .string x287002_1]) ?_ 0 _ rfl; (with_reducible repeat (first | refine blk_drewN ?_ _ | refine blk_drew ?_ | refine blk_alloc ?_ _)); exact BK286.out⟩, ⟨by repeat (first | (with_reducible first | exact HB.out | apply bA_ | apply bN_ | apply b1_ | refine below_set ?_ GE284.out | refine below_set ?_ GE286.out) | exact HB.out)⟩⟩
           · rw [if_neg c19] at H
             have c19b0 : decide (t288 < 0) = false := dF_ c19
             clear c19
             have H' := Aside0.mk H
             clear H
             try go_wp2
             have n0_ := Aside0.mk (blk_drew BK284.out)
             have n1_ := Aside0.mk (blk_drew BK286.out)
             have n2_ := Aside0.mk (b1_ HB.out)
             clear BK284
             clear BK286
             clear HB
             have BK284 := n0_
             have BK286 := n1_
             have HB := n2_
             clear n0_ n1_ n2_
             have p287 : 0 ≤ (x6_1 : Int) := oT_ (by assumption)
             have q287 : x6_1 < (l0.length : Int) := oT_ (by assumption)
             obtain ⟨ad287, e287, hx287_0, hx287_1, hx287_2⟩ := at_T36 HR0.out x6_1 p287 q287
             have hw287_2 := hx287_2
             have hw287_1 := hx287_1
             have hw287_0 := hx287_0
             obtain rfl : ad285 = ad287 := (by injection e287)
             replace hx287_0 := (HB.out.cell (bLC_ w _ hx287_0)).trans hx287_0
             replace hx287_1 := (HB.out.cell (bLC_ w _ hx287_1)).trans hx287_1
             replace hx287_2 := (HB.out.cell (bLC_ w _ hx287_2)).trans hx287_2
             replace p287 := eq_true p287
             replace q287 := eq_true q287
             refine start_ (n := 7) (S := fun w' => w'.cell? ⟨gb286, 0, none⟩ = some (.int .u8 x287000_1) ∧ w'.cell? ⟨gb286, 1, none⟩ = some (.int .i64 x287001_1) ∧ w'.cell? ⟨gb286, 2, none⟩ = some (.string x287002_1) ∧ w'.cell? (ad285.add ((x6_1).toNat * 3)) = some (.int .u8 ((rd_T36 l0 x6_1).f0)) ∧ w'.cell? ⟨(ad285.add ((x6_1).toNat * 3)).block, (ad285.add ((x6_1).toNat * 3)).off + 1, none⟩ = some (.int .i64 ((rd_T36 l0 x6_1).f1)) ∧ w'.cell? ⟨(ad285.add ((x6_1).toNat * 3)).block, (ad285.add ((x6_1).toNat * 3)).off + 2, none⟩ = some (.string ((rd_T36 l0 x6_1).f2))) (ds := []) #[X_,X_,X_,X_,X_,X_,X_] (by kernel_rfl) rfl rfl ⟨(blk_cell BK286.out 0).trans rfl, (blk_cell BK286.out 1).trans rfl, (blk_cell BK286.out 2).trans rfl, ((HB.out.cell (bLC_ w _ hw287_0)).trans hw287_0), ((HB.out.cell (bLC_ w _ hw287_1)).trans hw287_1), ((HB.out.cell (bLC_ w _ hw287_2)).trans hw287_2)⟩ (fun hHeld => ?_)
             generalize wr.drew = w24 at BK284 BK286 HB hx287_0 hx287_1 hx287_2 hHeld ⊢
             refine pure_ (i := 0) (N := some 17) (v := ?_) (a' := ?_) #[Y_,X_,X_,X_,X_,X_,X_] rfl rfl (by kernel_rfl) (fun _ _ _ h => h) (Or.inl ⟨by rfl, ?_⟩) ?_ ?_
             rotate_left
             · intro w'
               go_simp
               with_reducible rfl
             rotate_left
             · simp only [Act.put, sTA_, sCZ_, sCS_, i64_w, i32_w]
               rfl
             refine pure_ (i := 1) (N := some 18) (v := ?_) (a' := ?_) #[Y_,Y_,X_,X_,X_,X_,X_] rfl rfl (by kernel_rfl) (fun _ _ _ h => h) (Or.inl ⟨by rfl, ?_⟩) ?_ ?_
             rotate_left
             · intro w'
               go_simp
               with_reducible rfl
             rotate_left
             · simp only [Act.put, sTA_, sCZ_, sCS_, i64_w, i32_w]
               rfl
             refine pure_ (i := 2) (N := some 19) (v := ?_) (a' := ?_) #[Y_,Y_,Y_,X_,X_,X_,X_] rfl rfl (by kernel_rfl) (fun _ _ _ h => h) (Or.inl ⟨by rfl, ?_⟩) ?_ ?_
             rotate_left
             · intro w'
               go_simp
               with_reducible rfl
             rotate_left
             · simp only [Act.put, sTA_, sCZ_, sCS_, i64_w, i32_w]
               rfl
             refine take_ (i := 3) (N := some 20) (v := ?_) (a' := ?_) #[Y_,Y_,Y_,Y_,X_,X_,X_] rfl rfl (by kernel_rfl) (fun _ _ _ h => h) (Or.inl ⟨by rfl, ?_⟩) hHeld ?_ ?_
             rotate_left
             · rintro w' ⟨s0, s1, s2, s3, s4, s5⟩
               go_simp
               with_reducible rfl
             rotate_left
             · simp only [Act.put, sTA_, sCZ_, sCS_, i64_w, i32_w]
               rfl
             refine take_ (i := 4) (N := some 21) (v := ?_) (a' := ?_) #[Y_,Y_,Y_,Y_,Y_,X_,X_] rfl rfl (by kernel_rfl) (fun _ _ _ h => h) (Or.inl ⟨by rfl, ?_⟩) hHeld ?_ ?_
             rotate_left
             · rintro w' ⟨s0, s1, s2, s3, s4, s5⟩
               go_simp
               with_reducible rfl
             rotate_left
             · simp only [Act.put, sTA_, sCZ_, sCS_, i64_w, i32_w]
               rfl
             refine one_ (i := 5) (N := some 22) #[Y_,Y_,Y_,Y_,Y_,Y_,X_] rfl rfl (by kernel_rfl) (by decide) (fun K hK => ?_)
             refine goes_ Tryz.func85 (by kernel_rfl) rfl #[.agg #[.int .u8 ((rd_T36 l0 x6_1).f0), .int .i64 ((rd_T36 l0 x6_1).f1), .string ((rd_T36 l0 x6_1).f2)], .agg #[.int .u8 x287000_1, .int .i64 x287001_1, .string x287002_1]] (by rfl) rfl rfl (by (try simp only [List.map_toArray, List.map_cons, List.map_nil]); first | done | rfl | (simp only [List.length_drop, List.length_take]; rfl)) ?_
             with_reducible refine (r1_Compare.calls k1 ((rd_T36 l0 x6_1).f0) ((rd_T36 l0 x6_1).f1) ((rd_T36 l0 x6_1).f2) x287000_1 x287001_1 x287002_1 t288 _ A10.out).mono ?_
             rintro e w25 ⟨rfl, hb⟩
             refine ⟨_, rfl, ?_⟩
             have n0_ := Aside0.mk (blk_below (g := gb284) (o := .cells #[.int .u8 0, .int .i64 0, .string (⟨#[]⟩ : ByteArray), .int .i64 0] 38 (0, 0)) (by (with_reducible repeat (first | refine blk_drewN ?_ _ | refine blk_drew ?_ | refine blk_alloc ?_ _)); exact BK284.out) hb)
             have n1_ := Aside0.mk (blk_below (g := gb286) (o := .cells #[.int .u8 x287000_1, .int .i64 x287001_1, .string x287002_1] 36 (0, 0)) (by (with_reducible repeat (first | refine blk_drewN ?_ _ | refine blk_drew ?_ | refine blk_alloc ?_ _)); exact BK286.out) hb)
             have n2_ := Aside0.mk (below_step (by repeat (first | (with_reducible first | exact HB.out | apply bA_ | apply bN_ | apply b1_ | refine below_set ?_ GE284.out | refine below_set ?_ GE286.out) | exact HB.out)) hb)
             clear BK284
             clear BK286
             clear HB
             have BK284 := n0_
             have BK286 := n1_
             have HB := n2_
             clear n0_ n1_ n2_
             (try clear hb)
             (try clear hb2)
             (try clear hk)
             (try clear hi)
             refine hK.out _ _ ⟨(blk_cell BK286.out 0).trans rfl, (blk_cell BK286.out 1).trans rfl, (blk_cell BK286.out 2).trans rfl, ((HB.out.cell (bLC_ w _ hw287_0)).trans hw287_0), ((HB.out.cell (bLC_ w _ hw287_1)).trans hw287_1), ((HB.out.cell (bLC_ w _ hw287_2)).trans hw287_2)⟩ (fun hHeld => ?_)
             clear hK K
             refine norm_ (a' := ?_) ?_ ?_
             rotate_left
             · show Act.put _ (some 22) _ = _
               simp only [Act.put, sTA_, sCZ_, sCS_, i64_w, i32_w]
               rfl
             refine pure_ (i := 6) (N := some 7) (v := ?_) (a' := ?_) #[Y_,Y_,Y_,Y_,Y_,Y_,Y_] rfl rfl (by kernel_rfl) (fun _ _ _ h => h) (Or.inl ⟨by rfl, ?_⟩) ?_ ?_
             rotate_left
             · intro w'
               go_simp
               with_reducible rfl
             rotate_left
             · simp only [Act.put, sTA_, sCZ_, sCS_, i64_w, i32_w]
               rfl
             refine done_ (by kernel_rfl) ?_
             try go_wp2
             go_roundg k1
             case measure => have := HK1.out; omega
             case rel => exact ⟨(wrap64 (x6_1 + 1)), (x287000_1), (x287001_1), (x287002_1), (by first | rfl | (simp; done) | (simp [*]; done)), H', ⟨by have := HK1.out; omega⟩, ⟨by (with_reducible repeat (first | refine blk_drewN ?_ _ | refine blk_drew ?_ | refine blk_alloc ?_ _)); exact BK284.out⟩, ⟨by (with_reducible repeat (first | refine blk_drewN ?_ _ | refine blk_drew ?_ | refine blk_alloc ?_ _)); exact BK286.out⟩, ⟨by repeat (first | (with_reducible first | exact HB.out | apply bA_ | apply bN_ | apply b1_ | refine below_set ?_ GE284.out | refine below_set ?_ GE286.out) | exact HB.out)⟩⟩
       · rw [if_neg c9] at H
         exact absurd H (by simp)
     · rw [if_neg c8] at H
       have c8b0 : decide (x6_1 < (l0.length : Int)) = false := dF_ c8
       clear c8
       simp only [Option.some.injEq, Prod.mk.injEq] at H
       obtain ⟨rfl, rfl, rfl, rfl⟩ := H
       have hnb26 := NB286_284.out
       have hnc26 := NB284_286.out
       have hcz27_0 : wr.cell? ⟨gb286, 0, none⟩ = some (.int .u8 x287000_1) := (blk_cell BK286.out 0).trans rfl
       have hcz27_1 : wr.cell? ⟨gb286, 1, none⟩ = some (.int .i64 x287001_1) := (blk_cell BK286.out 1).trans rfl
       have hcz27_2 : wr.cell? ⟨gb286, 2, none⟩ = some (.string x287002_1) := (blk_cell BK286.out 2).trans rfl
       have hfz27_0 := blk_frozen BK286.out 0
       have hfz27_1 := blk_frozen BK286.out 1
       have hfz27_2 := blk_frozen BK286.out 2
       have hcz28_0 : wr.cell? ⟨gb284, 0, none⟩ = some (.int .u8 0) := (blk_cell BK284.out 0).trans rfl
       have hcz28_1 : wr.cell? ⟨gb284, 1, none⟩ = some (.int .i64 0) := (blk_cell BK284.out 1).trans rfl
       have hcz28_2 : wr.cell? ⟨gb284, 2, none⟩ = some (.string (⟨#[]⟩ : ByteArray)) := (blk_cell BK284.out 2).trans rfl
       have hcz28_3 : wr.cell? ⟨gb284, 3, none⟩ = some (.int .i64 0) := (blk_cell BK284.out 3).trans rfl
       have hfz28_0 := blk_frozen BK284.out 0
       have hfz28_1 := blk_frozen BK284.out 1
       have hfz28_2 := blk_frozen BK284.out 2
       have hfz28_3 := blk_frozen BK284.out 3
       go_wp2
       refine bodyPost_ret (results_cell_row rfl _ _ gb284 38 #[.int .u8 x287000_1, .int .i64 x287001_1, .string x287002_1, .int .i64 0] (0, 0) _ rfl (by (with_reducible repeat (first | refine blk_drewN ?_ _ | refine blk_drew ?_ | refine blk_alloc ?_ _)); refine blk_put (cs := #[.int .u8 x287000_1, .int .i64 x287001_1, .string x287002_1, .int .i64 0]) ?_ 3 _ rfl; (with_reducible repeat (first | refine blk_drewN ?_ _ | refine blk_drew ?_ | refine blk_alloc ?_ _)); refine blk_put (cs := #[.int .u8 x287000_1, .int .i64 x287001_1, .string (⟨#[]⟩ : ByteArray), .int .i64 0]) ?_ 2 _ rfl; (with_reducible repeat (first | refine blk_drewN ?_ _ | refine blk_drew ?_ | refine blk_alloc ?_ _)); refine blk_put (cs := #[.int .u8 x287000_1, .int .i64 0, .string (⟨#[]⟩ : ByteArray), .int .i64 0]) ?_ 1 _ rfl; (with_reducible repeat (first | refine blk_drewN ?_ _ | refine blk_drew ?_ | refine blk_alloc ?_ _)); refine blk_put (cs := #[.int .u8 0, .int .i64 0, .string (⟨#[]⟩ : ByteArray), .int .i64 0]) ?_ 0 _ rfl; (with_reducible repeat (first | refine blk_drewN ?_ _ | refine blk_drew ?_ | refine blk_alloc ?_ _)); exact BK284.out) Tryz.underlying38 rfl (by kernel_rfl)) rfl ?_
       exact ⟨by first | rfl | (simp [*, errW_none, errW_some] <;> rfl), by repeat (first | (with_reducible first | exact HB.out | apply bA_ | apply bN_ | apply b1_ | refine below_set ?_ GE284.out | refine below_set ?_ GE286.out) | exact HB.out)⟩
 · rw [if_neg c3] at H
   exact absurd H (by simp)
def r6_average.j0 : Nat → List (S36) → Int → Int → Bool → Option (Int × Int × ByteArray × Int)
 | 0, _, _, _, _ => none
 | k + 1, x0, x3, x4, x5 => if (x0.length : Int) = 0 then (some (0, 0, (⟨#[]⟩ : ByteArray), 0)) else (if x5 = true then ((r1_Int.f (wrap64 (-(wrap64 ((wrap64 ((wrap64 (Int.tdiv x3 (x0.length : Int))) * 4294967296)) + (wrap64 (Int.tdiv (wrap64 ((wrap64 ((Int.tmod x3 (x0.length : Int)) * 4294967296)) + x4)) (x0.length : Int)))))))).bind fun bt294 => (some (bt294.1, bt294.2.1, bt294.2.2, 0))) else ((r1_Int.f (wrap64 ((wrap64 ((wrap64 (Int.tdiv x3 (x0.length : Int))) * 4294967296)) + (wrap64 (Int.tdiv (wrap64 ((wrap64 ((Int.tmod x3 (x0.length : Int)) * 4294967296)) + x4)) (x0.length : Int)))))).bind fun bt297 => (some (bt297.1, bt297.2.1, bt297.2.2, 0))))
def r6_average.f (k : Nat) (l0 : List (S36)) : Option (Int × Int × ByteArray × Int) := (r6_total.f k l0).bind fun bt292 => (if bt292.1 < 0 then (if bt292.2 > 0 then (r6_average.j0 k l0 (wrap64 ((wrap64 (-bt292.1)) - 1)) (wrap64 (4294967296 - bt292.2)) (decide (bt292.1 < 0))) else (r6_average.j0 k l0 (wrap64 (-bt292.1)) bt292.2 (decide (bt292.1 < 0)))) else (r6_average.j0 k l0 bt292.1 bt292.2 (decide (bt292.1 < 0))))
theorem r6_average.calls (k : Nat) (A0 : Option Addr) (c0 : Nat) (l0 : List (S36)) (r1 : Int) (r2 : Int) (r3 : ByteArray) (r4 : Int) (w : World) (hr0 : Kd.C k36 w A0 l0.length l0) (hc0 : l0.length ≤ c0) (h : r6_average.f k l0 = some (r1, r2, r3, r4)) :
 Calls Tryz.prog 55 #[.slice A0 l0.length c0] w fun e w' => e = .returned (.agg #[.int .u8 r1, .int .i64 r2, .string r3, .int .i64 r4]) ∧ Below w.heap.size w w' := by
 have hu38 := Tryz.underlying38
 have HR0 := Aside0.mk hr0
 have HC0 := Aside0.mk hc0
 clear hr0 hc0
 have HB := Aside0.mk (Below.refl w.heap.size w)
 have H : ((r6_total.f k l0).bind fun bt292 => (if bt292.1 < 0 then (if bt292.2 > 0 then (r6_average.j0 k l0 (wrap64 ((wrap64 (-bt292.1)) - 1)) (wrap64 (4294967296 - bt292.2)) (decide (bt292.1 < 0))) else (r6_average.j0 k l0 (wrap64 (-bt292.1)) bt292.2 (decide (bt292.1 < 0)))) else (r6_average.j0 k l0 bt292.1 bt292.2 (decide (bt292.1 < 0))))) = some (r1, r2, r3, r4) := h
 clear h
 replace H := Option.bind_eq_some_iff.mp H
 obtain ⟨⟨t292, t293⟩, A20, H⟩ := H
 replace H : (if t292 < 0 then (if t293 > 0 then (r6_average.j0 k l0 (wrap64 ((wrap64 (-t292)) - 1)) (wrap64 (4294967296 - t293)) (decide (t292 < 0))) else (r6_average.j0 k l0 (wrap64 (-t292)) t293 (decide (t292 < 0)))) else (r6_average.j0 k l0 t292 t293 (decide (t292 < 0)))) = some (r1, r2, r3, r4) := H
 have A2 := Aside0.mk A20
 clear A20
 have HC3 := Aside0.mk H
 clear H
 go_enter Tryz.func55, Tryz.ntmps55
 go_upto_if 16 with (first | ((with_reducible refine gate_dst (N := 2) rfl ?_); refine box_event ?hg (N := 2) ?hd (cs := #[.int .u8 0, .int .i64 0, .string (⟨#[]⟩ : ByteArray), .int .i64 0]) (t := 38) ?hr ?_; (case hd => rfl); (case hg => rfl); (case hr => first | (go_simp; done) | (go_simp; rfl)); intro gb291 hg w4 hbox hb; have n0_ := Aside0.mk (below_step (by repeat (first | (with_reducible first | exact HB.out | apply bA_ | apply bN_ | apply b1_) | exact HB.out)) hb); have n1_ := Aside0.mk (hbox); have n2_ := Aside0.mk ((by rw [hg]; exact (below_size (by repeat (first | (with_reducible first | exact HB.out | apply bA_ | apply bN_ | apply b1_) | exact HB.out))) : w.heap.size ≤ gb291)); have n3_ := Aside0.mk ((by rw [hg]; exact (below_size (by repeat (first | (with_reducible first | exact HB.out | apply bA_ | apply bN_ | apply b1_) | exact HB.out))) : w.heap.size ≤ gb291)); clear HB; have HB := n0_; have BK291 := n1_; have GW291 := n2_; have GE291 := n3_; clear n0_ n1_ n2_ n3_; clear hb hbox hg) | (go_at_call 84; (with_reducible refine (r6_total.calls k _ _ l0 t292 t293 _ ?side1 ?side2 A2.out).mono ?_); (case side1 => repeat (first | exact (Kd.C_below HR0.out HB.out) | (with_reducible refine Kd.cA_ ?_ _) | (with_reducible refine Kd.cN_ ?_ _) | (with_reducible refine Kd.cD_ ?_))); (case side2 => exact HC0.out); rintro e w' ⟨rfl, ⟨nd, rfl⟩⟩; (try first | exact ⟨rfl, _, World.drewN_drewN _ _ _⟩ | exact ⟨rfl, _, Eq.trans (World.drewN_drewN _ _ _) (congrArg (World.drewN _) (Nat.add_assoc _ _ _))⟩)))
 repeat (go_quiet (first | ((with_reducible refine gate_dst (N := 2) rfl ?_); refine box_event ?hg (N := 2) ?hd (cs := #[.int .u8 0, .int .i64 0, .string (⟨#[]⟩ : ByteArray), .int .i64 0]) (t := 38) ?hr ?_; (case hd => rfl); (case hg => rfl); (case hr => first | (go_simp; done) | (go_simp; rfl)); intro gb291 hg w4 hbox hb; have n0_ := Aside0.mk (below_step (by repeat (first | (with_reducible first | exact HB.out | apply bA_ | apply bN_ | apply b1_) | exact HB.out)) hb); have n1_ := Aside0.mk (hbox); have n2_ := Aside0.mk ((by rw [hg]; exact (below_size (by repeat (first | (with_reducible first | exact HB.out | apply bA_ | apply bN_ | apply b1_) | exact HB.out))) : w.heap.size ≤ gb291)); have n3_ := Aside0.mk ((by rw [hg]; exact (below_size (by repeat (first | (with_reducible first | exact HB.out | apply bA_ | apply bN_ | apply b1_) | exact HB.out))) : w.heap.size ≤ gb291)); clear HB; have HB := n0_; have BK291 := n1_; have GW291 := n2_; have GE291 := n3_; clear n0_ n1_ n2_ n3_; clear hb hbox hg) | (go_at_call 84; (with_reducible refine (r6_total.calls k _ _ l0 t292 t293 _ ?side1 ?side2 A2.out).mono ?_); (case side1 => repeat (first | exact (Kd.C_below HR0.out HB.out) | (with_reducible refine Kd.cA_ ?_ _) | (with_reducible refine Kd.cN_ ?_ _) | (with_reducible refine Kd.cD_ ?_))); (case side2 => exact HC0.out); rintro e w' ⟨rfl, ⟨nd, rfl⟩⟩; (try first | exact ⟨rfl, _, World.drewN_drewN _ _ _⟩ | exact ⟨rfl, _, Eq.trans (World.drewN_drewN _ _ _) (congrArg (World.drewN _) (Nat.add_assoc _ _ _))⟩))); go_upto_if 16 with (first | ((with_reducible refine gate_dst (N := 2) rfl ?_); refine box_event ?hg (N := 2) ?hd (cs := #[.int .u8 0, .int .i64 0, .string (⟨#[]⟩ : ByteArray), .int .i64 0]) (t := 38) ?hr ?_; (case hd => rfl); (case hg => rfl); (case hr => first | (go_simp; done) | (go_simp; rfl)); intro gb291 hg w4 hbox hb; have n0_ := Aside0.mk (below_step (by repeat (first | (with_reducible first | exact HB.out | apply bA_ | apply bN_ | apply b1_) | exact HB.out)) hb); have n1_ := Aside0.mk (hbox); have n2_ := Aside0.mk ((by rw [hg]; exact (below_size (by repeat (first | (with_reducible first | exact HB.out | apply bA_ | apply bN_ | apply b1_) | exact HB.out))) : w.heap.size ≤ gb291)); have n3_ := Aside0.mk ((by rw [hg]; exact (below_size (by repeat (first | (with_reducible first | exact HB.out | apply bA_ | apply bN_ | apply b1_) | exact HB.out))) : w.heap.size ≤ gb291)); clear HB; have HB := n0_; have BK291 := n1_; have GW291 := n2_; have GE291 := n3_; clear n0_ n1_ n2_ n3_; clear hb hbox hg) | (go_at_call 84; (with_reducible refine (r6_total.calls k _ _ l0 t292 t293 _ ?side1 ?side2 A2.out).mono ?_); (case side1 => repeat (first | exact (Kd.C_below HR0.out HB.out) | (with_reducible refine Kd.cA_ ?_ _) | (with_reducible refine Kd.cN_ ?_ _) | (with_reducible refine Kd.cD_ ?_))); (case side2 => exact HC0.out); rintro e w' ⟨rfl, ⟨nd, rfl⟩⟩; (try first | exact ⟨rfl, _, World.drewN_drewN _ _ _⟩ | exact ⟨rfl, _, Eq.trans (World.drewN_drewN _ _ _) (congrArg (World.drewN _) (Nat.add_assoc _ _ _))⟩))))
 (try simp only [Act.put, sTA_, sCZ_, sCS_])
 go_cut [3, 4, 5] (fun v3 v4 v5 wc => ∃ (kq : Nat) (x3_2 : Int) (x4_2 : Int) (x5_2 : Bool), v3 = .int .i64 x3_2 ∧ v4 = .int .i64 x4_2 ∧ v5 = .bool x5_2 ∧ Aside0 (r6_average.j0 kq l0 x3_2 x4_2 x5_2 = some (r1, r2, r3, r4)) ∧ Aside0 (kq ≤ k) ∧ Aside0 (wc.heap[gb291]? = some (.cells #[.int .u8 0, .int .i64 0, .string (⟨#[]⟩ : ByteArray), .int .i64 0] 38 (0, 0))) ∧ Aside0 (Below w.heap.size w wc))
 case first =>
  have H := HC3.out
  clear HC3
  by_cases c5 : t292 < 0
  · rw [if_pos c5] at H
    have c5b0 : decide (t292 < 0) = true := dT_ c5
    clear c5
    (first | rw [c5b0] | (simp only [i64_w, i32_w]; rw [c5b0]) | skip)
    by_cases c6 : t293 > 0
    · rw [if_pos c6] at H
      have c6b0 : decide (0 < t293) = true := dT_ c6
      clear c6
      have H' := Aside0.mk H
      clear H
      go_wp2
      repeat (go_quiet (fail); try go_wp2)
      go_meet
      case rel => exact ⟨_, (wrap64 ((wrap64 (-t292)) - 1)), (wrap64 (4294967296 - t293)), (decide (t292 < 0)), (by first | rfl | (simp; done) | (simp [*]; done)), (by first | rfl | (simp; done) | (simp [*]; done)), (by first | rw [c5b0] | rfl | simp [*]), H', ⟨by first | omega | exact Nat.le_refl _⟩, ⟨by (with_reducible repeat (first | refine blk_drewN ?_ _ | refine blk_drew ?_ | refine blk_alloc ?_ _)); exact BK291.out⟩, ⟨by repeat (first | (with_reducible first | exact HB.out | apply bA_ | apply bN_ | apply b1_ | refine below_set ?_ GE291.out) | exact HB.out)⟩⟩
    · rw [if_neg c6] at H
      have c6b0 : decide (0 < t293) = false := dF_ c6
      clear c6
      have H' := Aside0.mk H
      clear H
      go_wp2
      repeat (go_quiet (fail); try go_wp2)
      go_meet
      case rel => exact ⟨_, (wrap64 (-t292)), (t293), (decide (t292 < 0)), (by first | rfl | (simp; done) | (simp [*]; done)), (by first | rfl | (simp; done) | (simp [*]; done)), (by first | rw [c5b0] | rfl | simp [*]), H', ⟨by first | omega | exact Nat.le_refl _⟩, ⟨by (with_reducible repeat (first | refine blk_drewN ?_ _ | refine blk_drew ?_ | refine blk_alloc ?_ _)); exact BK291.out⟩, ⟨by repeat (first | (with_reducible first | exact HB.out | apply bA_ | apply bN_ | apply b1_ | refine below_set ?_ GE291.out) | exact HB.out)⟩⟩
  · rw [if_neg c5] at H
    have c5b0 : decide (t292 < 0) = false := dF_ c5
    clear c5
    (first | rw [c5b0] | (simp only [i64_w, i32_w]; rw [c5b0]) | skip)
    have H' := Aside0.mk H
    clear H
    go_wp2
    repeat (go_quiet (fail); try go_wp2)
    go_meet
    case rel => exact ⟨_, (t292), (t293), (decide (t292 < 0)), (by first | rfl | (simp; done) | (simp [*]; done)), (by first | rfl | (simp; done) | (simp [*]; done)), (by first | rw [c5b0] | rfl | simp [*]), H', ⟨by first | omega | exact Nat.le_refl _⟩, ⟨by (with_reducible repeat (first | refine blk_drewN ?_ _ | refine blk_drew ?_ | refine blk_alloc ?_ _)); exact BK291.out⟩, ⟨by repeat (first | (with_reducible first | exact HB.out | apply bA_ | apply bN_ | apply b1_ | refine below_set ?_ GE291.out) | exact HB.out)⟩⟩
 case rest =>
  clear HC3
  try clear p2
  try clear c5
  try clear c5b0
  try clear c6
  try clear c6b0
  try clear p6
  obtain ⟨kq, x3_2, x4_2, x5_2, rfl, rfl, rfl, HA, HJ2, BK291, HB⟩ := hcut
  cases kq with
  | zero => exact absurd HA.out (by simp [r6_average.j0])
  | succ kj2 =>
   have H := HA.out
   clear HA
   simp only [r6_average.j0] at H
   by_cases c7 : (l0.length : Int) = 0
   · rw [if_pos c7] at H
     have c7b0 : ((l0.length : Int) == 0) = true := beq_iff_eq.mpr c7
     have c7b1 : ((l0.length : Int) != 0) = false := bne_eq_false_iff_eq.mpr c7
     clear c7
     simp only [Option.some.injEq, Prod.mk.injEq] at H
     obtain ⟨rfl, rfl, rfl, rfl⟩ := H
     have hcz8_0 : wc.cell? ⟨gb291, 0, none⟩ = some (.int .u8 0) := (blk_cell BK291.out 0).trans rfl
     have hcz8_1 : wc.cell? ⟨gb291, 1, none⟩ = some (.int .i64 0) := (blk_cell BK291.out 1).trans rfl
     have hcz8_2 : wc.cell? ⟨gb291, 2, none⟩ = some (.string (⟨#[]⟩ : ByteArray)) := (blk_cell BK291.out 2).trans rfl
     have hcz8_3 : wc.cell? ⟨gb291, 3, none⟩ = some (.int .i64 0) := (blk_cell BK291.out 3).trans rfl
     have hfz8_0 := blk_frozen BK291.out 0
     have hfz8_1 := blk_frozen BK291.out 1
     have hfz8_2 := blk_frozen BK291.out 2
     have hfz8_3 := blk_frozen BK291.out 3
     go_wp2
     repeat (go_quiet (fail); try go_wp2)
     refine bodyPost_ret (results_cell_row rfl _ _ gb291 38 #[.int .u8 0, .int .i64 0, .string (⟨#[]⟩ : ByteArray), .int .i64 0] (0, 0) _ rfl (by (with_reducible repeat (first | refine blk_drewN ?_ _ | refine blk_drew ?_ | refine blk_alloc ?_ _)); refine blk_put (cs := #[.int .u8 0, .int .i64 0, .string (⟨#[]⟩ : ByteArray), .int .i64 0]) ?_ 3 _ rfl; (with_reducible repeat (first | refine blk_drewN ?_ _ | refine blk_drew ?_ | refine blk_alloc ?_ _)); refine blk_put (cs := #[.int .u8 0, .int .i64 0, .string (⟨#[]⟩ : ByteArray), .int .i64 0]) ?_ 2 _ rfl; (with_reducible repeat (first | refine blk_drewN ?_ _ | refine blk_drew ?_ | refine blk_alloc ?_ _)); refine blk_put (cs := #[.int .u8 0, .int .i64 0, .string (⟨#[]⟩ : ByteArray), .int .i64 0]) ?_ 1 _ rfl; (with_reducible repeat (first | refine blk_drewN ?_ _ | refine blk_drew ?_ | refine blk_alloc ?_ _)); refine blk_put (cs := #[.int .u8 0, .int .i64 0, .string (⟨#[]⟩ : ByteArray), .int .i64 0]) ?_ 0 _ rfl; (with_reducible repeat (first | refine blk_drewN ?_ _ | refine blk_drew ?_ | refine blk_alloc ?_ _)); exact BK291.out) Tryz.underlying38 rfl (by kernel_rfl)) rfl ?_
     exact ⟨by first | rfl | (simp [*, errW_none, errW_some] <;> rfl), by repeat (first | (with_reducible first | exact HB.out | apply bA_ | apply bN_ | apply b1_ | refine below_set ?_ GE291.out) | exact HB.out)⟩
   · rw [if_neg c7] at H
     have c7b0 : ((l0.length : Int) == 0) = false := beq_eq_false_iff_ne.mpr c7
     have c7b1 : ((l0.length : Int) != 0) = true := bne_iff_ne.mpr c7
     have c7b2 : ¬ (l0 = []) := fun h_ => c7 (by rw [h_]; rfl)
     by_cases c9 : x5_2 = true
     · rw [if_pos c9] at H
       have c9b0 : x5_2 = true := c9
       subst c9b0
       replace H := Option.bind_eq_some_iff.mp H
       obtain ⟨⟨t294, t295, t296⟩, A100, H⟩ := H
       replace H : (some (t294, t295, t296, 0)) = some (r1, r2, r3, r4) := H
       have A10 := Aside0.mk A100
       clear A100
       simp only [Option.some.injEq, Prod.mk.injEq] at H
       obtain ⟨rfl, rfl, rfl, rfl⟩ := H
       go_wp2_with (first | (go_at_call 43; (with_reducible refine (r1_Int.calls (wrap64 (-(wrap64 ((wrap64 ((wrap64 (Int.tdiv x3_2 (l0.length : Int))) * 4294967296)) + (wrap64 (Int.tdiv (wrap64 ((wrap64 ((Int.tmod x3_2 (l0.length : Int)) * 4294967296)) + x4_2)) (l0.length : Int))))))) t294 t295 t296 _ A10.out).mono ?_); rintro e w11 ⟨rfl, hb⟩; have n0_ := Aside0.mk (blk_below (g := gb291) (o := .cells #[.int .u8 0, .int .i64 0, .string (⟨#[]⟩ : ByteArray), .int .i64 0] 38 (0, 0)) (by (with_reducible repeat (first | refine blk_drewN ?_ _ | refine blk_drew ?_ | refine blk_alloc ?_ _)); exact BK291.out) hb); have n1_ := Aside0.mk (below_step (by repeat (first | (with_reducible first | exact HB.out | apply bA_ | apply bN_ | apply b1_ | refine below_set ?_ GE291.out) | exact HB.out)) hb); clear BK291; clear HB; have BK291 := n0_; have HB := n1_; clear n0_ n1_; (try clear hb); (try clear hb2); (try clear hk); (try clear hi); have hcz12_0 : w11.cell? ⟨gb291, 0, none⟩ = some (.int .u8 0) := (blk_cell BK291.out 0).trans rfl; have hcz12_1 : w11.cell? ⟨gb291, 1, none⟩ = some (.int .i64 0) := (blk_cell BK291.out 1).trans rfl; have hcz12_2 : w11.cell? ⟨gb291, 2, none⟩ = some (.string (⟨#[]⟩ : ByteArray)) := (blk_cell BK291.out 2).trans rfl; have hcz12_3 : w11.cell? ⟨gb291, 3, none⟩ = some (.int .i64 0) := (blk_cell BK291.out 3).trans rfl; have hfz12_0 := blk_frozen BK291.out 0; have hfz12_1 := blk_frozen BK291.out 1; have hfz12_2 := blk_frozen BK291.out 2; have hfz12_3 := blk_frozen BK291.out 3))
       repeat (go_quiet (first | (go_at_call 43; (with_reducible refine (r1_Int.calls (wrap64 (-(wrap64 ((wrap64 ((wrap64 (Int.tdiv x3_2 (l0.length : Int))) * 4294967296)) + (wrap64 (Int.tdiv (wrap64 ((wrap64 ((Int.tmod x3_2 (l0.length : Int)) * 4294967296)) + x4_2)) (l0.length : Int))))))) t294 t295 t296 _ A10.out).mono ?_); rintro e w11 ⟨rfl, hb⟩; have n0_ := Aside0.mk (blk_below (g := gb291) (o := .cells #[.int .u8 0, .int .i64 0, .string (⟨#[]⟩ : ByteArray), .int .i64 0] 38 (0, 0)) (by (with_reducible repeat (first | refine blk_drewN ?_ _ | refine blk_drew ?_ | refine blk_alloc ?_ _)); exact BK291.out) hb); have n1_ := Aside0.mk (below_step (by repeat (first | (with_reducible first | exact HB.out | apply bA_ | apply bN_ | apply b1_ | refine below_set ?_ GE291.out) | exact HB.out)) hb); clear BK291; clear HB; have BK291 := n0_; have HB := n1_; clear n0_ n1_; (try clear hb); (try clear hb2); (try clear hk); (try clear hi); have hcz12_0 : w11.cell? ⟨gb291, 0, none⟩ = some (.int .u8 0) := (blk_cell BK291.out 0).trans rfl; have hcz12_1 : w11.cell? ⟨gb291, 1, none⟩ = some (.int .i64 0) := (blk_cell BK291.out 1).trans rfl; have hcz12_2 : w11.cell? ⟨gb291, 2, none⟩ = some (.string (⟨#[]⟩ : ByteArray)) := (blk_cell BK291.out 2).trans rfl; have hcz12_3 : w11.cell? ⟨gb291, 3, none⟩ = some (.int .i64 0) := (blk_cell BK291.out 3).trans rfl; have hfz12_0 := blk_frozen BK291.out 0; have hfz12_1 := blk_frozen BK291.out 1; have hfz12_2 := blk_frozen BK291.out 2; have hfz12_3 := blk_frozen BK291.out 3)); try go_wp2_with (first | (go_at_call 43; (with_reducible refine (r1_Int.calls (wrap64 (-(wrap64 ((wrap64 ((wrap64 (Int.tdiv x3_2 (l0.length : Int))) * 4294967296)) + (wrap64 (Int.tdiv (wrap64 ((wrap64 ((Int.tmod x3_2 (l0.length : Int)) * 4294967296)) + x4_2)) (l0.length : Int))))))) t294 t295 t296 _ A10.out).mono ?_); rintro e w11 ⟨rfl, hb⟩; have n0_ := Aside0.mk (blk_below (g := gb291) (o := .cells #[.int .u8 0, .int .i64 0, .string (⟨#[]⟩ : ByteArray), .int .i64 0] 38 (0, 0)) (by (with_reducible repeat (first | refine blk_drewN ?_ _ | refine blk_drew ?_ | refine blk_alloc ?_ _)); exact BK291.out) hb); have n1_ := Aside0.mk (below_step (by repeat (first | (with_reducible first | exact HB.out | apply bA_ | apply bN_ | apply b1_ | refine below_set ?_ GE291.out) | exact HB.out)) hb); clear BK291; clear HB; have BK291 := n0_; have HB := n1_; clear n0_ n1_; (try clear hb); (try clear hb2); (try clear hk); (try clear hi); have hcz12_0 : w11.cell? ⟨gb291, 0, none⟩ = some (.int .u8 0) := (blk_cell BK291.out 0).trans rfl; have hcz12_1 : w11.cell? ⟨gb291, 1, none⟩ = some (.int .i64 0) := (blk_cell BK291.out 1).trans rfl; have hcz12_2 : w11.cell? ⟨gb291, 2, none⟩ = some (.string (⟨#[]⟩ : ByteArray)) := (blk_cell BK291.out 2).trans rfl; have hcz12_3 : w11.cell? ⟨gb291, 3, none⟩ = some (.int .i64 0) := (blk_cell BK291.out 3).trans rfl; have hfz12_0 := blk_frozen BK291.out 0; have hfz12_1 := blk_frozen BK291.out 1; have hfz12_2 := blk_frozen BK291.out 2; have hfz12_3 := blk_frozen BK291.out 3)))
       refine bodyPost_ret (results_cell_row rfl _ _ gb291 38 #[.int .u8 t294, .int .i64 t295, .string t296, .int .i64 0] (0, 0) _ rfl (by (with_reducible repeat (first | refine blk_drewN ?_ _ | refine blk_drew ?_ | refine blk_alloc ?_ _)); refine blk_put (cs := #[.int .u8 t294, .int .i64 t295, .string t296, .int .i64 0]) ?_ 3 _ rfl; (with_reducible repeat (first | refine blk_drewN ?_ _ | refine blk_drew ?_ | refine blk_alloc ?_ _)); refine blk_put (cs := #[.int .u8 t294, .int .i64 t295, .string (⟨#[]⟩ : ByteArray), .int .i64 0]) ?_ 2 _ rfl; (with_reducible repeat (first | refine blk_drewN ?_ _ | refine blk_drew ?_ | refine blk_alloc ?_ _)); refine blk_put (cs := #[.int .u8 t294, .int .i64 0, .string (⟨#[]⟩ : ByteArray), .int .i64 0]) ?_ 1 _ rfl; (with_reducible repeat (first | refine blk_drewN ?_ _ | refine blk_drew ?_ | refine blk_alloc ?_ _)); refine blk_put (cs := #[.int .u8 0, .int .i64 0, .string (⟨#[]⟩ : ByteArray), .int .i64 0]) ?_ 0 _ rfl; (with_reducible repeat (first | refine blk_drewN ?_ _ | refine blk_drew ?_ | refine blk_alloc ?_ _)); exact BK291.out) Tryz.underlying38 rfl (by kernel_rfl)) rfl ?_
       exact ⟨by first | rfl | (simp [*, errW_none, errW_some] <;> rfl), by repeat (first | (with_reducible first | exact HB.out | apply bA_ | apply bN_ | apply b1_ | refine below_set ?_ GE291.out) | exact HB.out)⟩
     · rw [if_neg c9] at H
       have c9b0 : x5_2 = false := by simpa using c9
       subst c9b0
       replace H := Option.bind_eq_some_iff.mp H
       obtain ⟨⟨t297, t298, t299⟩, A130, H⟩ := H
       replace H : (some (t297, t298, t299, 0)) = some (r1, r2, r3, r4) := H
       have A13 := Aside0.mk A130
       clear A130
       simp only [Option.some.injEq, Prod.mk.injEq] at H
       obtain ⟨rfl, rfl, rfl, rfl⟩ := H
       go_wp2_with (first | (go_at_call 43; (with_reducible refine (r1_Int.calls (wrap64 ((wrap64 ((wrap64 (Int.tdiv x3_2 (l0.length : Int))) * 4294967296)) + (wrap64 (Int.tdiv (wrap64 ((wrap64 ((Int.tmod x3_2 (l0.length : Int)) * 4294967296)) + x4_2)) (l0.length : Int))))) t297 t298 t299 _ A13.out).mono ?_); rintro e w14 ⟨rfl, hb⟩; have n0_ := Aside0.mk (blk_below (g := gb291) (o := .cells #[.int .u8 0, .int .i64 0, .string (⟨#[]⟩ : ByteArray), .int .i64 0] 38 (0, 0)) (by (with_reducible repeat (first | refine blk_drewN ?_ _ | refine blk_drew ?_ | refine blk_alloc ?_ _)); exact BK291.out) hb); have n1_ := Aside0.mk (below_step (by repeat (first | (with_reducible first | exact HB.out | apply bA_ | apply bN_ | apply b1_ | refine below_set ?_ GE291.out) | exact HB.out)) hb); clear BK291; clear HB; have BK291 := n0_; have HB := n1_; clear n0_ n1_; (try clear hb); (try clear hb2); (try clear hk); (try clear hi); have hcz15_0 : w14.cell? ⟨gb291, 0, none⟩ = some (.int .u8 0) := (blk_cell BK291.out 0).trans rfl; have hcz15_1 : w14.cell? ⟨gb291, 1, none⟩ = some (.int .i64 0) := (blk_cell BK291.out 1).trans rfl; have hcz15_2 : w14.cell? ⟨gb291, 2, none⟩ = some (.string (⟨#[]⟩ : ByteArray)) := (blk_cell BK291.out 2).trans rfl; have hcz15_3 : w14.cell? ⟨gb291, 3, none⟩ = some (.int .i64 0) := (blk_cell BK291.out 3).trans rfl; have hfz15_0 := blk_frozen BK291.out 0; have hfz15_1 := blk_frozen BK291.out 1; have hfz15_2 := blk_frozen BK291.out 2; have hfz15_3 := blk_frozen BK291.out 3))
       repeat (go_quiet (first | (go_at_call 43; (with_reducible refine (r1_Int.calls (wrap64 ((wrap64 ((wrap64 (Int.tdiv x3_2 (l0.length : Int))) * 4294967296)) + (wrap64 (Int.tdiv (wrap64 ((wrap64 ((Int.tmod x3_2 (l0.length : Int)) * 4294967296)) + x4_2)) (l0.length : Int))))) t297 t298 t299 _ A13.out).mono ?_); rintro e w14 ⟨rfl, hb⟩; have n0_ := Aside0.mk (blk_below (g := gb291) (o := .cells #[.int .u8 0, .int .i64 0, .string (⟨#[]⟩ : ByteArray), .int .i64 0] 38 (0, 0)) (by (with_reducible repeat (first | refine blk_drewN ?_ _ | refine blk_drew ?_ | refine blk_alloc ?_ _)); exact BK291.out) hb); have n1_ := Aside0.mk (below_step (by repeat (first | (with_reducible first | exact HB.out | apply bA_ | apply bN_ | apply b1_ | refine below_set ?_ GE291.out) | exact HB.out)) hb); clear BK291; clear HB; have BK291 := n0_; have HB := n1_; clear n0_ n1_; (try clear hb); (try clear hb2); (try clear hk); (try clear hi); have hcz15_0 : w14.cell? ⟨gb291, 0, none⟩ = some (.int .u8 0) := (blk_cell BK291.out 0).trans rfl; have hcz15_1 : w14.cell? ⟨gb291, 1, none⟩ = some (.int .i64 0) := (blk_cell BK291.out 1).trans rfl; have hcz15_2 : w14.cell? ⟨gb291, 2, none⟩ = some (.string (⟨#[]⟩ : ByteArray)) := (blk_cell BK291.out 2).trans rfl; have hcz15_3 : w14.cell? ⟨gb291, 3, none⟩ = some (.int .i64 0) := (blk_cell BK291.out 3).trans rfl; have hfz15_0 := blk_frozen BK291.out 0; have hfz15_1 := blk_frozen BK291.out 1; have hfz15_2 := blk_frozen BK291.out 2; have hfz15_3 := blk_frozen BK291.out 3)); try go_wp2_with (first | (go_at_call 43; (with_reducible refine (r1_Int.calls (wrap64 ((wrap64 ((wrap64 (Int.tdiv x3_2 (l0.length : Int))) * 4294967296)) + (wrap64 (Int.tdiv (wrap64 ((wrap64 ((Int.tmod x3_2 (l0.length : Int)) * 4294967296)) + x4_2)) (l0.length : Int))))) t297 t298 t299 _ A13.out).mono ?_); rintro e w14 ⟨rfl, hb⟩; have n0_ := Aside0.mk (blk_below (g := gb291) (o := .cells #[.int .u8 0, .int .i64 0, .string (⟨#[]⟩ : ByteArray), .int .i64 0] 38 (0, 0)) (by (with_reducible repeat (first | refine blk_drewN ?_ _ | refine blk_drew ?_ | refine blk_alloc ?_ _)); exact BK291.out) hb); have n1_ := Aside0.mk (below_step (by repeat (first | (with_reducible first | exact HB.out | apply bA_ | apply bN_ | apply b1_ | refine below_set ?_ GE291.out) | exact HB.out)) hb); clear BK291; clear HB; have BK291 := n0_; have HB := n1_; clear n0_ n1_; (try clear hb); (try clear hb2); (try clear hk); (try clear hi); have hcz15_0 : w14.cell? ⟨gb291, 0, none⟩ = some (.int .u8 0) := (blk_cell BK291.out 0).trans rfl; have hcz15_1 : w14.cell? ⟨gb291, 1, none⟩ = some (.int .i64 0) := (blk_cell BK291.out 1).trans rfl; have hcz15_2 : w14.cell? ⟨gb291, 2, none⟩ = some (.string (⟨#[]⟩ : ByteArray)) := (blk_cell BK291.out 2).trans rfl; have hcz15_3 : w14.cell? ⟨gb291, 3, none⟩ = some (.int .i64 0) := (blk_cell BK291.out 3).trans rfl; have hfz15_0 := blk_frozen BK291.out 0; have hfz15_1 := blk_frozen BK291.out 1; have hfz15_2 := blk_frozen BK291.out 2; have hfz15_3 := blk_frozen BK291.out 3)))
       refine bodyPost_ret (results_cell_row rfl _ _ gb291 38 #[.int .u8 t297, .int .i64 t298, .string t299, .int .i64 0] (0, 0) _ rfl (by (with_reducible repeat (first | refine blk_drewN ?_ _ | refine blk_drew ?_ | refine blk_alloc ?_ _)); refine blk_put (cs := #[.int .u8 t297, .int .i64 t298, .string t299, .int .i64 0]) ?_ 3 _ rfl; (with_reducible repeat (first | refine blk_drewN ?_ _ | refine blk_drew ?_ | refine blk_alloc ?_ _)); refine blk_put (cs := #[.int .u8 t297, .int .i64 t298, .string (⟨#[]⟩ : ByteArray), .int .i64 0]) ?_ 2 _ rfl; (with_reducible repeat (first | refine blk_drewN ?_ _ | refine blk_drew ?_ | refine blk_alloc ?_ _)); refine blk_put (cs := #[.int .u8 t297, .int .i64 0, .string (⟨#[]⟩ : ByteArray), .int .i64 0]) ?_ 1 _ rfl; (with_reducible repeat (first | refine blk_drewN ?_ _ | refine blk_drew ?_ | refine blk_alloc ?_ _)); refine blk_put (cs := #[.int .u8 0, .int .i64 0, .string (⟨#[]⟩ : ByteArray), .int .i64 0]) ?_ 0 _ rfl; (with_reducible repeat (first | refine blk_drewN ?_ _ | refine blk_drew ?_ | refine blk_alloc ?_ _)); exact BK291.out) Tryz.underlying38 rfl (by kernel_rfl)) rfl ?_
       exact ⟨by first | rfl | (simp [*, errW_none, errW_some] <;> rfl), by repeat (first | (with_reducible first | exact HB.out | apply bA_ | apply bN_ | apply b1_ | refine below_set ?_ GE291.out) | exact HB.out)⟩
def r6_Aggregate.f (k : Nat) (a0 : Int) (a1 : Bool) (l2 : List (S36)) : Option (Int × Int × ByteArray × Int) := (r6_aggregable.f k a0 a1 l2).bind fun t301 => (if t301 = true then (if a0 = 0 then ((r1_Int.f (l2.length : Int)).bind fun bt302 => (some (bt302.1, bt302.2.1, bt302.2.2, 0))) else ((r6_counted.f k l2 a1).bind fun t305 => (if a0 = 1 then ((r1_Int.f (t305.length : Int)).bind fun bt308 => (some (bt308.1, bt308.2.1, bt308.2.2, 0))) else (if (t305.length : Int) = 0 then (some (0, 0, (⟨#[]⟩ : ByteArray), 0)) else (if a0 = 2 then ((r6_sum.f k t305).bind fun bt311 => (some (bt311.1, bt311.2.1, bt311.2.2.1, bt311.2.2.2))) else (if a0 = 3 then ((r6_extreme.f k t305 false).bind fun bt315 => (some (bt315.1, bt315.2.1, bt315.2.2.1, bt315.2.2.2))) else (if a0 = 4 then ((r6_extreme.f k t305 true).bind fun bt319 => (some (bt319.1, bt319.2.1, bt319.2.2.1, bt319.2.2.2))) else ((r6_average.f k t305).bind fun bt323 => (some (bt323.1, bt323.2.1, bt323.2.2.1, bt323.2.2.2)))))))))) else (some (0, 0, (⟨#[]⟩ : ByteArray), 1)))
theorem r6_Aggregate.calls (k : Nat) (a0 : Int) (a1 : Bool) (A2 : Option Addr) (c2 : Nat) (l2 : List (S36)) (r1 : Int) (r2 : Int) (r3 : ByteArray) (r4 : Int) (w : World) (hr2 : Kd.C k36 w A2 l2.length l2) (hc2 : l2.length ≤ c2) (h : r6_Aggregate.f k a0 a1 l2 = some (r1, r2, r3, r4)) :
 Calls Tryz.prog 20 #[.int .u8 a0, .bool a1, .slice A2 l2.length c2] w fun e w' => e = .returned (.agg #[.int .u8 r1, .int .i64 r2, .string r3, .int .i64 r4]) ∧ Below w.heap.size w w' := by
 have hu38 := Tryz.underlying38
 have HR2 := Aside0.mk hr2
 have HC2 := Aside0.mk hc2
 clear hr2 hc2
 have HB := Aside0.mk (Below.refl w.heap.size w)
 have H : ((r6_aggregable.f k a0 a1 l2).bind fun t301 => (if t301 = true then (if a0 = 0 then ((r1_Int.f (l2.length : Int)).bind fun bt302 => (some (bt302.1, bt302.2.1, bt302.2.2, 0))) else ((r6_counted.f k l2 a1).bind fun t305 => (if a0 = 1 then ((r1_Int.f (t305.length : Int)).bind fun bt308 => (some (bt308.1, bt308.2.1, bt308.2.2, 0))) else (if (t305.length : Int) = 0 then (some (0, 0, (⟨#[]⟩ : ByteArray), 0)) else (if a0 = 2 then ((r6_sum.f k t305).bind fun bt311 => (some (bt311.1, bt311.2.1, bt311.2.2.1, bt311.2.2.2))) else (if a0 = 3 then ((r6_extreme.f k t305 false).bind fun bt315 => (some (bt315.1, bt315.2.1, bt315.2.2.1, bt315.2.2.2))) else (if a0 = 4 then ((r6_extreme.f k t305 true).bind fun bt319 => (some (bt319.1, bt319.2.1, bt319.2.2.1, bt319.2.2.2))) else ((r6_average.f k t305).bind fun bt323 => (some (bt323.1, bt323.2.1, bt323.2.2.1, bt323.2.2.2)))))))))) else (some (0, 0, (⟨#[]⟩ : ByteArray), 1)))) = some (r1, r2, r3, r4) := h
 clear h
 replace H := Option.bind_eq_some_iff.mp H
 obtain ⟨t301, A40, H⟩ := H
 replace H : (if t301 = true then (if a0 = 0 then ((r1_Int.f (l2.length : Int)).bind fun bt302 => (some (bt302.1, bt302.2.1, bt302.2.2, 0))) else ((r6_counted.f k l2 a1).bind fun t305 => (if a0 = 1 then ((r1_Int.f (t305.length : Int)).bind fun bt308 => (some (bt308.1, bt308.2.1, bt308.2.2, 0))) else (if (t305.length : Int) = 0 then (some (0, 0, (⟨#[]⟩ : ByteArray), 0)) else (if a0 = 2 then ((r6_sum.f k t305).bind fun bt311 => (some (bt311.1, bt311.2.1, bt311.2.2.1, bt311.2.2.2))) else (if a0 = 3 then ((r6_extreme.f k t305 false).bind fun bt315 => (some (bt315.1, bt315.2.1, bt315.2.2.1, bt315.2.2.2))) else (if a0 = 4 then ((r6_extreme.f k t305 true).bind fun bt319 => (some (bt319.1, bt319.2.1, bt319.2.2.1, bt319.2.2.2))) else ((r6_average.f k t305).bind fun bt323 => (some (bt323.1, bt323.2.1, bt323.2.2.1, bt323.2.2.2)))))))))) else (some (0, 0, (⟨#[]⟩ : ByteArray), 1))) = some (r1, r2, r3, r4) := H
 have A4 := Aside0.mk A40
 clear A40
 by_cases c5 : t301 = true
 · subst c5
   have H1 : (if a0 = 0 then ((r1_Int.f (l2.length : Int)).bind fun bt302 => (some (bt302.1, bt302.2.1, bt302.2.2, 0))) else ((r6_counted.f k l2 a1).bind fun t305 => (if a0 = 1 then ((r1_Int.f (t305.length : Int)).bind fun bt308 => (some (bt308.1, bt308.2.1, bt308.2.2, 0))) else (if (t305.length : Int) = 0 then (some (0, 0, (⟨#[]⟩ : ByteArray), 0)) else (if a0 = 2 then ((r6_sum.f k t305).bind fun bt311 => (some (bt311.1, bt311.2.1, bt311.2.2.1, bt311.2.2.2))) else (if a0 = 3 then ((r6_extreme.f k t305 false).bind fun bt315 => (some (bt315.1, bt315.2.1, bt315.2.2.1, bt315.2.2.2))) else (if a0 = 4 then ((r6_extreme.f k t305 true).bind fun bt319 => (some (bt319.1, bt319.2.1, bt319.2.2.1, bt319.2.2.2))) else ((r6_average.f k t305).bind fun bt323 => (some (bt323.1, bt323.2.1, bt323.2.2.1, bt323.2.2.2)))))))))) = some (r1, r2, r3, r4) := by rw [if_pos rfl] at H; exact H
   clear H
   have H := H1
   clear H1
   by_cases c6 : a0 = 0
   · rw [if_pos c6] at H
     have c6b0 : (a0 == 0) = true := beq_iff_eq.mpr c6
     have c6b1 : (a0 != 0) = false := bne_eq_false_iff_eq.mpr c6
     clear c6
     replace H := Option.bind_eq_some_iff.mp H
     obtain ⟨⟨t302, t303, t304⟩, A70, H⟩ := H
     replace H : (some (t302, t303, t304, 0)) = some (r1, r2, r3, r4) := H
     have A7 := Aside0.mk A70
     clear A70
     simp only [Option.some.injEq, Prod.mk.injEq] at H
     obtain ⟨rfl, rfl, rfl, rfl⟩ := H
     go_enter Tryz.func20, Tryz.ntmps20
     go_wp2_with (first | ((with_reducible refine gate_dst (N := 6) rfl ?_); refine box_event ?hg (N := 6) ?hd (cs := #[.int .u8 0, .int .i64 0, .string (⟨#[]⟩ : ByteArray), .int .i64 0]) (t := 38) ?hr ?_; (case hd => rfl); (case hg => rfl); (case hr => first | (go_simp; done) | (go_simp; rfl)); intro gb300 hg w8 hbox hb; have n0_ := Aside0.mk (below_step (by repeat (first | (with_reducible first | exact HB.out | apply bA_ | apply bN_ | apply b1_) | exact HB.out)) hb); have n1_ := Aside0.mk (hbox); have n2_ := Aside0.mk ((by rw [hg]; exact (below_size (by repeat (first | (with_reducible first | exact HB.out | apply bA_ | apply bN_ | apply b1_) | exact HB.out))) : w.heap.size ≤ gb300)); have n3_ := Aside0.mk ((by rw [hg]; exact (below_size (by repeat (first | (with_reducible first | exact HB.out | apply bA_ | apply bN_ | apply b1_) | exact HB.out))) : w.heap.size ≤ gb300)); clear HB; have HB := n0_; have BK300 := n1_; have GW300 := n2_; have GE300 := n3_; clear n0_ n1_ n2_ n3_; clear hb hbox hg) | ((with_reducible refine gate_callee (f := 51) rfl ?_); refine goesL_ (some 11) rfl rfl Tryz.func51 (by kernel_rfl) rfl #[.int .u8 a0, .bool a1, .slice A2 l2.length c2] rfl (by (try simp only [List.map_toArray, List.map_cons, List.map_nil]); first | done | rfl | (simp only [List.length_drop, List.length_take]; rfl)) ?_; (with_reducible refine (r6_aggregable.calls k a0 a1 _ _ l2 true _ ?side1 ?side2 A4.out).mono ?_); (case side1 => repeat (first | exact (Kd.C_below HR2.out HB.out) | (with_reducible refine Kd.cA_ ?_ _) | (with_reducible refine Kd.cN_ ?_ _) | (with_reducible refine Kd.cD_ ?_))); (case side2 => exact HC2.out); rintro e w9 ⟨rfl, hb⟩; refine ⟨_, rfl, ?_⟩; have n0_ := Aside0.mk (blk_below (g := gb300) (o := .cells #[.int .u8 0, .int .i64 0, .string (⟨#[]⟩ : ByteArray), .int .i64 0] 38 (0, 0)) (by (with_reducible repeat (first | refine blk_drewN ?_ _ | refine blk_drew ?_ | refine blk_alloc ?_ _)); exact BK300.out) hb); have n1_ := Aside0.mk (below_step (by repeat (first | (with_reducible first | exact HB.out | apply bA_ | apply bN_ | apply b1_ | refine below_set ?_ GE300.out) | exact HB.out)) hb); clear BK300; clear HB; have BK300 := n0_; have HB := n1_; clear n0_ n1_; (try clear hb); (try clear hb2); (try clear hk); (try clear hi)) | ((with_reducible refine gate_callee (f := 43) rfl ?_); refine goesL_ (some 18) rfl rfl Tryz.func43 (by kernel_rfl) rfl #[.int .i64 (l2.length : Int)] rfl (by (try simp only [List.map_toArray, List.map_cons, List.map_nil]); first | done | rfl | (simp only [List.length_drop, List.length_take]; rfl)) ?_; (with_reducible refine (r1_Int.calls (l2.length : Int) t302 t303 t304 _ A7.out).mono ?_); rintro e w10 ⟨rfl, hb⟩; refine ⟨_, rfl, ?_⟩; have n0_ := Aside0.mk (blk_below (g := gb300) (o := .cells #[.int .u8 0, .int .i64 0, .string (⟨#[]⟩ : ByteArray), .int .i64 0] 38 (0, 0)) (by (with_reducible repeat (first | refine blk_drewN ?_ _ | refine blk_drew ?_ | refine blk_alloc ?_ _)); exact BK300.out) hb); have n1_ := Aside0.mk (below_step (by repeat (first | (with_reducible first | exact HB.out | apply bA_ | apply bN_ | apply b1_ | refine below_set ?_ GE300.out) | exact HB.out)) hb); clear BK300; clear HB; have BK300 := n0_; have HB := n1_; clear n0_ n1_; (try clear hb); (try clear hb2); (try clear hk); (try clear hi); have hcz11_0 : w10.cell? ⟨gb300, 0, none⟩ = some (.int .u8 0) := (blk_cell BK300.out 0).trans rfl; have hcz11_1 : w10.cell? ⟨gb300, 1, none⟩ = some (.int .i64 0) := (blk_cell BK300.out 1).trans rfl; have hcz11_2 : w10.cell? ⟨gb300, 2, none⟩ = some (.string (⟨#[]⟩ : ByteArray)) := (blk_cell BK300.out 2).trans rfl; have hcz11_3 : w10.cell? ⟨gb300, 3, none⟩ = some (.int .i64 0) := (blk_cell BK300.out 3).trans rfl; have hfz11_0 := blk_frozen BK300.out 0; have hfz11_1 := blk_frozen BK300.out 1; have hfz11_2 := blk_frozen BK300.out 2; have hfz11_3 := blk_frozen BK300.out 3))
     refine bodyPost_ret (results_cell_row rfl _ _ gb300 38 #[.int .u8 t302, .int .i64 t303, .string t304, .int .i64 0] (0, 0) _ rfl (by (with_reducible repeat (first | refine blk_drewN ?_ _ | refine blk_drew ?_ | refine blk_alloc ?_ _)); refine blk_put (cs := #[.int .u8 t302, .int .i64 t303, .string t304, .int .i64 0]) ?_ 3 _ rfl; (with_reducible repeat (first | refine blk_drewN ?_ _ | refine blk_drew ?_ | refine blk_alloc ?_ _)); refine blk_put (cs := #[.int .u8 t302, .int .i64 t303, .string (⟨#[]⟩ : ByteArray), .int .i64 0]) ?_ 2 _ rfl; (with_reducible repeat (first | refine blk_drewN ?_ _ | refine blk_drew ?_ | refine blk_alloc ?_ _)); refine blk_put (cs := #[.int .u8 t302, .int .i64 0, .string (⟨#[]⟩ : ByteArray), .int .i64 0]) ?_ 1 _ rfl; (with_reducible repeat (first | refine blk_drewN ?_ _ | refine blk_drew ?_ | refine blk_alloc ?_ _)); refine blk_put (cs := #[.int .u8 0, .int .i64 0, .string (⟨#[]⟩ : ByteArray), .int .i64 0]) ?_ 0 _ rfl; (with_reducible repeat (first | refine blk_drewN ?_ _ | refine blk_drew ?_ | refine blk_alloc ?_ _)); exact BK300.out) Tryz.underlying38 rfl (by kernel_rfl)) rfl ?_
     exact ⟨by first | rfl | (simp [*, errW_none, errW_some] <;> rfl), by repeat (first | (with_reducible first | exact HB.out | apply bA_ | apply bN_ | apply b1_ | refine below_set ?_ GE300.out) | exact HB.out)⟩
   · rw [if_neg c6] at H
     have c6b0 : (a0 == 0) = false := beq_eq_false_iff_ne.mpr c6
     have c6b1 : (a0 != 0) = true := bne_iff_ne.mpr c6
     replace H := Option.bind_eq_some_iff.mp H
     obtain ⟨t305, A120, H⟩ := H
     replace H : (if a0 = 1 then ((r1_Int.f (t305.length : Int)).bind fun bt308 => (some (bt308.1, bt308.2.1, bt308.2.2, 0))) else (if (t305.length : Int) = 0 then (some (0, 0, (⟨#[]⟩ : ByteArray), 0)) else (if a0 = 2 then ((r6_sum.f k t305).bind fun bt311 => (some (bt311.1, bt311.2.1, bt311.2.2.1, bt311.2.2.2))) else (if a0 = 3 then ((r6_extreme.f k t305 false).bind fun bt315 => (some (bt315.1, bt315.2.1, bt315.2.2.1, bt315.2.2.2))) else (if a0 = 4 then ((r6_extreme.f k t305 true).bind fun bt319 => (some (bt319.1, bt319.2.1, bt319.2.2.1, bt319.2.2.2))) else ((r6_average.f k t305).bind fun bt323 => (some (bt323.1, bt323.2.1, bt323.2.2.1, bt323.2.2.2)))))))) = some (r1, r2, r3, r4) := H
     have A12 := Aside0.mk A120
     clear A120
     by_cases c13 : a0 = 1
     · rw [if_pos c13] at H
       have c13b0 : (a0 == 1) = true := beq_iff_eq.mpr c13
       have c13b1 : (a0 != 1) = false := bne_eq_false_iff_eq.mpr c13
       clear c13
       replace H := Option.bind_eq_some_iff.mp H
       obtain ⟨⟨t308, t309, t310⟩, A140, H⟩ := H
       replace H : (some (t308, t309, t310, 0)) = some (r1, r2, r3, r4) := H
       have A14 := Aside0.mk A140
       clear A140
       simp only [Option.some.injEq, Prod.mk.injEq] at H
       obtain ⟨rfl, rfl, rfl, rfl⟩ := H
       go_enter Tryz.func20, Tryz.ntmps20
       go_wp2_with (first | ((with_reducible refine gate_dst (N := 6) rfl ?_); refine box_event ?hg (N := 6) ?hd (cs := #[.int .u8 0, .int .i64 0, .string (⟨#[]⟩ : ByteArray), .int .i64 0]) (t := 38) ?hr ?_; (case hd => rfl); (case hg => rfl); (case hr => first | (go_simp; done) | (go_simp; rfl)); intro gb300 hg w15 hbox hb; have n0_ := Aside0.mk (below_step (by repeat (first | (with_reducible first | exact HB.out | apply bA_ | apply bN_ | apply b1_) | exact HB.out)) hb); have n1_ := Aside0.mk (hbox); have n2_ := Aside0.mk ((by rw [hg]; exact (below_size (by repeat (first | (with_reducible first | exact HB.out | apply bA_ | apply bN_ | apply b1_) | exact HB.out))) : w.heap.size ≤ gb300)); have n3_ := Aside0.mk ((by rw [hg]; exact (below_size (by repeat (first | (with_reducible first | exact HB.out | apply bA_ | apply bN_ | apply b1_) | exact HB.out))) : w.heap.size ≤ gb300)); clear HB; have HB := n0_; have BK300 := n1_; have GW300 := n2_; have GE300 := n3_; clear n0_ n1_ n2_ n3_; clear hb hbox hg) | ((with_reducible refine gate_callee (f := 51) rfl ?_); refine goesL_ (some 11) rfl rfl Tryz.func51 (by kernel_rfl) rfl #[.int .u8 a0, .bool a1, .slice A2 l2.length c2] rfl (by (try simp only [List.map_toArray, List.map_cons, List.map_nil]); first | done | rfl | (simp only [List.length_drop, List.length_take]; rfl)) ?_; (with_reducible refine (r6_aggregable.calls k a0 a1 _ _ l2 true _ ?side1 ?side2 A4.out).mono ?_); (case side1 => repeat (first | exact (Kd.C_below HR2.out HB.out) | (with_reducible refine Kd.cA_ ?_ _) | (with_reducible refine Kd.cN_ ?_ _) | (with_reducible refine Kd.cD_ ?_))); (case side2 => exact HC2.out); rintro e w16 ⟨rfl, hb⟩; refine ⟨_, rfl, ?_⟩; have n0_ := Aside0.mk (blk_below (g := gb300) (o := .cells #[.int .u8 0, .int .i64 0, .string (⟨#[]⟩ : ByteArray), .int .i64 0] 38 (0, 0)) (by (with_reducible repeat (first | refine blk_drewN ?_ _ | refine blk_drew ?_ | refine blk_alloc ?_ _)); exact BK300.out) hb); have n1_ := Aside0.mk (below_step (by repeat (first | (with_reducible first | exact HB.out | apply bA_ | apply bN_ | apply b1_ | refine below_set ?_ GE300.out) | exact HB.out)) hb); clear BK300; clear HB; have BK300 := n0_; have HB := n1_; clear n0_ n1_; (try clear hb); (try clear hb2); (try clear hk); (try clear hi)) | ((with_reducible refine gate_callee (f := 52) rfl ?_); refine goesL_ (some 22) rfl rfl Tryz.func52 (by kernel_rfl) rfl #[.slice A2 l2.length c2, .bool a1] rfl (by (try simp only [List.map_toArray, List.map_cons, List.map_nil]); first | done | rfl | (simp only [List.length_drop, List.length_take]; rfl)) ?_; (with_reducible refine (r6_counted.calls k _ _ l2 a1 t305 _ ?side1 ?side2 A12.out).mono ?_); (case side1 => repeat (first | exact (Kd.C_below HR2.out HB.out) | (with_reducible refine Kd.cA_ ?_ _) | (with_reducible refine Kd.cN_ ?_ _) | (with_reducible refine Kd.cD_ ?_))); (case side2 => exact HC2.out); rintro e w17 ⟨v306, rfl, ho0, hb⟩; refine ⟨_, rfl, ?_⟩; have n0_ := Aside0.mk (Kd.R_lower ho0 (below_size (by repeat (first | (with_reducible first | exact HB.out | apply bA_ | apply bN_ | apply b1_ | refine below_set ?_ GE300.out) | exact HB.out)))); have n1_ := Aside0.mk (blk_below (g := gb300) (o := .cells #[.int .u8 0, .int .i64 0, .string (⟨#[]⟩ : ByteArray), .int .i64 0] 38 (0, 0)) (by (with_reducible repeat (first | refine blk_drewN ?_ _ | refine blk_drew ?_ | refine blk_alloc ?_ _)); exact BK300.out) hb); have n2_ := Aside0.mk (below_step (by repeat (first | (with_reducible first | exact HB.out | apply bA_ | apply bN_ | apply b1_ | refine below_set ?_ GE300.out) | exact HB.out)) hb); clear BK300; clear HB; have HO307 := n0_; have BK300 := n1_; have HB := n2_; clear n0_ n1_ n2_; (try clear hb); (try clear hb2); (try clear hk); (try clear hi); (try clear ho0); obtain ⟨Ao18, co18, eo18⟩ := Kd.R_slice HO307.out; subst eo18) | ((with_reducible refine gate_callee (f := 43) rfl ?_); refine goesL_ (some 27) rfl rfl Tryz.func43 (by kernel_rfl) rfl #[.int .i64 (t305.length : Int)] rfl (by (try simp only [List.map_toArray, List.map_cons, List.map_nil]); first | done | rfl | (simp only [List.length_drop, List.length_take]; rfl)) ?_; (with_reducible refine (r1_Int.calls (t305.length : Int) t308 t309 t310 _ A14.out).mono ?_); rintro e w19 ⟨rfl, hb⟩; refine ⟨_, rfl, ?_⟩; have n0_ := Aside0.mk (Kd.R_below (by (with_reducible repeat (first | apply Kd.R_alloc | apply Kd.R_drewN | apply Kd.R_drew)); exact HO307.out) hb); have n1_ := Aside0.mk (blk_below (g := gb300) (o := .cells #[.int .u8 0, .int .i64 0, .string (⟨#[]⟩ : ByteArray), .int .i64 0] 38 (0, 0)) (by (with_reducible repeat (first | refine blk_drewN ?_ _ | refine blk_drew ?_ | refine blk_alloc ?_ _)); exact BK300.out) hb); have n2_ := Aside0.mk (below_step (by repeat (first | (with_reducible first | exact HB.out | apply bA_ | apply bN_ | apply b1_ | refine below_set ?_ GE300.out) | exact HB.out)) hb); clear HO307; clear BK300; clear HB; have HO307 := n0_; have BK300 := n1_; have HB := n2_; clear n0_ n1_ n2_; (try clear hb); (try clear hb2); (try clear hk); (try clear hi); have hcz20_0 : w19.cell? ⟨gb300, 0, none⟩ = some (.int .u8 0) := (blk_cell BK300.out 0).trans rfl; have hcz20_1 : w19.cell? ⟨gb300, 1, none⟩ = some (.int .i64 0) := (blk_cell BK300.out 1).trans rfl; have hcz20_2 : w19.cell? ⟨gb300, 2, none⟩ = some (.string (⟨#[]⟩ : ByteArray)) := (blk_cell BK300.out 2).trans rfl; have hcz20_3 : w19.cell? ⟨gb300, 3, none⟩ = some (.int .i64 0) := (blk_cell BK300.out 3).trans rfl; have hfz20_0 := blk_frozen BK300.out 0; have hfz20_1 := blk_frozen BK300.out 1; have hfz20_2 := blk_frozen BK300.out 2; have hfz20_3 := blk_frozen BK300.out 3))
       refine bodyPost_ret (results_cell_row rfl _ _ gb300 38 #[.int .u8 t308, .int .i64 t309, .string t310, .int .i64 0] (0, 0) _ rfl (by (with_reducible repeat (first | refine blk_drewN ?_ _ | refine blk_drew ?_ | refine blk_alloc ?_ _)); refine blk_put (cs := #[.int .u8 t308, .int .i64 t309, .string t310, .int .i64 0]) ?_ 3 _ rfl; (with_reducible repeat (first | refine blk_drewN ?_ _ | refine blk_drew ?_ | refine blk_alloc ?_ _)); refine blk_put (cs := #[.int .u8 t308, .int .i64 t309, .string (⟨#[]⟩ : ByteArray), .int .i64 0]) ?_ 2 _ rfl; (with_reducible repeat (first | refine blk_drewN ?_ _ | refine blk_drew ?_ | refine blk_alloc ?_ _)); refine blk_put (cs := #[.int .u8 t308, .int .i64 0, .string (⟨#[]⟩ : ByteArray), .int .i64 0]) ?_ 1 _ rfl; (with_reducible repeat (first | refine blk_drewN ?_ _ | refine blk_drew ?_ | refine blk_alloc ?_ _)); refine blk_put (cs := #[.int .u8 0, .int .i64 0, .string (⟨#[]⟩ : ByteArray), .int .i64 0]) ?_ 0 _ rfl; (with_reducible repeat (first | refine blk_drewN ?_ _ | refine blk_drew ?_ | refine blk_alloc ?_ _)); exact BK300.out) Tryz.underlying38 rfl (by kernel_rfl)) rfl ?_
       exact ⟨by first | rfl | (simp [*, errW_none, errW_some] <;> rfl), by repeat (first | (with_reducible first | exact HB.out | apply bA_ | apply bN_ | apply b1_ | refine below_set ?_ GE300.out) | exact HB.out)⟩
     · rw [if_neg c13] at H
       have c13b0 : (a0 == 1) = false := beq_eq_false_iff_ne.mpr c13
       have c13b1 : (a0 != 1) = true := bne_iff_ne.mpr c13
       by_cases c21 : (t305.length : Int) = 0
       · rw [if_pos c21] at H
         have c21b0 : ((t305.length : Int) == 0) = true := beq_iff_eq.mpr c21
         have c21b1 : ((t305.length : Int) != 0) = false := bne_eq_false_iff_eq.mpr c21
         clear c21
         simp only [Option.some.injEq, Prod.mk.injEq] at H
         obtain ⟨rfl, rfl, rfl, rfl⟩ := H
         go_enter Tryz.func20, Tryz.ntmps20
         go_wp2_with (first | ((with_reducible refine gate_dst (N := 6) rfl ?_); refine box_event ?hg (N := 6) ?hd (cs := #[.int .u8 0, .int .i64 0, .string (⟨#[]⟩ : ByteArray), .int .i64 0]) (t := 38) ?hr ?_; (case hd => rfl); (case hg => rfl); (case hr => first | (go_simp; done) | (go_simp; rfl)); intro gb300 hg w22 hbox hb; have n0_ := Aside0.mk (below_step (by repeat (first | (with_reducible first | exact HB.out | apply bA_ | apply bN_ | apply b1_) | exact HB.out)) hb); have n1_ := Aside0.mk (hbox); have n2_ := Aside0.mk ((by rw [hg]; exact (below_size (by repeat (first | (with_reducible first | exact HB.out | apply bA_ | apply bN_ | apply b1_) | exact HB.out))) : w.heap.size ≤ gb300)); have n3_ := Aside0.mk ((by rw [hg]; exact (below_size (by repeat (first | (with_reducible first | exact HB.out | apply bA_ | apply bN_ | apply b1_) | exact HB.out))) : w.heap.size ≤ gb300)); clear HB; have HB := n0_; have BK300 := n1_; have GW300 := n2_; have GE300 := n3_; clear n0_ n1_ n2_ n3_; clear hb hbox hg) | ((with_reducible refine gate_callee (f := 51) rfl ?_); refine goesL_ (some 11) rfl rfl Tryz.func51 (by kernel_rfl) rfl #[.int .u8 a0, .bool a1, .slice A2 l2.length c2] rfl (by (try simp only [List.map_toArray, List.map_cons, List.map_nil]); first | done | rfl | (simp only [List.length_drop, List.length_take]; rfl)) ?_; (with_reducible refine (r6_aggregable.calls k a0 a1 _ _ l2 true _ ?side1 ?side2 A4.out).mono ?_); (case side1 => repeat (first | exact (Kd.C_below HR2.out HB.out) | (with_reducible refine Kd.cA_ ?_ _) | (with_reducible refine Kd.cN_ ?_ _) | (with_reducible refine Kd.cD_ ?_))); (case side2 => exact HC2.out); rintro e w23 ⟨rfl, hb⟩; refine ⟨_, rfl, ?_⟩; have n0_ := Aside0.mk (blk_below (g := gb300) (o := .cells #[.int .u8 0, .int .i64 0, .string (⟨#[]⟩ : ByteArray), .int .i64 0] 38 (0, 0)) (by (with_reducible repeat (first | refine blk_drewN ?_ _ | refine blk_drew ?_ | refine blk_alloc ?_ _)); exact BK300.out) hb); have n1_ := Aside0.mk (below_step (by repeat (first | (with_reducible first | exact HB.out | apply bA_ | apply bN_ | apply b1_ | refine below_set ?_ GE300.out) | exact HB.out)) hb); clear BK300; clear HB; have BK300 := n0_; have HB := n1_; clear n0_ n1_; (try clear hb); (try clear hb2); (try clear hk); (try clear hi)) | ((with_reducible refine gate_callee (f := 52) rfl ?_); refine goesL_ (some 22) rfl rfl Tryz.func52 (by kernel_rfl) rfl #[.slice A2 l2.length c2, .bool a1] rfl (by (try simp only [List.map_toArray, List.map_cons, List.map_nil]); first | done | rfl | (simp only [List.length_drop, List.length_take]; rfl)) ?_; (with_reducible refine (r6_counted.calls k _ _ l2 a1 t305 _ ?side1 ?side2 A12.out).mono ?_); (case side1 => repeat (first | exact (Kd.C_below HR2.out HB.out) | (with_reducible refine Kd.cA_ ?_ _) | (with_reducible refine Kd.cN_ ?_ _) | (with_reducible refine Kd.cD_ ?_))); (case side2 => exact HC2.out); rintro e w24 ⟨v306, rfl, ho0, hb⟩; refine ⟨_, rfl, ?_⟩; have n0_ := Aside0.mk (Kd.R_lower ho0 (below_size (by repeat (first | (with_reducible first | exact HB.out | apply bA_ | apply bN_ | apply b1_ | refine below_set ?_ GE300.out) | exact HB.out)))); have n1_ := Aside0.mk (blk_below (g := gb300) (o := .cells #[.int .u8 0, .int .i64 0, .string (⟨#[]⟩ : ByteArray), .int .i64 0] 38 (0, 0)) (by (with_reducible repeat (first | refine blk_drewN ?_ _ | refine blk_drew ?_ | refine blk_alloc ?_ _)); exact BK300.out) hb); have n2_ := Aside0.mk (below_step (by repeat (first | (with_reducible first | exact HB.out | apply bA_ | apply bN_ | apply b1_ | refine below_set ?_ GE300.out) | exact HB.out)) hb); clear BK300; clear HB; have HO307 := n0_; have BK300 := n1_; have HB := n2_; clear n0_ n1_ n2_; (try clear hb); (try clear hb2); (try clear hk); (try clear hi); (try clear ho0); obtain ⟨Ao25, co25, eo25⟩ := Kd.R_slice HO307.out; subst eo25; have hcz26_0 : w24.cell? ⟨gb300, 0, none⟩ = some (.int .u8 0) := (blk_cell BK300.out 0).trans rfl; have hcz26_1 : w24.cell? ⟨gb300, 1, none⟩ = some (.int .i64 0) := (blk_cell BK300.out 1).trans rfl; have hcz26_2 : w24.cell? ⟨gb300, 2, none⟩ = some (.string (⟨#[]⟩ : ByteArray)) := (blk_cell BK300.out 2).trans rfl; have hcz26_3 : w24.cell? ⟨gb300, 3, none⟩ = some (.int .i64 0) := (blk_cell BK300.out 3).trans rfl; have hfz26_0 := blk_frozen BK300.out 0; have hfz26_1 := blk_frozen BK300.out 1; have hfz26_2 := blk_frozen BK300.out 2; have hfz26_3 := blk_frozen BK300.out 3))
         refine bodyPost_ret (results_cell_row rfl _ _ gb300 38 #[.int .u8 0, .int .i64 0, .string (⟨#[]⟩ : ByteArray), .int .i64 0] (0, 0) _ rfl (by (with_reducible repeat (first | refine blk_drewN ?_ _ | refine blk_drew ?_ | refine blk_alloc ?_ _)); refine blk_put (cs := #[.int .u8 0, .int .i64 0, .string (⟨#[]⟩ : ByteArray), .int .i64 0]) ?_ 3 _ rfl; (with_reducible repeat (first | refine blk_drewN ?_ _ | refine blk_drew ?_ | refine blk_alloc ?_ _)); refine blk_put (cs := #[.int .u8 0, .int .i64 0, .string (⟨#[]⟩ : ByteArray), .int .i64 0]) ?_ 2 _ rfl; (with_reducible repeat (first | refine blk_drewN ?_ _ | refine blk_drew ?_ | refine blk_alloc ?_ _)); refine blk_put (cs := #[.int .u8 0, .int .i64 0, .string (⟨#[]⟩ : ByteArray), .int .i64 0]) ?_ 1 _ rfl; (with_reducible repeat (first | refine blk_drewN ?_ _ | refine blk_drew ?_ | refine blk_alloc ?_ _)); refine blk_put (cs := #[.int .u8 0, .int .i64 0, .string (⟨#[]⟩ : ByteArray), .int .i64 0]) ?_ 0 _ rfl; (with_reducible repeat (first | refine blk_drewN ?_ _ | refine blk_drew ?_ | refine blk_alloc ?_ _)); exact BK300.out) Tryz.underlying38 rfl (by kernel_rfl)) rfl ?_
         exact ⟨by first | rfl | (simp [*, errW_none, errW_some] <;> rfl), by repeat (first | (with_reducible first | exact HB.out | apply bA_ | apply bN_ | apply b1_ | refine below_set ?_ GE300.out) | exact HB.out)⟩
       · rw [if_neg c21] at H
         have c21b0 : ((t305.length : Int) == 0) = false := beq_eq_false_iff_ne.mpr c21
         have c21b1 : ((t305.length : Int) != 0) = true := bne_iff_ne.mpr c21
         have c21b2 : ¬ (t305 = []) := fun h_ => c21 (by rw [h_]; rfl)
         by_cases c27 : a0 = 2
         · rw [if_pos c27] at H
           have c27b0 : (a0 == 2) = true := beq_iff_eq.mpr c27
           have c27b1 : (a0 != 2) = false := bne_eq_false_iff_eq.mpr c27
           clear c27
           replace H := Option.bind_eq_some_iff.mp H
           obtain ⟨⟨t311, t312, t313, t314⟩, A280, H⟩ := H
           replace H : (some (t311, t312, t313, t314)) = some (r1, r2, r3, r4) := H
           have A28 := Aside0.mk A280
           clear A280
           simp only [Option.some.injEq, Prod.mk.injEq] at H
           obtain ⟨rfl, rfl, rfl, rfl⟩ := H
           go_enter Tryz.func20, Tryz.ntmps20
           go_wp2_with (first | ((with_reducible refine gate_dst (N := 6) rfl ?_); refine box_event ?hg (N := 6) ?hd (cs := #[.int .u8 0, .int .i64 0, .string (⟨#[]⟩ : ByteArray), .int .i64 0]) (t := 38) ?hr ?_; (case hd => rfl); (case hg => rfl); (case hr => first | (go_simp; done) | (go_simp; rfl)); intro gb300 hg w29 hbox hb; have n0_ := Aside0.mk (below_step (by repeat (first | (with_reducible first | exact HB.out | apply bA_ | apply bN_ | apply b1_) | exact HB.out)) hb); have n1_ := Aside0.mk (hbox); have n2_ := Aside0.mk ((by rw [hg]; exact (below_size (by repeat (first | (with_reducible first | exact HB.out | apply bA_ | apply bN_ | apply b1_) | exact HB.out))) : w.heap.size ≤ gb300)); have n3_ := Aside0.mk ((by rw [hg]; exact (below_size (by repeat (first | (with_reducible first | exact HB.out | apply bA_ | apply bN_ | apply b1_) | exact HB.out))) : w.heap.size ≤ gb300)); clear HB; have HB := n0_; have BK300 := n1_; have GW300 := n2_; have GE300 := n3_; clear n0_ n1_ n2_ n3_; clear hb hbox hg) | ((with_reducible refine gate_callee (f := 51) rfl ?_); refine goesL_ (some 11) rfl rfl Tryz.func51 (by kernel_rfl) rfl #[.int .u8 a0, .bool a1, .slice A2 l2.length c2] rfl (by (try simp only [List.map_toArray, List.map_cons, List.map_nil]); first | done | rfl | (simp only [List.length_drop, List.length_take]; rfl)) ?_; (with_reducible refine (r6_aggregable.calls k a0 a1 _ _ l2 true _ ?side1 ?side2 A4.out).mono ?_); (case side1 => repeat (first | exact (Kd.C_below HR2.out HB.out) | (with_reducible refine Kd.cA_ ?_ _) | (with_reducible refine Kd.cN_ ?_ _) | (with_reducible refine Kd.cD_ ?_))); (case side2 => exact HC2.out); rintro e w30 ⟨rfl, hb⟩; refine ⟨_, rfl, ?_⟩; have n0_ := Aside0.mk (blk_below (g := gb300) (o := .cells #[.int .u8 0, .int .i64 0, .string (⟨#[]⟩ : ByteArray), .int .i64 0] 38 (0, 0)) (by (with_reducible repeat (first | refine blk_drewN ?_ _ | refine blk_drew ?_ | refine blk_alloc ?_ _)); exact BK300.out) hb); have n1_ := Aside0.mk (below_step (by repeat (first | (with_reducible first | exact HB.out | apply bA_ | apply bN_ | apply b1_ | refine below_set ?_ GE300.out) | exact HB.out)) hb); clear BK300; clear HB; have BK300 := n0_; have HB := n1_; clear n0_ n1_; (try clear hb); (try clear hb2); (try clear hk); (try clear hi)) | ((with_reducible refine gate_callee (f := 52) rfl ?_); refine goesL_ (some 22) rfl rfl Tryz.func52 (by kernel_rfl) rfl #[.slice A2 l2.length c2, .bool a1] rfl (by (try simp only [List.map_toArray, List.map_cons, List.map_nil]); first | done | rfl | (simp only [List.length_drop, List.length_take]; rfl)) ?_; (with_reducible refine (r6_counted.calls k _ _ l2 a1 t305 _ ?side1 ?side2 A12.out).mono ?_); (case side1 => repeat (first | exact (Kd.C_below HR2.out HB.out) | (with_reducible refine Kd.cA_ ?_ _) | (with_reducible refine Kd.cN_ ?_ _) | (with_reducible refine Kd.cD_ ?_))); (case side2 => exact HC2.out); rintro e w31 ⟨v306, rfl, ho0, hb⟩; refine ⟨_, rfl, ?_⟩; have n0_ := Aside0.mk (Kd.R_lower ho0 (below_size (by repeat (first | (with_reducible first | exact HB.out | apply bA_ | apply bN_ | apply b1_ | refine below_set ?_ GE300.out) | exact HB.out)))); have n1_ := Aside0.mk (blk_below (g := gb300) (o := .cells #[.int .u8 0, .int .i64 0, .string (⟨#[]⟩ : ByteArray), .int .i64 0] 38 (0, 0)) (by (with_reducible repeat (first | refine blk_drewN ?_ _ | refine blk_drew ?_ | refine blk_alloc ?_ _)); exact BK300.out) hb); have n2_ := Aside0.mk (below_step (by repeat (first | (with_reducible first | exact HB.out | apply bA_ | apply bN_ | apply b1_ | refine below_set ?_ GE300.out) | exact HB.out)) hb); clear BK300; clear HB; have HO307 := n0_; have BK300 := n1_; have HB := n2_; clear n0_ n1_ n2_; (try clear hb); (try clear hb2); (try clear hk); (try clear hi); (try clear ho0); obtain ⟨Ao32, co32, eo32⟩ := Kd.R_slice HO307.out; subst eo32) | ((with_reducible refine gate_callee (f := 53) rfl ?_); refine goesL_ (some 37) rfl rfl Tryz.func53 (by kernel_rfl) rfl #[.slice Ao32 t305.length co32] rfl (by (try simp only [List.map_toArray, List.map_cons, List.map_nil]); first | done | rfl | (simp only [List.length_drop, List.length_take]; rfl)) ?_; (with_reducible refine (r6_sum.calls k _ _ t305 t311 t312 t313 t314 _ ?side1 ?side2 A28.out).mono ?_); (case side1 => repeat (first | exact (Kd.R_reads' HO307.out).2.2 | (with_reducible refine Kd.cA_ ?_ _) | (with_reducible refine Kd.cN_ ?_ _) | (with_reducible refine Kd.cD_ ?_))); (case side2 => exact (Kd.R_reads' HO307.out).2.1); rintro e w33 ⟨rfl, hb⟩; refine ⟨_, rfl, ?_⟩; have n0_ := Aside0.mk (Kd.R_below (by (with_reducible repeat (first | apply Kd.R_alloc | apply Kd.R_drewN | apply Kd.R_drew)); exact HO307.out) hb); have n1_ := Aside0.mk (blk_below (g := gb300) (o := .cells #[.int .u8 0, .int .i64 0, .string (⟨#[]⟩ : ByteArray), .int .i64 0] 38 (0, 0)) (by (with_reducible repeat (first | refine blk_drewN ?_ _ | refine blk_drew ?_ | refine blk_alloc ?_ _)); exact BK300.out) hb); have n2_ := Aside0.mk (below_step (by repeat (first | (with_reducible first | exact HB.out | apply bA_ | apply bN_ | apply b1_ | refine below_set ?_ GE300.out) | exact HB.out)) hb); clear HO307; clear BK300; clear HB; have HO307 := n0_; have BK300 := n1_; have HB := n2_; clear n0_ n1_ n2_; (try clear hb); (try clear hb2); (try clear hk); (try clear hi); have hcz34_0 : w33.cell? ⟨gb300, 0, none⟩ = some (.int .u8 0) := (blk_cell BK300.out 0).trans rfl; have hcz34_1 : w33.cell? ⟨gb300, 1, none⟩ = some (.int .i64 0) := (blk_cell BK300.out 1).trans rfl; have hcz34_2 : w33.cell? ⟨gb300, 2, none⟩ = some (.string (⟨#[]⟩ : ByteArray)) := (blk_cell BK300.out 2).trans rfl; have hcz34_3 : w33.cell? ⟨gb300, 3, none⟩ = some (.int .i64 0) := (blk_cell BK300.out 3).trans rfl; have hfz34_0 := blk_frozen BK300.out 0; have hfz34_1 := blk_frozen BK300.out 1; have hfz34_2 := blk_frozen BK300.out 2; have hfz34_3 := blk_frozen BK300.out 3))
           refine bodyPost_ret (results_cell_row rfl _ _ gb300 38 #[.int .u8 t311, .int .i64 t312, .string t313, .int .i64 t314] (0, 0) _ rfl (by (with_reducible repeat (first | refine blk_drewN ?_ _ | refine blk_drew ?_ | refine blk_alloc ?_ _)); refine blk_put (cs := #[.int .u8 t311, .int .i64 t312, .string t313, .int .i64 0]) ?_ 3 _ rfl; (with_reducible repeat (first | refine blk_drewN ?_ _ | refine blk_drew ?_ | refine blk_alloc ?_ _)); refine blk_put (cs := #[.int .u8 t311, .int .i64 t312, .string (⟨#[]⟩ : ByteArray), .int .i64 0]) ?_ 2 _ rfl; (with_reducible repeat (first | refine blk_drewN ?_ _ | refine blk_drew ?_ | refine blk_alloc ?_ _)); refine blk_put (cs := #[.int .u8 t311, .int .i64 0, .string (⟨#[]⟩ : ByteArray), .int .i64 0]) ?_ 1 _ rfl; (with_reducible repeat (first | refine blk_drewN ?_ _ | refine blk_drew ?_ | refine blk_alloc ?_ _)); refine blk_put (cs := #[.int .u8 0, .int .i64 0, .string (⟨#[]⟩ : ByteArray), .int .i64 0]) ?_ 0 _ rfl; (with_reducible repeat (first | refine blk_drewN ?_ _ | refine blk_drew ?_ | refine blk_alloc ?_ _)); exact BK300.out) Tryz.underlying38 rfl (by kernel_rfl)) rfl ?_
           exact ⟨by first | rfl | (simp [*, errW_none, errW_some] <;> rfl), by repeat (first | (with_reducible first | exact HB.out | apply bA_ | apply bN_ | apply b1_ | refine below_set ?_ GE300.out) | exact HB.out)⟩
         · rw [if_neg c27] at H
           have c27b0 : (a0 == 2) = false := beq_eq_false_iff_ne.mpr c27
           have c27b1 : (a0 != 2) = true := bne_iff_ne.mpr c27
           by_cases c35 : a0 = 3
           · rw [if_pos c35] at H
             have c35b0 : (a0 == 3) = true := beq_iff_eq.mpr c35
             have c35b1 : (a0 != 3) = false := bne_eq_false_iff_eq.mpr c35
             clear c35
             replace H := Option.bind_eq_some_iff.mp H
             obtain ⟨⟨t315, t316, t317, t318⟩, A360, H⟩ := H
             replace H : (some (t315, t316, t317, t318)) = some (r1, r2, r3, r4) := H
             have A36 := Aside0.mk A360
             clear A360
             simp only [Option.some.injEq, Prod.mk.injEq] at H
             obtain ⟨rfl, rfl, rfl, rfl⟩ := H
             go_enter Tryz.func20, Tryz.ntmps20
             go_wp2_with (first | ((with_reducible refine gate_dst (N := 6) rfl ?_); refine box_event ?hg (N := 6) ?hd (cs := #[.int .u8 0, .int .i64 0, .string (⟨#[]⟩ : ByteArray), .int .i64 0]) (t := 38) ?hr ?_; (case hd => rfl); (case hg => rfl); (case hr => first | (go_simp; done) | (go_simp; rfl)); intro gb300 hg w37 hbox hb; have n0_ := Aside0.mk (below_step (by repeat (first | (with_reducible first | exact HB.out | apply bA_ | apply bN_ | apply b1_) | exact HB.out)) hb); have n1_ := Aside0.mk (hbox); have n2_ := Aside0.mk ((by rw [hg]; exact (below_size (by repeat (first | (with_reducible first | exact HB.out | apply bA_ | apply bN_ | apply b1_) | exact HB.out))) : w.heap.size ≤ gb300)); have n3_ := Aside0.mk ((by rw [hg]; exact (below_size (by repeat (first | (with_reducible first | exact HB.out | apply bA_ | apply bN_ | apply b1_) | exact HB.out))) : w.heap.size ≤ gb300)); clear HB; have HB := n0_; have BK300 := n1_; have GW300 := n2_; have GE300 := n3_; clear n0_ n1_ n2_ n3_; clear hb hbox hg) | ((with_reducible refine gate_callee (f := 51) rfl ?_); refine goesL_ (some 11) rfl rfl Tryz.func51 (by kernel_rfl) rfl #[.int .u8 a0, .bool a1, .slice A2 l2.length c2] rfl (by (try simp only [List.map_toArray, List.map_cons, List.map_nil]); first | done | rfl | (simp only [List.length_drop, List.length_take]; rfl)) ?_; (with_reducible refine (r6_aggregable.calls k a0 a1 _ _ l2 true _ ?side1 ?side2 A4.out).mono ?_); (case side1 => repeat (first | exact (Kd.C_below HR2.out HB.out) | (with_reducible refine Kd.cA_ ?_ _) | (with_reducible refine Kd.cN_ ?_ _) | (with_reducible refine Kd.cD_ ?_))); (case side2 => exact HC2.out); rintro e w38 ⟨rfl, hb⟩; refine ⟨_, rfl, ?_⟩; have n0_ := Aside0.mk (blk_below (g := gb300) (o := .cells #[.int .u8 0, .int .i64 0, .string (⟨#[]⟩ : ByteArray), .int .i64 0] 38 (0, 0)) (by (with_reducible repeat (first | refine blk_drewN ?_ _ | refine blk_drew ?_ | refine blk_alloc ?_ _)); exact BK300.out) hb); have n1_ := Aside0.mk (below_step (by repeat (first | (with_reducible first | exact HB.out | apply bA_ | apply bN_ | apply b1_ | refine below_set ?_ GE300.out) | exact HB.out)) hb); clear BK300; clear HB; have BK300 := n0_; have HB := n1_; clear n0_ n1_; (try clear hb); (try clear hb2); (try clear hk); (try clear hi)) | ((with_reducible refine gate_callee (f := 52) rfl ?_); refine goesL_ (some 22) rfl rfl Tryz.func52 (by kernel_rfl) rfl #[.slice A2 l2.length c2, .bool a1] rfl (by (try simp only [List.map_toArray, List.map_cons, List.map_nil]); first | done | rfl | (simp only [List.length_drop, List.length_take]; rfl)) ?_; (with_reducible refine (r6_counted.calls k _ _ l2 a1 t305 _ ?side1 ?side2 A12.out).mono ?_); (case side1 => repeat (first | exact (Kd.C_below HR2.out HB.out) | (with_reducible refine Kd.cA_ ?_ _) | (with_reducible refine Kd.cN_ ?_ _) | (with_reducible refine Kd.cD_ ?_))); (case side2 => exact HC2.out); rintro e w39 ⟨v306, rfl, ho0, hb⟩; refine ⟨_, rfl, ?_⟩; have n0_ := Aside0.mk (Kd.R_lower ho0 (below_size (by repeat (first | (with_reducible first | exact HB.out | apply bA_ | apply bN_ | apply b1_ | refine below_set ?_ GE300.out) | exact HB.out)))); have n1_ := Aside0.mk (blk_below (g := gb300) (o := .cells #[.int .u8 0, .int .i64 0, .string (⟨#[]⟩ : ByteArray), .int .i64 0] 38 (0, 0)) (by (with_reducible repeat (first | refine blk_drewN ?_ _ | refine blk_drew ?_ | refine blk_alloc ?_ _)); exact BK300.out) hb); have n2_ := Aside0.mk (below_step (by repeat (first | (with_reducible first | exact HB.out | apply bA_ | apply bN_ | apply b1_ | refine below_set ?_ GE300.out) | exact HB.out)) hb); clear BK300; clear HB; have HO307 := n0_; have BK300 := n1_; have HB := n2_; clear n0_ n1_ n2_; (try clear hb); (try clear hb2); (try clear hk); (try clear hi); (try clear ho0); obtain ⟨Ao40, co40, eo40⟩ := Kd.R_slice HO307.out; subst eo40) | ((with_reducible refine gate_callee (f := 54) rfl ?_); refine goesL_ (some 41) rfl rfl Tryz.func54 (by kernel_rfl) rfl #[.slice Ao40 t305.length co40, .bool false] rfl (by (try simp only [List.map_toArray, List.map_cons, List.map_nil]); first | done | rfl | (simp only [List.length_drop, List.length_take]; rfl)) ?_; (with_reducible refine (r6_extreme.calls k _ _ t305 false t315 t316 t317 t318 _ ?side1 ?side2 A36.out).mono ?_); (case side1 => repeat (first | exact (Kd.R_reads' HO307.out).2.2 | (with_reducible refine Kd.cA_ ?_ _) | (with_reducible refine Kd.cN_ ?_ _) | (with_reducible refine Kd.cD_ ?_))); (case side2 => exact (Kd.R_reads' HO307.out).2.1); rintro e w41 ⟨rfl, hb⟩; refine ⟨_, rfl, ?_⟩; have n0_ := Aside0.mk (Kd.R_below (by (with_reducible repeat (first | apply Kd.R_alloc | apply Kd.R_drewN | apply Kd.R_drew)); exact HO307.out) hb); have n1_ := Aside0.mk (blk_below (g := gb300) (o := .cells #[.int .u8 0, .int .i64 0, .string (⟨#[]⟩ : ByteArray), .int .i64 0] 38 (0, 0)) (by (with_reducible repeat (first | refine blk_drewN ?_ _ | refine blk_drew ?_ | refine blk_alloc ?_ _)); exact BK300.out) hb); have n2_ := Aside0.mk (below_step (by repeat (first | (with_reducible first | exact HB.out | apply bA_ | apply bN_ | apply b1_ | refine below_set ?_ GE300.out) | exact HB.out)) hb); clear HO307; clear BK300; clear HB; have HO307 := n0_; have BK300 := n1_; have HB := n2_; clear n0_ n1_ n2_; (try clear hb); (try clear hb2); (try clear hk); (try clear hi); have hcz42_0 : w41.cell? ⟨gb300, 0, none⟩ = some (.int .u8 0) := (blk_cell BK300.out 0).trans rfl; have hcz42_1 : w41.cell? ⟨gb300, 1, none⟩ = some (.int .i64 0) := (blk_cell BK300.out 1).trans rfl; have hcz42_2 : w41.cell? ⟨gb300, 2, none⟩ = some (.string (⟨#[]⟩ : ByteArray)) := (blk_cell BK300.out 2).trans rfl; have hcz42_3 : w41.cell? ⟨gb300, 3, none⟩ = some (.int .i64 0) := (blk_cell BK300.out 3).trans rfl; have hfz42_0 := blk_frozen BK300.out 0; have hfz42_1 := blk_frozen BK300.out 1; have hfz42_2 := blk_frozen BK300.out 2; have hfz42_3 := blk_frozen BK300.out 3))
             refine bodyPost_ret (results_cell_row rfl _ _ gb300 38 #[.int .u8 t315, .int .i64 t316, .string t317, .int .i64 t318] (0, 0) _ rfl (by (with_reducible repeat (first | refine blk_drewN ?_ _ | refine blk_drew ?_ | refine blk_alloc ?_ _)); refine blk_put (cs := #[.int .u8 t315, .int .i64 t316, .string t317, .int .i64 0]) ?_ 3 _ rfl; (with_reducible repeat (first | refine blk_drewN ?_ _ | refine blk_drew ?_ | refine blk_alloc ?_ _)); refine blk_put (cs := #[.int .u8 t315, .int .i64 t316, .string (⟨#[]⟩ : ByteArray), .int .i64 0]) ?_ 2 _ rfl; (with_reducible repeat (first | refine blk_drewN ?_ _ | refine blk_drew ?_ | refine blk_alloc ?_ _)); refine blk_put (cs := #[.int .u8 t315, .int .i64 0, .string (⟨#[]⟩ : ByteArray), .int .i64 0]) ?_ 1 _ rfl; (with_reducible repeat (first | refine blk_drewN ?_ _ | refine blk_drew ?_ | refine blk_alloc ?_ _)); refine blk_put (cs := #[.int .u8 0, .int .i64 0, .string (⟨#[]⟩ : ByteArray), .int .i64 0]) ?_ 0 _ rfl; (with_reducible repeat (first | refine blk_drewN ?_ _ | refine blk_drew ?_ | refine blk_alloc ?_ _)); exact BK300.out) Tryz.underlying38 rfl (by kernel_rfl)) rfl ?_
             exact ⟨by first | rfl | (simp [*, errW_none, errW_some] <;> rfl), by repeat (first | (with_reducible first | exact HB.out | apply bA_ | apply bN_ | apply b1_ | refine below_set ?_ GE300.out) | exact HB.out)⟩
           · rw [if_neg c35] at H
             have c35b0 : (a0 == 3) = false := beq_eq_false_iff_ne.mpr c35
             have c35b1 : (a0 != 3) = true := bne_iff_ne.mpr c35
             by_cases c43 : a0 = 4
             · rw [if_pos c43] at H
               have c43b0 : (a0 == 4) = true := beq_iff_eq.mpr c43
               have c43b1 : (a0 != 4) = false := bne_eq_false_iff_eq.mpr c43
               clear c43
               replace H := Option.bind_eq_some_iff.mp H
               obtain ⟨⟨t319, t320, t321, t322⟩, A440, H⟩ := H
               replace H : (some (t319, t320, t321, t322)) = some (r1, r2, r3, r4) := H
               have A44 := Aside0.mk A440
               clear A440
               simp only [Option.some.injEq, Prod.mk.injEq] at H
               obtain ⟨rfl, rfl, rfl, rfl⟩ := H
               go_enter Tryz.func20, Tryz.ntmps20
               go_wp2_with (first | ((with_reducible refine gate_dst (N := 6) rfl ?_); refine box_event ?hg (N := 6) ?hd (cs := #[.int .u8 0, .int .i64 0, .string (⟨#[]⟩ : ByteArray), .int .i64 0]) (t := 38) ?hr ?_; (case hd => rfl); (case hg => rfl); (case hr => first | (go_simp; done) | (go_simp; rfl)); intro gb300 hg w45 hbox hb; have n0_ := Aside0.mk (below_step (by repeat (first | (with_reducible first | exact HB.out | apply bA_ | apply bN_ | apply b1_) | exact HB.out)) hb); have n1_ := Aside0.mk (hbox); have n2_ := Aside0.mk ((by rw [hg]; exact (below_size (by repeat (first | (with_reducible first | exact HB.out | apply bA_ | apply bN_ | apply b1_) | exact HB.out))) : w.heap.size ≤ gb300)); have n3_ := Aside0.mk ((by rw [hg]; exact (below_size (by repeat (first | (with_reducible first | exact HB.out | apply bA_ | apply bN_ | apply b1_) | exact HB.out))) : w.heap.size ≤ gb300)); clear HB; have HB := n0_; have BK300 := n1_; have GW300 := n2_; have GE300 := n3_; clear n0_ n1_ n2_ n3_; clear hb hbox hg) | ((with_reducible refine gate_callee (f := 51) rfl ?_); refine goesL_ (some 11) rfl rfl Tryz.func51 (by kernel_rfl) rfl #[.int .u8 a0, .bool a1, .slice A2 l2.length c2] rfl (by (try simp only [List.map_toArray, List.map_cons, List.map_nil]); first | done | rfl | (simp only [List.length_drop, List.length_take]; rfl)) ?_; (with_reducible refine (r6_aggregable.calls k a0 a1 _ _ l2 true _ ?side1 ?side2 A4.out).mono ?_); (case side1 => repeat (first | exact (Kd.C_below HR2.out HB.out) | (with_reducible refine Kd.cA_ ?_ _) | (with_reducible refine Kd.cN_ ?_ _) | (with_reducible refine Kd.cD_ ?_))); (case side2 => exact HC2.out); rintro e w46 ⟨rfl, hb⟩; refine ⟨_, rfl, ?_⟩; have n0_ := Aside0.mk (blk_below (g := gb300) (o := .cells #[.int .u8 0, .int .i64 0, .string (⟨#[]⟩ : ByteArray), .int .i64 0] 38 (0, 0)) (by (with_reducible repeat (first | refine blk_drewN ?_ _ | refine blk_drew ?_ | refine blk_alloc ?_ _)); exact BK300.out) hb); have n1_ := Aside0.mk (below_step (by repeat (first | (with_reducible first | exact HB.out | apply bA_ | apply bN_ | apply b1_ | refine below_set ?_ GE300.out) | exact HB.out)) hb); clear BK300; clear HB; have BK300 := n0_; have HB := n1_; clear n0_ n1_; (try clear hb); (try clear hb2); (try clear hk); (try clear hi)) | ((with_reducible refine gate_callee (f := 52) rfl ?_); refine goesL_ (some 22) rfl rfl Tryz.func52 (by kernel_rfl) rfl #[.slice A2 l2.length c2, .bool a1] rfl (by (try simp only [List.map_toArray, List.map_cons, List.map_nil]); first | done | rfl | (simp only [List.length_drop, List.length_take]; rfl)) ?_; (with_reducible refine (r6_counted.calls k _ _ l2 a1 t305 _ ?side1 ?side2 A12.out).mono ?_); (case side1 => repeat (first | exact (Kd.C_below HR2.out HB.out) | (with_reducible refine Kd.cA_ ?_ _) | (with_reducible refine Kd.cN_ ?_ _) | (with_reducible refine Kd.cD_ ?_))); (case side2 => exact HC2.out); rintro e w47 ⟨v306, rfl, ho0, hb⟩; refine ⟨_, rfl, ?_⟩; have n0_ := Aside0.mk (Kd.R_lower ho0 (below_size (by repeat (first | (with_reducible first | exact HB.out | apply bA_ | apply bN_ | apply b1_ | refine below_set ?_ GE300.out) | exact HB.out)))); have n1_ := Aside0.mk (blk_below (g := gb300) (o := .cells #[.int .u8 0, .int .i64 0, .string (⟨#[]⟩ : ByteArray), .int .i64 0] 38 (0, 0)) (by (with_reducible repeat (first | refine blk_drewN ?_ _ | refine blk_drew ?_ | refine blk_alloc ?_ _)); exact BK300.out) hb); have n2_ := Aside0.mk (below_step (by repeat (first | (with_reducible first | exact HB.out | apply bA_ | apply bN_ | apply b1_ | refine below_set ?_ GE300.out) | exact HB.out)) hb); clear BK300; clear HB; have HO307 := n0_; have BK300 := n1_; have HB := n2_; clear n0_ n1_ n2_; (try clear hb); (try clear hb2); (try clear hk); (try clear hi); (try clear ho0); obtain ⟨Ao48, co48, eo48⟩ := Kd.R_slice HO307.out; subst eo48) | ((with_reducible refine gate_callee (f := 54) rfl ?_); refine goesL_ (some 45) rfl rfl Tryz.func54 (by kernel_rfl) rfl #[.slice Ao48 t305.length co48, .bool true] rfl (by (try simp only [List.map_toArray, List.map_cons, List.map_nil]); first | done | rfl | (simp only [List.length_drop, List.length_take]; rfl)) ?_; (with_reducible refine (r6_extreme.calls k _ _ t305 true t319 t320 t321 t322 _ ?side1 ?side2 A44.out).mono ?_); (case side1 => repeat (first | exact (Kd.R_reads' HO307.out).2.2 | (with_reducible refine Kd.cA_ ?_ _) | (with_reducible refine Kd.cN_ ?_ _) | (with_reducible refine Kd.cD_ ?_))); (case side2 => exact (Kd.R_reads' HO307.out).2.1); rintro e w49 ⟨rfl, hb⟩; refine ⟨_, rfl, ?_⟩; have n0_ := Aside0.mk (Kd.R_below (by (with_reducible repeat (first | apply Kd.R_alloc | apply Kd.R_drewN | apply Kd.R_drew)); exact HO307.out) hb); have n1_ := Aside0.mk (blk_below (g := gb300) (o := .cells #[.int .u8 0, .int .i64 0, .string (⟨#[]⟩ : ByteArray), .int .i64 0] 38 (0, 0)) (by (with_reducible repeat (first | refine blk_drewN ?_ _ | refine blk_drew ?_ | refine blk_alloc ?_ _)); exact BK300.out) hb); have n2_ := Aside0.mk (below_step (by repeat (first | (with_reducible first | exact HB.out | apply bA_ | apply bN_ | apply b1_ | refine below_set ?_ GE300.out) | exact HB.out)) hb); clear HO307; clear BK300; clear HB; have HO307 := n0_; have BK300 := n1_; have HB := n2_; clear n0_ n1_ n2_; (try clear hb); (try clear hb2); (try clear hk); (try clear hi); have hcz50_0 : w49.cell? ⟨gb300, 0, none⟩ = some (.int .u8 0) := (blk_cell BK300.out 0).trans rfl; have hcz50_1 : w49.cell? ⟨gb300, 1, none⟩ = some (.int .i64 0) := (blk_cell BK300.out 1).trans rfl; have hcz50_2 : w49.cell? ⟨gb300, 2, none⟩ = some (.string (⟨#[]⟩ : ByteArray)) := (blk_cell BK300.out 2).trans rfl; have hcz50_3 : w49.cell? ⟨gb300, 3, none⟩ = some (.int .i64 0) := (blk_cell BK300.out 3).trans rfl; have hfz50_0 := blk_frozen BK300.out 0; have hfz50_1 := blk_frozen BK300.out 1; have hfz50_2 := blk_frozen BK300.out 2; have hfz50_3 := blk_frozen BK300.out 3))
               refine bodyPost_ret (results_cell_row rfl _ _ gb300 38 #[.int .u8 t319, .int .i64 t320, .string t321, .int .i64 t322] (0, 0) _ rfl (by (with_reducible repeat (first | refine blk_drewN ?_ _ | refine blk_drew ?_ | refine blk_alloc ?_ _)); refine blk_put (cs := #[.int .u8 t319, .int .i64 t320, .string t321, .int .i64 0]) ?_ 3 _ rfl; (with_reducible repeat (first | refine blk_drewN ?_ _ | refine blk_drew ?_ | refine blk_alloc ?_ _)); refine blk_put (cs := #[.int .u8 t319, .int .i64 t320, .string (⟨#[]⟩ : ByteArray), .int .i64 0]) ?_ 2 _ rfl; (with_reducible repeat (first | refine blk_drewN ?_ _ | refine blk_drew ?_ | refine blk_alloc ?_ _)); refine blk_put (cs := #[.int .u8 t319, .int .i64 0, .string (⟨#[]⟩ : ByteArray), .int .i64 0]) ?_ 1 _ rfl; (with_reducible repeat (first | refine blk_drewN ?_ _ | refine blk_drew ?_ | refine blk_alloc ?_ _)); refine blk_put (cs := #[.int .u8 0, .int .i64 0, .string (⟨#[]⟩ : ByteArray), .int .i64 0]) ?_ 0 _ rfl; (with_reducible repeat (first | refine blk_drewN ?_ _ | refine blk_drew ?_ | refine blk_alloc ?_ _)); exact BK300.out) Tryz.underlying38 rfl (by kernel_rfl)) rfl ?_
               exact ⟨by first | rfl | (simp [*, errW_none, errW_some] <;> rfl), by repeat (first | (with_reducible first | exact HB.out | apply bA_ | apply bN_ | apply b1_ | refine below_set ?_ GE300.out) | exact HB.out)⟩
             · rw [if_neg c43] at H
               have c43b0 : (a0 == 4) = false := beq_eq_false_iff_ne.mpr c43
               have c43b1 : (a0 != 4) = true := bne_iff_ne.mpr c43
               replace H := Option.bind_eq_some_iff.mp H
               obtain ⟨⟨t323, t324, t325, t326⟩, A510, H⟩ := H
               replace H : (some (t323, t324, t325, t326)) = some (r1, r2, r3, r4) := H
               have A51 := Aside0.mk A510
               clear A510
               simp only [Option.some.injEq, Prod.mk.injEq] at H
               obtain ⟨rfl, rfl, rfl, rfl⟩ := H
               go_enter Tryz.func20, Tryz.ntmps20
               go_wp2_with (first | ((with_reducible refine gate_dst (N := 6) rfl ?_); refine box_event ?hg (N := 6) ?hd (cs := #[.int .u8 0, .int .i64 0, .string (⟨#[]⟩ : ByteArray), .int .i64 0]) (t := 38) ?hr ?_; (case hd => rfl); (case hg => rfl); (case hr => first | (go_simp; done) | (go_simp; rfl)); intro gb300 hg w52 hbox hb; have n0_ := Aside0.mk (below_step (by repeat (first | (with_reducible first | exact HB.out | apply bA_ | apply bN_ | apply b1_) | exact HB.out)) hb); have n1_ := Aside0.mk (hbox); have n2_ := Aside0.mk ((by rw [hg]; exact (below_size (by repeat (first | (with_reducible first | exact HB.out | apply bA_ | apply bN_ | apply b1_) | exact HB.out))) : w.heap.size ≤ gb300)); have n3_ := Aside0.mk ((by rw [hg]; exact (below_size (by repeat (first | (with_reducible first | exact HB.out | apply bA_ | apply bN_ | apply b1_) | exact HB.out))) : w.heap.size ≤ gb300)); clear HB; have HB := n0_; have BK300 := n1_; have GW300 := n2_; have GE300 := n3_; clear n0_ n1_ n2_ n3_; clear hb hbox hg) | ((with_reducible refine gate_callee (f := 51) rfl ?_); refine goesL_ (some 11) rfl rfl Tryz.func51 (by kernel_rfl) rfl #[.int .u8 a0, .bool a1, .slice A2 l2.length c2] rfl (by (try simp only [List.map_toArray, List.map_cons, List.map_nil]); first | done | rfl | (simp only [List.length_drop, List.length_take]; rfl)) ?_; (with_reducible refine (r6_aggregable.calls k a0 a1 _ _ l2 true _ ?side1 ?side2 A4.out).mono ?_); (case side1 => repeat (first | exact (Kd.C_below HR2.out HB.out) | (with_reducible refine Kd.cA_ ?_ _) | (with_reducible refine Kd.cN_ ?_ _) | (with_reducible refine Kd.cD_ ?_))); (case side2 => exact HC2.out); rintro e w53 ⟨rfl, hb⟩; refine ⟨_, rfl, ?_⟩; have n0_ := Aside0.mk (blk_below (g := gb300) (o := .cells #[.int .u8 0, .int .i64 0, .string (⟨#[]⟩ : ByteArray), .int .i64 0] 38 (0, 0)) (by (with_reducible repeat (first | refine blk_drewN ?_ _ | refine blk_drew ?_ | refine blk_alloc ?_ _)); exact BK300.out) hb); have n1_ := Aside0.mk (below_step (by repeat (first | (with_reducible first | exact HB.out | apply bA_ | apply bN_ | apply b1_ | refine below_set ?_ GE300.out) | exact HB.out)) hb); clear BK300; clear HB; have BK300 := n0_; have HB := n1_; clear n0_ n1_; (try clear hb); (try clear hb2); (try clear hk); (try clear hi)) | ((with_reducible refine gate_callee (f := 52) rfl ?_); refine goesL_ (some 22) rfl rfl Tryz.func52 (by kernel_rfl) rfl #[.slice A2 l2.length c2, .bool a1] rfl (by (try simp only [List.map_toArray, List.map_cons, List.map_nil]); first | done | rfl | (simp only [List.length_drop, List.length_take]; rfl)) ?_; (with_reducible refine (r6_counted.calls k _ _ l2 a1 t305 _ ?side1 ?side2 A12.out).mono ?_); (case side1 => repeat (first | exact (Kd.C_below HR2.out HB.out) | (with_reducible refine Kd.cA_ ?_ _) | (with_reducible refine Kd.cN_ ?_ _) | (with_reducible refine Kd.cD_ ?_))); (case side2 => exact HC2.out); rintro e w54 ⟨v306, rfl, ho0, hb⟩; refine ⟨_, rfl, ?_⟩; have n0_ := Aside0.mk (Kd.R_lower ho0 (below_size (by repeat (first | (with_reducible first | exact HB.out | apply bA_ | apply bN_ | apply b1_ | refine below_set ?_ GE300.out) | exact HB.out)))); have n1_ := Aside0.mk (blk_below (g := gb300) (o := .cells #[.int .u8 0, .int .i64 0, .string (⟨#[]⟩ : ByteArray), .int .i64 0] 38 (0, 0)) (by (with_reducible repeat (first | refine blk_drewN ?_ _ | refine blk_drew ?_ | refine blk_alloc ?_ _)); exact BK300.out) hb); have n2_ := Aside0.mk (below_step (by repeat (first | (with_reducible first | exact HB.out | apply bA_ | apply bN_ | apply b1_ | refine below_set ?_ GE300.out) | exact HB.out)) hb); clear BK300; clear HB; have HO307 := n0_; have BK300 := n1_; have HB := n2_; clear n0_ n1_ n2_; (try clear hb); (try clear hb2); (try clear hk); (try clear hi); (try clear ho0); obtain ⟨Ao55, co55, eo55⟩ := Kd.R_slice HO307.out; subst eo55) | ((with_reducible refine gate_callee (f := 55) rfl ?_); refine goesL_ (some 47) rfl rfl Tryz.func55 (by kernel_rfl) rfl #[.slice Ao55 t305.length co55] rfl (by (try simp only [List.map_toArray, List.map_cons, List.map_nil]); first | done | rfl | (simp only [List.length_drop, List.length_take]; rfl)) ?_; (with_reducible refine (r6_average.calls k _ _ t305 t323 t324 t325 t326 _ ?side1 ?side2 A51.out).mono ?_); (case side1 => repeat (first | exact (Kd.R_reads' HO307.out).2.2 | (with_reducible refine Kd.cA_ ?_ _) | (with_reducible refine Kd.cN_ ?_ _) | (with_reducible refine Kd.cD_ ?_))); (case side2 => exact (Kd.R_reads' HO307.out).2.1); rintro e w56 ⟨rfl, hb⟩; refine ⟨_, rfl, ?_⟩; have n0_ := Aside0.mk (Kd.R_below (by (with_reducible repeat (first | apply Kd.R_alloc | apply Kd.R_drewN | apply Kd.R_drew)); exact HO307.out) hb); have n1_ := Aside0.mk (blk_below (g := gb300) (o := .cells #[.int .u8 0, .int .i64 0, .string (⟨#[]⟩ : ByteArray), .int .i64 0] 38 (0, 0)) (by (with_reducible repeat (first | refine blk_drewN ?_ _ | refine blk_drew ?_ | refine blk_alloc ?_ _)); exact BK300.out) hb); have n2_ := Aside0.mk (below_step (by repeat (first | (with_reducible first | exact HB.out | apply bA_ | apply bN_ | apply b1_ | refine below_set ?_ GE300.out) | exact HB.out)) hb); clear HO307; clear BK300; clear HB; have HO307 := n0_; have BK300 := n1_; have HB := n2_; clear n0_ n1_ n2_; (try clear hb); (try clear hb2); (try clear hk); (try clear hi); have hcz57_0 : w56.cell? ⟨gb300, 0, none⟩ = some (.int .u8 0) := (blk_cell BK300.out 0).trans rfl; have hcz57_1 : w56.cell? ⟨gb300, 1, none⟩ = some (.int .i64 0) := (blk_cell BK300.out 1).trans rfl; have hcz57_2 : w56.cell? ⟨gb300, 2, none⟩ = some (.string (⟨#[]⟩ : ByteArray)) := (blk_cell BK300.out 2).trans rfl; have hcz57_3 : w56.cell? ⟨gb300, 3, none⟩ = some (.int .i64 0) := (blk_cell BK300.out 3).trans rfl; have hfz57_0 := blk_frozen BK300.out 0; have hfz57_1 := blk_frozen BK300.out 1; have hfz57_2 := blk_frozen BK300.out 2; have hfz57_3 := blk_frozen BK300.out 3))
               refine bodyPost_ret (results_cell_row rfl _ _ gb300 38 #[.int .u8 t323, .int .i64 t324, .string t325, .int .i64 t326] (0, 0) _ rfl (by (with_reducible repeat (first | refine blk_drewN ?_ _ | refine blk_drew ?_ | refine blk_alloc ?_ _)); refine blk_put (cs := #[.int .u8 t323, .int .i64 t324, .string t325, .int .i64 0]) ?_ 3 _ rfl; (with_reducible repeat (first | refine blk_drewN ?_ _ | refine blk_drew ?_ | refine blk_alloc ?_ _)); refine blk_put (cs := #[.int .u8 t323, .int .i64 t324, .string (⟨#[]⟩ : ByteArray), .int .i64 0]) ?_ 2 _ rfl; (with_reducible repeat (first | refine blk_drewN ?_ _ | refine blk_drew ?_ | refine blk_alloc ?_ _)); refine blk_put (cs := #[.int .u8 t323, .int .i64 0, .string (⟨#[]⟩ : ByteArray), .int .i64 0]) ?_ 1 _ rfl; (with_reducible repeat (first | refine blk_drewN ?_ _ | refine blk_drew ?_ | refine blk_alloc ?_ _)); refine blk_put (cs := #[.int .u8 0, .int .i64 0, .string (⟨#[]⟩ : ByteArray), .int .i64 0]) ?_ 0 _ rfl; (with_reducible repeat (first | refine blk_drewN ?_ _ | refine blk_drew ?_ | refine blk_alloc ?_ _)); exact BK300.out) Tryz.underlying38 rfl (by kernel_rfl)) rfl ?_
               exact ⟨by first | rfl | (simp [*, errW_none, errW_some] <;> rfl), by repeat (first | (with_reducible first | exact HB.out | apply bA_ | apply bN_ | apply b1_ | refine below_set ?_ GE300.out) | exact HB.out)⟩
 · replace c5 := Bool.eq_false_iff.mpr c5
   subst c5
   have H1 : (some (0, 0, (⟨#[]⟩ : ByteArray), 1)) = some (r1, r2, r3, r4) := by rw [if_neg (show ¬ (false = true) by decide)] at H; exact H
   clear H
   have H := H1
   clear H1
   simp only [Option.some.injEq, Prod.mk.injEq] at H
   obtain ⟨rfl, rfl, rfl, rfl⟩ := H
   go_enter Tryz.func20, Tryz.ntmps20
   go_wp2_with (first | ((with_reducible refine gate_dst (N := 6) rfl ?_); refine box_event ?hg (N := 6) ?hd (cs := #[.int .u8 0, .int .i64 0, .string (⟨#[]⟩ : ByteArray), .int .i64 0]) (t := 38) ?hr ?_; (case hd => rfl); (case hg => rfl); (case hr => first | (go_simp; done) | (go_simp; rfl)); intro gb300 hg w58 hbox hb; have n0_ := Aside0.mk (below_step (by repeat (first | (with_reducible first | exact HB.out | apply bA_ | apply bN_ | apply b1_) | exact HB.out)) hb); have n1_ := Aside0.mk (hbox); have n2_ := Aside0.mk ((by rw [hg]; exact (below_size (by repeat (first | (with_reducible first | exact HB.out | apply bA_ | apply bN_ | apply b1_) | exact HB.out))) : w.heap.size ≤ gb300)); have n3_ := Aside0.mk ((by rw [hg]; exact (below_size (by repeat (first | (with_reducible first | exact HB.out | apply bA_ | apply bN_ | apply b1_) | exact HB.out))) : w.heap.size ≤ gb300)); clear HB; have HB := n0_; have BK300 := n1_; have GW300 := n2_; have GE300 := n3_; clear n0_ n1_ n2_ n3_; clear hb hbox hg) | ((with_reducible refine gate_callee (f := 51) rfl ?_); refine goesL_ (some 11) rfl rfl Tryz.func51 (by kernel_rfl) rfl #[.int .u8 a0, .bool a1, .slice A2 l2.length c2] rfl (by (try simp only [List.map_toArray, List.map_cons, List.map_nil]); first | done | rfl | (simp only [List.length_drop, List.length_take]; rfl)) ?_; (with_reducible refine (r6_aggregable.calls k a0 a1 _ _ l2 false _ ?side1 ?side2 A4.out).mono ?_); (case side1 => repeat (first | exact (Kd.C_below HR2.out HB.out) | (with_reducible refine Kd.cA_ ?_ _) | (with_reducible refine Kd.cN_ ?_ _) | (with_reducible refine Kd.cD_ ?_))); (case side2 => exact HC2.out); rintro e w59 ⟨rfl, hb⟩; refine ⟨_, rfl, ?_⟩; have n0_ := Aside0.mk (blk_below (g := gb300) (o := .cells #[.int .u8 0, .int .i64 0, .string (⟨#[]⟩ : ByteArray), .int .i64 0] 38 (0, 0)) (by (with_reducible repeat (first | refine blk_drewN ?_ _ | refine blk_drew ?_ | refine blk_alloc ?_ _)); exact BK300.out) hb); have n1_ := Aside0.mk (below_step (by repeat (first | (with_reducible first | exact HB.out | apply bA_ | apply bN_ | apply b1_ | refine below_set ?_ GE300.out) | exact HB.out)) hb); clear BK300; clear HB; have BK300 := n0_; have HB := n1_; clear n0_ n1_; (try clear hb); (try clear hb2); (try clear hk); (try clear hi); have hcz60_0 : w59.cell? ⟨gb300, 0, none⟩ = some (.int .u8 0) := (blk_cell BK300.out 0).trans rfl; have hcz60_1 : w59.cell? ⟨gb300, 1, none⟩ = some (.int .i64 0) := (blk_cell BK300.out 1).trans rfl; have hcz60_2 : w59.cell? ⟨gb300, 2, none⟩ = some (.string (⟨#[]⟩ : ByteArray)) := (blk_cell BK300.out 2).trans rfl; have hcz60_3 : w59.cell? ⟨gb300, 3, none⟩ = some (.int .i64 0) := (blk_cell BK300.out 3).trans rfl; have hfz60_0 := blk_frozen BK300.out 0; have hfz60_1 := blk_frozen BK300.out 1; have hfz60_2 := blk_frozen BK300.out 2; have hfz60_3 := blk_frozen BK300.out 3))
   refine bodyPost_ret (results_cell_row rfl _ _ gb300 38 #[.int .u8 0, .int .i64 0, .string (⟨#[]⟩ : ByteArray), .int .i64 1] (0, 0) _ rfl (by (with_reducible repeat (first | refine blk_drewN ?_ _ | refine blk_drew ?_ | refine blk_alloc ?_ _)); refine blk_put (cs := #[.int .u8 0, .int .i64 0, .string (⟨#[]⟩ : ByteArray), .int .i64 0]) ?_ 3 _ rfl; (with_reducible repeat (first | refine blk_drewN ?_ _ | refine blk_drew ?_ | refine blk_alloc ?_ _)); refine blk_put (cs := #[.int .u8 0, .int .i64 0, .string (⟨#[]⟩ : ByteArray), .int .i64 0]) ?_ 2 _ rfl; (with_reducible repeat (first | refine blk_drewN ?_ _ | refine blk_drew ?_ | refine blk_alloc ?_ _)); refine blk_put (cs := #[.int .u8 0, .int .i64 0, .string (⟨#[]⟩ : ByteArray), .int .i64 0]) ?_ 1 _ rfl; (with_reducible repeat (first | refine blk_drewN ?_ _ | refine blk_drew ?_ | refine blk_alloc ?_ _)); refine blk_put (cs := #[.int .u8 0, .int .i64 0, .string (⟨#[]⟩ : ByteArray), .int .i64 0]) ?_ 0 _ rfl; (with_reducible repeat (first | refine blk_drewN ?_ _ | refine blk_drew ?_ | refine blk_alloc ?_ _)); exact BK300.out) Tryz.underlying38 rfl (by kernel_rfl)) rfl ?_
   exact ⟨by first | rfl | (simp [*, errW_none, errW_some] <;> rfl), by repeat (first | (with_reducible first | exact HB.out | apply bA_ | apply bN_ | apply b1_ | refine below_set ?_ GE300.out) | exact HB.out)⟩
end Go.Proofs.YtecgkcgfeghhgaaGreatDoor.PAll
