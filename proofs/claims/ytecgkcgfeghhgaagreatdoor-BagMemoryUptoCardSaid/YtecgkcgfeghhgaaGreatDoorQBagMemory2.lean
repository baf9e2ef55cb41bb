/- What the last of these texts proves is told there. Joined by a program of this session out of its texts. -/
import Derived.Test.YtecgkcgfeghhgaaGreatDoorQBagMemory1
import Derived.Below
import Derived.Deep.Draws
import Derived.Deep.AppendLies
import Derived.Maps.AppendAt
import Derived.OwnWalk
import Derived.Laws.BytesArg
import Derived.Laws.MakeOwn
import Derived.Laws.OwnMore
import Derived.Deep.OwnRows
import Derived.Tactics
import Derived.Lib.ConvBytes
import Derived.Laws.Slices
import Derived.WalkKit
import Derived.KernelRfl
import Derived.RowKit3
import Derived.Deep.LoopGhost
import Derived.Deep.QuietTactic
import Derived.BigQuiet
import Derived.WideLaws
import Derived.Deep.DeepCutAuto
import Derived.Deep.CutBlock
import Derived.Deep.RegionHeld3
import Derived.Laws.Rows
import Derived.Lib.AppendStr
import Derived.ArgAppend
import Derived.Laws.IdiomCopy
import Derived.RowKit
import Derived.OrdersHeld
import Derived.Laws.BitsLemmas
import Derived.Laws.StructEq
import Derived.Shelf.Strings.BuilderK
import Derived.Shelf.Spec.SlicesGrow
import Derived.Shelf.SlGeneric
import Derived.Ground.Names8Prog
import Derived.Shelf.SlSortCmp.NoneTotal
import Derived.Ground.SlsfProg
import Derived.Ground.NamesProg
import Derived.Shelf.Spec.BitsCarry
import Derived.Ground.Names7Prog
import Derived.Shelf.Strings.Builder1
import Derived.Shelf.Small.Bits
import Derived.Shelf.Small.Strs
import Derived.Shelf.Strings.BuilderF
import Derived.Shelf.Strconv.Itoa0
import Derived.Shelf.Strconv.Itoa1
import Derived.Shelf.LaysM
import Derived.Shelf.Strconv.Itoa2
import Derived.Shelf.Strconv.Itoa3
import Derived.Shelf.Strconv.Itoa4
import Derived.Shelf.Strings.BuilderCap
import Derived.Maps.OwnOps
import Derived.ChangeArms
import Derived.Deep.Slices
import Derived.Deep.Strs
import Derived.Lib.ItoaLen
import Derived.BigRegion
import Derived.RegionTactic
set_option maxHeartbeats 8000000
set_option maxRecDepth 100000
set_option linter.unusedVariables false
namespace Go.Proofs.YtecgkcgfeghhgaaGreatDoor.Bld
open Go.RowKit Go.Shelf
theorem sizeBuilder : ∃ j : TypeInfo, Tryz.prog.info? 103 = some j ∧ j.size = 2 := by
 have h : (Tryz.prog.info? 103).map (fun i => i.size) = some 2 := by kernel_rfl
 obtain ⟨j, hj, hs⟩ := Option.map_eq_some_iff.1 h
 exact ⟨j, hj, hs⟩
theorem infoByte : (Tryz.prog.info? 5).map (fun i => (i.zero, i.size, i.bytes)) = some (some (.int .u8 0), 1, 1) := by kernel_rfl
theorem copyCheck_fresh (b : Nat) (w : World) (h0 : w.cell? ⟨b, 0, none⟩ = some (.pointer none)) (hsh : w.shape? b = some (103, 2)) (hfz : w.frozen? ⟨b, 0, none⟩ = false) :
 Calls Tryz.prog 93 #[.pointer (some ⟨b, 0, none⟩)] w fun e w' => e = .returned (.tuple #[]) ∧ w' = w.setCell ⟨b, 0, none⟩ (.pointer (some ⟨b, 0, none⟩)) := by
 obtain ⟨j, hj, hjs⟩ := sizeBuilder
 go_enter Tryz.func93, Tryz.ntmps93
 go_wp2
 rw [Lib.run_to_unsafe w ⟨b, 0, none⟩ Tryz.underlying100 Tryz.underlying144 hj (by rw [hjs]; decide) hsh (Nat.zero_lt_succ 1)]
 simp only [Result.andThen]
 rw [Oper.upon_value]
 go_wp2
 rw [run_callFunc_extern Tryz.func108 (by kernel_rfl) (by kernel_rfl) (by kernel_rfl) (e := Extern.AbiNoEscape.same) (by kernel_rfl)]
 rw [Lib.run_noEscape]
 simp only [Result.andThen]
 rw [Oper.upon_value]
 go_wp2
 rw [Lib.run_from_unsafe w ⟨b, 0, none⟩ Tryz.underlying144 Tryz.underlying100 hj hsh (by kernel_rfl)]
 simp only [Result.andThen]
 rw [Oper.upon_value]
 go_wp2
 go_end0
 exact ⟨rfl, rfl⟩
theorem copyCheck_used (b : Nat) (w : World) (h0 : w.cell? ⟨b, 0, none⟩ = some (.pointer (some ⟨b, 0, none⟩))) :
 Calls Tryz.prog 93 #[.pointer (some ⟨b, 0, none⟩)] w fun e w' => e = .returned (.tuple #[]) ∧ w' = w := by
 obtain ⟨j, hj, _⟩ := sizeBuilder
 go_enter Tryz.func93, Tryz.ntmps93
 go_wp2
 rw [Lib.run_neq_ptr_same w _ Tryz.underlying100 hj]
 go_wp2
 go_end0
 exact ⟨rfl, rfl⟩
theorem copyCheck (B b : Nat) (bs : List Value) (w : World) (h : Lib.IsBuilderF 103 5 B b bs w) :
 Calls Tryz.prog 93 #[.pointer (some ⟨b, 0, none⟩)] w fun e w' => e = .returned (.tuple #[]) ∧ (Lib.BuilderAtF 103 5 B b (.pointer (some ⟨b, 0, none⟩)) bs w' ∧ Below B w w' ∧ Lib.OthersKept 5 (some b) w w') := by
 rcases h with h | h
 · refine (copyCheck_fresh b w h.cell0 h.shape h.frozen0).mono ?_
   rintro e w' ⟨rfl, rfl⟩
   exact ⟨rfl, h.used _, (Below.refl B w).setCell (p := ⟨b, 0, none⟩) h.1 _, (Lib.OthersKept.refl _ _ w).setCell ⟨b, 0, none⟩ rfl _⟩
 · refine (copyCheck_used b w h.cell0).mono ?_
   rintro e w' ⟨rfl, rfl⟩
   exact ⟨rfl, h, Below.refl B _, Lib.OthersKept.refl _ _ _⟩
theorem WriteByte (B b : Nat) (bs : List Value) (c : Int) (w : World) (h : Lib.IsBuilderF 103 5 B b bs w) (hlen : bs.length + 1 ≤ 140737488355328) (hBw : B ≤ w.heap.size) :
 Calls Tryz.prog 75 #[.pointer (some ⟨b, 0, none⟩), .int .u8 c] w fun e w' => e = .returned .nilIface ∧ (Lib.BuilderAtF 103 5 B b (.pointer (some ⟨b, 0, none⟩)) (bs ++ [.int .u8 c]) w' ∧ Below B w w' ∧ Lib.OthersKept 5 (some b) w w') := by
 obtain ⟨i0, hi, hz0, hz1, hz2⟩ := info_parts infoByte
 go_enter Tryz.func75, Tryz.ntmps75
 go_wp2_with (go_at_call 93; refine (copyCheck B b bs _ h).mono ?_)
 rintro e w1 ⟨rfl, h1, hb1, hk1⟩
 obtain ⟨hB, v, hbk, hown, hne⟩ := h1
 have c0 : w1.cell? ⟨b, 0, none⟩ = some (.pointer (some ⟨b, 0, none⟩)) := by rw [Lib.cell_of_heap hbk]; rfl
 have c1 : w1.cell? ⟨b, 1, none⟩ = some v := by rw [Lib.cell_of_heap hbk]; rfl
 go_wp2_with (at_builtin; refine wpList_append_ownF _ rfl _ _ 101 rfl B 5 i0 (.int .u8 0) 1 1 Tryz.underlying101 hi hz0 hz1 hz2 rfl (by decide) _ _ _ rfl (hown.alloc _) ⟨w1.heap.size, 0, none⟩ 1 1 [.int .u8 c] rfl rfl ?c1 ?c2 ?c3 ?c4 ?c5 ?_)
 case c1 =>
  intro j u hj
  match j, hj with
  | 0, hj => simp at hj; subst hj; simp [Addr.add]
 case c2 => intro u hu; simp at hu; subst hu; rfl
 case c3 => unfold maxLen; omega
 case c4 => omega
 case c5 => have := hb1.size; simp; omega
 intro v' w2 hown' hgrow _
 have hlt : b < w1.heap.size := by
  rcases Nat.lt_or_ge b w1.heap.size with h' | h'
  · exact h'
  · simp [Array.getElem?_eq_none h'] at hbk
 have hb2 : w2.heap[b]? = some (.cells #[.pointer (some ⟨b, 0, none⟩), v] 103 (0, 0)) := by
  rw [hgrow.block b (by simp; omega) (fun e => hne e.symm), Lib.alloc_old w1 _ b hlt]
  exact hbk
 have d0 : w2.cell? ⟨b, 0, none⟩ = some (.pointer (some ⟨b, 0, none⟩)) := by rw [Lib.cell_of_heap hb2]; rfl
 have d1 : w2.cell? ⟨b, 1, none⟩ = some v := by rw [Lib.cell_of_heap hb2]; rfl
 have f1 : w2.frozen? ⟨b, 1, none⟩ = false := Lib.frozen_of_heap hb2 1
 obtain ⟨g, cap, rfl⟩ : ∃ g cap, v' = .slice (some ⟨g, 0, none⟩) (bs.length + 1) cap := by
  rcases hown'.2 with ⟨_, h0⟩ | ⟨g, cap, cur, fz, hv, _⟩
  · omega
  · exact ⟨g, cap, hv⟩
 go_wp2
 go_ret
 refine ⟨rfl, ?_, ?_, ((hk1.alloc _).grown hgrow (Lib.ownsRowF_kind (hown.alloc _))).setCell ⟨b, 1, none⟩ rfl _⟩
 · exact Lib.BuilderAtF.put (T := 103) (e := 5) hB hb2 (bs' := bs ++ [.int .u8 c]) (by simpa using hown') (by decide)
 · exact ((hb1.alloc (by have := hb1.size; omega) _).grown hgrow (by have := hb1.size; simp; omega) (fun k hk => (hown.lt k hk).1)).setCell (p := ⟨b, 1, none⟩) hB _
theorem WriteString (B b : Nat) (bs : List Value) (s : ByteArray) (w : World) (h : Lib.IsBuilderF 103 5 B b bs w) (hlen : bs.length + s.size ≤ 140737488355328) (hBw : B ≤ w.heap.size) :
 Calls Tryz.prog 73 #[.pointer (some ⟨b, 0, none⟩), .string s] w fun e w' => e = .returned (.tuple #[.int .i64 s.size, .nilIface]) ∧ (Lib.BuilderAtF 103 5 B b (.pointer (some ⟨b, 0, none⟩)) (bs ++ Lib.strCells s) w' ∧ Below B w w' ∧ Lib.OthersKept 5 (some b) w w') := by
 obtain ⟨i0, hi, hz0, hz1, hz2⟩ := info_parts infoByte
 go_enter Tryz.func73, Tryz.ntmps73
 go_wp2_with (go_at_call 93; refine (copyCheck B b bs _ h).mono ?_)
 rintro e w1 ⟨rfl, h1, hb1, hk1⟩
 obtain ⟨hB, v, hbk, hown, hne⟩ := h1
 have c0 : w1.cell? ⟨b, 0, none⟩ = some (.pointer (some ⟨b, 0, none⟩)) := by rw [Lib.cell_of_heap hbk]; rfl
 have c1 : w1.cell? ⟨b, 1, none⟩ = some v := by rw [Lib.cell_of_heap hbk]; rfl
 go_wp2_with (at_builtin; refine Lib.wpList_append_own_stringF _ rfl _ _ 101 9 rfl B 5 i0 Tryz.underlying101 Tryz.underlying9 hi hz0 hz1 hz2 _ _ _ rfl hown s rfl ?c3 ?c4 ?c5 ?_)
 case c3 => unfold maxLen; omega
 case c4 => omega
 case c5 => have := hb1.size; omega
 intro v' w2 hown' hgrow _
 have hlt : b < w1.heap.size := by
  rcases Nat.lt_or_ge b w1.heap.size with h' | h'
  · exact h'
  · simp [Array.getElem?_eq_none h'] at hbk
 have hb2 : w2.heap[b]? = some (.cells #[.pointer (some ⟨b, 0, none⟩), v] 103 (0, 0)) := by
  rw [hgrow.block b hlt (fun e => hne e.symm)]
  exact hbk
 have d0 : w2.cell? ⟨b, 0, none⟩ = some (.pointer (some ⟨b, 0, none⟩)) := by rw [Lib.cell_of_heap hb2]; rfl
 have d1 : w2.cell? ⟨b, 1, none⟩ = some v := by rw [Lib.cell_of_heap hb2]; rfl
 have f1 : w2.frozen? ⟨b, 1, none⟩ = false := Lib.frozen_of_heap hb2 1
 obtain ⟨ao, n', cap, rfl⟩ : ∃ ao n' cap, v' = .slice ao n' cap := by
  rcases hown'.2 with ⟨hv, _⟩ | ⟨g, cap, cur, fz, hv, _⟩
  · exact ⟨_, _, _, hv⟩
  · exact ⟨_, _, _, hv⟩
 go_wp2
 go_ret2
 refine ⟨rfl, ?_, ?_, (hk1.grown hgrow (Lib.ownsRowF_kind hown)).setCell ⟨b, 1, none⟩ rfl _⟩
 · exact Lib.BuilderAtF.put (T := 103) (e := 5) hB hb2 (bs' := bs ++ Lib.strCells s) (by simpa [Lib.strCells_length] using hown') (by decide)
 · exact (hb1.grown hgrow (by have := hb1.size; omega) (fun k hk => (hown.lt k hk).1)).setCell (p := ⟨b, 1, none⟩) hB _
end Go.Proofs.YtecgkcgfeghhgaaGreatDoor.Bld
namespace Go.Proofs
open Go.Shelf
def Tryz.lays169_ren : Go.Shelf.Ren := ⟨fun | 169 => 77 | n => n, fun | 70 => 100 | 9 => 9 | 0 => 0 | 72 => 103 | 37 => 101 | 127 => 134 | 3 => 3 | 5 => 5 | n => n, fun | n => n⟩
theorem Tryz.lays169 : Go.Proofs.Lays.n169 Tryz.prog Tryz.lays169_ren := {
 mixed := by kernel_rfl
 f169 := Tryz.func77.trans (congrArg some (by kernel_rfl))
 t0 := Tryz.underlying0
 a0 := Tryz.isAgg0
 z0 := Tryz.sizeOf0
 v0 := Tryz.zeroValue0
 t3 := Tryz.underlying3
 a3 := Tryz.isAgg3
 z3 := Tryz.sizeOf3
 v3 := Tryz.zeroValue3
 t9 := Tryz.underlying9
 a9 := Tryz.isAgg9
 z9 := Tryz.sizeOf9
 v9 := Tryz.zeroValue9
 t37 := Tryz.underlying101
 a37 := Tryz.isAgg101
 z37 := Tryz.sizeOf101
 v37 := Tryz.zeroValue101
 t70 := Tryz.underlying100
 a70 := Tryz.isAgg100
 z70 := Tryz.sizeOf100
 v70 := Tryz.zeroValue100
 t72 := Tryz.underlying103
 a72 := Tryz.isAgg103
 z72 := Tryz.sizeOf103
 v72 := Tryz.zeroValue103
 t127 := Tryz.underlying134
 a127 := Tryz.isAgg134
 z127 := Tryz.sizeOf134
 v127 := Tryz.zeroValue134 }
theorem Tryz.Builder_Extra_169 : Builder.Extra Tryz.prog Tryz.lays169_ren := {
 sizeBuilder := by kernel_rfl
 liesBuilder := by kernel_rfl
 t5 := Tryz.underlying5
 a5 := Tryz.isAgg5
 z5 := Tryz.sizeOf5
 v5 := Tryz.zeroValue5
 infoByte := by kernel_rfl
 cellsByte := by kernel_rfl
 sizeByte := by kernel_rfl
 neB5 := by decide }
def Tryz.lays134_ren : Go.Shelf.Ren := ⟨fun | 134 => 164 | 129 => 122 | n => n, fun | 53 => 99 | 3 => 3 | 4 => 4 | 46 => 118 | 5 => 5 | 9 => 9 | n => n, fun | n => n⟩
theorem Tryz.lays134 : Go.Proofs.Lays.n134 Tryz.prog Tryz.lays134_ren := {
 mixed := by kernel_rfl
 f129 := Tryz.func122.trans (congrArg some (by kernel_rfl))
 f134 := Tryz.func164.trans (congrArg some (by kernel_rfl))
 t3 := Tryz.underlying3
 a3 := Tryz.isAgg3
 z3 := Tryz.sizeOf3
 v3 := Tryz.zeroValue3
 t4 := Tryz.underlying4
 a4 := Tryz.isAgg4
 z4 := Tryz.sizeOf4
 v4 := Tryz.zeroValue4
 t5 := Tryz.underlying5
 a5 := Tryz.isAgg5
 z5 := Tryz.sizeOf5
 v5 := Tryz.zeroValue5
 t9 := Tryz.underlying9
 a9 := Tryz.isAgg9
 z9 := Tryz.sizeOf9
 v9 := Tryz.zeroValue9
 t46 := Tryz.underlying118
 a46 := Tryz.isAgg118
 z46 := Tryz.sizeOf118
 v46 := Tryz.zeroValue118
 t53 := Tryz.underlying99
 a53 := Tryz.isAgg99
 z53 := Tryz.sizeOf99
 v53 := Tryz.zeroValue99 }
theorem Tryz.bits_LeadingZeros64 (x : Int) (w : World) (h0 : 0 ≤ x) (h1 : x ≤ 18446744073709551615) :
 Calls Tryz.prog 164 #[.int .u64 x] w fun e w' => e = .returned (.int .i64 (64 - (Lib.bitLen x.toNat : Int))) ∧ w' = w := Any.bits_LeadingZeros64 Tryz.lays134 x w h0 h1
def Tryz.lays106_ren : Go.Shelf.Ren := ⟨fun | 106 => 105 | 213 => 126 | 265 => 136 | n => n, fun | 9 => 9 | 3 => 3 | n => n, fun | n => n⟩
theorem Tryz.lays106 : Go.Proofs.Lays.n106 Tryz.prog Tryz.lays106_ren := {
 mixed := by kernel_rfl
 f106 := Tryz.func105.trans (congrArg some (by kernel_rfl))
 f213 := Tryz.func126.trans (congrArg some (by kernel_rfl))
 f265 := Tryz.func136.trans (congrArg some (by kernel_rfl))
 t3 := Tryz.underlying3
 a3 := Tryz.isAgg3
 z3 := Tryz.sizeOf3
 v3 := Tryz.zeroValue3
 t9 := Tryz.underlying9
 a9 := Tryz.isAgg9
 z9 := Tryz.sizeOf9
 v9 := Tryz.zeroValue9 }
open Go.RowKit in
theorem Tryz.strings_Compare (a b : ByteArray) (w : World) :
 Calls Tryz.prog 105 #[.string a, .string b] w fun e w' => e = .returned (.int .i64 (Lib.compareBytes a.data.toList b.data.toList)) ∧ w' = w := Any.strings_Compare Tryz.lays106 a b w
open Go.RowKit in
theorem Tryz.Builder_String_any_k (B b : Nat) (l : List UInt8) (w : World) (h : Lib.IsBuilderF 103 5 B b (Lib.byteCells l) w) (hBw : B ≤ w.heap.size) :
 Calls Tryz.prog 77 #[.pointer (some ⟨b, 0, none⟩)] w fun e w' => e = .returned (.string ⟨l.toArray⟩) ∧ (Lib.IsBuilderF 103 5 B b (Lib.byteCells l) w' ∧ Below B w w' ∧ Lib.OthersKept 5 (some b) w w') := Any.Builder_String_any_k Tryz.lays169 Tryz.Builder_Extra_169 B b l w h hBw
def Tryz.laysM171_ren : Go.Shelf.Ren := ⟨fun | 171 => 74 | 243 => 94 | 246 => 95 | 283 => 109 | 284 => 110 | 285 => 111 | 286 => 112 | 129 => 122 | 317 => 127 | 318 => 128 | 319 => 129 | 320 => 130 | 337 => 137 | 338 => 138 | n => n, fun | 3 => 3 | 9 => 9 | 2 => 2 | 4 => 4 | 171 => 146 | 0 => 0 | 53 => 99 | 37 => 101 | 5 => 5 | 173 => 149 | 212 => 165 | 51 => 160 | 20 => 20 | 213 => 166 | 46 => 118 | 232 => 177 | 233 => 178 | n => n, fun | 17 => 0 | 18 => 2 | 19 => 3 | n => n⟩
theorem Tryz.laysM171 : Go.Proofs.LaysM.n171 Tryz.prog Tryz.laysM171_ren := {
 mixed := by kernel_rfl
 f129 := Tryz.func122.trans (congrArg some (by kernel_rfl))
 f171 := Tryz.func74.trans (congrArg some (by kernel_rfl))
 f243 := Tryz.func94.trans (congrArg some (by kernel_rfl))
 f246 := Tryz.func95.trans (congrArg some (by kernel_rfl))
 f283 := Tryz.func109.trans (congrArg some (by kernel_rfl))
 f284 := Tryz.func110.trans (congrArg some (by kernel_rfl))
 f285 := Tryz.func111.trans (congrArg some (by kernel_rfl))
 f286 := Tryz.func112.trans (congrArg some (by kernel_rfl))
 f317 := Tryz.func127.trans (congrArg some (by kernel_rfl))
 f318 := Tryz.func128.trans (congrArg some (by kernel_rfl))
 f319 := Tryz.func129.trans (congrArg some (by kernel_rfl))
 f320 := Tryz.func130.trans (congrArg some (by kernel_rfl))
 f337 := Tryz.func137.trans (congrArg some (by kernel_rfl))
 f338 := Tryz.func138.trans (congrArg some (by kernel_rfl))
 t0 := Tryz.underlying0
 a0 := Tryz.isAgg0
 z0 := Tryz.sizeOf0
 v0 := Tryz.zeroValue0
 t2 := Tryz.underlying2
 a2 := Tryz.isAgg2
 z2 := Tryz.sizeOf2
 v2 := Tryz.zeroValue2
 t3 := Tryz.underlying3
 a3 := Tryz.isAgg3
 z3 := Tryz.sizeOf3
 v3 := Tryz.zeroValue3
 t4 := Tryz.underlying4
 a4 := Tryz.isAgg4
 z4 := Tryz.sizeOf4
 v4 := Tryz.zeroValue4
 t5 := Tryz.underlying5
 a5 := Tryz.isAgg5
 z5 := Tryz.sizeOf5
 v5 := Tryz.zeroValue5
 t9 := Tryz.underlying9
 a9 := Tryz.isAgg9
 z9 := Tryz.sizeOf9
 v9 := Tryz.zeroValue9
 t20 := Tryz.underlying20
 a20 := Tryz.isAgg20
 z20 := Tryz.sizeOf20
 v20 := Tryz.zeroValue20
 t37 := Tryz.underlying101
 a37 := Tryz.isAgg101
 z37 := Tryz.sizeOf101
 v37 := Tryz.zeroValue101
 t46 := Tryz.underlying118
 a46 := Tryz.isAgg118
 z46 := Tryz.sizeOf118
 v46 := Tryz.zeroValue118
 t51 := Tryz.underlying160
 a51 := Tryz.isAgg160
 z51 := Tryz.sizeOf160
 v51 := Tryz.zeroValue160
 t53 := Tryz.underlying99
 a53 := Tryz.isAgg99
 z53 := Tryz.sizeOf99
 v53 := Tryz.zeroValue99
 t171 := Tryz.underlying146
 a171 := Tryz.isAgg146
 z171 := Tryz.sizeOf146
 v171 := Tryz.zeroValue146
 t173 := Tryz.underlying149
 a173 := Tryz.isAgg149
 z173 := Tryz.sizeOf149
 v173 := Tryz.zeroValue149
 t212 := Tryz.underlying165
 a212 := Tryz.isAgg165
 z212 := Tryz.sizeOf165
 v212 := Tryz.zeroValue165
 t213 := Tryz.underlying166
 a213 := Tryz.isAgg166
 z213 := Tryz.sizeOf166
 t232 := Tryz.underlying177
 a232 := Tryz.isAgg177
 z232 := Tryz.sizeOf177
 v232 := Tryz.zeroValue177
 t233 := Tryz.underlying178
 a233 := Tryz.isAgg178
 z233 := Tryz.sizeOf178
 v233 := Tryz.zeroValue178
 g17 := by kernel_rfl
 g18 := by kernel_rfl
 g19 := by kernel_rfl
 i0 := by kernel_rfl
 i2 := by kernel_rfl
 i3 := by kernel_rfl
 i4 := by kernel_rfl
 i5 := by kernel_rfl
 i9 := by kernel_rfl
 i20 := by kernel_rfl
 i37 := by kernel_rfl
 i46 := by kernel_rfl
 i51 := by kernel_rfl
 i53 := by kernel_rfl
 i171 := by kernel_rfl
 i173 := by kernel_rfl
 i212 := by kernel_rfl
 i232 := by kernel_rfl
 i233 := by kernel_rfl
 m17 := by kernel_rfl
 m18 := by kernel_rfl
 m19 := by kernel_rfl }
open Go.RowKit Go.Sort Go.Lib in
theorem Tryz.strconv_Itoa (n : Int) (h0 : -9223372036854775808 ≤ n) (h1 : n ≤ 9223372036854775807) (w : World) (htab : Lib.TabIs Tryz.prog w "internal/strconv.uint64pow10" .u64 Lib.pow10Tab) :
 Calls Tryz.prog 74 #[.int .i64 n] w fun e w' => e = .returned (.string ⟨(Lib.itoa n).toArray⟩) ∧ ∃ k os, w' = grow (w.drewN k) os := Any.strconv_Itoa Tryz.laysM171 n h0 h1 w htab
def Tryz.laysM173_ren : Go.Shelf.Ren := ⟨fun | 173 => 76 | 246 => 95 | 283 => 109 | 284 => 110 | 285 => 111 | 286 => 112 | 129 => 122 | 317 => 127 | 318 => 128 | 319 => 129 | 320 => 130 | 337 => 137 | 338 => 138 | n => n, fun | 2 => 2 | 3 => 3 | 9 => 9 | 4 => 4 | 171 => 146 | 0 => 0 | 53 => 99 | 37 => 101 | 5 => 5 | 173 => 149 | 212 => 165 | 51 => 160 | 20 => 20 | 213 => 166 | 46 => 118 | 232 => 177 | 233 => 178 | n => n, fun | 17 => 0 | 18 => 2 | 19 => 3 | n => n⟩
theorem Tryz.laysM173 : Go.Proofs.LaysM.n173 Tryz.prog Tryz.laysM173_ren := {
 mixed := by kernel_rfl
 f129 := Tryz.func122.trans (congrArg some (by kernel_rfl))
 f173 := Tryz.func76.trans (congrArg some (by kernel_rfl))
 f246 := Tryz.func95.trans (congrArg some (by kernel_rfl))
 f283 := Tryz.func109.trans (congrArg some (by kernel_rfl))
 f284 := Tryz.func110.trans (congrArg some (by kernel_rfl))
 f285 := Tryz.func111.trans (congrArg some (by kernel_rfl))
 f286 := Tryz.func112.trans (congrArg some (by kernel_rfl))
 f317 := Tryz.func127.trans (congrArg some (by kernel_rfl))
 f318 := Tryz.func128.trans (congrArg some (by kernel_rfl))
 f319 := Tryz.func129.trans (congrArg some (by kernel_rfl))
 f320 := Tryz.func130.trans (congrArg some (by kernel_rfl))
 f337 := Tryz.func137.trans (congrArg some (by kernel_rfl))
 f338 := Tryz.func138.trans (congrArg some (by kernel_rfl))
 t0 := Tryz.underlying0
 a0 := Tryz.isAgg0
 z0 := Tryz.sizeOf0
 v0 := Tryz.zeroValue0
 t2 := Tryz.underlying2
 a2 := Tryz.isAgg2
 z2 := Tryz.sizeOf2
 v2 := Tryz.zeroValue2
 t3 := Tryz.underlying3
 a3 := Tryz.isAgg3
 z3 := Tryz.sizeOf3
 v3 := Tryz.zeroValue3
 t4 := Tryz.underlying4
 a4 := Tryz.isAgg4
 z4 := Tryz.sizeOf4
 v4 := Tryz.zeroValue4
 t5 := Tryz.underlying5
 a5 := Tryz.isAgg5
 z5 := Tryz.sizeOf5
 v5 := Tryz.zeroValue5
 t9 := Tryz.underlying9
 a9 := Tryz.isAgg9
 z9 := Tryz.sizeOf9
 v9 := Tryz.zeroValue9
 t20 := Tryz.underlying20
 a20 := Tryz.isAgg20
 z20 := Tryz.sizeOf20
 v20 := Tryz.zeroValue20
 t37 := Tryz.underlying101
 a37 := Tryz.isAgg101
 z37 := Tryz.sizeOf101
 v37 := Tryz.zeroValue101
 t46 := Tryz.underlying118
 a46 := Tryz.isAgg118
 z46 := Tryz.sizeOf118
 v46 := Tryz.zeroValue118
 t51 := Tryz.underlying160
 a51 := Tryz.isAgg160
 z51 := Tryz.sizeOf160
 v51 := Tryz.zeroValue160
 t53 := Tryz.underlying99
 a53 := Tryz.isAgg99
 z53 := Tryz.sizeOf99
 v53 := Tryz.zeroValue99
 t171 := Tryz.underlying146
 a171 := Tryz.isAgg146
 z171 := Tryz.sizeOf146
 v171 := Tryz.zeroValue146
 t173 := Tryz.underlying149
 a173 := Tryz.isAgg149
 z173 := Tryz.sizeOf149
 v173 := Tryz.zeroValue149
 t212 := Tryz.underlying165
 a212 := Tryz.isAgg165
 z212 := Tryz.sizeOf165
 v212 := Tryz.zeroValue165
 t213 := Tryz.underlying166
 a213 := Tryz.isAgg166
 z213 := Tryz.sizeOf166
 t232 := Tryz.underlying177
 a232 := Tryz.isAgg177
 z232 := Tryz.sizeOf177
 v232 := Tryz.zeroValue177
 t233 := Tryz.underlying178
 a233 := Tryz.isAgg178
 z233 := Tryz.sizeOf178
 v233 := Tryz.zeroValue178
 g17 := by kernel_rfl
 g18 := by kernel_rfl
 g19 := by kernel_rfl
 i0 := by kernel_rfl
 i2 := by kernel_rfl
 i3 := by kernel_rfl
 i4 := by kernel_rfl
 i5 := by kernel_rfl
 i9 := by kernel_rfl
 i20 := by kernel_rfl
 i37 := by kernel_rfl
 i46 := by kernel_rfl
 i51 := by kernel_rfl
 i53 := by kernel_rfl
 i171 := by kernel_rfl
 i173 := by kernel_rfl
 i212 := by kernel_rfl
 i232 := by kernel_rfl
 i233 := by kernel_rfl
 m17 := by kernel_rfl
 m18 := by kernel_rfl
 m19 := by kernel_rfl }
open Go.RowKit Go.Sort Go.Lib in
theorem Tryz.strconv_FormatInt_10 (n : Int) (h0 : -9223372036854775808 ≤ n) (h1 : n ≤ 9223372036854775807) (w : World) (htab : Lib.TabIs Tryz.prog w "internal/strconv.uint64pow10" .u64 Lib.pow10Tab) :
 Calls Tryz.prog 76 #[.int .i64 n, .int .i64 10] w fun e w' => e = .returned (.string ⟨(Lib.itoa n).toArray⟩) ∧ ∃ k os, w' = grow (w.drewN k) os := Any.strconv_FormatInt_10 Tryz.laysM173 n h0 h1 w htab
def growRows_ren : Go.Shelf.Ren := ⟨fun | 4 => 107 | n => n, fun | 22 => 22 | 25 => 53 | 3 => 3 | 4 => 4 | 9 => 9 | 20 => 20 | 0 => 0 | n => n, fun | n => n⟩
theorem growRows : Go.Proofs.Lays8.n4 Tryz.prog growRows_ren := {
 mixed := by kernel_rfl
 f4 := ⟨Tryz.f107.name, by decide, Tryz.func107.trans (congrArg some (by kernel_rfl))⟩
 t0 := Tryz.underlying0
 a0 := Tryz.isAgg0
 z0 := Tryz.sizeOf0
 v0 := Tryz.zeroValue0
 t3 := Tryz.underlying3
 a3 := Tryz.isAgg3
 z3 := Tryz.sizeOf3
 v3 := Tryz.zeroValue3
 t4 := Tryz.underlying4
 a4 := Tryz.isAgg4
 z4 := Tryz.sizeOf4
 v4 := Tryz.zeroValue4
 t9 := Tryz.underlying9
 a9 := Tryz.isAgg9
 z9 := Tryz.sizeOf9
 v9 := Tryz.zeroValue9
 t20 := Tryz.underlying20
 a20 := Tryz.isAgg20
 z20 := Tryz.sizeOf20
 v20 := Tryz.zeroValue20
 t22 := Tryz.underlying22
 a22 := Tryz.isAgg22
 z22 := Tryz.sizeOf22
 v22 := Tryz.zeroValue22 }
def sortRows_ren : Go.Shelf.Ren := ⟨fun | 6 => 81 | 15 => 98 | 14 => 97 | 28 => 121 | 29 => 122 | 20 => 113 | 21 => 114 | 22 => 115 | 23 => 116 | 24 => 117 | 25 => 118 | 26 => 119 | 27 => 120 | 46 => 131 | 47 => 132 | 48 => 133 | 49 => 134 | 50 => 135 | 57 => 139 | n => n, fun | 22 => 22 | 24 => 53 | 25 => 92 | 3 => 3 | 39 => 118 | 0 => 0 | 53 => 160 | 55 => 99 | 4 => 4 | 46 => 153 | 45 => 152 | 50 => 157 | 5 => 5 | 9 => 9 | 66 => 168 | 70 => 172 | 76 => 174 | 77 => 175 | n => n, fun | n => n⟩
theorem sortRows : Go.Proofs.SlLaysF.n6 Tryz.prog sortRows_ren := {
 mixed := by kernel_rfl
 f6 := ⟨Tryz.f81.name, by decide, Tryz.func81.trans (congrArg some (by kernel_rfl))⟩
 f14 := ⟨Tryz.f97.name, by decide, Tryz.func97.trans (congrArg some (by kernel_rfl))⟩
 f15 := Tryz.func98.trans (congrArg some (by kernel_rfl))
 f20 := ⟨Tryz.f113.name, by decide, Tryz.func113.trans (congrArg some (by kernel_rfl))⟩
 f21 := ⟨Tryz.f114.name, by decide, Tryz.func114.trans (congrArg some (by kernel_rfl))⟩
 f22 := ⟨Tryz.f115.name, by decide, Tryz.func115.trans (congrArg some (by kernel_rfl))⟩
 f23 := ⟨Tryz.f116.name, by decide, Tryz.func116.trans (congrArg some (by kernel_rfl))⟩
 f24 := ⟨Tryz.f117.name, by decide, Tryz.func117.trans (congrArg some (by kernel_rfl))⟩
 f25 := ⟨Tryz.f118.name, by decide, Tryz.func118.trans (congrArg some (by kernel_rfl))⟩
 f26 := ⟨Tryz.f119.name, by decide, Tryz.func119.trans (congrArg some (by kernel_rfl))⟩
 f27 := ⟨Tryz.f120.name, by decide, Tryz.func120.trans (congrArg some (by kernel_rfl))⟩
 f28 := Tryz.func121.trans (congrArg some (by kernel_rfl))
 f29 := Tryz.func122.trans (congrArg some (by kernel_rfl))
 f46 := ⟨Tryz.f131.name, by decide, Tryz.func131.trans (congrArg some (by kernel_rfl))⟩
 f47 := Tryz.func132.trans (congrArg some (by kernel_rfl))
 f48 := Tryz.func133.trans (congrArg some (by kernel_rfl))
 f49 := ⟨Tryz.f134.name, by decide, Tryz.func134.trans (congrArg some (by kernel_rfl))⟩
 f50 := ⟨Tryz.f135.name, by decide, Tryz.func135.trans (congrArg some (by kernel_rfl))⟩
 f57 := ⟨Tryz.f139.name, by decide, Tryz.func139.trans (congrArg some (by kernel_rfl))⟩
 t0 := Tryz.underlying0
 a0 := Tryz.isAgg0
 z0 := Tryz.sizeOf0
 v0 := Tryz.zeroValue0
 t3 := Tryz.underlying3
 a3 := Tryz.isAgg3
 z3 := Tryz.sizeOf3
 v3 := Tryz.zeroValue3
 t4 := Tryz.underlying4
 a4 := Tryz.isAgg4
 z4 := Tryz.sizeOf4
 v4 := Tryz.zeroValue4
 t5 := Tryz.underlying5
 a5 := Tryz.isAgg5
 z5 := Tryz.sizeOf5
 v5 := Tryz.zeroValue5
 t9 := Tryz.underlying9
 a9 := Tryz.isAgg9
 z9 := Tryz.sizeOf9
 v9 := Tryz.zeroValue9
 t22 := Tryz.underlying22
 a22 := Tryz.isAgg22
 z22 := Tryz.sizeOf22
 v22 := Tryz.zeroValue22
 a24 := Tryz.isAgg53
 z24 := Tryz.sizeOf53
 t25 := Tryz.underlying92
 a25 := Tryz.isAgg92
 z25 := Tryz.sizeOf92
 v25 := Tryz.zeroValue92
 t39 := Tryz.underlying118
 a39 := Tryz.isAgg118
 z39 := Tryz.sizeOf118
 v39 := Tryz.zeroValue118
 t45 := Tryz.underlying152
 a45 := Tryz.isAgg152
 z45 := Tryz.sizeOf152
 v45 := Tryz.zeroValue152
 t46 := Tryz.underlying153
 a46 := Tryz.isAgg153
 z46 := Tryz.sizeOf153
 v46 := Tryz.zeroValue153
 t50 := Tryz.underlying157
 a50 := Tryz.isAgg157
 z50 := Tryz.sizeOf157
 v50 := Tryz.zeroValue157
 t53 := Tryz.underlying160
 a53 := Tryz.isAgg160
 z53 := Tryz.sizeOf160
 v53 := Tryz.zeroValue160
 t55 := Tryz.underlying99
 a55 := Tryz.isAgg99
 z55 := Tryz.sizeOf99
 v55 := Tryz.zeroValue99
 t66 := Tryz.underlying168
 a66 := Tryz.isAgg168
 z66 := Tryz.sizeOf168
 v66 := Tryz.zeroValue168
 t70 := Tryz.underlying172
 a70 := Tryz.isAgg172
 z70 := Tryz.sizeOf172
 v70 := Tryz.zeroValue172
 t76 := Tryz.underlying174
 a76 := Tryz.isAgg174
 z76 := Tryz.sizeOf174
 v76 := Tryz.zeroValue174
 t77 := Tryz.underlying175
 a77 := Tryz.isAgg175
 z77 := Tryz.sizeOf175
 v77 := Tryz.zeroValue175 }
def add64L_ren : Go.Shelf.Ren := ⟨fun | 25 => 160 | n => n, fun | 22 => 99 | n => n, fun | n => n⟩
theorem add64L : Go.Proofs.Lays7.n25 Tryz.prog add64L_ren := {
 mixed := by kernel_rfl
 f25 := Tryz.func160.trans (congrArg some (by kernel_rfl))
 t22 := Tryz.underlying99
 a22 := Tryz.isAgg99
 z22 := Tryz.sizeOf99
 v22 := Tryz.zeroValue99
 i22 := by kernel_rfl }
def sub64L_ren : Go.Shelf.Ren := ⟨fun | 26 => 162 | n => n, fun | 22 => 99 | n => n, fun | n => n⟩
theorem sub64L : Go.Proofs.Lays7.n26 Tryz.prog sub64L_ren := {
 mixed := by kernel_rfl
 f26 := Tryz.func162.trans (congrArg some (by kernel_rfl))
 t22 := Tryz.underlying99
 a22 := Tryz.isAgg99
 z22 := Tryz.sizeOf99
 v22 := Tryz.zeroValue99
 i22 := by kernel_rfl }
end Go.Proofs
namespace Go.Proofs.YtecgkcgfeghhgaaGreatDoor.PAll
open Go.RowKit Go.Proofs.YtecgkcgfeghhgaaGreatDoorW.PrintWords Go.Proofs.YtecgkcgfeghhgaaGreatDoorW.PrintLast Go.Proofs.YtecgkcgfeghhgaaGreatDoorW.PrintMore
attribute [local go_sem] max2_int min2_int max_two min_two max_three min_three max_four min_four
set_option linter.unusedVariables false
set_option linter.unusedSimpArgs false
def errW : Option Int → Value
 | none => .nilIface
 | some c => .iface 0 (.int .i64 c)
theorem errW_none : errW none = .nilIface := rfl
theorem errW_some (c : Int) : errW (some c) = .iface 0 (.int .i64 c) := rfl
theorem info34 : (Tryz.prog.info? 34).map (fun i => (i.zero, i.size, i.bytes)) = some (some (.int .u8 0), 1, 1) := by kernel_rfl
theorem info36 : (Tryz.prog.info? 36).map (fun i => (i.zero, i.size, i.bytes)) = some (some (.agg #[(.int .u8 0), (.int .i64 0), (.string ⟨#[]⟩)]), 3, 32) := by kernel_rfl
structure S36 where
 f0 : Int
 f1 : Int
 f2 : ByteArray
def z36 : S36 := ⟨(0 : Int), (0 : Int), (⟨#[]⟩ : ByteArray)⟩
def k36 : Kd S36 := Kd.iso (Kd.pair (Kd.int .u8) (Kd.pair (Kd.int .i64) Kd.string)) (fun x : S36 => (x.f0, x.f1, x.f2))
theorem k36_open {w : World} {x : S36} {cs : List Value} (h : k36.K w x cs) : cs = [.int .u8 x.f0, .int .i64 x.f1, .string x.f2] := by
 obtain ⟨_, _, rfl, rfl, ⟨_, _, rfl, rfl, rfl⟩⟩ := h
 exact rfl
theorem k36_openM {w : World} {base : Nat} {ok : Nat → Prop} {x : S36} {cs : List Value} (h : k36.M w base ok x cs) : cs = [.int .u8 x.f0, .int .i64 x.f1, .string x.f2] := by
 obtain ⟨_, _, rfl, rfl, ⟨_, _, rfl, rfl, rfl⟩⟩ := h
 exact rfl
theorem k36_mk (w : World) (x : S36)  : k36.K w x [.int .u8 x.f0, .int .i64 x.f1, .string x.f2] := ⟨[.int .u8 x.f0], [.int .i64 x.f1, .string x.f2], rfl, rfl, ⟨[.int .i64 x.f1], [.string x.f2], rfl, rfl, rfl⟩⟩
theorem k36_mkM (w : World) (base : Nat) (ok : Nat → Prop) (x : S36)  : k36.M w base ok x [.int .u8 x.f0, .int .i64 x.f1, .string x.f2] := ⟨[.int .u8 x.f0], [.int .i64 x.f1, .string x.f2], rfl, rfl, ⟨[.int .i64 x.f1], [.string x.f2], rfl, rfl, rfl⟩⟩
def rd_T36 (xs : List S36) (i : Int) : S36 := xs.getD i.toNat z36
theorem at_T36 {w : World} {A : Option Addr} {n : Nat} {xs : List S36} (h : Kd.C k36 w A n xs) (i : Int) (h0 : 0 ≤ i) (h1 : i < n) : ∃ ad , A = some ad ∧ w.cell? (ad.add (i.toNat * 3)) = some (.int .u8 (rd_T36 xs i).f0) ∧ w.cell? ⟨(ad.add (i.toNat * 3)).block, (ad.add (i.toNat * 3)).off + 1, none⟩ = some (.int .i64 (rd_T36 xs i).f1) ∧ w.cell? ⟨(ad.add (i.toNat * 3)).block, (ad.add (i.toNat * 3)).off + 2, none⟩ = some (.string (rd_T36 xs i).f2) := by
 obtain ⟨ad, c, e, _, hK, hc0⟩ := Kd.C_get h z36 i h0 h1
 have hc : ∀ j u, c[j]? = some u → w.cell? (ad.add (i.toNat * 3 + j)) = some u := hc0
 obtain rfl := k36_open hK
 exact ⟨ad, e, hc 0 _ rfl, by rw [← add_field _ _ 1 (by omega)]; exact hc 1 _ rfl, by rw [← add_field _ _ 2 (by omega)]; exact hc 2 _ rfl⟩
def rd_L4 (xs : List (List S36)) (i : Int) : (List S36) := xs.getD i.toNat ([] : List S36)
theorem at_L4 {w : World} {A : Option Addr} {n : Nat} {xs : List (List S36)} (h : Kd.C (Kd.slice 36 k36) w A n xs) (i : Int) (h0 : 0 ≤ i) (h1 : i < n) : ∃ ad A0 c0, A = some ad ∧ w.cell? (ad.add i.toNat) = some (.slice A0 (rd_L4 xs i).length c0) ∧ (rd_L4 xs i).length ≤ c0 ∧ k36.C w A0 (rd_L4 xs i).length (rd_L4 xs i) := by
 obtain ⟨ad, c, e, _, hK, hc0⟩ := Kd.C_get h ([] : List S36) i h0 h1
 have hc : ∀ j u, c[j]? = some u → w.cell? (ad.add (i.toNat * 1 + j)) = some u := hc0
 obtain ⟨A0, c0, rfl, l0, g0⟩ := hK
 exact ⟨ad, A0, c0, e, by have hq := hc 0 _ rfl; rwa [Nat.mul_one, Nat.add_zero] at hq, l0, g0⟩
structure S64 where
 f0 : Int
 f1 : Bool
def z64 : S64 := ⟨(0 : Int), false⟩
def k64 : Kd S64 := Kd.iso (Kd.pair (Kd.int .i64) Kd.bool) (fun x : S64 => (x.f0, x.f1))
theorem k64_open {w : World} {x : S64} {cs : List Value} (h : k64.K w x cs) : cs = [.int .i64 x.f0, .bool x.f1] := by
 obtain ⟨_, _, rfl, rfl, rfl⟩ := h
 exact rfl
theorem k64_mk (w : World) (x : S64)  : k64.K w x [.int .i64 x.f0, .bool x.f1] := ⟨[.int .i64 x.f0], [.bool x.f1], rfl, rfl, rfl⟩
theorem k64_mkM (w : World) (base : Nat) (ok : Nat → Prop) (x : S64)  : k64.M w base ok x [.int .i64 x.f0, .bool x.f1] := ⟨[.int .i64 x.f0], [.bool x.f1], rfl, rfl, rfl⟩
def rd_T64 (xs : List S64) (i : Int) : S64 := xs.getD i.toNat z64
theorem at_T64 {w : World} {A : Option Addr} {n : Nat} {xs : List S64} (h : Kd.C k64 w A n xs) (i : Int) (h0 : 0 ≤ i) (h1 : i < n) : ∃ ad , A = some ad ∧ w.cell? (ad.add (i.toNat * 2)) = some (.int .i64 (rd_T64 xs i).f0) ∧ w.cell? ⟨(ad.add (i.toNat * 2)).block, (ad.add (i.toNat * 2)).off + 1, none⟩ = some (.bool (rd_T64 xs i).f1) := by
 obtain ⟨ad, c, e, _, hK, hc0⟩ := Kd.C_get h z64 i h0 h1
 have hc : ∀ j u, c[j]? = some u → w.cell? (ad.add (i.toNat * 2 + j)) = some u := hc0
 obtain rfl := k64_open hK
 exact ⟨ad, e, hc 0 _ rfl, by rw [← add_field _ _ 1 (by omega)]; exact hc 1 _ rfl⟩
structure S55 where
 f0 : Int
 f1 : Int
 f2 : Bool
def z55 : S55 := ⟨(0 : Int), (0 : Int), false⟩
def k55 : Kd S55 := Kd.iso (Kd.pair (Kd.int .u8) (Kd.pair (Kd.int .i64) Kd.bool)) (fun x : S55 => (x.f0, x.f1, x.f2))
theorem k55_open {w : World} {x : S55} {cs : List Value} (h : k55.K w x cs) : cs = [.int .u8 x.f0, .int .i64 x.f1, .bool x.f2] := by
 obtain ⟨_, _, rfl, rfl, ⟨_, _, rfl, rfl, rfl⟩⟩ := h
 exact rfl
theorem k55_mkM (w : World) (base : Nat) (ok : Nat → Prop) (x : S55)  : k55.M w base ok x [.int .u8 x.f0, .int .i64 x.f1, .bool x.f2] := ⟨[.int .u8 x.f0], [.int .i64 x.f1, .bool x.f2], rfl, rfl, ⟨[.int .i64 x.f1], [.bool x.f2], rfl, rfl, rfl⟩⟩
def rd_T55 (xs : List S55) (i : Int) : S55 := xs.getD i.toNat z55
theorem at_T55 {w : World} {A : Option Addr} {n : Nat} {xs : List S55} (h : Kd.C k55 w A n xs) (i : Int) (h0 : 0 ≤ i) (h1 : i < n) : ∃ ad , A = some ad ∧ w.cell? (ad.add (i.toNat * 3)) = some (.int .u8 (rd_T55 xs i).f0) ∧ w.cell? ⟨(ad.add (i.toNat * 3)).block, (ad.add (i.toNat * 3)).off + 1, none⟩ = some (.int .i64 (rd_T55 xs i).f1) ∧ w.cell? ⟨(ad.add (i.toNat * 3)).block, (ad.add (i.toNat * 3)).off + 2, none⟩ = some (.bool (rd_T55 xs i).f2) := by
 obtain ⟨ad, c, e, _, hK, hc0⟩ := Kd.C_get h z55 i h0 h1
 have hc : ∀ j u, c[j]? = some u → w.cell? (ad.add (i.toNat * 3 + j)) = some u := hc0
 obtain rfl := k55_open hK
 exact ⟨ad, e, hc 0 _ rfl, by rw [← add_field _ _ 1 (by omega)]; exact hc 1 _ rfl, by rw [← add_field _ _ 2 (by omega)]; exact hc 2 _ rfl⟩
end Go.Proofs.YtecgkcgfeghhgaaGreatDoor.PAll
set_option linter.unusedVariables false
set_option linter.unusedSimpArgs false
namespace Go.Proofs.YtecgkcgfeghhgaaGreatDoor.PAll
open Go.RowKit Go.Proofs.YtecgkcgfeghhgaaGreatDoorW.PrintWords Go.Proofs.YtecgkcgfeghhgaaGreatDoorW.PrintLast Go.Proofs.YtecgkcgfeghhgaaGreatDoorW.PrintMore
abbrev V := S36
abbrev kV : Kd V := k36
abbrev kRow : Kd (List V) := Kd.slice 36 k36
def LaidT (w : World) : Prop := Lib.TabIs Tryz.prog w "internal/strconv.uint64pow10" .u64 Lib.pow10Tab
theorem LaidT.below {w w' : World} (h : LaidT w) (hb : Below w.heap.size w w') : LaidT w' := by
 unfold LaidT Lib.TabIs World.var? at *
 cases hg : Tryz.prog.globalNamed "internal/strconv.uint64pow10" with
 | none => simp [hg] at h
 | some g =>
  simp only [hg, Option.bind_some] at h ⊢
  have hlt : g < w.heap.size := by
   rcases Nat.lt_or_ge g w.heap.size with h' | h'
   · exact h'
   · rw [Array.getElem?_eq_none h'] at h; simp at h
  rw [hb.block g hlt]
  exact h
theorem below_grow (w : World) (k : Nat) (os : Array Obj) : Below w.heap.size w (Sort.grow (w.drewN k) os) :=
 ⟨rfl, rfl, rfl, by show w.heap.size ≤ (w.heap ++ os).size; rw [Array.size_append]; omega, fun j hj => by
  show (w.heap ++ os)[j]? = w.heap[j]?
  rw [Array.getElem?_append_left hj]⟩
def VOk (v : V) : Prop := 0 ≤ v.f0 ∧ v.f0 ≤ 255 ∧ -9223372036854775808 ≤ v.f1 ∧ v.f1 ≤ 9223372036854775807
def nameV (v : V) : List UInt8 := Lib.itoa v.f0 ++ ([32] ++ (Lib.itoa v.f1 ++ ([32] ++ (Lib.itoa v.f2.size ++ ([58] ++ v.f2.data.toList)))))
def nameB : List V → List UInt8
 | [] => []
 | v :: r => nameV v ++ nameB r
def nameOf (l : List V) : ByteArray := ⟨(nameB l).toArray⟩
theorem sizeMk (l : List UInt8) : (⟨l.toArray⟩ : ByteArray).size = l.length := by simp [ByteArray.size]
theorem nameB_append (a b : List V) : nameB (a ++ b) = nameB a ++ nameB b := by
 induction a with
 | nil => rfl
 | cons v r ih => simp only [List.cons_append, nameB, ih, List.append_assoc]
theorem nameB_take (l : List V) (i : Nat) (h : i < l.length) : nameB (l.take (i + 1)) = nameB (l.take i) ++ nameV l[i] := by
 rw [List.take_succ_eq_append_getElem h, nameB_append]
 simp [nameB]
theorem nameB_len (l : List V) (i : Nat) (h : i < l.length) : (nameB (l.take i)).length + (nameV l[i]).length ≤ (nameB l).length := by
 have := nameB_take l i h
 have h2 : nameB l = nameB (l.take (i + 1)) ++ nameB (l.drop (i + 1)) := by rw [← nameB_append, List.take_append_drop]
 rw [h2, this]
 simp only [List.length_append]
 omega
structure NSt (w0 : World) (g : Nat) (v : V) (bs : List UInt8) (W : World) : Prop where
 bld : Lib.IsBuilderF 103 5 w0.heap.size w0.heap.size (Lib.byteCells bs) W
 below : Below w0.heap.size w0 W
 box : W.heap[g]? = some (.cells #[.int .u8 v.f0, .int .i64 v.f1, .string v.f2] 36 (0, 0))
 gt : w0.heap.size < g
theorem bld_below {B b : Nat} {bs : List Value} {W W' : World} (h : Lib.IsBuilderF 103 5 B b bs W) (hb : Below W.heap.size W W') : Lib.IsBuilderF 103 5 B b bs W' := by
 have one : ∀ p, Lib.BuilderAtF 103 5 B b p bs W → Lib.BuilderAtF 103 5 B b p bs W' := by
  intro p hA
  have hlt := hA.lt
  obtain ⟨hB, v, hbk, hown, hne⟩ := hA
  exact ⟨hB, v, (hb.block b hlt).trans hbk, hown.kept (grown_of_below hb none) (by cases v.ownBlock <;> simp), hne⟩
 rcases h with h | h
 · exact .inl (one _ h)
 · exact .inr (one _ h)
theorem NSt.quiet {w0 : World} {g : Nat} {v : V} {bs : List UInt8} {W W' : World} (h : NSt w0 g v bs W) (hb : Below W.heap.size W W') : NSt w0 g v bs W' :=
 ⟨bld_below h.bld hb, h.below.trans (hb.mono h.below.size), (hb.block g (by
  rcases Nat.lt_or_ge g W.heap.size with h' | h'
  · exact h'
  · have := h.box; simp [Array.getElem?_eq_none h'] at this)).trans h.box, h.gt⟩
theorem NSt.kept {w0 : World} {g : Nat} {v : V} {bs bs' : List UInt8} {W W' : World} (h : NSt w0 g v bs W) (hA : Lib.BuilderAtF 103 5 w0.heap.size w0.heap.size (.pointer (some ⟨w0.heap.size, 0, none⟩)) (Lib.byteCells bs') W') (hb : Below w0.heap.size W W') (hk : Lib.OthersKept 5 (some w0.heap.size) W W') : NSt w0 g v bs' W' :=
 ⟨.inr hA, h.below.trans hb, hk g _ h.box (by have := h.gt; simp; omega) (fun c fz e => by injection e with _ e2 _; revert e2; decide), h.gt⟩
theorem NSt.cells {w0 : World} {g : Nat} {v : V} {bs : List UInt8} {W : World} (h : NSt w0 g v bs W) : W.cell? ⟨g, 0, none⟩ = some (.int .u8 v.f0) ∧ W.cell? ⟨g, 1, none⟩ = some (.int .i64 v.f1) ∧ W.cell? ⟨g, 2, none⟩ = some (.string v.f2) :=
 ⟨(blk_cell h.box 0).trans rfl, (blk_cell h.box 1).trans rfl, (blk_cell h.box 2).trans rfl⟩
theorem NSt.ws {w0 : World} {g : Nat} {v : V} {bs : List UInt8} {W : World} (h : NSt w0 g v bs W) (s : ByteArray) (hlen : bs.length + s.size ≤ 140737488355328) :
 Calls Tryz.prog 73 #[.pointer (some ⟨w0.heap.size, 0, none⟩), .string s] W fun e w' => e = .returned (.tuple #[.int .i64 s.size, .nilIface]) ∧ Aside0 (NSt w0 g v (bs ++ s.data.toList) w') :=
 (Bld.WriteString w0.heap.size w0.heap.size (Lib.byteCells bs) s W h.bld (by rw [Lib.byteCells_length]; exact hlen) h.below.size).mono fun _ _ ⟨he, hA, hb, hk⟩ => ⟨he, ⟨h.kept (by
  have e : Lib.byteCells (bs ++ s.data.toList) = Lib.byteCells bs ++ Lib.strCells s := by simp [Lib.byteCells, Lib.strCells]
  rw [e]; exact hA) hb hk⟩⟩
theorem NSt.wb {w0 : World} {g : Nat} {v : V} {bs : List UInt8} {W : World} (h : NSt w0 g v bs W) (c : UInt8) (ci : Int) (hc : ci = c.toNat) (hlen : bs.length + 1 ≤ 140737488355328) :
 Calls Tryz.prog 75 #[.pointer (some ⟨w0.heap.size, 0, none⟩), .int .u8 ci] W fun e w' => e = .returned .nilIface ∧ Aside0 (NSt w0 g v (bs ++ [c]) w') :=
 (Bld.WriteByte w0.heap.size w0.heap.size (Lib.byteCells bs) ci W h.bld (by rw [Lib.byteCells_length]; exact hlen) h.below.size).mono fun _ _ ⟨he, hA, hb, hk⟩ => ⟨he, ⟨h.kept (by
  have e : Lib.byteCells (bs ++ [c]) = Lib.byteCells bs ++ [.int .u8 ci] := by simp [Lib.byteCells, hc]
  rw [e]; exact hA) hb hk⟩⟩
theorem NSt.itoa {w0 : World} {g : Nat} {v : V} {bs : List UInt8} {W : World} (h : NSt w0 g v bs W) (hT : LaidT w0) (n : Int) (h0 : -9223372036854775808 ≤ n) (h1 : n ≤ 9223372036854775807) :
 Calls Tryz.prog 74 #[.int .i64 n] W fun e w' => e = .returned (.string ⟨(Lib.itoa n).toArray⟩) ∧ Aside0 (NSt w0 g v bs w') :=
 (Tryz.strconv_Itoa n h0 h1 W (hT.below h.below)).mono fun _ _ ⟨he, k, os, hw⟩ => ⟨he, ⟨h.quiet (by rw [hw]; exact below_grow _ k os)⟩⟩
theorem NSt.fmt {w0 : World} {g : Nat} {v : V} {bs : List UInt8} {W : World} (h : NSt w0 g v bs W) (hT : LaidT w0) (n : Int) (h0 : -9223372036854775808 ≤ n) (h1 : n ≤ 9223372036854775807) :
 Calls Tryz.prog 76 #[.int .i64 n, .int .i64 10] W fun e w' => e = .returned (.string ⟨(Lib.itoa n).toArray⟩) ∧ Aside0 (NSt w0 g v bs w') :=
 (Tryz.strconv_FormatInt_10 n h0 h1 W (hT.below h.below)).mono fun _ _ ⟨he, k, os, hw⟩ => ⟨he, ⟨h.quiet (by rw [hw]; exact below_grow _ k os)⟩⟩
theorem name_calls (A0 : Option Addr) (c0 : Nat) (l0 : List V) (w : World) (hT : LaidT w) (hr0 : Kd.C kV w A0 l0.length l0) (hc0 : l0.length ≤ c0) (hok : ∀ v ∈ l0, VOk v) (hsz : (nameB l0).length ≤ 1099511627776) (hn : l0.length ≤ 1099511627776) :
 Calls Tryz.prog 46 #[.slice A0 l0.length c0] w fun e w' => e = .returned (.string (nameOf l0)) ∧ Below w.heap.size w w' := by
 have HT := Aside0.mk hT
 have HR0 := Aside0.mk hr0
 have HOK := Aside0.mk hok
 have HSZ := Aside0.mk hsz
 have HN := Aside0.mk hn
 clear hT hr0 hc0 hok hsz hn
 go_enter Tryz.func46, Tryz.ntmps46
 go_wp2
 have N0 : Aside0 (Lib.IsBuilderF 103 5 w.heap.size w.heap.size (Lib.byteCells (nameB (l0.take (0 : Int).toNat))) (w.alloc (.cells #[.pointer none, .slice none 0 0] 103))) := ⟨Lib.IsBuilderF.of (by simpa [nameB, Lib.byteCells] using Lib.fresh_isBuilder 103 5 w)⟩
 have B0 := Aside0.mk ((Below.refl w.heap.size w).alloc (Nat.le_refl _) (.cells #[.pointer none, .slice none 0 0] 103))
 go_loopg [8] l0.length (fun kq v8 W => ∃ x : Int, v8 = .int .i64 x ∧ Aside0 (0 ≤ x ∧ x ≤ l0.length ∧ (kq : Int) = l0.length - x) ∧ Aside0 (Lib.IsBuilderF 103 5 w.heap.size w.heap.size (Lib.byteCells (nameB (l0.take x.toNat))) W) ∧ Aside0 (Below w.heap.size w W))
 case atStart => exact ⟨0, rfl, ⟨by omega⟩, N0, B0⟩
 case round =>
  clear N0 B0
  obtain ⟨x, rfl, HX, HN1, HB⟩ := hrel
  obtain ⟨hx0, hx1, hkq⟩ := HX.out
  by_cases hlt : x < (l0.length : Int)
  · have c1 : decide (x < (l0.length : Int)) = true := decide_eq_true hlt
    have c2 : decide (0 ≤ x) = true := decide_eq_true hx0
    obtain ⟨ad, e, hx_0, hx_1, hx_2⟩ := at_T36 HR0.out x hx0 hlt
    cases e
    replace hx_0 := (HB.out.cell (World.block_lt_of_cell? w _ hx_0)).trans hx_0
    replace hx_1 := (HB.out.cell (World.block_lt_of_cell? w _ hx_1)).trans hx_1
    replace hx_2 := (HB.out.cell (World.block_lt_of_cell? w _ hx_2)).trans hx_2
    have hi : x.toNat < l0.length := by omega
    have hrd : rd_T36 l0 x = l0[x.toNat] := by simp [rd_T36, List.getElem?_eq_getElem hi]
    obtain ⟨v, hv⟩ : ∃ v, v = rd_T36 l0 x := ⟨_, rfl⟩
    rw [← hv] at hx_0 hx_1 hx_2
    obtain ⟨k0, k1, k2, k3⟩ := HOK.out v (by rw [hv, hrd]; exact List.getElem_mem hi)
    have hl1 := nameB_len l0 x.toNat hi
    rw [← hrd, ← hv] at hl1
    have hst : nameB (l0.take (x + 1).toNat) = nameB (l0.take x.toNat) ++ nameV v := by
     rw [show (x + 1).toNat = x.toNat + 1 by omega, nameB_take _ _ hi, hv, hrd]
    have HST := Aside0.mk hst
    have HV := Aside0.mk hv
    have HL := Aside0.mk hl1
    have HK := Aside0.mk hkq
    have HI := Aside0.mk hi
    have HLT := Aside0.mk hlt
    clear hst hv hl1 hkq
    clear hrd hi
    have hwr : wrap64 (x + 1) = x + 1 := by have := HN.out; unfold wrap64; omega
    have HWR := Aside0.mk hwr
    clear hwr
    have hgt : w.heap.size < wr.heap.size := by
     rcases HN1.out with h | h
     · exact h.lt
     · exact h.lt
    have S0 : Aside0 (NSt w wr.heap.size v (nameB (l0.take x.toNat)) (wr.alloc (.cells #[.int .u8 v.f0, .int .i64 v.f1, .string v.f2] 36))) :=
     ⟨⟨bld_below HN1.out ((Below.refl _ _).alloc (Nat.le_refl _) _), HB.out.alloc HB.out.size _, heap_alloc_new _ _, hgt⟩⟩
    have hA : (nameB (l0.take x.toNat)).length + ((Lib.itoa v.f0).length + (1 + ((Lib.itoa v.f1).length + (1 + ((Lib.itoa v.f2.size).length + (1 + v.f2.size)))))) ≤ 1099511627776 := by
     have h1 := HL.out
     have h2 := HSZ.out
     simp only [nameV, List.length_append, List.length_cons, List.length_nil, Nat.zero_add] at h1
     have h3 : v.f2.data.toList.length = v.f2.size := Array.length_toList
     omega
    have HSz := Aside0.mk sizeMk
    have HA := Aside0.mk hA
    clear hA hgt
    go_wp2_with fail
    refine (S0.out.itoa HT.out v.f0 (by omega) (by omega)).mono ?_
    rintro e w1 ⟨rfl, S1⟩
    clear S0
    go_wp2_with fail
    refine (S1.out.ws _ (by rw [HSz.out]; have := HA.out; omega)).mono ?_
    rintro e w2 ⟨rfl, S2⟩
    clear S1
    go_wp2_with fail
    refine (S2.out.wb 32 32 rfl (by simp only [List.length_append, List.length_cons, List.length_nil]; have := HA.out; omega)).mono ?_
    rintro e w3 ⟨rfl, S3⟩
    clear S2
    obtain ⟨_, q1, _⟩ := S3.out.cells
    go_wp2_with fail
    refine (S3.out.fmt HT.out v.f1 (by omega) (by omega)).mono ?_
    rintro e w4 ⟨rfl, S4⟩
    clear S3 q1
    go_wp2_with fail
    refine (S4.out.ws _ (by rw [HSz.out]; simp only [List.length_append, List.length_cons, List.length_nil]; have := HA.out; omega)).mono ?_
    rintro e w5 ⟨rfl, S5⟩
    clear S4
    go_wp2_with fail
    refine (S5.out.wb 32 32 rfl (by simp only [List.length_append, List.length_cons, List.length_nil]; have := HA.out; omega)).mono ?_
    rintro e w6 ⟨rfl, S6⟩
    clear S5
    obtain ⟨_, _, q2⟩ := S6.out.cells
    go_wp2_with fail
    refine (S6.out.itoa HT.out v.f2.size (by omega) (by have := HA.out; omega)).mono ?_
    rintro e w7 ⟨rfl, S7⟩
    clear S6 q2
    go_wp2_with fail
    refine (S7.out.ws _ (by rw [HSz.out]; simp only [List.length_append, List.length_cons, List.length_nil]; have := HA.out; omega)).mono ?_
    rintro e w8 ⟨rfl, S8⟩
    clear S7
    go_wp2_with fail
    refine (S8.out.wb 58 58 rfl (by simp only [List.length_append, List.length_cons, List.length_nil]; have := HA.out; omega)).mono ?_
    rintro e w9 ⟨rfl, S9⟩
    clear S8
    obtain ⟨_, _, q3⟩ := S9.out.cells
    go_wp2_with fail
    refine (S9.out.ws _ (by simp only [List.length_append, List.length_cons, List.length_nil]; have := HA.out; omega)).mono ?_
    rintro e w10 ⟨rfl, S10⟩
    clear S9 q3
    go_wp2_with fail
    have hlt := HLT.out
    have hk := HK.out
    cases gk with
    | zero => omega
    | succ k1 =>
     go_roundg k1
     case measure => omega
     case rel =>
      refine ⟨x + 1, by rw [HWR.out], ⟨by omega⟩, ⟨?_⟩, ⟨S10.out.below⟩⟩
      rw [HST.out]
      have := S10.out.bld
      simpa [nameV, List.append_assoc] using this
  · have c1 : decide (x < (l0.length : Int)) = false := decide_eq_false hlt
    go_wp2_with fail
    refine (Tryz.Builder_String_any_k w.heap.size w.heap.size (nameB (l0.take x.toNat)) wr HN1.out HB.out.size).mono ?_
    rintro e w1 ⟨rfl, _, hb, _⟩
    go_wp2
    go_ret
    refine ⟨?_, HB.out.trans hb⟩
    have : l0.take x.toNat = l0 := List.take_of_length_le (by omega)
    rw [this, nameOf]
    rfl
end Go.Proofs.YtecgkcgfeghhgaaGreatDoor.PAll
set_option linter.unusedVariables false
namespace Go.Proofs.YtecgkcgfeghhgaaGreatDoor.KV
open Go.RowKit Go.Proofs.YtecgkcgfeghhgaaGreatDoorW.PrintWords
section
variable {α : Type}
def get : List (ByteArray × α) → ByteArray → Option α
 | [], _ => none
 | (t, u) :: r, s => if t = s then some u else get r s
def put : List (ByteArray × α) → ByteArray → α → List (ByteArray × α)
 | [], s, v => [(s, v)]
 | (t, u) :: r, s, v => if t = s then (s, v) :: r else (t, u) :: put r s v
theorem get_put_same (l : List (ByteArray × α)) (s : ByteArray) (v : α) : get (put l s v) s = some v := by
 induction l with
 | nil => simp [get, put]
 | cons p r ih =>
  obtain ⟨t, u⟩ := p
  by_cases h : t = s
  · simp [get, put, h]
  · simp [get, put, h, ih]
theorem get_put_other (l : List (ByteArray × α)) {s s' : ByteArray} (h : s' ≠ s) (v : α) : get (put l s v) s' = get l s' := by
 induction l with
 | nil => simp [get, put, Ne.symm h]
 | cons p r ih =>
  obtain ⟨t, u⟩ := p
  by_cases h1 : t = s
  · subst h1; simp [get, put, Ne.symm h]
  · by_cases h2 : t = s'
    · subst h2; simp [get, put, h1]
    · simp [get, put, h1, h2, ih]
def Is (w : World) (b : Nat) (enc : α → Value) (kv : List (ByteArray × α)) : Prop :=
 ∃ es clock, w.heap[b]? = some (.map es clock) ∧ es.toList.map (fun e => (e.key, e.val)) = kv.map (fun p => (Value.string p.1, enc p.2))
theorem Is.lt {w : World} {b : Nat} {enc : α → Value} {kv : List (ByteArray × α)} (h : Is w b enc kv) : b < w.heap.size := by
 obtain ⟨es, clock, hb, _⟩ := h
 exact (Array.getElem?_eq_some_iff.1 hb).1
theorem Is.move {w w' : World} {b : Nat} {enc : α → Value} {kv : List (ByteArray × α)} (h : Is w b enc kv) (hm : w'.heap[b]? = w.heap[b]?) : Is w' b enc kv := by
 obtain ⟨es, clock, hb, he⟩ := h
 exact ⟨es, clock, hm.trans hb, he⟩
theorem Is.below {w w' : World} {b : Nat} {enc : α → Value} {kv : List (ByteArray × α)} (h : Is w b enc kv) (hb : Below w.heap.size w w') : Is w' b enc kv := h.move (hb.block b h.lt)
theorem Is.grown {w w' : World} {b : Nat} {enc : α → Value} {kv : List (ByteArray × α)} (h : Is w b enc kv) {row : Option Nat} (hg : w.grownBy w' row) (hne : some b ≠ row) : Is w' b enc kv := h.move (hg.block b h.lt hne)
theorem Is.made (w : World) (enc : α → Value) : Is (w.alloc (.map #[] 0)) w.heap.size enc [] := by
 refine ⟨#[], 0, ?_, rfl⟩
 show (w.heap.push _)[w.heap.size]? = _
 simp
theorem beq_self (a : ByteArray) : (a == a) = true := (MapKept.bytes_beq a a).2 rfl
theorem beq_ne {a b : ByteArray} (h : a ≠ b) : (a == b) = false := by
 cases hb : (a == b) with
 | false => rfl
 | true => exact absurd ((MapKept.bytes_beq a b).1 hb) h
theorem find {enc : α → Value} (s : ByteArray) : ∀ (es : List MapEntry) (kv : List (ByteArray × α)) (i : Nat), es.map (fun e => (e.key, e.val)) = kv.map (fun p => (Value.string p.1, enc p.2)) →
 (Instr.findNow .string (.string s) es i = some none ∧ get kv s = none ∧ ∀ v, put kv s v = kv ++ [(s, v)]) ∨
 ∃ (j : Nat) (e : MapEntry) (u : α), Instr.findNow .string (.string s) es i = some (some (i + j, enc u)) ∧ es[j]? = some e ∧ e.key = .string s ∧ get kv s = some u ∧ ∀ v, put kv s v = kv.set j (s, v)
 | [], [], _, _ => .inl ⟨rfl, rfl, fun _ => rfl⟩
 | [], _ :: _, _, h => by simp at h
 | _ :: _, [], _, h => by simp at h
 | e :: es, (t, u) :: kv, i, h => by
  simp only [List.map_cons, List.cons.injEq, Prod.mk.injEq] at h
  obtain ⟨⟨hk, hv⟩, hr⟩ := h
  by_cases hts : t = s
  · subst hts
    refine .inr ⟨0, e, u, ?_, rfl, hk, by simp [get], fun v => by simp [put]⟩
    simp [Instr.findNow, Instr.sameNow, hk, hv, beq_self]
  · have hb : (s == t) = false := beq_ne (fun h => hts h.symm)
    rcases find s es kv (i + 1) hr with ⟨h1, h2, h3⟩ | ⟨j, e', u', h1, h2, h3, h4, h5⟩
    · exact .inl ⟨by simp [Instr.findNow, Instr.sameNow, hk, hb, h1], by simp [get, hts, h2], fun v => by simp [put, hts, h3]⟩
    · exact .inr ⟨j + 1, e', u', by simp [Instr.findNow, Instr.sameNow, hk, hb, h1]; omega, by simpa using h2, h3, by simp [get, hts, h4], fun v => by simp [put, hts, h5]⟩
variable {P : Program}
theorem run_lookup {w : World} {b : Nat} {enc : α → Value} {kv : List (ByteArray × α)} (h : Is w b enc kv) {t k e : TypeId} (ht : P.underlying t = some (.map k e)) (hk : P.underlying k = some .string) {z : Value} (hz : (zeroValue e).run P w = .ok z w) (s : ByteArray) (c : Bool) :
 (Instr.lookup t (.map (some b)) (.string s) c).run P w = .ok (if c then .tuple #[((get kv s).map enc).getD z, .bool (get kv s).isSome] else ((get kv s).map enc).getD z) w := by
 obtain ⟨es, clock, hb, he⟩ := h
 rcases find s es.toList kv 0 he with ⟨h1, h2, _⟩ | ⟨j, e', u, h1, h2, h3, h4, _⟩
 · cases c <;> simp [Instr.lookup, run_underlying ht, MapKept.run_getObj_map hb, MapKept.run_checkKey hk (d := .string) (k := .string s) trivial, MapKept.run_findKey hk h1, hz, Result.andThen, h2]
 · cases c <;> simp [Instr.lookup, run_underlying ht, MapKept.run_getObj_map hb, MapKept.run_checkKey hk (d := .string) (k := .string s) trivial, MapKept.run_findKey hk h1, Result.andThen, h4]
theorem run_update {w : World} {b : Nat} {enc : α → Value} {kv : List (ByteArray × α)} (h : Is w b enc kv) {t k e : TypeId} (ht : P.underlying t = some (.map k e)) (hk : P.underlying k = some .string) (s : ByteArray) (v : α) :
 ∃ w', (Instr.mapUpdate t (.map (some b)) (.string s) (enc v)).run P w = .ok () w' ∧ Is w' b enc (put kv s v) ∧ w.grownBy w' (some b) := by
 obtain ⟨es, clock, hb, he⟩ := h
 have hgrow : ∀ o, w.grownBy { w with heap := w.heap.setIfInBounds b o } (some b) := fun o => ⟨rfl, rfl, rfl, by simp, fun i _ hi => (MapKept.heap_set hb).2 i (fun e => hi (by rw [e]))⟩
 rcases find s es.toList kv 0 he with ⟨h1, h2, h3⟩ | ⟨j, e', u, h1, h2, h3, h4, h5⟩
 · refine ⟨_, ?_, ⟨es.push ⟨.string s, enc v, clock⟩, clock + 1, (MapKept.heap_set hb).1, ?_⟩, hgrow _⟩
   · simp [Instr.mapUpdate, run_underlying ht, MapKept.run_getObj_map hb, MapKept.run_checkKey hk (d := .string) (k := .string s) trivial, MapKept.run_findKey hk h1, MapKept.run_setObj_map _ hb, Result.andThen]
   · simp [h3, he]
 · have hj : es[j]? = some e' := by simpa using h2
   refine ⟨_, ?_, ⟨es.modify j (fun e => { e with key := .string s, val := enc v }), clock, (MapKept.heap_set hb).1, ?_⟩, hgrow _⟩
   · simp [Instr.mapUpdate, run_underlying ht, MapKept.run_getObj_map hb, MapKept.run_checkKey hk (d := .string) (k := .string s) trivial, MapKept.run_findKey hk h1, hj, h3, MapKept.run_keyThatStays (d := .string) (k := .string s) trivial, MapKept.run_setObj_map _ hb, Result.andThen]
   · rw [h5, Array.toList_modify, ChangeMaps.modify_eq_set _ _ _ _ h2, List.map_set, List.map_set, he]
theorem law_lookup (w : World) {ops : Array Oper} {rest : List Oper} {o : Oper} {a : Act} {Q : Exit → Act → World → Prop}
 (hg : o.guard = none) (m x : Operand) (t : TypeId) (hop : o.op = Op.lookup t m x false)
 (k e : TypeId) (hk : P.underlying k = some .string) (ht : P.underlying t = some (.map k e)) (z : Value) (hz : (zeroValue e).run P w = .ok z w) (b : Nat) (enc : α → Value) (kv : List (ByteArray × α))
 (hm : a.eval m = .map (some b)) (hM : Is w b enc kv) (s : ByteArray) (hx : a.eval x = .string s) (u : Value) (hu : ((get kv s).map enc).getD z = u)
 (hK : wpList P ops Q rest (a.put o.dst u) w) : wpList P ops Q (o :: rest) a w := by
 refine wpList_plain hg fun K' hK' => ?_
 have hrun := run_lookup (P := P) hM ht hk hz s false
 unfold Oper.wp
 simp only [execOp, hop, hm, hx]
 simp [hrun, hu, Result.andThen]
 exact hK' _ _ hK
theorem law_lookup_ok (w : World) {ops : Array Oper} {rest : List Oper} {o : Oper} {a : Act} {Q : Exit → Act → World → Prop}
 (hg : o.guard = none) (m x : Operand) (t : TypeId) (hop : o.op = Op.lookup t m x true)
 (k e : TypeId) (hk : P.underlying k = some .string) (ht : P.underlying t = some (.map k e)) (z : Value) (hz : (zeroValue e).run P w = .ok z w) (b : Nat) (enc : α → Value) (kv : List (ByteArray × α))
 (hm : a.eval m = .map (some b)) (hM : Is w b enc kv) (s : ByteArray) (hx : a.eval x = .string s) (u : Value) (hu : ((get kv s).map enc).getD z = u) (c : Bool) (hc : (get kv s).isSome = c)
 (hK : wpList P ops Q rest (a.put o.dst (.tuple #[u, .bool c])) w) : wpList P ops Q (o :: rest) a w := by
 refine wpList_plain hg fun K' hK' => ?_
 have hrun := run_lookup (P := P) hM ht hk hz s true
 unfold Oper.wp
 simp only [execOp, hop, hm, hx]
 simp [hrun, hu, hc, Result.andThen]
 exact hK' _ _ hK
theorem law_update (w : World) {ops : Array Oper} {rest : List Oper} {o : Oper} {a : Act} {Q : Exit → Act → World → Prop}
 (hg : o.guard = none) (m x v : Operand) (t : TypeId) (hop : o.op = Op.mapUpdate t m x v)
 (k e : TypeId) (hk : P.underlying k = some .string) (ht : P.underlying t = some (.map k e)) (b : Nat) (enc : α → Value) (kv : List (ByteArray × α))
 (hm : a.eval m = .map (some b)) (hM : Is w b enc kv) (s : ByteArray) (hx : a.eval x = .string s) (y : α) (hv : a.eval v = enc y)
 (hK : ∀ w', Is w' b enc (put kv s y) → w.grownBy w' (some b) → wpList P ops Q rest (a.put o.dst undef) w') : wpList P ops Q (o :: rest) a w := by
 refine wpList_plain hg fun K' hK' => ?_
 obtain ⟨w', hrun, r1, r2⟩ := run_update (P := P) hM ht hk s y
 unfold Oper.wp
 simp only [execOp, hop, hm, hx, hv]
 simp [hrun, Result.andThen]
 exact hK' _ _ (hK w' r1 r2)
end
end Go.Proofs.YtecgkcgfeghhgaaGreatDoor.KV
set_option linter.unusedVariables false
set_option linter.unusedSimpArgs false
namespace Go.Proofs.YtecgkcgfeghhgaaGreatDoor.PAll
open Go.RowKit Go.Proofs.YtecgkcgfeghhgaaGreatDoorW.PrintWords Go.Proofs.YtecgkcgfeghhgaaGreatDoorW.PrintLast Go.Proofs.YtecgkcgfeghhgaaGreatDoorW.PrintMore
def RowOk (r : List V) : Prop := (∀ v ∈ r, VOk v) ∧ (nameB r).length ≤ 1099511627776 ∧ r.length ≤ 1099511627776
def RowsOk (l : List (List V)) : Prop := (∀ r ∈ l, RowOk r) ∧ l.length ≤ 1099511627776
def cnt (l : List ByteArray) (s : ByteArray) : Int := (l.countP (fun t => decide (t = s)) : Nat)
theorem cnt_nil (s : ByteArray) : cnt [] s = 0 := rfl
theorem cnt_snoc (l : List ByteArray) (t s : ByteArray) : cnt (l ++ [t]) s = cnt l s + (if t = s then 1 else 0) := by
 unfold cnt
 rw [List.countP_append]
 by_cases h : t = s <;> simp [h]
theorem cnt_nonneg (l : List ByteArray) (s : ByteArray) : 0 ≤ cnt l s := by unfold cnt; omega
theorem cnt_le (l : List ByteArray) (s : ByteArray) : cnt l s ≤ l.length := by
 unfold cnt
 have := List.countP_le_length (p := fun t => decide (t = s)) (l := l)
 omega
def CMap (W : World) (b : Nat) (f : ByteArray → Int) : Prop := ∃ kv, KV.Is W b (Value.int .i64) kv ∧ ∀ s, (KV.get kv s).getD 0 = f s
theorem CMap.below {W W' : World} {b : Nat} {f : ByteArray → Int} (h : CMap W b f) (hb : Below W.heap.size W W') : CMap W' b f := by
 obtain ⟨kv, h1, h2⟩ := h
 exact ⟨kv, h1.below hb, h2⟩
theorem CMap.grown {W W' : World} {b : Nat} {f : ByteArray → Int} (h : CMap W b f) {row : Option Nat} (hg : W.grownBy W' row) (hne : some b ≠ row) : CMap W' b f := by
 obtain ⟨kv, h1, h2⟩ := h
 exact ⟨kv, h1.grown hg hne, h2⟩
theorem CMap.lt {W : World} {b : Nat} {f : ByteArray → Int} (h : CMap W b f) : b < W.heap.size := by
 obtain ⟨kv, h1, h2⟩ := h
 exact h1.lt
theorem get_int {kv : List (ByteArray × Int)} {s : ByteArray} {c : Int} (h : (KV.get kv s).getD 0 = c) : ((KV.get kv s).map (Value.int .i64)).getD (.int .i64 0) = .int .i64 c := by
 subst h
 cases KV.get kv s <;> rfl
theorem CMap.put {W : World} {b : Nat} {f : ByteArray → Int} {kv : List (ByteArray × Int)} (h2 : ∀ s, (KV.get kv s).getD 0 = f s) {s : ByteArray} {c : Int} (h1 : KV.Is W b (Value.int .i64) (KV.put kv s c)) : CMap W b (fun t => if t = s then c else f t) := by
 refine ⟨_, h1, fun t => ?_⟩
 by_cases h : t = s
 · subst h; simp [KV.get_put_same]
 · simp [KV.get_put_other _ h, h, h2]
theorem zeroInt (w : World) : (zeroValue 3).run Tryz.prog w = .ok (.int .i64 0) w := by kernel_rfl
theorem take_snoc {α : Type} (l : List α) (i : Nat) (h : i < l.length) : l.take (i + 1) = l.take i ++ [l[i]] := List.take_succ_eq_append_getElem h
theorem tally_calls (A0 : Option Addr) (c0 : Nat) (l0 : List (List V)) (w : World) (hT : LaidT w) (hr0 : Kd.C kRow w A0 l0.length l0) (hc0 : l0.length ≤ c0) (hok : RowsOk l0) :
 Calls Tryz.prog 45 #[.slice A0 l0.length c0] w fun e w' => ∃ b : Nat, e = .returned (.map (some b)) ∧ w.heap.size ≤ b ∧ CMap w' b (cnt (l0.map nameOf)) ∧ Below w.heap.size w w' := by
 have HT := Aside0.mk hT
 have HR0 := Aside0.mk hr0
 have HOK := Aside0.mk hok
 clear hT hr0 hc0 hok
 have hmm : ∀ (n : Int) (w : World), (Instr.makeMap 66 (some (.int .i64 n))).run Tryz.prog w = .ok (.map (some w.heap.size)) (w.alloc (.map #[] 0)) := fun _ _ => by kernel_rfl
 go_enter Tryz.func45, Tryz.ntmps45
 go_wp2
 clear hmm
 have M0 : Aside0 (CMap (w.alloc (.map #[] 0)) w.heap.size (cnt ((l0.take (0 : Int).toNat).map nameOf))) := ⟨⟨[], KV.Is.made w _, fun s => by simp [KV.get, cnt_nil]⟩⟩
 have B0 := Aside0.mk ((Below.refl w.heap.size w).alloc (Nat.le_refl _) (.map #[] 0))
 go_loopg [11] l0.length (fun kq v11 W => ∃ x : Int, v11 = .int .i64 x ∧ Aside0 (0 ≤ x ∧ x ≤ l0.length ∧ (kq : Int) = l0.length - x) ∧ Aside0 (CMap W w.heap.size (cnt ((l0.take x.toNat).map nameOf))) ∧ Aside0 (Below w.heap.size w W))
 case atStart => exact ⟨0, rfl, ⟨by omega⟩, M0, B0⟩
 case round =>
  clear M0 B0
  obtain ⟨x, rfl, HX, HM, HB⟩ := hrel
  obtain ⟨hx0, hx1, hkq⟩ := HX.out
  by_cases hlt : x < (l0.length : Int)
  · have c1 : decide (x < (l0.length : Int)) = true := decide_eq_true hlt
    have c2 : decide (0 ≤ x) = true := decide_eq_true hx0
    obtain ⟨ad, A1, c1', e, hx_0, hl_0, hi_0⟩ := at_L4 HR0.out x hx0 hlt
    cases e
    replace hx_0 := (HB.out.cell (World.block_lt_of_cell? w _ hx_0)).trans hx_0
    have hi : x.toNat < l0.length := by omega
    have hrd : rd_L4 l0 x = l0[x.toNat] := by simp [rd_L4, List.getElem?_eq_getElem hi]
    have hok := HOK.out.1 (rd_L4 l0 x) (by rw [hrd]; exact List.getElem_mem hi)
    have hst : (l0.take (x + 1).toNat).map nameOf = (l0.take x.toNat).map nameOf ++ [nameOf (rd_L4 l0 x)] := by
     rw [show (x + 1).toNat = x.toNat + 1 by omega, take_snoc _ _ hi, List.map_append, hrd]; rfl
    obtain ⟨r, hr⟩ : ∃ r, r = rd_L4 l0 x := ⟨_, rfl⟩
    rw [← hr] at hx_0 hl_0 hi_0 hok hst
    have HI0 := Aside0.mk hi_0
    have HL0 := Aside0.mk hl_0
    have HOK1 := Aside0.mk hok
    have HST := Aside0.mk hst
    have HLT := Aside0.mk hlt
    have HWR : Aside0 (wrap64 (x + 1) = x + 1) := ⟨by have := HOK.out.2; unfold wrap64; omega⟩
    clear hi_0 hl_0 hok hst hrd hr hkq hi
    go_wp2_with fail
    refine (name_calls _ _ r wr (HT.out.below HB.out) (Kd.C_below HI0.out HB.out) HL0.out HOK1.out.1 HOK1.out.2.1 HOK1.out.2.2).mono ?_
    rintro e w1 ⟨rfl, hb1⟩
    have HM1 := Aside0.mk (HM.out.below hb1)
    have HB1 := Aside0.mk (HB.out.trans (hb1.mono HB.out.size))
    clear hb1
    obtain ⟨kv, hkv⟩ := HM1.out
    have HKV := Aside0.mk hkv
    have hc : Aside0 ((KV.get kv (nameOf r)).getD 0 = cnt ((l0.take x.toNat).map nameOf) (nameOf r)) := ⟨hkv.2 _⟩
    obtain ⟨c, hcc⟩ : ∃ c, c = cnt ((l0.take x.toNat).map nameOf) (nameOf r) := ⟨_, rfl⟩
    rw [← hcc] at hc
    have hc0 : 0 ≤ c := by rw [hcc]; exact cnt_nonneg _ _
    have hc1 : c ≤ 1099511627776 := by
     have h1 := cnt_le ((l0.take x.toNat).map nameOf) (nameOf r)
     have h2 := HOK.out.2
     rw [List.length_map, List.length_take] at h1
     omega
    have HCC := Aside0.mk hcc
    clear hcc hkv HM1 HM
    go_wp2_with (first
     | (at_lookup; refine KV.law_lookup _ rfl _ _ 66 rfl 9 3 Tryz.underlying9 Tryz.underlying66 (.int .i64 0) (zeroInt _) w.heap.size (Value.int .i64) kv rfl HKV.out.1 (nameOf r) rfl (.int .i64 c) (get_int hc.out) ?_)
     | (at_mapUpdate; refine KV.law_update _ rfl _ _ _ 66 rfl 9 3 Tryz.underlying9 Tryz.underlying66 w.heap.size (Value.int .i64) kv rfl HKV.out.1 (nameOf r) rfl (c + 1) rfl ?_; intro w2 hM2 hg2; have HM2 := Aside0.mk hM2; have HG2 := Aside0.mk hg2; clear hM2 hg2))
    have hlt := HLT.out
    have hk := HX.out.2.2
    cases gk with
    | zero => omega
    | succ k1 =>
     go_roundg k1
     case measure => omega
     case rel =>
      refine ⟨x + 1, by rw [HWR.out], ⟨by omega⟩, ⟨?_⟩, ⟨HB1.out.grown HG2.out HB1.out.size (fun k hk => by cases hk; exact Nat.le_refl _)⟩⟩
      have h3 := CMap.put HKV.out.2 HM2.out
      have h4 : (fun t => if t = nameOf r then c + 1 else cnt ((l0.take x.toNat).map nameOf) t) = cnt ((l0.take (x + 1).toNat).map nameOf) := by
       funext t
       rw [HST.out, cnt_snoc, HCC.out]
       by_cases h : t = nameOf r
       · subst h; simp
       · have : ¬ nameOf r = t := fun e => h e.symm
         simp [h, this]
      rw [h4] at h3
      exact h3
  · have c1 : decide (x < (l0.length : Int)) = false := decide_eq_false hlt
    go_wp2
    go_ret
    refine ⟨_, rfl, Nat.le_refl _, ?_, HB.out⟩
    have : l0.take x.toNat = l0 := List.take_of_length_le (by omega)
    have h := HM.out
    rw [this] at h
    exact h
end Go.Proofs.YtecgkcgfeghhgaaGreatDoor.PAll
namespace Go.Proofs.YtecgkcgfeghhgaaGreatDoor.PAll
open Go.RowKit Go.Proofs.YtecgkcgfeghhgaaGreatDoorW.PrintWords Go.Proofs.YtecgkcgfeghhgaaGreatDoorW.PrintLast Go.Proofs.YtecgkcgfeghhgaaGreatDoorW.PrintMore
attribute [local go_sem] max2_int min2_int max_two min_two max_three min_three max_four min_four
set_option linter.unusedVariables false
set_option linter.unusedSimpArgs false
theorem eqA36 (d : Nat) (w : World) (x0 y0 : Int) (x1 y1 : Int) (x2 y2 : ByteArray) :
 (Op.equalIn (d + 2) 36 (.agg #[.int .u8 x0, .int .i64 x1, .string x2]) (.agg #[.int .u8 y0, .int .i64 y1, .string y2])).run Tryz.prog w = .ok (x0 == y0 && (x1 == y1 && (x2.toList == y2.toList))) w := by
 refine eqA_of Tryz.underlying36 (by kernel_rfl) ?_
 refine eqf_cons (by rfl) (by go_simp; rfl) (by go_simp; rfl) (by go_simp) ?_
 refine eqf_cons (by rfl) (by go_simp; rfl) (by go_simp; rfl) (by go_simp) ?_
 exact eqf_last (by rfl) (by go_simp; rfl) (by go_simp; rfl) (by go_simp)
end Go.Proofs.YtecgkcgfeghhgaaGreatDoor.PAll
namespace Go.Proofs.YtecgkcgfeghhgaaGreatDoor.PAll
open Go.RowKit Go.Proofs.YtecgkcgfeghhgaaGreatDoorW.PrintWords Go.Proofs.YtecgkcgfeghhgaaGreatDoorW.PrintLast Go.Proofs.YtecgkcgfeghhgaaGreatDoorW.PrintMore
attribute [local go_sem] max2_int min2_int max_two min_two max_three min_three max_four min_four
set_option linter.unusedVariables false
set_option linter.unusedSimpArgs false
attribute [local go_sem high] eqA36
def value_Valid.f (a0_0 : Int) (a0_1 : Int) (a0_2 : ByteArray) : Option (Bool) := if a0_0 = 0 then (some (a0_0 == 0 && (a0_1 == 0 && (a0_2.toList == ([] : List UInt8))))) else (if a0_0 = 1 then (some (a0_2.toList == ([] : List UInt8))) else (if a0_0 = 2 then (if a0_1 = 0 then (some (decide ((a0_2.size : Int) ≤ 100))) else (some false)) else (if a0_0 = 3 then (if a0_2.toList = ([] : List UInt8) then (some (decide ((IntKind.u64.wrap (a0_1)) ≤ 1))) else (some false)) else (some false))))
theorem value_Valid.calls (a0_0 : Int) (a0_1 : Int) (a0_2 : ByteArray) (r : Bool) (w : World) (h : value_Valid.f a0_0 a0_1 a0_2 = some r) :
 Calls Tryz.prog 42 #[.agg #[.int .u8 a0_0, .int .i64 a0_1, .string a0_2]] w fun e w' => e = .returned (.bool r) ∧ Below w.heap.size w w' := by
 have hu36 := Tryz.underlying36
 have HB := Aside0.mk (Below.refl w.heap.size w)
 have H : (if a0_0 = 0 then (some (a0_0 == 0 && (a0_1 == 0 && (a0_2.toList == ([] : List UInt8))))) else (if a0_0 = 1 then (some (a0_2.toList == ([] : List UInt8))) else (if a0_0 = 2 then (if a0_1 = 0 then (some (decide ((a0_2.size : Int) ≤ 100))) else (some false)) else (if a0_0 = 3 then (if a0_2.toList = ([] : List UInt8) then (some (decide ((IntKind.u64.wrap (a0_1)) ≤ 1))) else (some false)) else (some false))))) = some r := h
 clear h
 by_cases c2 : a0_0 = 0
 · rw [if_pos c2] at H
   have c2b0 : (a0_0 == 0) = true := beq_iff_eq.mpr c2
   have c2b1 : (a0_0 != 0) = false := bne_eq_false_iff_eq.mpr c2
   clear c2
   obtain rfl := Option.some.inj H
   go_enter Tryz.func42, Tryz.ntmps42
   go_wp2_with (first | ((with_reducible refine gate_dst (N := 1) rfl ?_); (try (refine gate_guard (by rfl) ?_; dsimp only)); refine box_event ?hg (N := 1) ?hd (cs := #[.int .u8 a0_0, .int .i64 a0_1, .string a0_2]) (t := 36) ?hr ?_; (case hd => rfl); (case hg => rfl); (case hr => first | (go_simp; done) | (go_simp; rfl)); intro gb101 hg w3 hbox hb; have n0_ := Aside0.mk (below_step (by repeat (first | (with_reducible first | exact HB.out | apply bA_ | apply bN_ | apply b1_) | exact HB.out)) hb); have n1_ := Aside0.mk (hbox); have n2_ := Aside0.mk ((by rw [hg]; exact (below_size (by repeat (first | (with_reducible first | exact HB.out | apply bA_ | apply bN_ | apply b1_) | exact HB.out))) : w.heap.size ≤ gb101)); have n3_ := Aside0.mk ((by rw [hg]; exact (below_size (by repeat (first | (with_reducible first | exact HB.out | apply bA_ | apply bN_ | apply b1_) | exact HB.out))) : w.heap.size ≤ gb101)); clear HB; have HB := n0_; have BK101 := n1_; have GW101 := n2_; have GE101 := n3_; clear n0_ n1_ n2_ n3_; clear hb hbox hg; have hcz4_0 : w3.cell? ⟨gb101, 0, none⟩ = some (.int .u8 a0_0) := (blk_cell BK101.out 0).trans rfl; have hcz4_1 : w3.cell? ⟨gb101, 1, none⟩ = some (.int .i64 a0_1) := (blk_cell BK101.out 1).trans rfl; have hcz4_2 : w3.cell? ⟨gb101, 2, none⟩ = some (.string a0_2) := (blk_cell BK101.out 2).trans rfl; have hfz4_0 := blk_frozen BK101.out 0; have hfz4_1 := blk_frozen BK101.out 1; have hfz4_2 := blk_frozen BK101.out 2))
   go_ret
   exact ⟨by first | rfl | (simp [*, errW_none, errW_some] <;> rfl), by repeat (first | (with_reducible first | exact HB.out | apply bA_ | apply bN_ | apply b1_ | refine below_set ?_ GE101.out) | exact HB.out)⟩
 · rw [if_neg c2] at H
   have c2b0 : (a0_0 == 0) = false := beq_eq_false_iff_ne.mpr c2
   have c2b1 : (a0_0 != 0) = true := bne_iff_ne.mpr c2
   by_cases c5 : a0_0 = 1
   · rw [if_pos c5] at H
     have c5b0 : (a0_0 == 1) = true := beq_iff_eq.mpr c5
     have c5b1 : (a0_0 != 1) = false := bne_eq_false_iff_eq.mpr c5
     clear c5
     obtain rfl := Option.some.inj H
     go_enter Tryz.func42, Tryz.ntmps42
     go_wp2_with (first | ((with_reducible refine gate_dst (N := 1) rfl ?_); (try (refine gate_guard (by rfl) ?_; dsimp only)); refine box_event ?hg (N := 1) ?hd (cs := #[.int .u8 a0_0, .int .i64 a0_1, .string a0_2]) (t := 36) ?hr ?_; (case hd => rfl); (case hg => rfl); (case hr => first | (go_simp; done) | (go_simp; rfl)); intro gb101 hg w6 hbox hb; have n0_ := Aside0.mk (below_step (by repeat (first | (with_reducible first | exact HB.out | apply bA_ | apply bN_ | apply b1_) | exact HB.out)) hb); have n1_ := Aside0.mk (hbox); have n2_ := Aside0.mk ((by rw [hg]; exact (below_size (by repeat (first | (with_reducible first | exact HB.out | apply bA_ | apply bN_ | apply b1_) | exact HB.out))) : w.heap.size ≤ gb101)); have n3_ := Aside0.mk ((by rw [hg]; exact (below_size (by repeat (first | (with_reducible first | exact HB.out | apply bA_ | apply bN_ | apply b1_) | exact HB.out))) : w.heap.size ≤ gb101)); clear HB; have HB := n0_; have BK101 := n1_; have GW101 := n2_; have GE101 := n3_; clear n0_ n1_ n2_ n3_; clear hb hbox hg; have hcz7_0 : w6.cell? ⟨gb101, 0, none⟩ = some (.int .u8 a0_0) := (blk_cell BK101.out 0).trans rfl; have hcz7_1 : w6.cell? ⟨gb101, 1, none⟩ = some (.int .i64 a0_1) := (blk_cell BK101.out 1).trans rfl; have hcz7_2 : w6.cell? ⟨gb101, 2, none⟩ = some (.string a0_2) := (blk_cell BK101.out 2).trans rfl; have hfz7_0 := blk_frozen BK101.out 0; have hfz7_1 := blk_frozen BK101.out 1; have hfz7_2 := blk_frozen BK101.out 2))
     go_ret
     exact ⟨by first | rfl | (simp [*, errW_none, errW_some] <;> rfl), by repeat (first | (with_reducible first | exact HB.out | apply bA_ | apply bN_ | apply b1_ | refine below_set ?_ GE101.out) | exact HB.out)⟩
   · rw [if_neg c5] at H
     have c5b0 : (a0_0 == 1) = false := beq_eq_false_iff_ne.mpr c5
     have c5b1 : (a0_0 != 1) = true := bne_iff_ne.mpr c5
     by_cases c8 : a0_0 = 2
     · rw [if_pos c8] at H
       have c8b0 : (a0_0 == 2) = true := beq_iff_eq.mpr c8
       have c8b1 : (a0_0 != 2) = false := bne_eq_false_iff_eq.mpr c8
       clear c8
       by_cases c9 : a0_1 = 0
       · rw [if_pos c9] at H
         have c9b0 : (a0_1 == 0) = true := beq_iff_eq.mpr c9
         have c9b1 : (a0_1 != 0) = false := bne_eq_false_iff_eq.mpr c9
         clear c9
         obtain rfl := Option.some.inj H
         go_enter Tryz.func42, Tryz.ntmps42
         go_wp2_with (first | ((with_reducible refine gate_dst (N := 1) rfl ?_); (try (refine gate_guard (by rfl) ?_; dsimp only)); refine box_event ?hg (N := 1) ?hd (cs := #[.int .u8 a0_0, .int .i64 a0_1, .string a0_2]) (t := 36) ?hr ?_; (case hd => rfl); (case hg => rfl); (case hr => first | (go_simp; done) | (go_simp; rfl)); intro gb101 hg w10 hbox hb; have n0_ := Aside0.mk (below_step (by repeat (first | (with_reducible first | exact HB.out | apply bA_ | apply bN_ | apply b1_) | exact HB.out)) hb); have n1_ := Aside0.mk (hbox); have n2_ := Aside0.mk ((by rw [hg]; exact (below_size (by repeat (first | (with_reducible first | exact HB.out | apply bA_ | apply bN_ | apply b1_) | exact HB.out))) : w.heap.size ≤ gb101)); have n3_ := Aside0.mk ((by rw [hg]; exact (below_size (by repeat (first | (with_reducible first | exact HB.out | apply bA_ | apply bN_ | apply b1_) | exact HB.out))) : w.heap.size ≤ gb101)); clear HB; have HB := n0_; have BK101 := n1_; have GW101 := n2_; have GE101 := n3_; clear n0_ n1_ n2_ n3_; clear hb hbox hg; have hcz11_0 : w10.cell? ⟨gb101, 0, none⟩ = some (.int .u8 a0_0) := (blk_cell BK101.out 0).trans rfl; have hcz11_1 : w10.cell? ⟨gb101, 1, none⟩ = some (.int .i64 a0_1) := (blk_cell BK101.out 1).trans rfl; have hcz11_2 : w10.cell? ⟨gb101, 2, none⟩ = some (.string a0_2) := (blk_cell BK101.out 2).trans rfl; have hfz11_0 := blk_frozen BK101.out 0; have hfz11_1 := blk_frozen BK101.out 1; have hfz11_2 := blk_frozen BK101.out 2))
         go_ret
         exact ⟨by first | rfl | (simp [*, errW_none, errW_some] <;> rfl), by repeat (first | (with_reducible first | exact HB.out | apply bA_ | apply bN_ | apply b1_ | refine below_set ?_ GE101.out) | exact HB.out)⟩
       · rw [if_neg c9] at H
         have c9b0 : (a0_1 == 0) = false := beq_eq_false_iff_ne.mpr c9
         have c9b1 : (a0_1 != 0) = true := bne_iff_ne.mpr c9
         obtain rfl := Option.some.inj H
         go_enter Tryz.func42, Tryz.ntmps42
         go_wp2_with (first | ((with_reducible refine gate_dst (N := 1) rfl ?_); (try (refine gate_guard (by rfl) ?_; dsimp only)); refine box_event ?hg (N := 1) ?hd (cs := #[.int .u8 a0_0, .int .i64 a0_1, .string a0_2]) (t := 36) ?hr ?_; (case hd => rfl); (case hg => rfl); (case hr => first | (go_simp; done) | (go_simp; rfl)); intro gb101 hg w12 hbox hb; have n0_ := Aside0.mk (below_step (by repeat (first | (with_reducible first | exact HB.out | apply bA_ | apply bN_ | apply b1_) | exact HB.out)) hb); have n1_ := Aside0.mk (hbox); have n2_ := Aside0.mk ((by rw [hg]; exact (below_size (by repeat (first | (with_reducible first | exact HB.out | apply bA_ | apply bN_ | apply b1_) | exact HB.out))) : w.heap.size ≤ gb101)); have n3_ := Aside0.mk ((by rw [hg]; exact (below_size (by repeat (first | (with_reducible first | exact HB.out | apply bA_ | apply bN_ | apply b1_) | exact HB.out))) : w.heap.size ≤ gb101)); clear HB; have HB := n0_; have BK101 := n1_; have GW101 := n2_; have GE101 := n3_; clear n0_ n1_ n2_ n3_; clear hb hbox hg; have hcz13_0 : w12.cell? ⟨gb101, 0, none⟩ = some (.int .u8 a0_0) := (blk_cell BK101.out 0).trans rfl; have hcz13_1 : w12.cell? ⟨gb101, 1, none⟩ = some (.int .i64 a0_1) := (blk_cell BK101.out 1).trans rfl; have hcz13_2 : w12.cell? ⟨gb101, 2, none⟩ = some (.string a0_2) := (blk_cell BK101.out 2).trans rfl; have hfz13_0 := blk_frozen BK101.out 0; have hfz13_1 := blk_frozen BK101.out 1; have hfz13_2 := blk_frozen BK101.out 2))
         go_ret
         exact ⟨by first | rfl | (simp [*, errW_none, errW_some] <;> rfl), by repeat (first | (with_reducible first | exact HB.out | apply bA_ | apply bN_ | apply b1_ | refine below_set ?_ GE101.out) | exact HB.out)⟩
     · rw [if_neg c8] at H
       have c8b0 : (a0_0 == 2) = false := beq_eq_false_iff_ne.mpr c8
       have c8b1 : (a0_0 != 2) = true := bne_iff_ne.mpr c8
       by_cases c14 : a0_0 = 3
       · rw [if_pos c14] at H
         have c14b0 : (a0_0 == 3) = true := beq_iff_eq.mpr c14
         have c14b1 : (a0_0 != 3) = false := bne_eq_false_iff_eq.mpr c14
         clear c14
         by_cases c15 : a0_2.toList = ([] : List UInt8)
         · rw [if_pos c15] at H
           have c15b0 : (a0_2.toList == ([] : List UInt8)) = true := beq_iff_eq.mpr c15
           have c15b1 : (a0_2.toList != ([] : List UInt8)) = false := bne_eq_false_iff_eq.mpr c15
           clear c15
           obtain rfl := Option.some.inj H
           go_enter Tryz.func42, Tryz.ntmps42
           go_wp2_with (first | ((with_reducible refine gate_dst (N := 1) rfl ?_); (try (refine gate_guard (by rfl) ?_; dsimp only)); refine box_event ?hg (N := 1) ?hd (cs := #[.int .u8 a0_0, .int .i64 a0_1, .string a0_2]) (t := 36) ?hr ?_; (case hd => rfl); (case hg => rfl); (case hr => first | (go_simp; done) | (go_simp; rfl)); intro gb101 hg w16 hbox hb; have n0_ := Aside0.mk (below_step (by repeat (first | (with_reducible first | exact HB.out | apply bA_ | apply bN_ | apply b1_) | exact HB.out)) hb); have n1_ := Aside0.mk (hbox); have n2_ := Aside0.mk ((by rw [hg]; exact (below_size (by repeat (first | (with_reducible first | exact HB.out | apply bA_ | apply bN_ | apply b1_) | exact HB.out))) : w.heap.size ≤ gb101)); have n3_ := Aside0.mk ((by rw [hg]; exact (below_size (by repeat (first | (with_reducible first | exact HB.out | apply bA_ | apply bN_ | apply b1_) | exact HB.out))) : w.heap.size ≤ gb101)); clear HB; have HB := n0_; have BK101 := n1_; have GW101 := n2_; have GE101 := n3_; clear n0_ n1_ n2_ n3_; clear hb hbox hg; have hcz17_0 : w16.cell? ⟨gb101, 0, none⟩ = some (.int .u8 a0_0) := (blk_cell BK101.out 0).trans rfl; have hcz17_1 : w16.cell? ⟨gb101, 1, none⟩ = some (.int .i64 a0_1) := (blk_cell BK101.out 1).trans rfl; have hcz17_2 : w16.cell? ⟨gb101, 2, none⟩ = some (.string a0_2) := (blk_cell BK101.out 2).trans rfl; have hfz17_0 := blk_frozen BK101.out 0; have hfz17_1 := blk_frozen BK101.out 1; have hfz17_2 := blk_frozen BK101.out 2))
           go_ret
           exact ⟨by first | rfl | (simp [*, errW_none, errW_some] <;> rfl), by repeat (first | (with_reducible first | exact HB.out | apply bA_ | apply bN_ | apply b1_ | refine below_set ?_ GE101.out) | exact HB.out)⟩
         · rw [if_neg c15] at H
           have c15b0 : (a0_2.toList == ([] : List UInt8)) = false := beq_eq_false_iff_ne.mpr c15
           have c15b1 : (a0_2.toList != ([] : List UInt8)) = true := bne_iff_ne.mpr c15
           obtain rfl := Option.some.inj H
           go_enter Tryz.func42, Tryz.ntmps42
           go_wp2_with (first | ((with_reducible refine gate_dst (N := 1) rfl ?_); (try (refine gate_guard (by rfl) ?_; dsimp only)); refine box_event ?hg (N := 1) ?hd (cs := #[.int .u8 a0_0, .int .i64 a0_1, .string a0_2]) (t := 36) ?hr ?_; (case hd => rfl); (case hg => rfl); (case hr => first | (go_simp; done) | (go_simp; rfl)); intro gb101 hg w18 hbox hb; have n0_ := Aside0.mk (below_step (by repeat (first | (with_reducible first | exact HB.out | apply bA_ | apply bN_ | apply b1_) | exact HB.out)) hb); have n1_ := Aside0.mk (hbox); have n2_ := Aside0.mk ((by rw [hg]; exact (below_size (by repeat (first | (with_reducible first | exact HB.out | apply bA_ | apply bN_ | apply b1_) | exact HB.out))) : w.heap.size ≤ gb101)); have n3_ := Aside0.mk ((by rw [hg]; exact (below_size (by repeat (first | (with_reducible first | exact HB.out | apply bA_ | apply bN_ | apply b1_) | exact HB.out))) : w.heap.size ≤ gb101)); clear HB; have HB := n0_; have BK101 := n1_; have GW101 := n2_; have GE101 := n3_; clear n0_ n1_ n2_ n3_; clear hb hbox hg; have hcz19_0 : w18.cell? ⟨gb101, 0, none⟩ = some (.int .u8 a0_0) := (blk_cell BK101.out 0).trans rfl; have hcz19_1 : w18.cell? ⟨gb101, 1, none⟩ = some (.int .i64 a0_1) := (blk_cell BK101.out 1).trans rfl; have hcz19_2 : w18.cell? ⟨gb101, 2, none⟩ = some (.string a0_2) := (blk_cell BK101.out 2).trans rfl; have hfz19_0 := blk_frozen BK101.out 0; have hfz19_1 := blk_frozen BK101.out 1; have hfz19_2 := blk_frozen BK101.out 2))
           go_ret
           exact ⟨by first | rfl | (simp [*, errW_none, errW_some] <;> rfl), by repeat (first | (with_reducible first | exact HB.out | apply bA_ | apply bN_ | apply b1_ | refine below_set ?_ GE101.out) | exact HB.out)⟩
       · rw [if_neg c14] at H
         have c14b0 : (a0_0 == 3) = false := beq_eq_false_iff_ne.mpr c14
         have c14b1 : (a0_0 != 3) = true := bne_iff_ne.mpr c14
         obtain rfl := Option.some.inj H
         go_enter Tryz.func42, Tryz.ntmps42
         go_wp2_with (first | ((with_reducible refine gate_dst (N := 1) rfl ?_); (try (refine gate_guard (by rfl) ?_; dsimp only)); refine box_event ?hg (N := 1) ?hd (cs := #[.int .u8 a0_0, .int .i64 a0_1, .string a0_2]) (t := 36) ?hr ?_; (case hd => rfl); (case hg => rfl); (case hr => first | (go_simp; done) | (go_simp; rfl)); intro gb101 hg w20 hbox hb; have n0_ := Aside0.mk (below_step (by repeat (first | (with_reducible first | exact HB.out | apply bA_ | apply bN_ | apply b1_) | exact HB.out)) hb); have n1_ := Aside0.mk (hbox); have n2_ := Aside0.mk ((by rw [hg]; exact (below_size (by repeat (first | (with_reducible first | exact HB.out | apply bA_ | apply bN_ | apply b1_) | exact HB.out))) : w.heap.size ≤ gb101)); have n3_ := Aside0.mk ((by rw [hg]; exact (below_size (by repeat (first | (with_reducible first | exact HB.out | apply bA_ | apply bN_ | apply b1_) | exact HB.out))) : w.heap.size ≤ gb101)); clear HB; have HB := n0_; have BK101 := n1_; have GW101 := n2_; have GE101 := n3_; clear n0_ n1_ n2_ n3_; clear hb hbox hg; have hcz21_0 : w20.cell? ⟨gb101, 0, none⟩ = some (.int .u8 a0_0) := (blk_cell BK101.out 0).trans rfl; have hcz21_1 : w20.cell? ⟨gb101, 1, none⟩ = some (.int .i64 a0_1) := (blk_cell BK101.out 1).trans rfl; have hcz21_2 : w20.cell? ⟨gb101, 2, none⟩ = some (.string a0_2) := (blk_cell BK101.out 2).trans rfl; have hfz21_0 := blk_frozen BK101.out 0; have hfz21_1 := blk_frozen BK101.out 1; have hfz21_2 := blk_frozen BK101.out 2))
         go_ret
         exact ⟨by first | rfl | (simp [*, errW_none, errW_some] <;> rfl), by repeat (first | (with_reducible first | exact HB.out | apply bA_ | apply bN_ | apply b1_ | refine below_set ?_ GE101.out) | exact HB.out)⟩
end Go.Proofs.YtecgkcgfeghhgaaGreatDoor.PAll
namespace Go.Proofs.YtecgkcgfeghhgaaGreatDoor.PAll
open Go.RowKit Go.Proofs.YtecgkcgfeghhgaaGreatDoorW.PrintWords Go.Proofs.YtecgkcgfeghhgaaGreatDoorW.PrintLast Go.Proofs.YtecgkcgfeghhgaaGreatDoorW.PrintMore
attribute [local go_sem] max2_int min2_int max_two min_two max_three min_three max_four min_four
set_option linter.unusedVariables false
set_option linter.unusedSimpArgs false
mutual
def bag_Valid.l0 : Nat → List Int → List (List (S36)) → Int → Int → Option (Bool)
 | 0, _, _, _, _ => none
 | k + 1, x3, x16, x17, x18 => if x18 < x17 then (if 0 ≤ x18 then (if x18 < (x16.length : Int) then (if ((rd_L4 x16 x18).length : Int) = (x3.length : Int) then (bag_Valid.l1 k x3 x16 x17 x18 (rd_L4 x16 x18) ((rd_L4 x16 x18).length : Int) 0) else (some false)) else (none)) else (none)) else (some true)
def bag_Valid.l1 : Nat → List Int → List (List (S36)) → Int → Int → List (S36) → Int → Int → Option (Bool)
 | 0, _, _, _, _, _, _, _ => none
 | k + 1, x3, x16, x17, x18, x27, x28, x29 => if x29 < x28 then (if 0 ≤ x29 then (if x29 < (x27.length : Int) then ((value_Valid.f ((rd_T36 x27 x29).f0) ((rd_T36 x27 x29).f1) ((rd_T36 x27 x29).f2)).bind fun t109 => (if t109 = true then (if x29 < (x3.length : Int) then (if (rd x3 x29) = 0 then (bag_Valid.l1 k (x3.set (x29 : Int).toNat ((rd_T36 x27 x29).f0)) x16 x17 x18 x27 x28 (wrap64 (x29 + 1))) else (if (rd x3 x29) = ((rd_T36 x27 x29).f0) then (bag_Valid.l1 k x3 x16 x17 x18 x27 x28 (wrap64 (x29 + 1))) else (if ((rd_T36 x27 x29).f0) = 0 then (bag_Valid.l1 k x3 x16 x17 x18 x27 x28 (wrap64 (x29 + 1))) else (some false)))) else (none)) else (some false))) else (none)) else (none)) else (bag_Valid.l0 k x3 x16 x17 (wrap64 (x18 + 1)))
end
def bag_Valid.f (k : Nat) (l0 : List (List (S36))) : Option (Bool) := if (l0.length : Int) = 0 then (some true) else (if 0 < (l0.length : Int) then (if 0 ≤ ((rd_L4 l0 0).length : Int) then (if (((rd_L4 l0 0).length : Int) : Int).toNat ≤ 281474976710656 then (bag_Valid.l0 k (List.replicate (((rd_L4 l0 0).length : Int) : Int).toNat 0) l0 (l0.length : Int) 0) else (none)) else (none)) else (none))
theorem bag_Valid.calls (k : Nat) (A0 : Option Addr) (c0 : Nat) (l0 : List (List (S36))) (r : Bool) (w : World) (hr0 : Kd.C (Kd.slice 36 k36) w A0 l0.length l0) (hc0 : l0.length ≤ c0) (h : bag_Valid.f k l0 = some r) :
 Calls Tryz.prog 12 #[.slice A0 l0.length c0] w fun e w' => e = .returned (.bool r) ∧ Below w.heap.size w w' := by
 have hu36 := Tryz.underlying36
 have HR0 := Aside0.mk hr0
 have HC0 := Aside0.mk hc0
 clear hr0 hc0
 have HB := Aside0.mk (Below.refl w.heap.size w)
 have H : (if (l0.length : Int) = 0 then (some true) else (if 0 < (l0.length : Int) then (if 0 ≤ ((rd_L4 l0 0).length : Int) then (if (((rd_L4 l0 0).length : Int) : Int).toNat ≤ 281474976710656 then (bag_Valid.l0 k (List.replicate (((rd_L4 l0 0).length : Int) : Int).toNat 0) l0 (l0.length : Int) 0) else (none)) else (none)) else (none))) = some r := h
 clear h
 by_cases c2 : (l0.length : Int) = 0
 · rw [if_pos c2] at H
   have c2b0 : ((l0.length : Int) == 0) = true := beq_iff_eq.mpr c2
   have c2b1 : ((l0.length : Int) != 0) = false := bne_eq_false_iff_eq.mpr c2
   clear c2
   obtain rfl := Option.some.inj H
   go_enter Tryz.func12, Tryz.ntmps12
   go_wp2
   go_ret
   exact ⟨by first | rfl | (simp [*, errW_none, errW_some] <;> rfl), by repeat (first | (with_reducible first | exact HB.out | apply bA_ | apply bN_ | apply b1_) | exact HB.out)⟩
 · rw [if_neg c2] at H
   have c2b0 : ((l0.length : Int) == 0) = false := beq_eq_false_iff_ne.mpr c2
   have c2b1 : ((l0.length : Int) != 0) = true := bne_iff_ne.mpr c2
   have c2b2 : ¬ (l0 = []) := fun h_ => c2 (by rw [h_]; rfl)
   by_cases c3 : 0 < (l0.length : Int)
   · rw [if_pos c3] at H
     have c3b0 : decide (0 < (l0.length : Int)) = true := dT_ c3
     have c3b1 : decide (0 < l0.length) = true := dT_ (by omega)
     clear c3
     by_cases c4 : 0 ≤ ((rd_L4 l0 0).length : Int)
     · rw [if_pos c4] at H
       have c4b0 := eq_true c4
       have c4b1 : decide (0 ≤ ((rd_L4 l0 0).length : Int)) = true := dT_ c4
       clear c4
       by_cases c5 : (((rd_L4 l0 0).length : Int) : Int).toNat ≤ 281474976710656
       · rw [if_pos c5] at H
         have c5b0 := eq_true c5
         have c5b1 : decide ((((rd_L4 l0 0).length : Int) : Int).toNat ≤ 281474976710656) = true := dT_ c5
         clear c5
         obtain ⟨y103, hy103⟩ : ∃ y_ : List Int, y_ = (List.replicate (((rd_L4 l0 0).length : Int) : Int).toNat 0) := ⟨_, rfl⟩
         replace H : (bag_Valid.l0 k y103 l0 (l0.length : Int) 0) = some r := by first | (rw [hy103]; with_reducible exact H) | (have H2_ := (Option.bind_some _ _).symm.trans H; rw [hy103]; with_reducible exact H2_) | (have H2_ := (Option.bind_some _ _).symm.trans H; with_reducible exact H2_) | with_reducible exact H | (rw [hy103]; exact H) | exact H
         have Ny103 := Aside0.mk hy103
         clear hy103
         have H' := Aside0.mk H
         clear H
         have p102 : 0 ≤ (0 : Int) := (by omega)
         have q102 : 0 < (l0.length : Int) := oT_ (by assumption)
         obtain ⟨ad102, A102_0, c102_0, e102, hx102_0, hl102_0, hi102_0⟩ := at_L4 HR0.out 0 p102 q102
         cases e102
         have qi102 : (0 < l0.length) = True := eq_true (by omega)
         (try rw [show ((0 : Int)).toNat = 0 from rfl] at hx102_0)
         (try rw [Addr.add_zero'] at hx102_0)
         have HR102_0 := Aside0.mk hi102_0
         have HC102_0 := Aside0.mk hl102_0
         clear hi102_0 hl102_0
         replace p102 := eq_true p102
         replace q102 := eq_true q102
         go_enter Tryz.func12, Tryz.ntmps12
         go_wp2_with (first | ((with_reducible refine gate_dst (N := 15) rfl ?_); refine Kd.R_make (Kd.int .u8) _ 34 rfl (N := 15) rfl 59 _ _ rfl ((rd_L4 l0 0).length : Int) rfl rfl Tryz.underlying59 (.int .u8 0) 1 info34 rfl (by decide) (by omega) 0 (ok := fun _ => True) (okp := fun _ => True) rfl (fun _ hk => hk) trivial (oT_ (by assumption)) (Nat.le_trans (Nat.mul_le_mul_right _ (oT_ (by assumption) : ((rd_L4 l0 0).length : Int).toNat ≤ 281474976710656)) (by omega)) (Below.refl _ _) (Nat.le_refl _) ?_; intro v104 w6 ho7 hb hg_ hnew_; clear hg_ hnew_; (first | rw [← Ny103.out] at ho7 | (simp only [Int.reduceToNat] at ho7; rw [← Ny103.out] at ho7)); have n0_ := Aside0.mk (Kd.R_lower ho7 (below_size (by repeat (first | (with_reducible first | exact HB.out | apply bA_ | apply bN_ | apply b1_) | exact HB.out)))); have n1_ := Aside0.mk (below_step (by repeat (first | (with_reducible first | exact HB.out | apply bA_ | apply bN_ | apply b1_) | exact HB.out)) hb); clear HB; have HO105 := n0_; have HB := n1_; clear n0_ n1_; clear hb ho7))
         go_loopg [18] k (fun kq v18 w' => ∃ (x3_1 : List Int) (x18_1 : Int), v18 = .int .i64 x18_1 ∧ Aside0 (bag_Valid.l0 kq x3_1 l0 (l0.length : Int) x18_1 = some r) ∧ Aside0 (kq ≤ k) ∧ Aside0 (Kd.R (Kd.int .u8) 34 w' w.heap.size (fun _ => True) v104 x3_1) ∧ Aside0 (Below w.heap.size w w'))
         case atStart => exact ⟨(y103), (0), (by first | rfl | (simp; done) | (simp [*]; done)), H', ⟨Nat.le_refl _⟩, ⟨by (with_reducible repeat (first | apply Kd.R_alloc | apply Kd.R_drewN | apply Kd.R_drew)); exact HO105.out⟩, ⟨by repeat (first | (with_reducible first | exact HB.out | apply bA_ | apply bN_ | apply b1_) | exact HB.out)⟩⟩
         case round =>
          clear H'
          try clear c1
          try clear p1
          try clear q1
          try clear hx1
          try clear qi1
          try clear c2
          try clear c2b0
          try clear c2b1
          try clear c2b2
          try clear p2
          try clear c3
          try clear c3b0
          try clear c3b1
          try clear c4
          try clear c4b0
          try clear c4b1
          try clear c5
          try clear c5b0
          try clear c5b1
          try clear hx102_0
          try clear p102
          try clear q102
          obtain ⟨x3_1, x18_1, rfl, HA, HK1, HO_3, HB⟩ := hrel
          cases gk with
          | zero => exact absurd HA.out (by simp [bag_Valid.l0])
          | succ k1 =>
           have H := HA.out
           clear HA
           simp only [bag_Valid.l0] at H
           by_cases c8 : x18_1 < (l0.length : Int)
           · rw [if_pos c8] at H
             have c8b0 : decide (x18_1 < (l0.length : Int)) = true := dT_ c8
             clear c8
             by_cases c9 : 0 ≤ x18_1
             · rw [if_pos c9] at H
               have c9b0 : decide (0 ≤ x18_1) = true := dT_ c9
               clear c9
               by_cases c10 : x18_1 < (l0.length : Int)
               · rw [if_pos c10] at H
                 have c10b0 : decide (x18_1 < (l0.length : Int)) = true := dT_ c10
                 clear c10
                 by_cases c11 : ((rd_L4 l0 x18_1).length : Int) = (x3_1.length : Int)
                 · rw [if_pos c11] at H
                   have c11b0 : (((rd_L4 l0 x18_1).length : Int) == (x3_1.length : Int)) = true := beq_iff_eq.mpr c11
                   have c11b1 : (((rd_L4 l0 x18_1).length : Int) != (x3_1.length : Int)) = false := bne_eq_false_iff_eq.mpr c11
                   have c11b2 : ((rd_L4 l0 x18_1).length == x3_1.length) = true := by first | simpa using c11 | (simp at c11 ⊢; omega)
                   clear c11
                   have H' := Aside0.mk H
                   clear H
                   have p106 : 0 ≤ (x18_1 : Int) := oT_ (by assumption)
                   have q106 : x18_1 < (l0.length : Int) := oT_ (by assumption)
                   obtain ⟨ad106, A106_0, c106_0, e106, hx106_0, hl106_0, hi106_0⟩ := at_L4 HR0.out x18_1 p106 q106
                   obtain rfl : ad102 = ad106 := (by injection e106)
                   replace hx106_0 := (HB.out.cell (bLC_ w _ hx106_0)).trans hx106_0
                   have HR106_0 := Aside0.mk hi106_0
                   have HC106_0 := Aside0.mk hl106_0
                   clear hi106_0 hl106_0
                   replace p106 := eq_true p106
                   replace q106 := eq_true q106
                   obtain ⟨Ao12, co12, eo12⟩ := Kd.R_slice HO_3.out
                   subst eo12
                   go_wp2
                   go_loopg [29] k1 (fun kq v29 w' => ∃ (x3_2 : List Int) (x29_2 : Int), v29 = .int .i64 x29_2 ∧ Aside0 (bag_Valid.l1 kq x3_2 l0 (l0.length : Int) x18_1 (rd_L4 l0 x18_1) ((rd_L4 l0 x18_1).length : Int) x29_2 = some r) ∧ Aside0 (kq ≤ k1) ∧ Aside0 (Kd.R (Kd.int .u8) 34 w' w.heap.size (fun _ => True) (.slice Ao12 x3_1.length co12) x3_2) ∧ Aside0 (Below w.heap.size w w'))
                   case atStart => exact ⟨(x3_1), (0), (by first | rfl | (simp; done) | (simp [*]; done)), H', ⟨Nat.le_refl _⟩, ⟨by (with_reducible repeat (first | apply Kd.R_alloc | apply Kd.R_drewN | apply Kd.R_drew)); exact HO_3.out⟩, ⟨by repeat (first | (with_reducible first | exact HB.out | apply bA_ | apply bN_ | apply b1_) | exact HB.out)⟩⟩
                   case round =>
                    clear H'
                    try clear c1
                    try clear p1
                    try clear q1
                    try clear hx1
                    try clear qi1
                    try clear c2
                    try clear c2b0
                    try clear c2b1
                    try clear c2b2
                    try clear p2
                    try clear c3
                    try clear c3b0
                    try clear c3b1
                    try clear c4
                    try clear c4b0
                    try clear c4b1
                    try clear c5
                    try clear c5b0
                    try clear c5b1
                    try clear c8
                    try clear c8b0
                    try clear c9
                    try clear c9b0
                    try clear c10
                    try clear c10b0
                    try clear p10
                    try clear q10
                    try clear hx10
                    try clear qi10
                    try clear c11
                    try clear c11b0
                    try clear c11b1
                    try clear c11b2
                    try clear c12
                    try clear hx102_0
                    try clear hx106_0
                    try clear p1
                    try clear p102
                    try clear p106
                    try clear p2
                    try clear q1
                    try clear q102
                    try clear q106
                    obtain ⟨x3_2, x29_2, rfl, HA, HK2, HO_3, HB⟩ := hrel
                    have hl3_2 := (Kd.R_reads' HO_3.out).1
                    rw [hl3_2] at HO_3
                    (try simp only [hl3_2])
                    cases gk with
                    | zero => exact absurd HA.out (by simp [bag_Valid.l1])
                    | succ k2 =>
                     have H := HA.out
                     clear HA
                     simp only [bag_Valid.l1] at H
                     by_cases c13 : x29_2 < ((rd_L4 l0 x18_1).length : Int)
                     · rw [if_pos c13] at H
                       have c13b0 : decide (x29_2 < ((rd_L4 l0 x18_1).length : Int)) = true := dT_ c13
                       clear c13
                       by_cases c14 : 0 ≤ x29_2
                       · rw [if_pos c14] at H
                         have c14b0 : decide (0 ≤ x29_2) = true := dT_ c14
                         clear c14
                         by_cases c15 : x29_2 < ((rd_L4 l0 x18_1).length : Int)
                         · rw [if_pos c15] at H
                           have c15b0 : decide (x29_2 < ((rd_L4 l0 x18_1).length : Int)) = true := dT_ c15
                           clear c15
                           replace H := Option.bind_eq_some_iff.mp H
                           obtain ⟨t109, A160, H⟩ := H
                           replace H : (if t109 = true then (if x29_2 < (x3_2.length : Int) then (if (rd x3_2 x29_2) = 0 then (bag_Valid.l1 k2 (x3_2.set (x29_2 : Int).toNat ((rd_T36 (rd_L4 l0 x18_1) x29_2).f0)) l0 (l0.length : Int) x18_1 (rd_L4 l0 x18_1) ((rd_L4 l0 x18_1).length : Int) (wrap64 (x29_2 + 1))) else (if (rd x3_2 x29_2) = ((rd_T36 (rd_L4 l0 x18_1) x29_2).f0) then (bag_Valid.l1 k2 x3_2 l0 (l0.length : Int) x18_1 (rd_L4 l0 x18_1) ((rd_L4 l0 x18_1).length : Int) (wrap64 (x29_2 + 1))) else (if ((rd_T36 (rd_L4 l0 x18_1) x29_2).f0) = 0 then (bag_Valid.l1 k2 x3_2 l0 (l0.length : Int) x18_1 (rd_L4 l0 x18_1) ((rd_L4 l0 x18_1).length : Int) (wrap64 (x29_2 + 1))) else (some false)))) else (none)) else (some false)) = some r := H
                           have A16 := Aside0.mk A160
                           clear A160
                           by_cases c17 : t109 = true
                           · subst c17
                             have H1 : (if x29_2 < (x3_2.length : Int) then (if (rd x3_2 x29_2) = 0 then (bag_Valid.l1 k2 (x3_2.set (x29_2 : Int).toNat ((rd_T36 (rd_L4 l0 x18_1) x29_2).f0)) l0 (l0.length : Int) x18_1 (rd_L4 l0 x18_1) ((rd_L4 l0 x18_1).length : Int) (wrap64 (x29_2 + 1))) else (if (rd x3_2 x29_2) = ((rd_T36 (rd_L4 l0 x18_1) x29_2).f0) then (bag_Valid.l1 k2 x3_2 l0 (l0.length : Int) x18_1 (rd_L4 l0 x18_1) ((rd_L4 l0 x18_1).length : Int) (wrap64 (x29_2 + 1))) else (if ((rd_T36 (rd_L4 l0 x18_1) x29_2).f0) = 0 then (bag_Valid.l1 k2 x3_2 l0 (l0.length : Int) x18_1 (rd_L4 l0 x18_1) ((rd_L4 l0 x18_1).length : Int) (wrap64 (x29_2 + 1))) else (some false)))) else (none)) = some r := by rw [if_pos rfl] at H; exact H
                             clear H
                             have H := H1
                             clear H1
                             by_cases c18 : x29_2 < (x3_2.length : Int)
                             · rw [if_pos c18] at H
                               have c18b0 : decide (x29_2 < (x3_2.length : Int)) = true := dT_ c18
                               clear c18
                               by_cases c19 : (rd x3_2 x29_2) = 0
                               · rw [if_pos c19] at H
                                 have c19b0 : ((rd x3_2 x29_2) == 0) = true := beq_iff_eq.mpr c19
                                 have c19b1 : ((rd x3_2 x29_2) != 0) = false := bne_eq_false_iff_eq.mpr c19
                                 clear c19
                                 obtain ⟨y111, hy111⟩ : ∃ y_ : List Int, y_ = (x3_2.set (x29_2 : Int).toNat ((rd_T36 (rd_L4 l0 x18_1) x29_2).f0)) := ⟨_, rfl⟩
                                 replace H : (bag_Valid.l1 k2 y111 l0 (l0.length : Int) x18_1 (rd_L4 l0 x18_1) ((rd_L4 l0 x18_1).length : Int) (wrap64 (x29_2 + 1))) = some r := by first | (rw [hy111]; with_reducible exact H) | (have H2_ := (Option.bind_some _ _).symm.trans H; rw [hy111]; with_reducible exact H2_) | (have H2_ := (Option.bind_some _ _).symm.trans H; with_reducible exact H2_) | with_reducible exact H | (rw [hy111]; exact H) | exact H
                                 have Ny111 := Aside0.mk hy111
                                 clear hy111
                                 have H' := Aside0.mk H
                                 clear H
                                 have p107 : 0 ≤ (x29_2 : Int) := oT_ (by assumption)
                                 have q107 : x29_2 < ((rd_L4 l0 x18_1).length : Int) := oT_ (by assumption)
                                 obtain ⟨ad107, e107, hx107_0, hx107_1, hx107_2⟩ := at_T36 HR106_0.out x29_2 p107 q107
                                 cases e107
                                 replace hx107_0 := (HB.out.cell (bLC_ w _ hx107_0)).trans hx107_0
                                 replace hx107_1 := (HB.out.cell (bLC_ w _ hx107_1)).trans hx107_1
                                 replace hx107_2 := (HB.out.cell (bLC_ w _ hx107_2)).trans hx107_2
                                 replace p107 := eq_true p107
                                 replace q107 := eq_true q107
                                 go_wp2_with (first | ((with_reducible refine gate_dst (N := 7) rfl ?_); refine box_event ?hg (N := 7) ?hd (cs := #[.int .u8 0, .int .i64 0, .string (⟨#[]⟩ : ByteArray)]) (t := 36) ?hr ?_; (case hd => rfl); (case hg => rfl); (case hr => first | (go_simp; done) | (go_simp; rfl)); intro gb108 hg w21 hbox hb; have n0_ := Aside0.mk (Kd.R_below (by (with_reducible repeat (first | apply Kd.R_alloc | apply Kd.R_drewN | apply Kd.R_drew)); exact HO_3.out) hb); have n1_ := Aside0.mk (below_step (by repeat (first | (with_reducible first | exact HB.out | apply bA_ | apply bN_ | apply b1_) | exact HB.out)) hb); have n2_ := Aside0.mk (hbox); have n3_ := Aside0.mk ((by rw [hg]; exact (below_size (by repeat (first | (with_reducible first | exact HB.out | apply bA_ | apply bN_ | apply b1_) | exact HB.out))) : w.heap.size ≤ gb108)); have n4_ := Aside0.mk ((by rw [hg]; exact (below_size (by repeat (first | (with_reducible first | exact HB.out | apply bA_ | apply bN_ | apply b1_) | exact HB.out))) : w.heap.size ≤ gb108)); clear HO_3; clear HB; have HO_3 := n0_; have HB := n1_; have BK108 := n2_; have GW108 := n3_; have GE108 := n4_; clear n0_ n1_ n2_ n3_ n4_; clear hb hbox hg; have hcz22_0 : w21.cell? ⟨gb108, 0, none⟩ = some (.int .u8 0) := (blk_cell BK108.out 0).trans rfl; have hcz22_1 : w21.cell? ⟨gb108, 1, none⟩ = some (.int .i64 0) := (blk_cell BK108.out 1).trans rfl; have hcz22_2 : w21.cell? ⟨gb108, 2, none⟩ = some (.string (⟨#[]⟩ : ByteArray)) := (blk_cell BK108.out 2).trans rfl; have hfz22_0 := blk_frozen BK108.out 0; have hfz22_1 := blk_frozen BK108.out 1; have hfz22_2 := blk_frozen BK108.out 2) | ((with_reducible refine gate_callee (f := 42) rfl ?_); refine goesL_ (some 35) rfl rfl Tryz.func42 (by kernel_rfl) rfl #[.agg #[.int .u8 ((rd_T36 (rd_L4 l0 x18_1) x29_2).f0), .int .i64 ((rd_T36 (rd_L4 l0 x18_1) x29_2).f1), .string ((rd_T36 (rd_L4 l0 x18_1) x29_2).f2)]] rfl (by (try simp only [List.map_toArray, List.map_cons, List.map_nil]); first | done | rfl | (simp only [List.length_drop, List.length_take]; rfl)) ?_; (with_reducible refine (value_Valid.calls ((rd_T36 (rd_L4 l0 x18_1) x29_2).f0) ((rd_T36 (rd_L4 l0 x18_1) x29_2).f1) ((rd_T36 (rd_L4 l0 x18_1) x29_2).f2) true _ A16.out).mono ?_); rintro e w23 ⟨rfl, hb⟩; refine ⟨_, rfl, ?_⟩; have n0_ := Aside0.mk (Kd.R_below (by (with_reducible repeat (first | apply Kd.R_alloc | apply Kd.R_drewN | apply Kd.R_drew)); exact (Kd.R_mono (Kd.R_far (p := ⟨gb108, 2, none⟩) (Kd.R_far (p := ⟨gb108, 1, none⟩) (Kd.R_far (p := ⟨gb108, 0, none⟩) (Kd.R_types HO_3.out BK108.out (by decide)) (fun _ hk => hk.2) (.int .u8 ((rd_T36 (rd_L4 l0 x18_1) x29_2).f0))) (fun _ hk => hk.2) (.int .i64 ((rd_T36 (rd_L4 l0 x18_1) x29_2).f1))) (fun _ hk => hk.2) (.string ((rd_T36 (rd_L4 l0 x18_1) x29_2).f2))) (fun _ h_ => h_.1))) hb); have n1_ := Aside0.mk (blk_below (g := gb108) (o := .cells #[.int .u8 ((rd_T36 (rd_L4 l0 x18_1) x29_2).f0), .int .i64 ((rd_T36 (rd_L4 l0 x18_1) x29_2).f1), .string ((rd_T36 (rd_L4 l0 x18_1) x29_2).f2)] 36 (0, 0)) (by (with_reducible repeat (first | refine blk_drewN ?_ _ | refine blk_drew ?_ | refine blk_alloc ?_ _)); refine blk_put (cs := #[.int .u8 ((rd_T36 (rd_L4 l0 x18_1) x29_2).f0), .int .i64 ((rd_T36 (rd_L4 l0 x18_1) x29_2).f1), .string (⟨#[]⟩ : ByteArray)]) ?_ 2 _ rfl; (with_reducible repeat (first | refine blk_drewN ?_ _ | refine blk_drew ?_ | refine blk_alloc ?_ _)); refine blk_put (cs := #[.int .u8 ((rd_T36 (rd_L4 l0 x18_1) x29_2).f0), .int .i64 0, .string (⟨#[]⟩ : ByteArray)]) ?_ 1 _ rfl; (with_reducible repeat (first | refine blk_drewN ?_ _ | refine blk_drew ?_ | refine blk_alloc ?_ _)); refine blk_put (cs := #[.int .u8 0, .int .i64 0, .string (⟨#[]⟩ : ByteArray)]) ?_ 0 _ rfl; (with_reducible repeat (first | refine blk_drewN ?_ _ | refine blk_drew ?_ | refine blk_alloc ?_ _)); exact BK108.out) hb); have n2_ := Aside0.mk (below_step (by repeat (first | (with_reducible first | exact HB.out | apply bA_ | apply bN_ | apply b1_ | refine below_set ?_ GE108.out) | exact HB.out)) hb); clear HO_3; clear BK108; clear HB; have HO_3 := n0_; have BK108 := n1_; have HB := n2_; clear n0_ n1_ n2_; (try clear hb); (try clear hb2); (try clear hk); (try clear hi); have p110 : 0 ≤ (x29_2 : Int) := oT_ (by assumption); have q110 : x29_2 < (x3_2.length : Int) := oT_ (by assumption); obtain ⟨ad110, e110, hx110_0⟩ := Kd.at_int (Kd.R_reads' HO_3.out).2.2 x29_2 p110 q110; cases e110; replace p110 := eq_true p110; replace q110 := eq_true q110; have hcz24_0 : w23.cell? ⟨gb108, 0, none⟩ = some (.int .u8 ((rd_T36 (rd_L4 l0 x18_1) x29_2).f0)) := (blk_cell BK108.out 0).trans rfl; have hcz24_1 : w23.cell? ⟨gb108, 1, none⟩ = some (.int .i64 ((rd_T36 (rd_L4 l0 x18_1) x29_2).f1)) := (blk_cell BK108.out 1).trans rfl; have hcz24_2 : w23.cell? ⟨gb108, 2, none⟩ = some (.string ((rd_T36 (rd_L4 l0 x18_1) x29_2).f2)) := (blk_cell BK108.out 2).trans rfl; have hfz24_0 := blk_frozen BK108.out 0; have hfz24_1 := blk_frozen BK108.out 1; have hfz24_2 := blk_frozen BK108.out 2; have p20 : 0 ≤ (x29_2 : Int) := oT_ (by assumption); have q20 : (x29_2 : Int) < ((x3_2.length : Int) : Int) := oT_ (by assumption); obtain ⟨go20, co20, eo20, gb20, gl20, cl20, HG20⟩ := Kd.R_form HO_3.out (by omega); (first | cases eo20 | (injection eo20 with ea_ en_ ec_; (first | subst ea_ | (injection ea_ with ea_; subst ea_)); subst ec_; clear en_)); have GB20 := Aside0.mk gb20; have GG20 := Aside0.mk HG20; clear gb20 gl20 HG20; (first | simp only [add_plain] at hx110_0 | skip); obtain ⟨hx20_0, hf20_0⟩ := Kd.R_celln 0 HO_3.out (x29_2 : Int) p20 q20; replace p20 := eq_true p20; replace q20 := eq_true q20; obtain ⟨hy25_, hz25_⟩ := Kd.R_celln 0 HO_3.out (x29_2 : Int) (oT_ (by assumption)) (oT_ (by assumption)); have HP25 := Kd.R_putg HO_3.out (x29_2 : Int) ((rd_T36 (rd_L4 l0 x18_1) x29_2).f0)) | ((with_reducible refine gate_store (t := 34) (p := 50) rfl ?_); refine store_event (t := 34) (p := 50) (v := ?vo_w26) (w1 := (w23.setCell ⟨go20, (x29_2 : Int).toNat, none⟩ (.int .u8 ((rd_T36 (rd_L4 l0 x18_1) x29_2).f0)))) ?hg ?ho ?hn ?hr ?_; (case ho => rfl); (case hg => rfl); (case hn => rfl); (case hr => first | (go_simp; done) | (go_simp; rfl)); intro w26 hw; have hg : w23.grownBy w26 (some go20) := (by rw [hw]; exact HP25.2); have hp_ : Kd.R (Kd.int .u8) 34 w26 w.heap.size (fun _ => True) (.slice (some ⟨go20, 0, none⟩) x3_2.length co12) y111 := (by rw [hw, Ny111.out]; exact HP25.1); clear HP25; have n0_ := Aside0.mk (hp_); have n1_ := Aside0.mk (blk_grown (g := gb108) (o := .cells #[.int .u8 ((rd_T36 (rd_L4 l0 x18_1) x29_2).f0), .int .i64 ((rd_T36 (rd_L4 l0 x18_1) x29_2).f1), .string ((rd_T36 (rd_L4 l0 x18_1) x29_2).f2)] 36 (0, 0)) (by (with_reducible repeat (first | refine blk_drewN ?_ _ | refine blk_drew ?_ | refine blk_alloc ?_ _)); exact BK108.out) hg (Kd.R_ne HO_3.out BK108.out (by decide))); have n2_ := Aside0.mk ((by rw [hw]; exact below_set (HB.out) GB20.out : Below w.heap.size w w26)); clear HO_3; clear BK108; clear HB; have HO_3 := n0_; have BK108 := n1_; have HB := n2_; clear n0_ n1_ n2_; clear hg hw hp_))
                                 (try simp only [← hl3_2])
                                 go_roundg k2
                                 case measure => have := HK1.out; have := HK2.out; omega
                                 case rel => exact ⟨(y111), (wrap64 (x29_2 + 1)), (by first | rfl | (simp; done) | (simp [*]; done)), H', ⟨by have := HK1.out; have := HK2.out; omega⟩, ⟨by (try simp only [hl3_2]); (with_reducible repeat (first | apply Kd.R_alloc | apply Kd.R_drewN | apply Kd.R_drew)); exact HO_3.out⟩, ⟨by repeat (first | (with_reducible first | exact HB.out | apply bA_ | apply bN_ | apply b1_ | refine below_set ?_ GE108.out) | exact HB.out)⟩⟩
                               · rw [if_neg c19] at H
                                 have c19b0 : ((rd x3_2 x29_2) == 0) = false := beq_eq_false_iff_ne.mpr c19
                                 have c19b1 : ((rd x3_2 x29_2) != 0) = true := bne_iff_ne.mpr c19
                                 by_cases c27 : (rd x3_2 x29_2) = ((rd_T36 (rd_L4 l0 x18_1) x29_2).f0)
                                 · rw [if_pos c27] at H
                                   have c27b0 : ((rd x3_2 x29_2) == ((rd_T36 (rd_L4 l0 x18_1) x29_2).f0)) = true := beq_iff_eq.mpr c27
                                   have c27b1 : ((rd x3_2 x29_2) != ((rd_T36 (rd_L4 l0 x18_1) x29_2).f0)) = false := bne_eq_false_iff_eq.mpr c27
                                   clear c27
                                   have H' := Aside0.mk H
                                   clear H
                                   have p107 : 0 ≤ (x29_2 : Int) := oT_ (by assumption)
                                   have q107 : x29_2 < ((rd_L4 l0 x18_1).length : Int) := oT_ (by assumption)
                                   obtain ⟨ad107, e107, hx107_0, hx107_1, hx107_2⟩ := at_T36 HR106_0.out x29_2 p107 q107
                                   cases e107
                                   replace hx107_0 := (HB.out.cell (bLC_ w _ hx107_0)).trans hx107_0
                                   replace hx107_1 := (HB.out.cell (bLC_ w _ hx107_1)).trans hx107_1
                                   replace hx107_2 := (HB.out.cell (bLC_ w _ hx107_2)).trans hx107_2
                                   replace p107 := eq_true p107
                                   replace q107 := eq_true q107
                                   go_wp2_with (first | ((with_reducible refine gate_dst (N := 7) rfl ?_); refine box_event ?hg (N := 7) ?hd (cs := #[.int .u8 0, .int .i64 0, .string (⟨#[]⟩ : ByteArray)]) (t := 36) ?hr ?_; (case hd => rfl); (case hg => rfl); (case hr => first | (go_simp; done) | (go_simp; rfl)); intro gb108 hg w28 hbox hb; have n0_ := Aside0.mk (Kd.R_below (by (with_reducible repeat (first | apply Kd.R_alloc | apply Kd.R_drewN | apply Kd.R_drew)); exact HO_3.out) hb); have n1_ := Aside0.mk (below_step (by repeat (first | (with_reducible first | exact HB.out | apply bA_ | apply bN_ | apply b1_) | exact HB.out)) hb); have n2_ := Aside0.mk (hbox); have n3_ := Aside0.mk ((by rw [hg]; exact (below_size (by repeat (first | (with_reducible first | exact HB.out | apply bA_ | apply bN_ | apply b1_) | exact HB.out))) : w.heap.size ≤ gb108)); have n4_ := Aside0.mk ((by rw [hg]; exact (below_size (by repeat (first | (with_reducible first | exact HB.out | apply bA_ | apply bN_ | apply b1_) | exact HB.out))) : w.heap.size ≤ gb108)); clear HO_3; clear HB; have HO_3 := n0_; have HB := n1_; have BK108 := n2_; have GW108 := n3_; have GE108 := n4_; clear n0_ n1_ n2_ n3_ n4_; clear hb hbox hg; have hcz29_0 : w28.cell? ⟨gb108, 0, none⟩ = some (.int .u8 0) := (blk_cell BK108.out 0).trans rfl; have hcz29_1 : w28.cell? ⟨gb108, 1, none⟩ = some (.int .i64 0) := (blk_cell BK108.out 1).trans rfl; have hcz29_2 : w28.cell? ⟨gb108, 2, none⟩ = some (.string (⟨#[]⟩ : ByteArray)) := (blk_cell BK108.out 2).trans rfl; have hfz29_0 := blk_frozen BK108.out 0; have hfz29_1 := blk_frozen BK108.out 1; have hfz29_2 := blk_frozen BK108.out 2) | ((with_reducible refine gate_callee (f := 42) rfl ?_); refine goesL_ (some 35) rfl rfl Tryz.func42 (by kernel_rfl) rfl #[.agg #[.int .u8 ((rd_T36 (rd_L4 l0 x18_1) x29_2).f0), .int .i64 ((rd_T36 (rd_L4 l0 x18_1) x29_2).f1), .string ((rd_T36 (rd_L4 l0 x18_1) x29_2).f2)]] rfl (by (try simp only [List.map_toArray, List.map_cons, List.map_nil]); first | done | rfl | (simp only [List.length_drop, List.length_take]; rfl)) ?_; (with_reducible refine (value_Valid.calls ((rd_T36 (rd_L4 l0 x18_1) x29_2).f0) ((rd_T36 (rd_L4 l0 x18_1) x29_2).f1) ((rd_T36 (rd_L4 l0 x18_1) x29_2).f2) true _ A16.out).mono ?_); rintro e w30 ⟨rfl, hb⟩; refine ⟨_, rfl, ?_⟩; have n0_ := Aside0.mk (Kd.R_below (by (with_reducible repeat (first | apply Kd.R_alloc | apply Kd.R_drewN | apply Kd.R_drew)); exact (Kd.R_mono (Kd.R_far (p := ⟨gb108, 2, none⟩) (Kd.R_far (p := ⟨gb108, 1, none⟩) (Kd.R_far (p := ⟨gb108, 0, none⟩) (Kd.R_types HO_3.out BK108.out (by decide)) (fun _ hk => hk.2) (.int .u8 ((rd_T36 (rd_L4 l0 x18_1) x29_2).f0))) (fun _ hk => hk.2) (.int .i64 ((rd_T36 (rd_L4 l0 x18_1) x29_2).f1))) (fun _ hk => hk.2) (.string ((rd_T36 (rd_L4 l0 x18_1) x29_2).f2))) (fun _ h_ => h_.1))) hb); have n1_ := Aside0.mk (blk_below (g := gb108) (o := .cells #[.int .u8 ((rd_T36 (rd_L4 l0 x18_1) x29_2).f0), .int .i64 ((rd_T36 (rd_L4 l0 x18_1) x29_2).f1), .string ((rd_T36 (rd_L4 l0 x18_1) x29_2).f2)] 36 (0, 0)) (by (with_reducible repeat (first | refine blk_drewN ?_ _ | refine blk_drew ?_ | refine blk_alloc ?_ _)); refine blk_put (cs := #[.int .u8 ((rd_T36 (rd_L4 l0 x18_1) x29_2).f0), .int .i64 ((rd_T36 (rd_L4 l0 x18_1) x29_2).f1), .string (⟨#[]⟩ : ByteArray)]) ?_ 2 _ rfl; (with_reducible repeat (first | refine blk_drewN ?_ _ | refine blk_drew ?_ | refine blk_alloc ?_ _)); refine blk_put (cs := #[.int .u8 ((rd_T36 (rd_L4 l0 x18_1) x29_2).f0), .int .i64 0, .string (⟨#[]⟩ : ByteArray)]) ?_ 1 _ rfl; (with_reducible repeat (first | refine blk_drewN ?_ _ | refine blk_drew ?_ | refine blk_alloc ?_ _)); refine blk_put (cs := #[.int .u8 0, .int .i64 0, .string (⟨#[]⟩ : ByteArray)]) ?_ 0 _ rfl; (with_reducible repeat (first | refine blk_drewN ?_ _ | refine blk_drew ?_ | refine blk_alloc ?_ _)); exact BK108.out) hb); have n2_ := Aside0.mk (below_step (by repeat (first | (with_reducible first | exact HB.out | apply bA_ | apply bN_ | apply b1_ | refine below_set ?_ GE108.out) | exact HB.out)) hb); clear HO_3; clear BK108; clear HB; have HO_3 := n0_; have BK108 := n1_; have HB := n2_; clear n0_ n1_ n2_; (try clear hb); (try clear hb2); (try clear hk); (try clear hi); have p110 : 0 ≤ (x29_2 : Int) := oT_ (by assumption); have q110 : x29_2 < (x3_2.length : Int) := oT_ (by assumption); obtain ⟨ad110, e110, hx110_0⟩ := Kd.at_int (Kd.R_reads' HO_3.out).2.2 x29_2 p110 q110; cases e110; replace p110 := eq_true p110; replace q110 := eq_true q110; have hcz31_0 : w30.cell? ⟨gb108, 0, none⟩ = some (.int .u8 ((rd_T36 (rd_L4 l0 x18_1) x29_2).f0)) := (blk_cell BK108.out 0).trans rfl; have hcz31_1 : w30.cell? ⟨gb108, 1, none⟩ = some (.int .i64 ((rd_T36 (rd_L4 l0 x18_1) x29_2).f1)) := (blk_cell BK108.out 1).trans rfl; have hcz31_2 : w30.cell? ⟨gb108, 2, none⟩ = some (.string ((rd_T36 (rd_L4 l0 x18_1) x29_2).f2)) := (blk_cell BK108.out 2).trans rfl; have hfz31_0 := blk_frozen BK108.out 0; have hfz31_1 := blk_frozen BK108.out 1; have hfz31_2 := blk_frozen BK108.out 2))
                                   (try simp only [← hl3_2])
                                   go_roundg k2
                                   case measure => have := HK1.out; have := HK2.out; omega
                                   case rel => exact ⟨(x3_2), (wrap64 (x29_2 + 1)), (by first | rfl | (simp; done) | (simp [*]; done)), H', ⟨by have := HK1.out; have := HK2.out; omega⟩, ⟨by (try simp only [hl3_2]); (with_reducible repeat (first | apply Kd.R_alloc | apply Kd.R_drewN | apply Kd.R_drew)); exact HO_3.out⟩, ⟨by repeat (first | (with_reducible first | exact HB.out | apply bA_ | apply bN_ | apply b1_ | refine below_set ?_ GE108.out) | exact HB.out)⟩⟩
                                 · rw [if_neg c27] at H
                                   have c27b0 : ((rd x3_2 x29_2) == ((rd_T36 (rd_L4 l0 x18_1) x29_2).f0)) = false := beq_eq_false_iff_ne.mpr c27
                                   have c27b1 : ((rd x3_2 x29_2) != ((rd_T36 (rd_L4 l0 x18_1) x29_2).f0)) = true := bne_iff_ne.mpr c27
                                   by_cases c32 : ((rd_T36 (rd_L4 l0 x18_1) x29_2).f0) = 0
                                   · rw [if_pos c32] at H
                                     have c32b0 : (((rd_T36 (rd_L4 l0 x18_1) x29_2).f0) == 0) = true := beq_iff_eq.mpr c32
                                     have c32b1 : (((rd_T36 (rd_L4 l0 x18_1) x29_2).f0) != 0) = false := bne_eq_false_iff_eq.mpr c32
                                     clear c32
                                     have H' := Aside0.mk H
                                     clear H
                                     have p107 : 0 ≤ (x29_2 : Int) := oT_ (by assumption)
                                     have q107 : x29_2 < ((rd_L4 l0 x18_1).length : Int) := oT_ (by assumption)
                                     obtain ⟨ad107, e107, hx107_0, hx107_1, hx107_2⟩ := at_T36 HR106_0.out x29_2 p107 q107
                                     cases e107
                                     replace hx107_0 := (HB.out.cell (bLC_ w _ hx107_0)).trans hx107_0
                                     replace hx107_1 := (HB.out.cell (bLC_ w _ hx107_1)).trans hx107_1
                                     replace hx107_2 := (HB.out.cell (bLC_ w _ hx107_2)).trans hx107_2
                                     replace p107 := eq_true p107
                                     replace q107 := eq_true q107
                                     go_wp2_with (first | ((with_reducible refine gate_dst (N := 7) rfl ?_); refine box_event ?hg (N := 7) ?hd (cs := #[.int .u8 0, .int .i64 0, .string (⟨#[]⟩ : ByteArray)]) (t := 36) ?hr ?_; (case hd => rfl); (case hg => rfl); (case hr => first | (go_simp; done) | (go_simp; rfl)); intro gb108 hg w33 hbox hb; have n0_ := Aside0.mk (Kd.R_below (by (with_reducible repeat (first | apply Kd.R_alloc | apply Kd.R_drewN | apply Kd.R_drew)); exact HO_3.out) hb); have n1_ := Aside0.mk (below_step (by repeat (first | (with_reducible first | exact HB.out | apply bA_ | apply bN_ | apply b1_) | exact HB.out)) hb); have n2_ := Aside0.mk (hbox); have n3_ := Aside0.mk ((by rw [hg]; exact (below_size (by repeat (first | (with_reducible first | exact HB.out | apply bA_ | apply bN_ | apply b1_) | exact HB.out))) : w.heap.size ≤ gb108)); have n4_ := Aside0.mk ((by rw [hg]; exact (below_size (by repeat (first | (with_reducible first | exact HB.out | apply bA_ | apply bN_ | apply b1_) | exact HB.out))) : w.heap.size ≤ gb108)); clear HO_3; clear HB; have HO_3 := n0_; have HB := n1_; have BK108 := n2_; have GW108 := n3_; have GE108 := n4_; clear n0_ n1_ n2_ n3_ n4_; clear hb hbox hg; have hcz34_0 : w33.cell? ⟨gb108, 0, none⟩ = some (.int .u8 0) := (blk_cell BK108.out 0).trans rfl; have hcz34_1 : w33.cell? ⟨gb108, 1, none⟩ = some (.int .i64 0) := (blk_cell BK108.out 1).trans rfl; have hcz34_2 : w33.cell? ⟨gb108, 2, none⟩ = some (.string (⟨#[]⟩ : ByteArray)) := (blk_cell BK108.out 2).trans rfl; have hfz34_0 := blk_frozen BK108.out 0; have hfz34_1 := blk_frozen BK108.out 1; have hfz34_2 := blk_frozen BK108.out 2) | ((with_reducible refine gate_callee (f := 42) rfl ?_); refine goesL_ (some 35) rfl rfl Tryz.func42 (by kernel_rfl) rfl #[.agg #[.int .u8 ((rd_T36 (rd_L4 l0 x18_1) x29_2).f0), .int .i64 ((rd_T36 (rd_L4 l0 x18_1) x29_2).f1), .string ((rd_T36 (rd_L4 l0 x18_1) x29_2).f2)]] rfl (by (try simp only [List.map_toArray, List.map_cons, List.map_nil]); first | done | rfl | (simp only [List.length_drop, List.length_take]; rfl)) ?_; (with_reducible refine (value_Valid.calls ((rd_T36 (rd_L4 l0 x18_1) x29_2).f0) ((rd_T36 (rd_L4 l0 x18_1) x29_2).f1) ((rd_T36 (rd_L4 l0 x18_1) x29_2).f2) true _ A16.out).mono ?_); rintro e w35 ⟨rfl, hb⟩; refine ⟨_, rfl, ?_⟩; have n0_ := Aside0.mk (Kd.R_below (by (with_reducible repeat (first | apply Kd.R_alloc | apply Kd.R_drewN | apply Kd.R_drew)); exact (Kd.R_mono (Kd.R_far (p := ⟨gb108, 2, none⟩) (Kd.R_far (p := ⟨gb108, 1, none⟩) (Kd.R_far (p := ⟨gb108, 0, none⟩) (Kd.R_types HO_3.out BK108.out (by decide)) (fun _ hk => hk.2) (.int .u8 ((rd_T36 (rd_L4 l0 x18_1) x29_2).f0))) (fun _ hk => hk.2) (.int .i64 ((rd_T36 (rd_L4 l0 x18_1) x29_2).f1))) (fun _ hk => hk.2) (.string ((rd_T36 (rd_L4 l0 x18_1) x29_2).f2))) (fun _ h_ => h_.1))) hb); have n1_ := Aside0.mk (blk_below (g := gb108) (o := .cells #[.int .u8 ((rd_T36 (rd_L4 l0 x18_1) x29_2).f0), .int .i64 ((rd_T36 (rd_L4 l0 x18_1) x29_2).f1), .string ((rd_T36 (rd_L4 l0 x18_1) x29_2).f2)] 36 (0, 0)) (by (with_reducible repeat (first | refine blk_drewN ?_ _ | refine blk_drew ?_ | refine blk_alloc ?_ _)); refine blk_put (cs := #[.int .u8 ((rd_T36 (rd_L4 l0 x18_1) x29_2).f0), .int .i64 ((rd_T36 (rd_L4 l0 x18_1) x29_2).f1), .string (⟨#[]⟩ : ByteArray)]) ?_ 2 _ rfl; (with_reducible repeat (first | refine blk_drewN ?_ _ | refine blk_drew ?_ | refine blk_alloc ?_ _)); refine blk_put (cs := #[.int .u8 ((rd_T36 (rd_L4 l0 x18_1) x29_2).f0), .int .i64 0, .string (⟨#[]⟩ : ByteArray)]) ?_ 1 _ rfl; (with_reducible repeat (first | refine blk_drewN ?_ _ | refine blk_drew ?_ | refine blk_alloc ?_ _)); refine blk_put (cs := #[.int .u8 0, .int .i64 0, .string (⟨#[]⟩ : ByteArray)]) ?_ 0 _ rfl; (with_reducible repeat (first | refine blk_drewN ?_ _ | refine blk_drew ?_ | refine blk_alloc ?_ _)); exact BK108.out) hb); have n2_ := Aside0.mk (below_step (by repeat (first | (with_reducible first | exact HB.out | apply bA_ | apply bN_ | apply b1_ | refine below_set ?_ GE108.out) | exact HB.out)) hb); clear HO_3; clear BK108; clear HB; have HO_3 := n0_; have BK108 := n1_; have HB := n2_; clear n0_ n1_ n2_; (try clear hb); (try clear hb2); (try clear hk); (try clear hi); have p110 : 0 ≤ (x29_2 : Int) := oT_ (by assumption); have q110 : x29_2 < (x3_2.length : Int) := oT_ (by assumption); obtain ⟨ad110, e110, hx110_0⟩ := Kd.at_int (Kd.R_reads' HO_3.out).2.2 x29_2 p110 q110; cases e110; replace p110 := eq_true p110; replace q110 := eq_true q110; have hcz36_0 : w35.cell? ⟨gb108, 0, none⟩ = some (.int .u8 ((rd_T36 (rd_L4 l0 x18_1) x29_2).f0)) := (blk_cell BK108.out 0).trans rfl; have hcz36_1 : w35.cell? ⟨gb108, 1, none⟩ = some (.int .i64 ((rd_T36 (rd_L4 l0 x18_1) x29_2).f1)) := (blk_cell BK108.out 1).trans rfl; have hcz36_2 : w35.cell? ⟨gb108, 2, none⟩ = some (.string ((rd_T36 (rd_L4 l0 x18_1) x29_2).f2)) := (blk_cell BK108.out 2).trans rfl; have hfz36_0 := blk_frozen BK108.out 0; have hfz36_1 := blk_frozen BK108.out 1; have hfz36_2 := blk_frozen BK108.out 2))
                                     (try simp only [← hl3_2])
                                     go_roundg k2
                                     case measure => have := HK1.out; have := HK2.out; omega
                                     case rel => exact ⟨(x3_2), (wrap64 (x29_2 + 1)), (by first | rfl | (simp; done) | (simp [*]; done)), H', ⟨by have := HK1.out; have := HK2.out; omega⟩, ⟨by (try simp only [hl3_2]); (with_reducible repeat (first | apply Kd.R_alloc | apply Kd.R_drewN | apply Kd.R_drew)); exact HO_3.out⟩, ⟨by repeat (first | (with_reducible first | exact HB.out | apply bA_ | apply bN_ | apply b1_ | refine below_set ?_ GE108.out) | exact HB.out)⟩⟩
                                   · rw [if_neg c32] at H
                                     have c32b0 : (((rd_T36 (rd_L4 l0 x18_1) x29_2).f0) == 0) = false := beq_eq_false_iff_ne.mpr c32
                                     have c32b1 : (((rd_T36 (rd_L4 l0 x18_1) x29_2).f0) != 0) = true := bne_iff_ne.mpr c32
                                     obtain rfl := Option.some.inj H
                                     have p107 : 0 ≤ (x29_2 : Int) := oT_ (by assumption)
                                     have q107 : x29_2 < ((rd_L4 l0 x18_1).length : Int) := oT_ (by assumption)
                                     obtain ⟨ad107, e107, hx107_0, hx107_1, hx107_2⟩ := at_T36 HR106_0.out x29_2 p107 q107
                                     cases e107
                                     replace hx107_0 := (HB.out.cell (bLC_ w _ hx107_0)).trans hx107_0
                                     replace hx107_1 := (HB.out.cell (bLC_ w _ hx107_1)).trans hx107_1
                                     replace hx107_2 := (HB.out.cell (bLC_ w _ hx107_2)).trans hx107_2
                                     replace p107 := eq_true p107
                                     replace q107 := eq_true q107
                                     go_wp2_with (first | ((with_reducible refine gate_dst (N := 7) rfl ?_); refine box_event ?hg (N := 7) ?hd (cs := #[.int .u8 0, .int .i64 0, .string (⟨#[]⟩ : ByteArray)]) (t := 36) ?hr ?_; (case hd => rfl); (case hg => rfl); (case hr => first | (go_simp; done) | (go_simp; rfl)); intro gb108 hg w37 hbox hb; have n0_ := Aside0.mk (Kd.R_below (by (with_reducible repeat (first | apply Kd.R_alloc | apply Kd.R_drewN | apply Kd.R_drew)); exact HO_3.out) hb); have n1_ := Aside0.mk (below_step (by repeat (first | (with_reducible first | exact HB.out | apply bA_ | apply bN_ | apply b1_) | exact HB.out)) hb); have n2_ := Aside0.mk (hbox); have n3_ := Aside0.mk ((by rw [hg]; exact (below_size (by repeat (first | (with_reducible first | exact HB.out | apply bA_ | apply bN_ | apply b1_) | exact HB.out))) : w.heap.size ≤ gb108)); have n4_ := Aside0.mk ((by rw [hg]; exact (below_size (by repeat (first | (with_reducible first | exact HB.out | apply bA_ | apply bN_ | apply b1_) | exact HB.out))) : w.heap.size ≤ gb108)); clear HO_3; clear HB; have HO_3 := n0_; have HB := n1_; have BK108 := n2_; have GW108 := n3_; have GE108 := n4_; clear n0_ n1_ n2_ n3_ n4_; clear hb hbox hg; have hcz38_0 : w37.cell? ⟨gb108, 0, none⟩ = some (.int .u8 0) := (blk_cell BK108.out 0).trans rfl; have hcz38_1 : w37.cell? ⟨gb108, 1, none⟩ = some (.int .i64 0) := (blk_cell BK108.out 1).trans rfl; have hcz38_2 : w37.cell? ⟨gb108, 2, none⟩ = some (.string (⟨#[]⟩ : ByteArray)) := (blk_cell BK108.out 2).trans rfl; have hfz38_0 := blk_frozen BK108.out 0; have hfz38_1 := blk_frozen BK108.out 1; have hfz38_2 := blk_frozen BK108.out 2) | ((with_reducible refine gate_callee (f := 42) rfl ?_); refine goesL_ (some 35) rfl rfl Tryz.func42 (by kernel_rfl) rfl #[.agg #[.int .u8 ((rd_T36 (rd_L4 l0 x18_1) x29_2).f0), .int .i64 ((rd_T36 (rd_L4 l0 x18_1) x29_2).f1), .string ((rd_T36 (rd_L4 l0 x18_1) x29_2).f2)]] rfl (by (try simp only [List.map_toArray, List.map_cons, List.map_nil]); first | done | rfl | (simp only [List.length_drop, List.length_take]; rfl)) ?_; (with_reducible refine (value_Valid.calls ((rd_T36 (rd_L4 l0 x18_1) x29_2).f0) ((rd_T36 (rd_L4 l0 x18_1) x29_2).f1) ((rd_T36 (rd_L4 l0 x18_1) x29_2).f2) true _ A16.out).mono ?_); rintro e w39 ⟨rfl, hb⟩; refine ⟨_, rfl, ?_⟩; have n0_ := Aside0.mk (Kd.R_below (by (with_reducible repeat (first | apply Kd.R_alloc | apply Kd.R_drewN | apply Kd.R_drew)); exact (Kd.R_mono (Kd.R_far (p := ⟨gb108, 2, none⟩) (Kd.R_far (p := ⟨gb108, 1, none⟩) (Kd.R_far (p := ⟨gb108, 0, none⟩) (Kd.R_types HO_3.out BK108.out (by decide)) (fun _ hk => hk.2) (.int .u8 ((rd_T36 (rd_L4 l0 x18_1) x29_2).f0))) (fun _ hk => hk.2) (.int .i64 ((rd_T36 (rd_L4 l0 x18_1) x29_2).f1))) (fun _ hk => hk.2) (.string ((rd_T36 (rd_L4 l0 x18_1) x29_2).f2))) (fun _ h_ => h_.1))) hb); have n1_ := Aside0.mk (blk_below (g := gb108) (o := .cells #[.int .u8 ((rd_T36 (rd_L4 l0 x18_1) x29_2).f0), .int .i64 ((rd_T36 (rd_L4 l0 x18_1) x29_2).f1), .string ((rd_T36 (rd_L4 l0 x18_1) x29_2).f2)] 36 (0, 0)) (by (with_reducible repeat (first | refine blk_drewN ?_ _ | refine blk_drew ?_ | refine blk_alloc ?_ _)); refine blk_put (cs := #[.int .u8 ((rd_T36 (rd_L4 l0 x18_1) x29_2).f0), .int .i64 ((rd_T36 (rd_L4 l0 x18_1) x29_2).f1), .string (⟨#[]⟩ : ByteArray)]) ?_ 2 _ rfl; (with_reducible repeat (first | refine blk_drewN ?_ _ | refine blk_drew ?_ | refine blk_alloc ?_ _)); refine blk_put (cs := #[.int .u8 ((rd_T36 (rd_L4 l0 x18_1) x29_2).f0), .int .i64 0, .string (⟨#[]⟩ : ByteArray)]) ?_ 1 _ rfl; (with_reducible repeat (first | refine blk_drewN ?_ _ | refine blk_drew ?_ | refine blk_alloc ?_ _)); refine blk_put (cs := #[.int .u8 0, .int .i64 0, .string (⟨#[]⟩ : ByteArray)]) ?_ 0 _ rfl; (with_reducible repeat (first | refine blk_drewN ?_ _ | refine blk_drew ?_ | refine blk_alloc ?_ _)); exact BK108.out) hb); have n2_ := Aside0.mk (below_step (by repeat (first | (with_reducible first | exact HB.out | apply bA_ | apply bN_ | apply b1_ | refine below_set ?_ GE108.out) | exact HB.out)) hb); clear HO_3; clear BK108; clear HB; have HO_3 := n0_; have BK108 := n1_; have HB := n2_; clear n0_ n1_ n2_; (try clear hb); (try clear hb2); (try clear hk); (try clear hi); have p110 : 0 ≤ (x29_2 : Int) := oT_ (by assumption); have q110 : x29_2 < (x3_2.length : Int) := oT_ (by assumption); obtain ⟨ad110, e110, hx110_0⟩ := Kd.at_int (Kd.R_reads' HO_3.out).2.2 x29_2 p110 q110; cases e110; replace p110 := eq_true p110; replace q110 := eq_true q110; have hcz40_0 : w39.cell? ⟨gb108, 0, none⟩ = some (.int .u8 ((rd_T36 (rd_L4 l0 x18_1) x29_2).f0)) := (blk_cell BK108.out 0).trans rfl; have hcz40_1 : w39.cell? ⟨gb108, 1, none⟩ = some (.int .i64 ((rd_T36 (rd_L4 l0 x18_1) x29_2).f1)) := (blk_cell BK108.out 1).trans rfl; have hcz40_2 : w39.cell? ⟨gb108, 2, none⟩ = some (.string ((rd_T36 (rd_L4 l0 x18_1) x29_2).f2)) := (blk_cell BK108.out 2).trans rfl; have hfz40_0 := blk_frozen BK108.out 0; have hfz40_1 := blk_frozen BK108.out 1; have hfz40_2 := blk_frozen BK108.out 2))
                                     go_ret
                                     exact ⟨by first | rfl | (simp [*, errW_none, errW_some] <;> rfl), by repeat (first | (with_reducible first | exact HB.out | apply bA_ | apply bN_ | apply b1_ | refine below_set ?_ GE108.out) | exact HB.out)⟩
                             · rw [if_neg c18] at H
                               exact absurd H (by simp)
                           · replace c17 := Bool.eq_false_iff.mpr c17
                             subst c17
                             have H1 : (some false) = some r := by rw [if_neg (show ¬ (false = true) by decide)] at H; exact H
                             clear H
                             have H := H1
                             clear H1
                             obtain rfl := Option.some.inj H
                             have p107 : 0 ≤ (x29_2 : Int) := oT_ (by assumption)
                             have q107 : x29_2 < ((rd_L4 l0 x18_1).length : Int) := oT_ (by assumption)
                             obtain ⟨ad107, e107, hx107_0, hx107_1, hx107_2⟩ := at_T36 HR106_0.out x29_2 p107 q107
                             cases e107
                             replace hx107_0 := (HB.out.cell (bLC_ w _ hx107_0)).trans hx107_0
                             replace hx107_1 := (HB.out.cell (bLC_ w _ hx107_1)).trans hx107_1
                             replace hx107_2 := (HB.out.cell (bLC_ w _ hx107_2)).trans hx107_2
                             replace p107 := eq_true p107
                             replace q107 := eq_true q107
                             go_wp2_with (first | ((with_reducible refine gate_dst (N := 7) rfl ?_); refine box_event ?hg (N := 7) ?hd (cs := #[.int .u8 0, .int .i64 0, .string (⟨#[]⟩ : ByteArray)]) (t := 36) ?hr ?_; (case hd => rfl); (case hg => rfl); (case hr => first | (go_simp; done) | (go_simp; rfl)); intro gb108 hg w41 hbox hb; have n0_ := Aside0.mk (Kd.R_below (by (with_reducible repeat (first | apply Kd.R_alloc | apply Kd.R_drewN | apply Kd.R_drew)); exact HO_3.out) hb); have n1_ := Aside0.mk (below_step (by repeat (first | (with_reducible first | exact HB.out | apply bA_ | apply bN_ | apply b1_) | exact HB.out)) hb); have n2_ := Aside0.mk (hbox); have n3_ := Aside0.mk ((by rw [hg]; exact (below_size (by repeat (first | (with_reducible first | exact HB.out | apply bA_ | apply bN_ | apply b1_) | exact HB.out))) : w.heap.size ≤ gb108)); have n4_ := Aside0.mk ((by rw [hg]; exact (below_size (by repeat (first | (with_reducible first | exact HB.out | apply bA_ | apply bN_ | apply b1_) | exact HB.out))) : w.heap.size ≤ gb108)); clear HO_3; clear HB; have HO_3 := n0_; have HB := n1_; have BK108 := n2_; have GW108 := n3_; have GE108 := n4_; clear n0_ n1_ n2_ n3_ n4_; clear hb hbox hg; have hcz42_0 : w41.cell? ⟨gb108, 0, none⟩ = some (.int .u8 0) := (blk_cell BK108.out 0).trans rfl; have hcz42_1 : w41.cell? ⟨gb108, 1, none⟩ = some (.int .i64 0) := (blk_cell BK108.out 1).trans rfl; have hcz42_2 : w41.cell? ⟨gb108, 2, none⟩ = some (.string (⟨#[]⟩ : ByteArray)) := (blk_cell BK108.out 2).trans rfl; have hfz42_0 := blk_frozen BK108.out 0; have hfz42_1 := blk_frozen BK108.out 1; have hfz42_2 := blk_frozen BK108.out 2) | ((with_reducible refine gate_callee (f := 42) rfl ?_); refine goesL_ (some 35) rfl rfl Tryz.func42 (by kernel_rfl) rfl #[.agg #[.int .u8 ((rd_T36 (rd_L4 l0 x18_1) x29_2).f0), .int .i64 ((rd_T36 (rd_L4 l0 x18_1) x29_2).f1), .string ((rd_T36 (rd_L4 l0 x18_1) x29_2).f2)]] rfl (by (try simp only [List.map_toArray, List.map_cons, List.map_nil]); first | done | rfl | (simp only [List.length_drop, List.length_take]; rfl)) ?_; (with_reducible refine (value_Valid.calls ((rd_T36 (rd_L4 l0 x18_1) x29_2).f0) ((rd_T36 (rd_L4 l0 x18_1) x29_2).f1) ((rd_T36 (rd_L4 l0 x18_1) x29_2).f2) false _ A16.out).mono ?_); rintro e w43 ⟨rfl, hb⟩; refine ⟨_, rfl, ?_⟩; have n0_ := Aside0.mk (Kd.R_below (by (with_reducible repeat (first | apply Kd.R_alloc | apply Kd.R_drewN | apply Kd.R_drew)); exact (Kd.R_mono (Kd.R_far (p := ⟨gb108, 2, none⟩) (Kd.R_far (p := ⟨gb108, 1, none⟩) (Kd.R_far (p := ⟨gb108, 0, none⟩) (Kd.R_types HO_3.out BK108.out (by decide)) (fun _ hk => hk.2) (.int .u8 ((rd_T36 (rd_L4 l0 x18_1) x29_2).f0))) (fun _ hk => hk.2) (.int .i64 ((rd_T36 (rd_L4 l0 x18_1) x29_2).f1))) (fun _ hk => hk.2) (.string ((rd_T36 (rd_L4 l0 x18_1) x29_2).f2))) (fun _ h_ => h_.1))) hb); have n1_ := Aside0.mk (blk_below (g := gb108) (o := .cells #[.int .u8 ((rd_T36 (rd_L4 l0 x18_1) x29_2).f0), .int .i64 ((rd_T36 (rd_L4 l0 x18_1) x29_2).f1), .string ((rd_T36 (rd_L4 l0 x18_1) x29_2).f2)] 36 (0, 0)) (by (with_reducible repeat (first | refine blk_drewN ?_ _ | refine blk_drew ?_ | refine blk_alloc ?_ _)); refine blk_put (cs := #[.int .u8 ((rd_T36 (rd_L4 l0 x18_1) x29_2).f0), .int .i64 ((rd_T36 (rd_L4 l0 x18_1) x29_2).f1), .string (⟨#[]⟩ : ByteArray)]) ?_ 2 _ rfl; (with_reducible repeat (first | refine blk_drewN ?_ _ | refine blk_drew ?_ | refine blk_alloc ?_ _)); refine blk_put (cs := #[.int .u8 ((rd_T36 (rd_L4 l0 x18_1) x29_2).f0), .int .i64 0, .string (⟨#[]⟩ : ByteArray)]) ?_ 1 _ rfl; (with_reducible repeat (first | refine blk_drewN ?_ _ | refine blk_drew ?_ | refine blk_alloc ?_ _)); refine blk_put (cs := #[.int .u8 0, .int .i64 0, .string (⟨#[]⟩ : ByteArray)]) ?_ 0 _ rfl; (with_reducible repeat (first | refine blk_drewN ?_ _ | refine blk_drew ?_ | refine blk_alloc ?_ _)); exact BK108.out) hb); have n2_ := Aside0.mk (below_step (by repeat (first | (with_reducible first | exact HB.out | apply bA_ | apply bN_ | apply b1_ | refine below_set ?_ GE108.out) | exact HB.out)) hb); clear HO_3; clear BK108; clear HB; have HO_3 := n0_; have BK108 := n1_; have HB := n2_; clear n0_ n1_ n2_; (try clear hb); (try clear hb2); (try clear hk); (try clear hi)))
                             go_ret
                             exact ⟨by first | rfl | (simp [*, errW_none, errW_some] <;> rfl), by repeat (first | (with_reducible first | exact HB.out | apply bA_ | apply bN_ | apply b1_ | refine below_set ?_ GE108.out) | exact HB.out)⟩
                         · rw [if_neg c15] at H
                           exact absurd H (by simp)
                       · rw [if_neg c14] at H
                         exact absurd H (by simp)
                     · rw [if_neg c13] at H
                       have c13b0 : decide (x29_2 < ((rd_L4 l0 x18_1).length : Int)) = false := dF_ c13
                       clear c13
                       have H' := Aside0.mk H
                       clear H
                       go_wp2
                       (try simp only [← hl3_2])
                       go_roundg k2
                       case measure => have := HK1.out; have := HK2.out; omega
                       case rel => exact ⟨(x3_2), (wrap64 (x18_1 + 1)), (by first | rfl | (simp; done) | (simp [*]; done)), H', ⟨by have := HK1.out; have := HK2.out; omega⟩, ⟨by (try simp only [hl3_2]); (with_reducible repeat (first | apply Kd.R_alloc | apply Kd.R_drewN | apply Kd.R_drew)); exact HO_3.out⟩, ⟨by repeat (first | (with_reducible first | exact HB.out | apply bA_ | apply bN_ | apply b1_) | exact HB.out)⟩⟩
                 · rw [if_neg c11] at H
                   have c11b0 : (((rd_L4 l0 x18_1).length : Int) == (x3_1.length : Int)) = false := beq_eq_false_iff_ne.mpr c11
                   have c11b1 : (((rd_L4 l0 x18_1).length : Int) != (x3_1.length : Int)) = true := bne_iff_ne.mpr c11
                   have c11b2 : ((rd_L4 l0 x18_1).length == x3_1.length) = false := by first | simpa using c11 | (simp at c11 ⊢; omega)
                   obtain rfl := Option.some.inj H
                   have p106 : 0 ≤ (x18_1 : Int) := oT_ (by assumption)
                   have q106 : x18_1 < (l0.length : Int) := oT_ (by assumption)
                   obtain ⟨ad106, A106_0, c106_0, e106, hx106_0, hl106_0, hi106_0⟩ := at_L4 HR0.out x18_1 p106 q106
                   obtain rfl : ad102 = ad106 := (by injection e106)
                   replace hx106_0 := (HB.out.cell (bLC_ w _ hx106_0)).trans hx106_0
                   have HR106_0 := Aside0.mk hi106_0
                   have HC106_0 := Aside0.mk hl106_0
                   clear hi106_0 hl106_0
                   replace p106 := eq_true p106
                   replace q106 := eq_true q106
                   obtain ⟨Ao44, co44, eo44⟩ := Kd.R_slice HO_3.out
                   subst eo44
                   go_wp2
                   go_ret
                   exact ⟨by first | rfl | (simp [*, errW_none, errW_some] <;> rfl), by repeat (first | (with_reducible first | exact HB.out | apply bA_ | apply bN_ | apply b1_) | exact HB.out)⟩
               · rw [if_neg c10] at H
                 exact absurd H (by simp)
             · rw [if_neg c9] at H
               exact absurd H (by simp)
           · rw [if_neg c8] at H
             have c8b0 : decide (x18_1 < (l0.length : Int)) = false := dF_ c8
             clear c8
             obtain rfl := Option.some.inj H
             go_wp2
             go_ret
             exact ⟨by first | rfl | (simp [*, errW_none, errW_some] <;> rfl), by repeat (first | (with_reducible first | exact HB.out | apply bA_ | apply bN_ | apply b1_) | exact HB.out)⟩
       · rw [if_neg c5] at H
         exact absurd H (by simp)
     · rw [if_neg c4] at H
       exact absurd H (by simp)
   · rw [if_neg c3] at H
     exact absurd H (by simp)
end Go.Proofs.YtecgkcgfeghhgaaGreatDoor.PAll
set_option linter.unusedVariables false
set_option linter.unusedSimpArgs false
namespace Go.Proofs.YtecgkcgfeghhgaaGreatDoor.PAll
open Go.RowKit Go.Proofs.YtecgkcgfeghhgaaGreatDoorW.PrintWords Go.Proofs.YtecgkcgfeghhgaaGreatDoorW.PrintLast Go.Proofs.YtecgkcgfeghhgaaGreatDoorW.PrintMore
def noText (s : ByteArray) : Bool := s.toList == ([] : List UInt8)
def validV (v : V) : Bool :=
 if v.f0 = 0 then v.f1 == 0 && noText v.f2 else if v.f0 = 1 then noText v.f2 else if v.f0 = 2 then v.f1 == 0 && decide ((v.f2.size : Int) ≤ 100) else if v.f0 = 3 then noText v.f2 && decide (0 ≤ v.f1 ∧ v.f1 ≤ 1) else false
theorem wrap_u64_le (a : Int) (h0 : -9223372036854775808 ≤ a) (h1 : a ≤ 9223372036854775807) : (IntKind.u64.wrap a ≤ 1) ↔ (0 ≤ a ∧ a ≤ 1) := by
 simp only [IntKind.wrap, IntKind.bits, IntKind.signed]
 simp
 omega
theorem valid_value (v : V) (h : VOk v) : value_Valid.f v.f0 v.f1 v.f2 = some (validV v) := by
 obtain ⟨_, _, h2, h3⟩ := h
 unfold value_Valid.f validV noText
 by_cases c0 : v.f0 = 0
 · simp [c0]
 · by_cases c1 : v.f0 = 1
   · simp [c1]
   · by_cases c2 : v.f0 = 2
     · by_cases c4 : v.f1 = 0
       · simp [c2, c4]
       · simp [c2, c4]
     · by_cases c3 : v.f0 = 3
       · by_cases c4 : v.f2.toList = []
         · simp [c3, c4, wrap_u64_le v.f1 h2 h3]
         · simp [c3, c4]
       · simp [c0, c1, c2, c3]
def rowStep : List Int → List V → Option (List Int)
 | [], [] => some []
 | k :: ks, v :: vs => if validV v = true ∧ (k = 0 ∨ k = v.f0 ∨ v.f0 = 0) then (rowStep ks vs).map (fun r => (if k = 0 then v.f0 else k) :: r) else none
 | _, _ => none
def validFrom : List Int → List (List V) → Bool
 | _, [] => true
 | ks, r :: rs => match rowStep ks r with
  | some ks' => validFrom ks' rs
  | none => false
def validB (rows : List (List V)) : Bool := match rows with
 | [] => true
 | r :: rs => validFrom (List.replicate r.length 0) (r :: rs)
theorem rowStep_len : ∀ (ks : List Int) (r : List V) (ks' : List Int), rowStep ks r = some ks' → ks'.length = ks.length ∧ r.length = ks.length
 | [], [], ks', h => by simp [rowStep] at h; subst h; simp
 | [], _ :: _, _, h => by simp [rowStep] at h
 | _ :: _, [], _, h => by simp [rowStep] at h
 | k :: ks, v :: vs, ks', h => by
  simp only [rowStep] at h
  split at h
  · cases hr : rowStep ks vs with
    | none => simp [hr] at h
    | some t =>
     simp [hr] at h
     subst h
     have := rowStep_len ks vs t hr
     simp [this.1, this.2]
  · cases h
theorem rowStep_ne : ∀ (ks : List Int) (r : List V), r.length ≠ ks.length → rowStep ks r = none := by
 intro ks r h
 cases hr : rowStep ks r with
 | none => rfl
 | some t => exact absurd (rowStep_len ks r t hr).2 h
theorem w64 (x : Int) (h0 : 0 ≤ x) (h1 : x ≤ 1099511627776) : wrap64 (x + 1) = x + 1 := by unfold wrap64; omega
theorem rd_at {xs : List Int} {i : Nat} (h : i < xs.length) : rd xs (i : Int) = xs[i] := by simp [rd, List.getElem?_eq_getElem h]
theorem rdV_at {xs : List V} {i : Nat} (h : i < xs.length) : rd_T36 xs (i : Int) = xs[i] := by simp [rd_T36, List.getElem?_eq_getElem h]
theorem rdL_at {xs : List (List V)} {i : Nat} (h : i < xs.length) : rd_L4 xs (i : Int) = xs[i] := by simp [rd_L4, List.getElem?_eq_getElem h]
theorem drop_cons {α : Type} (l : List α) (i : Nat) (h : i < l.length) : l.drop i = l[i] :: l.drop (i + 1) := (List.drop_eq_getElem_cons h)
theorem valid_l1 (l : List (List V)) (N x18 : Int) (r : List V) (hr : ∀ v ∈ r, VOk v) (hn : r.length ≤ 1099511627776) (b : Bool) : ∀ (d j : Nat) (ks : List Int), j + d = r.length → ks.length = r.length →
 (∀ ks', rowStep (ks.drop j) (r.drop j) = some ks' → Ev (fun k => bag_Valid.l0 k (ks.take j ++ ks') l N (wrap64 (x18 + 1))) b → Ev (fun k => bag_Valid.l1 k ks l N x18 r (r.length : Int) (j : Int)) b) ∧
 (rowStep (ks.drop j) (r.drop j) = none → Ev (fun k => bag_Valid.l1 k ks l N x18 r (r.length : Int) (j : Int)) false) := by
 intro d
 induction d with
 | zero =>
  intro j ks hj hk
  have e1 : r.drop j = [] := List.drop_eq_nil_of_le (by omega)
  have e2 : ks.drop j = [] := List.drop_eq_nil_of_le (by omega)
  rw [e1, e2]
  refine ⟨fun ks' h hE => ?_, fun h => by simp [rowStep] at h⟩
  simp [rowStep] at h
  subst h
  rw [List.append_nil, List.take_of_length_le (by omega)] at hE
  refine Ev.step (f := fun k => bag_Valid.l0 k ks l N (wrap64 (x18 + 1))) (fun k => ?_) hE
  simp only [bag_Valid.l1]
  rw [if_neg (by omega)]
 | succ d ih =>
  intro j ks hj hk
  have hlt : j < r.length := by omega
  have hltk : j < ks.length := by omega
  rw [drop_cons r j hlt, drop_cons ks j hltk]
  have hv := valid_value r[j] (hr _ (List.getElem_mem hlt))
  have one : ∀ k, bag_Valid.l1 (k + 1) ks l N x18 r (r.length : Int) (j : Int) = if validV r[j] = true then (if ks[j] = 0 then bag_Valid.l1 k (ks.set j r[j].f0) l N x18 r (r.length : Int) ((j + 1 : Nat) : Int) else (if ks[j] = r[j].f0 then bag_Valid.l1 k ks l N x18 r (r.length : Int) ((j + 1 : Nat) : Int) else (if r[j].f0 = 0 then bag_Valid.l1 k ks l N x18 r (r.length : Int) ((j + 1 : Nat) : Int) else some false))) else some false := fun k => by
   simp only [bag_Valid.l1]
   rw [if_pos (by omega), if_pos (by omega), if_pos (by omega), rdV_at hlt, hv]
   simp only [Option.bind_some]
   rw [if_pos (show (j : Int) < (ks.length : Int) by omega), rd_at hltk, w64 _ (by omega) (by omega), Int.toNat_natCast]
   rfl
  by_cases c0 : validV r[j] = true
  · by_cases c1 : ks[j] = 0
    · have hs : (ks.set j r[j].f0).drop (j + 1) = ks.drop (j + 1) := by rw [List.drop_set]; simp
      have ht : (ks.set j r[j].f0).take (j + 1) = ks.take j ++ [r[j].f0] := by
       rw [take_snoc _ _ (by simpa using hltk)]
       rw [List.take_set, List.set_eq_of_length_le (by rw [List.length_take]; omega)]
       simp
      obtain ⟨i1, i2⟩ := ih (j + 1) (ks.set j r[j].f0) (by omega) (by simpa using hk)
      rw [hs] at i1 i2
      refine ⟨fun ks' h hE => ?_, fun h => ?_⟩
      · simp only [rowStep, c0, c1, true_or, and_self, if_true] at h
        cases hrs : rowStep (ks.drop (j + 1)) (r.drop (j + 1)) with
        | none => simp [hrs] at h
        | some t =>
         simp [hrs] at h
         subst h
         refine Ev.step (fun k => by rw [one k, if_pos c0, if_pos c1]) (i1 t hrs ?_)
         rw [ht, List.append_assoc]
         exact hE
      · simp only [rowStep, c0, c1, true_or, and_self, if_true] at h
        cases hrs : rowStep (ks.drop (j + 1)) (r.drop (j + 1)) with
        | none => exact Ev.step (fun k => by rw [one k, if_pos c0, if_pos c1]) (i2 hrs)
        | some t => simp [hrs] at h
    · obtain ⟨i1, i2⟩ := ih (j + 1) ks (by omega) hk
      have ht : ks.take (j + 1) = ks.take j ++ [ks[j]] := take_snoc _ _ hltk
      by_cases c2 : ks[j] = r[j].f0 ∨ r[j].f0 = 0
      · have one' : ∀ k, bag_Valid.l1 (k + 1) ks l N x18 r (r.length : Int) (j : Int) = bag_Valid.l1 k ks l N x18 r (r.length : Int) ((j + 1 : Nat) : Int) := fun k => by
         rw [one k, if_pos c0, if_neg c1]
         by_cases c3 : ks[j] = r[j].f0
         · rw [if_pos c3]
         · rw [if_neg c3, if_pos (c2.resolve_left c3)]
        refine ⟨fun ks' h hE => ?_, fun h => ?_⟩
        · simp only [rowStep, c0, c1, c2, false_or, true_and, if_true, if_false] at h
          cases hrs : rowStep (ks.drop (j + 1)) (r.drop (j + 1)) with
          | none => simp [hrs] at h
          | some t =>
           simp [hrs] at h
           subst h
           refine Ev.step (fun k => one' k) (i1 t hrs ?_)
           rw [ht, List.append_assoc]
           exact hE
        · simp only [rowStep, c0, c1, c2, false_or, true_and, if_true, if_false] at h
          cases hrs : rowStep (ks.drop (j + 1)) (r.drop (j + 1)) with
          | none => exact Ev.step (fun k => one' k) (i2 hrs)
          | some t => simp [hrs] at h
      · have one' : ∀ k, bag_Valid.l1 (k + 1) ks l N x18 r (r.length : Int) (j : Int) = some false := fun k => by
         rw [one k, if_pos c0, if_neg c1, if_neg (fun e => c2 (.inl e)), if_neg (fun e => c2 (.inr e))]
        refine ⟨fun ks' h _ => ?_, fun _ => Ev.step (fun k => one' k) (Ev.now false)⟩
        simp [rowStep, c0, c1, c2] at h
  · have one' : ∀ k, bag_Valid.l1 (k + 1) ks l N x18 r (r.length : Int) (j : Int) = some false := fun k => by
     rw [one k, if_neg c0]
    refine ⟨fun ks' h _ => ?_, fun _ => Ev.step (fun k => one' k) (Ev.now false)⟩
    simp [rowStep, c0] at h
def RowsV (l : List (List V)) : Prop := (∀ r ∈ l, (∀ v ∈ r, VOk v) ∧ r.length ≤ 1099511627776) ∧ l.length ≤ 1099511627776
theorem RowsOk.v {l : List (List V)} (h : RowsOk l) : RowsV l := ⟨fun r hr => ⟨(h.1 r hr).1, (h.1 r hr).2.2⟩, h.2⟩
theorem valid_l0 (l : List (List V)) (hl : RowsV l) : ∀ (d i : Nat) (ks : List Int), i + d = l.length → Ev (fun k => bag_Valid.l0 k ks l (l.length : Int) (i : Int)) (validFrom ks (l.drop i)) := by
 intro d
 induction d with
 | zero =>
  intro i ks hi
  rw [List.drop_eq_nil_of_le (by omega)]
  refine Ev.step (f := fun _ => some true) (fun k => ?_) (Ev.now true)
  simp only [bag_Valid.l0]
  rw [if_neg (by omega)]
 | succ d ih =>
  intro i ks hi
  have hlt : i < l.length := by omega
  have hr := hl.1 l[i] (List.getElem_mem hlt)
  have hn := hl.2
  rw [drop_cons l i hlt]
  simp only [validFrom]
  by_cases c : l[i].length = ks.length
  · have one : ∀ k, bag_Valid.l0 (k + 1) ks l (l.length : Int) (i : Int) = bag_Valid.l1 k ks l (l.length : Int) (i : Int) l[i] (l[i].length : Int) ((0 : Nat) : Int) := fun k => by
     simp only [bag_Valid.l0]
     rw [if_pos (by omega), if_pos (by omega), if_pos (by omega), rdL_at hlt, if_pos (by omega)]
     rfl
    cases hrs : rowStep ks l[i] with
    | none =>
     obtain ⟨_, i2⟩ := valid_l1 l (l.length : Int) (i : Int) l[i] hr.1 hr.2 false l[i].length 0 ks (by omega) c.symm
     exact Ev.step (fun k => one k) (i2 (by simpa using hrs))
    | some t =>
     obtain ⟨i1, _⟩ := valid_l1 l (l.length : Int) (i : Int) l[i] hr.1 hr.2 (validFrom t (l.drop (i + 1))) l[i].length 0 ks (by omega) c.symm
     refine Ev.step (fun k => one k) (i1 t (by simpa using hrs) ?_)
     rw [w64 _ (by omega) (by omega)]
     exact ih (i + 1) t (by omega)
  · have one : ∀ k, bag_Valid.l0 (k + 1) ks l (l.length : Int) (i : Int) = some false := fun k => by
     simp only [bag_Valid.l0]
     rw [if_pos (by omega), if_pos (by omega), if_pos (by omega), rdL_at hlt, if_neg (by omega)]
    rw [rowStep_ne ks l[i] c]
    exact Ev.step (fun k => one k) (Ev.now false)
theorem valid_ev (l : List (List V)) (hl : RowsV l) : Ev (fun k => bag_Valid.f k l) (validB l) := by
 cases l with
 | nil => exact Ev.congr (f := fun _ => some true) (fun k => by simp [bag_Valid.f]) (Ev.now true)
 | cons r rs =>
  have h := valid_l0 (r :: rs) hl (r :: rs).length 0 (List.replicate r.length 0) (by omega)
  have hr := (hl.1 r List.mem_cons_self).2
  refine Ev.congr (fun k => ?_) h
  have e : rd_L4 (r :: rs) 0 = r := rfl
  simp only [bag_Valid.f]
  rw [if_neg (by simp only [List.length_cons]; omega), if_pos (by simp only [List.length_cons]; omega), e, if_pos (by omega), if_pos (by omega), Int.toNat_natCast]
  rfl
end Go.Proofs.YtecgkcgfeghhgaaGreatDoor.PAll
namespace Go.Proofs.YtecgkcgfeghhgaaGreatDoor.PAll
open Go.RowKit Go.Proofs.YtecgkcgfeghhgaaGreatDoorW.PrintWords Go.Proofs.YtecgkcgfeghhgaaGreatDoorW.PrintLast Go.Proofs.YtecgkcgfeghhgaaGreatDoorW.PrintMore
attribute [local go_sem] max2_int min2_int max_two min_two max_three min_three max_four min_four
set_option linter.unusedVariables false
set_option linter.unusedSimpArgs false
def bag_has.f (l0 : List (List (S36))) (a1 : Int) : Option (Bool) := if a1 ≥ 0 then (if a1 < 64 then (if (l0.length : Int) = 0 then (some true) else (if 0 < (l0.length : Int) then (some (decide (a1 < ((rd_L4 l0 0).length : Int)))) else (none))) else (some false)) else (some false)
theorem bag_has.calls (A0 : Option Addr) (c0 : Nat) (l0 : List (List (S36))) (a1 : Int) (r : Bool) (w : World) (hr0 : Kd.C (Kd.slice 36 k36) w A0 l0.length l0) (hc0 : l0.length ≤ c0) (h : bag_has.f l0 a1 = some r) :
 Calls Tryz.prog 62 #[.slice A0 l0.length c0, .int .i64 a1] w fun e w' => e = .returned (.bool r) ∧ Drawn0 w w' := by
 have HR0 := Aside0.mk hr0
 have HC0 := Aside0.mk hc0
 clear hr0 hc0
 have H : (if a1 ≥ 0 then (if a1 < 64 then (if (l0.length : Int) = 0 then (some true) else (if 0 < (l0.length : Int) then (some (decide (a1 < ((rd_L4 l0 0).length : Int)))) else (none))) else (some false)) else (some false)) = some r := h
 clear h
 by_cases c3 : a1 ≥ 0
 · rw [if_pos c3] at H
   have c3b0 : decide (0 ≤ a1) = true := dT_ c3
   clear c3
   by_cases c4 : a1 < 64
   · rw [if_pos c4] at H
     have c4b0 : decide (a1 < 64) = true := dT_ c4
     clear c4
     by_cases c5 : (l0.length : Int) = 0
     · rw [if_pos c5] at H
       have c5b0 : ((l0.length : Int) == 0) = true := beq_iff_eq.mpr c5
       have c5b1 : ((l0.length : Int) != 0) = false := bne_eq_false_iff_eq.mpr c5
       clear c5
       obtain rfl := Option.some.inj H
       go_enter Tryz.func62, Tryz.ntmps62
       go_wp2
       go_ret
       exact ⟨by first | rfl | (simp; done) | (simp [*]; done), by repeat (first | exact Drawn0.refl _ | apply Drawn0.step)⟩
     · rw [if_neg c5] at H
       have c5b0 : ((l0.length : Int) == 0) = false := beq_eq_false_iff_ne.mpr c5
       have c5b1 : ((l0.length : Int) != 0) = true := bne_iff_ne.mpr c5
       have c5b2 : ¬ (l0 = []) := fun h_ => c5 (by rw [h_]; rfl)
       by_cases c6 : 0 < (l0.length : Int)
       · rw [if_pos c6] at H
         have c6b0 : decide (0 < (l0.length : Int)) = true := dT_ c6
         have c6b1 : decide (0 < l0.length) = true := dT_ (by omega)
         clear c6
         obtain rfl := Option.some.inj H
         have p115 : 0 ≤ (0 : Int) := (by omega)
         have q115 : 0 < (l0.length : Int) := oT_ (by assumption)
         obtain ⟨ad115, A115_0, c115_0, e115, hx115_0, hl115_0, hi115_0⟩ := at_L4 HR0.out 0 p115 q115
         cases e115
         have qi115 : (0 < l0.length) = True := eq_true (by omega)
         (try rw [show ((0 : Int)).toNat = 0 from rfl] at hx115_0)
         (try rw [Addr.add_zero'] at hx115_0)
         have HR115_0 := Aside0.mk hi115_0
         have HC115_0 := Aside0.mk hl115_0
         clear hi115_0 hl115_0
         replace p115 := eq_true p115
         replace q115 := eq_true q115
         go_enter Tryz.func62, Tryz.ntmps62
         go_wp2
         go_ret
         exact ⟨by first | rfl | (simp; done) | (simp [*]; done), by repeat (first | exact Drawn0.refl _ | apply Drawn0.step)⟩
       · rw [if_neg c6] at H
         exact absurd H (by simp)
   · rw [if_neg c4] at H
     have c4b0 : decide (a1 < 64) = false := dF_ c4
     clear c4
     obtain rfl := Option.some.inj H
     go_enter Tryz.func62, Tryz.ntmps62
     go_wp2
     go_ret
     exact ⟨by first | rfl | (simp; done) | (simp [*]; done), by repeat (first | exact Drawn0.refl _ | apply Drawn0.step)⟩
 · rw [if_neg c3] at H
   have c3b0 : decide (0 ≤ a1) = false := dF_ c3
   clear c3
   obtain rfl := Option.some.inj H
   go_enter Tryz.func62, Tryz.ntmps62
   go_wp2
   go_ret
   exact ⟨by first | rfl | (simp; done) | (simp [*]; done), by repeat (first | exact Drawn0.refl _ | apply Drawn0.step)⟩
end Go.Proofs.YtecgkcgfeghhgaaGreatDoor.PAll
set_option linter.unusedVariables false
set_option linter.unusedSimpArgs false
namespace Go.Proofs.YtecgkcgfeghhgaaGreatDoor.PAll
open Go.RowKit Go.Proofs.YtecgkcgfeghhgaaGreatDoorW.PrintWords Go.Proofs.YtecgkcgfeghhgaaGreatDoorW.PrintLast Go.Proofs.YtecgkcgfeghhgaaGreatDoorW.PrintMore
abbrev KeyT := S64
abbrev kKey : Kd KeyT := k64
def hasB (l : List (List V)) (n : Int) : Bool := match l with
 | [] => decide (0 ≤ n ∧ n < 64)
 | r :: _ => decide (0 ≤ n ∧ n < 64 ∧ n < (r.length : Int))
theorem has_eq (l : List (List V)) (n : Int) : bag_has.f l n = some (hasB l n) := by
 unfold bag_has.f hasB
 cases l with
 | nil => by_cases h1 : 0 ≤ n <;> by_cases h2 : n < 64 <;> simp [h1, h2]
 | cons r rs =>
  have e : rd_L4 (r :: rs) 0 = r := rfl
  rw [e]
  by_cases h1 : 0 ≤ n <;> by_cases h2 : n < 64 <;> simp [h1, h2] <;> omega
def keysB (l : List (List V)) (ks : List KeyT) : Bool := ks.all fun k => hasB l k.f0
theorem fits1_calls (v0 : Int) (v1 : Bool) (b : Nat) (A1 : Option Addr) (c1 : Nat) (l0 : List (List V)) (w : World) (hcell : w.cell? ⟨b, 0, none⟩ = some (.slice A1 l0.length c1)) (hr : Kd.C kRow w A1 l0.length l0) (hc : l0.length ≤ c1) :
 Calls Tryz.prog 79 #[.agg #[.int .i64 v0, .bool v1], .pointer (some ⟨b, 0, none⟩)] w fun e w' => e = .returned (.bool (!hasB l0 v0)) ∧ Below w.heap.size w w' := by
 have HR := Aside0.mk hr
 have HC := Aside0.mk hc
 have hb := World.block_lt_of_cell? w _ hcell
 have B1 := Aside0.mk ((Below.refl w.heap.size w).alloc (Nat.le_refl _) (.cells #[.int .i64 v0, .bool v1] 64))
 clear hr hc
 go_enter Tryz.func79, Tryz.ntmps79
 go_wp2_with fail
 refine (bag_has.calls _ _ l0 v0 (hasB l0 v0) _ (Kd.C_below HR.out B1.out) HC.out (has_eq l0 v0)).mono ?_
 rintro e w1 ⟨rfl, hd⟩
 have HB1 := Aside0.mk (B1.out.trans (hd.below.mono B1.out.size))
 clear hd
 go_wp2
 go_ret
 exact ⟨rfl, HB1.out⟩
def badAt (l0 : List (List V)) : List KeyT → Int → Int
 | [], _ => -1
 | k :: ks, i => if hasB l0 k.f0 = true then badAt l0 ks (i + 1) else i
theorem badAt_iff (l0 : List (List V)) : ∀ (ks : List KeyT) (i : Int), 0 ≤ i → (decide (badAt l0 ks i ≥ 0) = !keysB l0 ks)
 | [], i, h => by simp [badAt, keysB]
 | k :: ks, i, h => by
  have ih := badAt_iff l0 ks (i + 1) (by omega)
  by_cases c : hasB l0 k.f0 = true
  · simp only [badAt, c, if_true]
    rw [ih]
    simp [keysB, c]
  · have e : badAt l0 (k :: ks) i = i := by simp only [badAt]; rw [if_neg c]
    rw [decide_eq_true (show badAt l0 (k :: ks) i ≥ 0 by rw [e]; exact h)]
    simp at c
    simp [keysB, c]
theorem rdK_at {xs : List KeyT} {i : Nat} (h : i < xs.length) : rd_T64 xs (i : Int) = xs[i] := by simp [rd_T64, List.getElem?_eq_getElem h]
theorem indexFunc_calls (A0 : Option Addr) (c0 : Nat) (ks : List KeyT) (b : Nat) (A1 : Option Addr) (c1 : Nat) (l0 : List (List V)) (w : World) (hk : Kd.C kKey w A0 ks.length ks) (hn : ks.length ≤ 1099511627776) (hcell : w.cell? ⟨b, 0, none⟩ = some (.slice A1 l0.length c1)) (hr : Kd.C kRow w A1 l0.length l0) (hc : l0.length ≤ c1) :
 Calls Tryz.prog 96 #[.slice A0 ks.length c0, .func (.func 79) #[] #[.pointer (some ⟨b, 0, none⟩)]] w fun e w' => e = .returned (.int .i64 (badAt l0 ks 0)) ∧ Below w.heap.size w w' := by
 have HK := Aside0.mk hk
 have HN := Aside0.mk hn
 have HCE := Aside0.mk hcell
 have HR := Aside0.mk hr
 have HC := Aside0.mk hc
 clear hk hn hcell hr hc
 go_enter Tryz.func96, Tryz.ntmps96
 go_wp2
 go_loopg [8] ks.length (fun kq v8 W => ∃ x : Nat, v8 = .int .i64 x ∧ Aside0 (x ≤ ks.length ∧ kq = ks.length - x) ∧ Aside0 (badAt l0 ks 0 = badAt l0 (ks.drop x) x) ∧ Aside0 (Below w.heap.size w W))
 case atStart => exact ⟨0, rfl, ⟨by omega⟩, ⟨rfl⟩, ⟨Below.refl _ _⟩⟩
 case round =>
  obtain ⟨x, rfl, HX, HI, HB⟩ := hrel
  obtain ⟨hx1, hkq⟩ := HX.out
  by_cases hlt : x < ks.length
  · have c1' : decide ((x : Int) < (ks.length : Int)) = true := decide_eq_true (by omega)
    have c2 : decide (0 ≤ (x : Int)) = true := decide_eq_true (by omega)
    obtain ⟨ad, e, hx_0, hx_1⟩ := at_T64 HK.out (x : Int) (by omega) (by omega)
    cases e
    replace hx_0 := (HB.out.cell (World.block_lt_of_cell? w _ hx_0)).trans hx_0
    replace hx_1 := (HB.out.cell (World.block_lt_of_cell? w _ hx_1)).trans hx_1
    rw [rdK_at hlt] at hx_0 hx_1
    rw [drop_cons ks x hlt] at HI
    obtain ⟨y, hy⟩ : ∃ y, y = ks[x] := ⟨_, rfl⟩
    rw [← hy] at hx_0 hx_1 HI
    have HWR : Aside0 (wrap64 ((x : Int) + 1) = (x : Int) + 1) := ⟨by have := HN.out; unfold wrap64; omega⟩
    have HCE1 := Aside0.mk ((HB.out.cell (World.block_lt_of_cell? w _ HCE.out)).trans HCE.out)
    have HLT := Aside0.mk hlt
    have HKQ := Aside0.mk hkq
    clear hy hkq
    simp only [Int.toNat_natCast] at hx_0 hx_1
    go_wp2_with fail
    refine (fits1_calls y.f0 y.f1 b A1 c1 l0 wr HCE1.out (Kd.C_below HR.out HB.out) HC.out).mono ?_
    rintro e w1 ⟨rfl, hb1⟩
    have HB1 := Aside0.mk (HB.out.trans (hb1.mono HB.out.size))
    clear hb1
    by_cases hh : hasB l0 y.f0 = true
    · have hb : (!hasB l0 y.f0) = false := by simp [hh]
      have HI2 : Aside0 (badAt l0 ks 0 = badAt l0 (ks.drop (x + 1)) ((x : Int) + 1)) := ⟨by rw [HI.out]; simp only [badAt]; rw [if_pos hh]⟩
      clear hh
      go_wp2
      have hlt := HLT.out
      have hk := HKQ.out
      cases gk with
      | zero => omega
      | succ k1 =>
       go_roundg k1
       case measure => omega
       case rel => exact ⟨x + 1, by rw [HWR.out]; rfl, ⟨by omega⟩, HI2, HB1⟩
    · have hb : (!hasB l0 y.f0) = true := by simpa using hh
      have HI2 : Aside0 (badAt l0 ks 0 = (x : Int)) := ⟨by rw [HI.out]; simp only [badAt]; rw [if_neg hh]⟩
      clear hh
      go_wp2
      go_ret
      refine ⟨?_, HB1.out⟩
      rw [HI2.out]
      rfl
  · have c1' : decide ((x : Int) < (ks.length : Int)) = false := decide_eq_false (by omega)
    go_wp2
    go_ret
    refine ⟨?_, HB.out⟩
    rw [HI.out, List.drop_eq_nil_of_le (by omega)]
    rfl
theorem containsFunc_calls (A0 : Option Addr) (c0 : Nat) (ks : List KeyT) (b : Nat) (A1 : Option Addr) (c1 : Nat) (l0 : List (List V)) (w : World) (hk : Kd.C kKey w A0 ks.length ks) (hn : ks.length ≤ 1099511627776) (hcell : w.cell? ⟨b, 0, none⟩ = some (.slice A1 l0.length c1)) (hr : Kd.C kRow w A1 l0.length l0) (hc : l0.length ≤ c1) :
 Calls Tryz.prog 78 #[.slice A0 ks.length c0, .func (.func 79) #[] #[.pointer (some ⟨b, 0, none⟩)]] w fun e w' => e = .returned (.bool (!keysB l0 ks)) ∧ Below w.heap.size w w' := by
 have H := Aside0.mk (indexFunc_calls A0 c0 ks b A1 c1 l0 w hk hn hcell hr hc)
 clear hk hn hcell hr hc
 obtain ⟨i, hi⟩ : ∃ i, i = badAt l0 ks 0 := ⟨_, rfl⟩
 have HI := Aside0.mk hi
 rw [← hi] at H
 clear hi
 go_enter Tryz.func78, Tryz.ntmps78
 go_wp2_with fail
 refine H.out.mono ?_
 rintro e w1 ⟨rfl, hb1⟩
 have HB1 := Aside0.mk hb1
 clear hb1
 go_wp2
 go_ret
 refine ⟨?_, HB1.out⟩
 have h := badAt_iff l0 ks 0 (by omega)
 rw [← HI.out] at h
 rw [← h]
 rfl
theorem fits_calls (A0 : Option Addr) (c0 : Nat) (l0 : List (List V)) (A1 : Option Addr) (c1 : Nat) (l1 : List KeyT) (w : World) (hr0 : Kd.C kRow w A0 l0.length l0) (hc0 : l0.length ≤ c0) (hr1 : Kd.C kKey w A1 l1.length l1) (hc1 : l1.length ≤ c1) (hv : RowsV l0) (hn : l1.length ≤ 1099511627776) :
 Calls Tryz.prog 47 #[.slice A0 l0.length c0, .slice A1 l1.length c1] w fun e w' => e = .returned (.bool (validB l0 && keysB l0 l1)) ∧ Below w.heap.size w w' := by
 obtain ⟨k, hk⟩ := (valid_ev l0 hv).rounds
 have HK := Aside0.mk hk
 have HR0 := Aside0.mk hr0
 have HC0 := Aside0.mk hc0
 have HR1 := Aside0.mk hr1
 have HN := Aside0.mk hn
 clear hk hr0 hc0 hr1 hc1 hv hn
 have B1 := Aside0.mk ((Below.refl w.heap.size w).alloc (Nat.le_refl _) (.cells #[.slice A0 l0.length c0] 22))
 have HCE : Aside0 ((w.alloc (.cells #[.slice A0 l0.length c0] 22)).cell? ⟨w.heap.size, 0, none⟩ = some (.slice A0 l0.length c0)) := ⟨(blk_cell (heap_alloc_new _ _) 0).trans rfl⟩
 go_enter Tryz.func47, Tryz.ntmps47
 go_wp2_with fail
 refine (bag_Valid.calls k _ _ l0 (validB l0) _ (Kd.C_below HR0.out B1.out) HC0.out HK.out).mono ?_
 rintro e w1 ⟨rfl, hb1⟩
 have HB1 := Aside0.mk (B1.out.trans (hb1.mono B1.out.size))
 have HCE1 := Aside0.mk ((hb1.cell (World.block_lt_of_cell? _ _ HCE.out)).trans HCE.out)
 clear hb1 HCE
 cases hv : validB l0 with
 | true =>
  have HV := Aside0.mk hv
  clear hv
  go_wp2_with fail
  refine (containsFunc_calls _ _ l1 w.heap.size _ _ l0 w1 (Kd.C_below HR1.out HB1.out) HN.out HCE1.out (Kd.C_below HR0.out HB1.out) HC0.out).mono ?_
  rintro e w2 ⟨rfl, hb2⟩
  have HB2 := Aside0.mk (HB1.out.trans (hb2.mono HB1.out.size))
  clear hb2
  cases hq : keysB l0 l1 with
  | true =>
   have HQ := Aside0.mk hq
   clear hq
   go_wp2
   go_ret
   refine ⟨?_, HB2.out⟩
   rw [HV.out, HQ.out]
   rfl
  | false =>
   have HQ := Aside0.mk hq
   clear hq
   go_wp2
   go_ret
   refine ⟨?_, HB2.out⟩
   rw [HV.out, HQ.out]
   rfl
 | false =>
  have HV := Aside0.mk hv
  clear hv
  go_wp2
  go_ret
  refine ⟨?_, HB1.out⟩
  rw [HV.out]
  rfl
end Go.Proofs.YtecgkcgfeghhgaaGreatDoor.PAll
namespace Go.Proofs.YtecgkcgfeghhgaaGreatDoor.bulks
theorem one_le {H : Type} (d : DataW H) : 1 ≤ Rows.uptoBulk d := by
 cases d with
 | lit l => cases l <;> simp [Rows.uptoBulk]
 | nil => simp [Rows.uptoBulk]
 | ptr d => simp [Rows.uptoBulk]
 | slice elems spare => simp [Rows.uptoBulk]
 | agg parts => simp [Rows.uptoBulk]
 | iface t d => simp [Rows.uptoBulk]
 | map entries => simp [Rows.uptoBulk]
 | held h => simp [Rows.uptoBulk]
end Go.Proofs.YtecgkcgfeghhgaaGreatDoor.bulks
set_option linter.unusedVariables false
set_option linter.unusedSimpArgs false
namespace Go.Proofs.YtecgkcgfeghhgaaGreatDoor.PAll
open Go.RowKit Go.Proofs.YtecgkcgfeghhgaaGreatDoorW.PrintWords Go.Proofs.YtecgkcgfeghhgaaGreatDoorW.PrintLast Go.Proofs.YtecgkcgfeghhgaaGreatDoorW.PrintMore
open Go.ChangeShapes Go.WideShapes Go.Deep
section
variable {H : Type} {enc : TypeId × Value → H} {w : World} {base : Nat} {spare : Nat → Bool} {held : Bool}
theorem wf_u8 {n : Int} (h : (Lit.int .u8 n).wf = true) : 0 ≤ n ∧ n ≤ 255 := by
 have h2 : IntKind.u8.min ≤ n ∧ n ≤ IntKind.u8.max := by simpa [Lit.wf] using h
 have e0 : IntKind.u8.min = 0 := by decide
 have e1 : IntKind.u8.max = 255 := by decide
 rw [e0, e1] at h2
 exact h2
theorem wf_i64 {n : Int} (h : (Lit.int .i64 n).wf = true) : -9223372036854775808 ≤ n ∧ n ≤ 9223372036854775807 := by
 have h2 : IntKind.i64.min ≤ n ∧ n ≤ 9223372036854775807 := by simpa [Lit.wf] using h
 have e : IntKind.i64.min = -9223372036854775808 := by decide
 rw [e] at h2
 exact h2
theorem cellsV : (Tryz.prog).cellsOf 36 = 3 := by kernel_rfl
theorem cells1 : (Tryz.prog).cellsOf 34 = 1 ∧ (Tryz.prog).cellsOf 2 = 1 ∧ (Tryz.prog).cellsOf 9 = 1 := ⟨by kernel_rfl, by kernel_rfl, by kernel_rfl⟩
def bulkV (v : V) : Nat := v.f2.size + 1
def bulkR (r : List V) : Nat := (r.map bulkV).sum + 1
def bulkL (l : List (List V)) : Nat := (l.map bulkR).sum + 1
theorem sum_mem : ∀ {l : List Nat} {n : Nat}, n ∈ l → n ≤ l.sum
 | [], _, h => by simp at h
 | m :: l, n, h => by
  rw [List.sum_cons]
  rcases List.mem_cons.1 h with rfl | h
  · omega
  · have := sum_mem h; omega
theorem sum_len {α : Type} (f : α → Nat) (hf : ∀ a, 1 ≤ f a) : ∀ l : List α, l.length ≤ (l.map f).sum
 | [] => by simp
 | a :: l => by
  have h1 := hf a
  have h2 := sum_len f hf l
  simp only [List.map_cons, List.sum_cons, List.length_cons]
  omega
theorem bulkAll_sum : ∀ l : List (DataW H), Rows.uptoBulkAll l = (l.map Rows.uptoBulk).sum
 | [] => by simp [Rows.uptoBulkAll]
 | d :: r => by simp [Rows.uptoBulkAll, bulkAll_sum r]
theorem sum_le_sum {n : Nat} {f g : Nat → Nat} (h : ∀ i, i < n → f i ≤ g i) : ((List.range n).map f).sum ≤ ((List.range n).map g).sum := by
 induction n with
 | zero => simp
 | succ n ih =>
  rw [List.range_succ, List.map_append, List.map_append, List.sum_append, List.sum_append]
  have h1 := ih (fun i hi => h i (by omega))
  have h2 := h n (by omega)
  simp only [List.map_cons, List.map_nil, List.sum_cons, List.sum_nil]
  omega
theorem list_of_trod {α : Type} [Inhabited α] (d : Kd α) {t e : TypeId} (ht : (Tryz.prog).underlying t = some (.slice e)) (hsz : (Tryz.prog).cellsOf e = d.sz) (B : α → Nat) (G : α → Prop)
 (he : ∀ {fuel : Nat} {cs : List Value} {x : DataW H × List MemPlace}, cs.length = d.sz → DataW.trod enc Tryz.prog w base spare held fuel e cs = some x → ∃ a : α, d.K w a cs ∧ G a ∧ B a ≤ Rows.uptoBulk x.1)
 {fuel : Nat} {cs : List Value} {x : DataW H × List MemPlace} (h : DataW.trod enc Tryz.prog w base spare held fuel t cs = some x) :
 ∃ (A : Option Addr) (cap : Nat) (l : List α), cs = [.slice A l.length cap] ∧ l.length ≤ cap ∧ cap ≤ maxLen ∧ d.C w A l.length l ∧ (∀ a ∈ l, G a) ∧ (l.map B).sum + 1 ≤ Rows.uptoBulk x.1 := by
 rcases open_slice ht h with ⟨rfl, hx⟩ | ⟨a, len, cap, m, n, D, Pl, rfl, hb, hl, hm, hmm, rfl, hx⟩
 · exact ⟨none, 0, [], rfl, Nat.le_refl _, by decide, Kd.C_nil _ _, by simp, by rw [hx]; simp [Rows.uptoBulk]⟩
 have hlm : len ≤ m := by rw [hmm]; split <;> omega
 have each : ∀ i, i < len → ∃ r : α, (G r ∧ B r ≤ Rows.uptoBulk (D i)) ∧ ∃ cs', cs'.length = d.sz ∧ d.K w r cs' ∧ ∀ j u, cs'[j]? = some u → w.cell? (a.add (i * d.sz + j)) = some u := fun i hi => by
  obtain ⟨cs', h1, h2⟩ := hx i (by omega)
  rw [hsz] at h1
  obtain ⟨_, hlen, hcell⟩ := World.cells?_some h1
  obtain ⟨r, hK, hG, hB⟩ := he hlen h2
  refine ⟨r, ⟨hG, hB⟩, cs', hlen, hK, fun j u hu => ?_⟩
  have hj : j < d.sz := by have := (List.getElem?_eq_some_iff.1 hu).1; omega
  have hc := hcell j hj
  rw [Go.Deep.add_add] at hc
  rw [hc]
  exact hu
 obtain ⟨q, hq⟩ := choose_lt each
 refine ⟨some a, cap, (List.range len).map q, by simp, by simpa using hl, hm, ⟨rfl, by simp only [List.length_map, List.length_range]; have : maxLen = 9223372036854775807 := rfl; omega, fun _ => ⟨a, rfl, fun j p hj => ?_⟩⟩, fun r hr => ?_, ?_⟩
 · have hjl : j < len := by have := (List.getElem?_eq_some_iff.1 hj).1; simpa using this
   obtain rfl : q j = p := by simpa [hjl] using hj
   obtain ⟨_, cs', h1, h2, h3⟩ := hq j hjl
   exact ⟨cs', h1, h2, h3⟩
 · obtain ⟨i, hi, rfl⟩ := List.mem_map.1 hr
   exact (hq i (List.mem_range.1 hi)).1.1
 · have h1 := sum_le_sum (n := len) (f := fun i => B (q i)) (g := fun i => Rows.uptoBulk (D i)) (fun i hi => (hq i hi).1.2)
   simp only [Rows.uptoBulk, bulkAll_sum, List.map_map, Function.comp_def]
   omega
theorem val_of_trod {fuel : Nat} {cs : List Value} {x : DataW H × List MemPlace} (h : DataW.trod enc Tryz.prog w base spare held fuel 36 cs = some x) : ∃ v : V, cs = [.int .u8 v.f0, .int .i64 v.f1, .string v.f2] ∧ VOk v ∧ bulkV v ≤ Rows.uptoBulk x.1 := by
 obtain ⟨y0, y1, y2, n, hx, hl, h0, h1, h2⟩ := trod_struct3 Tryz.underlying36 h
 rw [cellsV] at hl
 rw [cells1.1] at h0
 rw [cells1.2.1] at h1
 rw [cells1.2.2] at h2
 match cs, hl with
 | [c0, c1, c2], _ =>
  obtain ⟨n0, e0, _, w0⟩ := DataW.trod_int (k := .u8) (by kernel_rfl) h0
  obtain ⟨n1, e1, _, w1⟩ := DataW.trod_int (k := .i64) (by kernel_rfl) h1
  obtain ⟨s2, e2, hy, l2⟩ := DataW.trod_string (by kernel_rfl) h2
  have f0 : c0 = .int .u8 n0 := (List.cons.inj (show [c0] = [.int .u8 n0] from e0)).1
  have f1 : c1 = .int .i64 n1 := (List.cons.inj (show [c1] = [.int .i64 n1] from e1)).1
  have f2 : c2 = .string s2 := (List.cons.inj (show [c2] = [.string s2] from e2)).1
  rw [f0, f1, f2]
  have a := wf_u8 w0
  have b := wf_i64 w1
  refine ⟨⟨n0, n1, s2⟩, rfl, ⟨a.1, a.2, b.1, b.2⟩, ?_⟩
  have e3 : s2.data.toList.length = s2.size := Array.length_toList
  rw [hx, hy]
  simp only [bulkV, Rows.uptoBulk, Rows.uptoBulkAll, e3]
  omega
instance : Inhabited V := ⟨⟨0, 0, ⟨#[]⟩⟩⟩
instance : Inhabited KeyT := ⟨⟨0, false⟩⟩
theorem vals_of_trod {t : TypeId} (ht : (Tryz.prog).underlying t = some (.slice 36)) {fuel : Nat} {cs : List Value} {x : DataW H × List MemPlace} (h : DataW.trod enc Tryz.prog w base spare held fuel t cs = some x) :
 ∃ (A : Option Addr) (cap : Nat) (l : List V), cs = [.slice A l.length cap] ∧ l.length ≤ cap ∧ cap ≤ maxLen ∧ kV.C w A l.length l ∧ (∀ v ∈ l, VOk v) ∧ bulkR l ≤ Rows.uptoBulk x.1 :=
 list_of_trod kV ht cellsV bulkV VOk (fun _ h => by
  obtain ⟨v, rfl, hv, hb⟩ := val_of_trod h
  exact ⟨v, k36_mk w v, hv, hb⟩) h
theorem cellsRow : (Tryz.prog).cellsOf 53 = 1 := by kernel_rfl
theorem rows_of_trod {fuel : Nat} {cs : List Value} {x : DataW H × List MemPlace} (h : DataW.trod enc Tryz.prog w base spare held fuel 22 cs = some x) :
 ∃ (A : Option Addr) (cap : Nat) (l : List (List V)), cs = [.slice A l.length cap] ∧ l.length ≤ cap ∧ cap ≤ maxLen ∧ kRow.C w A l.length l ∧ (∀ r ∈ l, ∀ v ∈ r, VOk v) ∧ bulkL l ≤ Rows.uptoBulk x.1 :=
 list_of_trod kRow Tryz.underlying22 cellsRow bulkR (fun r => ∀ v ∈ r, VOk v) (fun _ h => by
  obtain ⟨A, cap, r, rfl, h1, _, hC, hv, hb⟩ := vals_of_trod Tryz.underlying53 h
  exact ⟨r, ⟨A, cap, rfl, h1, hC⟩, hv, hb⟩) h
theorem cellsI : (Tryz.prog).cellsOf 3 = 1 ∧ (Tryz.prog).cellsOf 4 = 1 := ⟨by kernel_rfl, by kernel_rfl⟩
theorem cellsKey : (Tryz.prog).cellsOf 64 = 2 := by kernel_rfl
theorem key_of_trod {fuel : Nat} {cs : List Value} {x : DataW H × List MemPlace} (h : DataW.trod enc Tryz.prog w base spare held fuel 64 cs = some x) : ∃ v : KeyT, cs = [.int .i64 v.f0, .bool v.f1] ∧ 1 ≤ Rows.uptoBulk x.1 := by
 obtain ⟨xs, n, _, hx, hl, hlen, hf⟩ := DataW.trod_struct Tryz.underlying64 h
 match xs, hlen with
 | [y0, y1], _ =>
  have h0 : DataW.trod enc Tryz.prog w base spare held n 3 ((cs.drop 0).take ((Tryz.prog).cellsOf 3)) = some y0 := hf 0 _ rfl
  have h1 : DataW.trod enc Tryz.prog w base spare held n 4 ((cs.drop 1).take ((Tryz.prog).cellsOf 4)) = some y1 := hf 1 _ rfl
  clear hf
  rw [cellsKey] at hl
  rw [cellsI.1] at h0
  rw [cellsI.2] at h1
  match cs, hl with
  | [c0, c1], _ =>
   obtain ⟨n0, e0, _, _⟩ := DataW.trod_int (k := .i64) (by kernel_rfl) h0
   obtain ⟨b1, e1, _⟩ := DataW.trod_bool (by kernel_rfl) h1
   have f0 : c0 = .int .i64 n0 := (List.cons.inj (show [c0] = [.int .i64 n0] from e0)).1
   have f1 : c1 = .bool b1 := (List.cons.inj (show [c1] = [.bool b1] from e1)).1
   exact ⟨⟨n0, b1⟩, by rw [f0, f1], bulks.one_le _⟩
theorem keys_of_trod {fuel : Nat} {cs : List Value} {x : DataW H × List MemPlace} (h : DataW.trod enc Tryz.prog w base spare held fuel 27 cs = some x) :
 ∃ (A : Option Addr) (cap : Nat) (l : List KeyT), cs = [.slice A l.length cap] ∧ l.length ≤ cap ∧ cap ≤ maxLen ∧ kKey.C w A l.length l ∧ l.length + 1 ≤ Rows.uptoBulk x.1 := by
 obtain ⟨A, cap, l, h1, h2, h3, h4, _, h6⟩ := list_of_trod kKey Tryz.underlying27 cellsKey (fun _ => 1) (fun _ => True) (fun _ h => by
  obtain ⟨v, rfl, hb⟩ := key_of_trod h
  exact ⟨v, k64_mk w v, trivial, hb⟩) h
 exact ⟨A, cap, l, h1, h2, h3, h4, by have := sum_len (fun _ : KeyT => 1) (fun _ => Nat.le_refl _) l; omega⟩
theorem ints_of_trod {k : IntKind} {t e : TypeId} (ht : (Tryz.prog).underlying t = some (.slice e)) (he : (Tryz.prog).underlying e = some (.int k)) (hc : (Tryz.prog).cellsOf e = 1) {fuel : Nat} {cs : List Value} {x : DataW H × List MemPlace} (h : DataW.trod enc Tryz.prog w base spare held fuel t cs = some x) :
 ∃ (A : Option Addr) (cap : Nat) (l : List Int), cs = [.slice A l.length cap] ∧ l.length ≤ cap ∧ cap ≤ maxLen ∧ (Kd.int k).C w A l.length l ∧ (∀ n ∈ l, (Lit.int k n).wf = true) ∧ l.length + 1 ≤ Rows.uptoBulk x.1 := by
 obtain ⟨A, cap, l, h1, h2, h3, h4, h5, h6⟩ := list_of_trod (Kd.int k) ht hc (fun _ => 1) (fun n => (Lit.int k n).wf = true) (fun hl h => by
  obtain ⟨n, e0, _, w0⟩ := DataW.trod_int (k := k) he h
  rw [e0]
  exact ⟨n, rfl, w0, bulks.one_le _⟩) h
 exact ⟨A, cap, l, h1, h2, h3, h4, h5, by have := sum_len (fun _ : Int => 1) (fun _ => Nat.le_refl _) l; omega⟩
end
theorem nameV_len (v : V) (h : VOk v) (hs : v.f2.size ≤ 1099511627776) : (nameV v).length ≤ 66 * bulkV v := by
 obtain ⟨h0, h1, h2, h3⟩ := h
 have i1 := Lib.itoa_length_le v.f0 (by omega) (by omega)
 have i2 := Lib.itoa_length_le v.f1 h2 h3
 have i3 := Lib.itoa_length_le (v.f2.size : Int) (by omega) (by omega)
 have e : v.f2.data.toList.length = v.f2.size := Array.length_toList
 unfold nameV bulkV
 simp only [List.length_append, List.length_cons, List.length_nil, e]
 omega
theorem nameB_bulk : ∀ r : List V, (∀ v ∈ r, VOk v) → (r.map bulkV).sum ≤ 1099511627776 → (nameB r).length ≤ 66 * (r.map bulkV).sum
 | [], _, _ => by simp [nameB]
 | v :: r, h, hs => by
  simp only [List.map_cons, List.sum_cons] at hs ⊢
  have h1 := nameV_len v (h v List.mem_cons_self) (by unfold bulkV at hs; omega)
  have h2 := nameB_bulk r (fun u hu => h u (List.mem_cons_of_mem _ hu)) (by omega)
  simp only [nameB, List.length_append]
  omega
theorem bulkR_rowOk {r : List V} (hv : ∀ v ∈ r, VOk v) (hb : bulkR r ≤ 1048577) : RowOk r := by
 unfold bulkR at hb
 have h1 := nameB_bulk r hv (by omega)
 have h2 := sum_len bulkV (fun v => by unfold bulkV; omega) r
 exact ⟨hv, by omega, by omega⟩
theorem bulkL_rowsOk {l : List (List V)} (hv : ∀ r ∈ l, ∀ v ∈ r, VOk v) (hb : bulkL l ≤ 1048576) : RowsOk l := by
 have hl := sum_len bulkR (fun r => by unfold bulkR; omega) l
 unfold bulkL at hb
 refine ⟨fun r hr => bulkR_rowOk (hv r hr) ?_, by omega⟩
 have h1 := sum_mem (List.mem_map_of_mem (f := bulkR) hr)
 omega
end Go.Proofs.YtecgkcgfeghhgaaGreatDoor.PAll
set_option linter.unusedVariables false
set_option linter.unusedSimpArgs false
namespace Go.Proofs.YtecgkcgfeghhgaaGreatDoor.PAll
open Go.RowKit Go.Proofs.YtecgkcgfeghhgaaGreatDoorW.PrintWords Go.Proofs.YtecgkcgfeghhgaaGreatDoorW.PrintLast Go.Proofs.YtecgkcgfeghhgaaGreatDoorW.PrintMore
def digVal (l : List UInt8) : Nat := l.foldl (fun a d => a * 10 + (d.toNat - 48)) 0
theorem decDigits_val : ∀ u : Nat, digVal (Lib.decDigits u) = u ∧ ∀ b ∈ Lib.decDigits u, 48 ≤ b.toNat ∧ b.toNat ≤ 57 := by
 intro u
 induction u using Nat.strongRecOn with
 | ind u ih =>
  rw [Lib.decDigits]
  split
  · rename_i h
    have e : (UInt8.ofNat (48 + u)).toNat = 48 + u := by
     rw [UInt8.toNat_ofNat']; omega
    refine ⟨by show 0 * 10 + ((UInt8.ofNat (48 + u)).toNat - 48) = u; rw [e]; omega, fun b hb => ?_⟩
    rw [List.mem_singleton.1 hb, e]
    omega
  · rename_i h
    have e : (UInt8.ofNat (48 + u % 10)).toNat = 48 + u % 10 := by
     rw [UInt8.toNat_ofNat']; omega
    obtain ⟨h1, h2⟩ := ih (u / 10) (by omega)
    refine ⟨?_, fun b hb => ?_⟩
    · unfold digVal at h1 ⊢
      rw [List.foldl_append, h1]
      simp only [List.foldl_cons, List.foldl_nil, e]
      omega
    · rcases List.mem_append.1 hb with hb | hb
      · exact h2 b hb
      · rw [List.mem_singleton.1 hb, e]
        omega
theorem itoa_bytes (n : Int) : ∀ b ∈ Lib.itoa n, b.toNat = 45 ∨ 48 ≤ b.toNat ∧ b.toNat ≤ 57 := by
 intro b hb
 unfold Lib.itoa at hb
 split at hb
 · rcases List.mem_cons.1 hb with rfl | hb
   · exact .inl rfl
   · exact .inr ((decDigits_val _).2 b hb)
 · exact .inr ((decDigits_val _).2 b hb)
theorem itoa_inj {a b : Int} (h : Lib.itoa a = Lib.itoa b) : a = b := by
 have no45 : ∀ (u : Nat) (t : List UInt8), Lib.decDigits u ≠ 45 :: t := fun u t e => by
  have := (decDigits_val u).2 45 (by rw [e]; exact List.mem_cons_self)
  have e45 : (45 : UInt8).toNat = 45 := rfl
  omega
 have inj : ∀ u v : Nat, Lib.decDigits u = Lib.decDigits v → u = v := fun u v e => by
  rw [← (decDigits_val u).1, ← (decDigits_val v).1, e]
 unfold Lib.itoa at h
 split at h <;> split at h
 · injection h with _ h
   have := inj _ _ h
   omega
 · exact absurd h.symm (no45 _ _)
 · exact absurd h (no45 _ _)
 · have := inj _ _ h
   omega
theorem split_at {s : UInt8} : ∀ {A B X Y : List UInt8}, s ∉ A → s ∉ B → A ++ ([s] ++ X) = B ++ ([s] ++ Y) → A = B ∧ X = Y
 | [], [], X, Y, _, _, h => by simpa using h
 | [], b :: B, X, Y, _, hb, h => by
  simp only [List.nil_append, List.cons_append, List.cons.injEq] at h
  exact absurd (by rw [h.1]; exact List.mem_cons_self) hb
 | a :: A, [], X, Y, ha, _, h => by
  simp only [List.nil_append, List.cons_append, List.cons.injEq] at h
  exact absurd (by rw [← h.1]; exact List.mem_cons_self) ha
 | a :: A, b :: B, X, Y, ha, hb, h => by
  simp only [List.cons_append, List.cons.injEq] at h
  obtain ⟨h1, h2⟩ := split_at (fun h => ha (List.mem_cons_of_mem _ h)) (fun h => hb (List.mem_cons_of_mem _ h)) h.2
  exact ⟨by rw [h.1, h1], h2⟩
theorem no_itoa (s : UInt8) (h : s.toNat = 32 ∨ s.toNat = 58) (n : Int) : s ∉ Lib.itoa n := fun hm => by
 have := itoa_bytes n s hm
 omega
theorem nameV_inj {a b : V} {R S : List UInt8} (h : nameV a ++ R = nameV b ++ S) : a = b ∧ R = S := by
 unfold nameV at h
 simp only [List.append_assoc] at h
 obtain ⟨h0, h⟩ := split_at (no_itoa 32 (by decide) _) (no_itoa 32 (by decide) _) h
 obtain ⟨h1, h⟩ := split_at (no_itoa 32 (by decide) _) (no_itoa 32 (by decide) _) h
 obtain ⟨h2, h⟩ := split_at (no_itoa 58 (by decide) _) (no_itoa 58 (by decide) _) h
 have h0 := itoa_inj h0
 have h1 := itoa_inj h1
 have h2 := itoa_inj h2
 have hs : a.f2.data.toList.length = b.f2.data.toList.length := by
  have h2' : a.f2.size = b.f2.size := by omega
  rw [Array.length_toList, Array.length_toList]
  exact h2'
 obtain ⟨h3, h4⟩ := List.append_inj h hs
 have h3 : a.f2 = b.f2 := ByteArray.ext (Array.toList_inj.1 h3)
 refine ⟨?_, h4⟩
 cases a; cases b
 dsimp only at h0 h1 h3
 rw [h0, h1, h3]
theorem nameV_ne (v : V) : nameV v ≠ [] := by
 unfold nameV
 simp
theorem nameB_inj : ∀ {a b : List V}, nameB a = nameB b → a = b
 | [], [], _ => rfl
 | [], b :: m, h => by
  simp only [nameB] at h
  have := (List.append_eq_nil_iff.1 h.symm).1
  exact absurd this (nameV_ne b)
 | a :: l, [], h => by
  simp only [nameB] at h
  have := (List.append_eq_nil_iff.1 h).1
  exact absurd this (nameV_ne a)
 | a :: l, b :: m, h => by
  simp only [nameB] at h
  obtain ⟨h1, h2⟩ := nameV_inj h
  rw [h1, nameB_inj h2]
theorem name_inj {a b : List V} (h : nameOf a = nameOf b) : a = b := by
 apply nameB_inj
 unfold nameOf at h
 injection h with h
 simpa using h
end Go.Proofs.YtecgkcgfeghhgaaGreatDoor.PAll
namespace Go.Proofs.YtecgkcgfeghhgaaGreatDoor.PAll
open Go.RowKit Go.Proofs.YtecgkcgfeghhgaaGreatDoorW.PrintWords Go.Proofs.YtecgkcgfeghhgaaGreatDoorW.PrintLast Go.Proofs.YtecgkcgfeghhgaaGreatDoorW.PrintMore
attribute [local go_sem] max2_int min2_int max_two min_two max_three min_three max_four min_four
set_option linter.unusedVariables false
set_option linter.unusedSimpArgs false
def r1_Same.f (a0_0 : Int) (a0_1 : Int) (a0_2 : ByteArray) (a1_0 : Int) (a1_1 : Int) (a1_2 : ByteArray) : Option (Bool) := if a0_0 = a1_0 then (if a0_1 = a1_1 then (some (a0_2.toList == a1_2.toList)) else (some false)) else (some false)
theorem r1_Same.calls (a0_0 : Int) (a0_1 : Int) (a0_2 : ByteArray) (a1_0 : Int) (a1_1 : Int) (a1_2 : ByteArray) (r : Bool) (w : World) (h : r1_Same.f a0_0 a0_1 a0_2 a1_0 a1_1 a1_2 = some r) :
 Calls Tryz.prog 22 #[.agg #[.int .u8 a0_0, .int .i64 a0_1, .string a0_2], .agg #[.int .u8 a1_0, .int .i64 a1_1, .string a1_2]] w fun e w' => e = .returned (.bool r) ∧ Below w.heap.size w w' := by
 have hu36 := Tryz.underlying36
 have HB := Aside0.mk (Below.refl w.heap.size w)
 have H : (if a0_0 = a1_0 then (if a0_1 = a1_1 then (some (a0_2.toList == a1_2.toList)) else (some false)) else (some false)) = some r := h
 clear h
 by_cases c3 : a0_0 = a1_0
 · rw [if_pos c3] at H
   have c3b0 : (a0_0 == a1_0) = true := beq_iff_eq.mpr c3
   have c3b1 : (a0_0 != a1_0) = false := bne_eq_false_iff_eq.mpr c3
   clear c3
   by_cases c4 : a0_1 = a1_1
   · rw [if_pos c4] at H
     have c4b0 : (a0_1 == a1_1) = true := beq_iff_eq.mpr c4
     have c4b1 : (a0_1 != a1_1) = false := bne_eq_false_iff_eq.mpr c4
     clear c4
     obtain rfl := Option.some.inj H
     go_enter Tryz.func22, Tryz.ntmps22
     go_wp2_with (first | ((with_reducible refine gate_dst (N := 2) rfl ?_); refine box_event ?hg (N := 2) ?hd (cs := #[.int .u8 a0_0, .int .i64 a0_1, .string a0_2]) (t := 36) ?hr ?_; (case hd => rfl); (case hg => rfl); (case hr => first | (go_simp; done) | (go_simp; rfl)); intro gb125 hg w5 hbox hb; have n0_ := Aside0.mk (below_step (by repeat (first | (with_reducible first | exact HB.out | apply bA_ | apply bN_ | apply b1_) | exact HB.out)) hb); have n1_ := Aside0.mk (hbox); have n2_ := Aside0.mk ((by rw [hg]; exact (below_size (by repeat (first | (with_reducible first | exact HB.out | apply bA_ | apply bN_ | apply b1_) | exact HB.out))) : w.heap.size ≤ gb125)); have n3_ := Aside0.mk ((by rw [hg]; exact (below_size (by repeat (first | (with_reducible first | exact HB.out | apply bA_ | apply bN_ | apply b1_) | exact HB.out))) : w.heap.size ≤ gb125)); clear HB; have HB := n0_; have BK125 := n1_; have GW125 := n2_; have GE125 := n3_; clear n0_ n1_ n2_ n3_; clear hb hbox hg) | ((with_reducible refine gate_dst (N := 3) rfl ?_); refine box_event ?hg (N := 3) ?hd (cs := #[.int .u8 a1_0, .int .i64 a1_1, .string a1_2]) (t := 36) ?hr ?_; (case hd => rfl); (case hg => rfl); (case hr => first | (go_simp; done) | (go_simp; rfl)); intro gb126 hg w6 hbox hb; have n0_ := Aside0.mk (blk_below (g := gb125) (o := .cells #[.int .u8 a0_0, .int .i64 a0_1, .string a0_2] 36 (0, 0)) (by (with_reducible repeat (first | refine blk_drewN ?_ _ | refine blk_drew ?_ | refine blk_alloc ?_ _)); exact BK125.out) hb); have n1_ := Aside0.mk (below_step (by repeat (first | (with_reducible first | exact HB.out | apply bA_ | apply bN_ | apply b1_ | refine below_set ?_ GE125.out) | exact HB.out)) hb); have n2_ := Aside0.mk (hbox); have n3_ := Aside0.mk ((by rw [hg]; exact (below_size (by repeat (first | (with_reducible first | exact HB.out | apply bA_ | apply bN_ | apply b1_ | refine below_set ?_ GE125.out) | exact HB.out))) : w.heap.size ≤ gb126)); have n4_ := Aside0.mk ((by rw [hg]; exact (below_size (by repeat (first | (with_reducible first | exact HB.out | apply bA_ | apply bN_ | apply b1_ | refine below_set ?_ GE125.out) | exact HB.out))) : w.heap.size ≤ gb126)); have n5_ := Aside0.mk ((by rw [hg]; exact Nat.ne_of_lt (blk_lt (g := gb125) (o := .cells #[.int .u8 a0_0, .int .i64 a0_1, .string a0_2] 36 (0, 0)) (by (with_reducible repeat (first | refine blk_drewN ?_ _ | refine blk_drew ?_ | refine blk_alloc ?_ _)); exact BK125.out)) : gb125 ≠ gb126)); have n6_ := Aside0.mk ((by rw [hg]; exact Nat.ne_of_gt (blk_lt (g := gb125) (o := .cells #[.int .u8 a0_0, .int .i64 a0_1, .string a0_2] 36 (0, 0)) (by (with_reducible repeat (first | refine blk_drewN ?_ _ | refine blk_drew ?_ | refine blk_alloc ?_ _)); exact BK125.out)) : gb126 ≠ gb125)); clear BK125; clear HB; have BK125 := n0_; have HB := n1_; have BK126 := n2_; have GW126 := n3_; have GE126 := n4_; have NB125_126 := n5_; have NB126_125 := n6_; clear n0_ n1_ n2_ n3_ n4_ n5_ n6_; clear hb hbox hg; have hnb7 := NB125_126.out; have hnc7 := NB126_125.out; have hcz8_0 : w6.cell? ⟨gb125, 0, none⟩ = some (.int .u8 a0_0) := (blk_cell BK125.out 0).trans rfl; have hcz8_1 : w6.cell? ⟨gb125, 1, none⟩ = some (.int .i64 a0_1) := (blk_cell BK125.out 1).trans rfl; have hcz8_2 : w6.cell? ⟨gb125, 2, none⟩ = some (.string a0_2) := (blk_cell BK125.out 2).trans rfl; have hfz8_0 := blk_frozen BK125.out 0; have hfz8_1 := blk_frozen BK125.out 1; have hfz8_2 := blk_frozen BK125.out 2; have hcz9_0 : w6.cell? ⟨gb126, 0, none⟩ = some (.int .u8 a1_0) := (blk_cell BK126.out 0).trans rfl; have hcz9_1 : w6.cell? ⟨gb126, 1, none⟩ = some (.int .i64 a1_1) := (blk_cell BK126.out 1).trans rfl; have hcz9_2 : w6.cell? ⟨gb126, 2, none⟩ = some (.string a1_2) := (blk_cell BK126.out 2).trans rfl; have hfz9_0 := blk_frozen BK126.out 0; have hfz9_1 := blk_frozen BK126.out 1; have hfz9_2 := blk_frozen BK126.out 2))
     go_ret
     exact ⟨by first | rfl | (simp [*, errW_none, errW_some] <;> rfl), by repeat (first | (with_reducible first | exact HB.out | apply bA_ | apply bN_ | apply b1_ | refine below_set ?_ GE125.out | refine below_set ?_ GE126.out) | exact HB.out)⟩
   · rw [if_neg c4] at H
     have c4b0 : (a0_1 == a1_1) = false := beq_eq_false_iff_ne.mpr c4
     have c4b1 : (a0_1 != a1_1) = true := bne_iff_ne.mpr c4
     obtain rfl := Option.some.inj H
     go_enter Tryz.func22, Tryz.ntmps22
     go_wp2_with (first | ((with_reducible refine gate_dst (N := 2) rfl ?_); refine box_event ?hg (N := 2) ?hd (cs := #[.int .u8 a0_0, .int .i64 a0_1, .string a0_2]) (t := 36) ?hr ?_; (case hd => rfl); (case hg => rfl); (case hr => first | (go_simp; done) | (go_simp; rfl)); intro gb125 hg w10 hbox hb; have n0_ := Aside0.mk (below_step (by repeat (first | (with_reducible first | exact HB.out | apply bA_ | apply bN_ | apply b1_) | exact HB.out)) hb); have n1_ := Aside0.mk (hbox); have n2_ := Aside0.mk ((by rw [hg]; exact (below_size (by repeat (first | (with_reducible first | exact HB.out | apply bA_ | apply bN_ | apply b1_) | exact HB.out))) : w.heap.size ≤ gb125)); have n3_ := Aside0.mk ((by rw [hg]; exact (below_size (by repeat (first | (with_reducible first | exact HB.out | apply bA_ | apply bN_ | apply b1_) | exact HB.out))) : w.heap.size ≤ gb125)); clear HB; have HB := n0_; have BK125 := n1_; have GW125 := n2_; have GE125 := n3_; clear n0_ n1_ n2_ n3_; clear hb hbox hg) | ((with_reducible refine gate_dst (N := 3) rfl ?_); refine box_event ?hg (N := 3) ?hd (cs := #[.int .u8 a1_0, .int .i64 a1_1, .string a1_2]) (t := 36) ?hr ?_; (case hd => rfl); (case hg => rfl); (case hr => first | (go_simp; done) | (go_simp; rfl)); intro gb126 hg w11 hbox hb; have n0_ := Aside0.mk (blk_below (g := gb125) (o := .cells #[.int .u8 a0_0, .int .i64 a0_1, .string a0_2] 36 (0, 0)) (by (with_reducible repeat (first | refine blk_drewN ?_ _ | refine blk_drew ?_ | refine blk_alloc ?_ _)); exact BK125.out) hb); have n1_ := Aside0.mk (below_step (by repeat (first | (with_reducible first | exact HB.out | apply bA_ | apply bN_ | apply b1_ | refine below_set ?_ GE125.out) | exact HB.out)) hb); have n2_ := Aside0.mk (hbox); have n3_ := Aside0.mk ((by rw [hg]; exact (below_size (by repeat (first | (with_reducible first | exact HB.out | apply bA_ | apply bN_ | apply b1_ | refine below_set ?_ GE125.out) | exact HB.out))) : w.heap.size ≤ gb126)); have n4_ := Aside0.mk ((by rw [hg]; exact (below_size (by repeat (first | (with_reducible first | exact HB.out | apply bA_ | apply bN_ | apply b1_ | refine below_set ?_ GE125.out) | exact HB.out))) : w.heap.size ≤ gb126)); have n5_ := Aside0.mk ((by rw [hg]; exact Nat.ne_of_lt (blk_lt (g := gb125) (o := .cells #[.int .u8 a0_0, .int .i64 a0_1, .string a0_2] 36 (0, 0)) (by (with_reducible repeat (first | refine blk_drewN ?_ _ | refine blk_drew ?_ | refine blk_alloc ?_ _)); exact BK125.out)) : gb125 ≠ gb126)); have n6_ := Aside0.mk ((by rw [hg]; exact Nat.ne_of_gt (blk_lt (g := gb125) (o := .cells #[.int .u8 a0_0, .int .i64 a0_1, .string a0_2] 36 (0, 0)) (by (with_reducible repeat (first | refine blk_drewN ?_ _ | refine blk_drew ?_ | refine blk_alloc ?_ _)); exact BK125.out)) : gb126 ≠ gb125)); clear BK125; clear HB; have BK125 := n0_; have HB := n1_; have BK126 := n2_; have GW126 := n3_; have GE126 := n4_; have NB125_126 := n5_; have NB126_125 := n6_; clear n0_ n1_ n2_ n3_ n4_ n5_ n6_; clear hb hbox hg; have hnb12 := NB125_126.out; have hnc12 := NB126_125.out; have hcz13_0 : w11.cell? ⟨gb125, 0, none⟩ = some (.int .u8 a0_0) := (blk_cell BK125.out 0).trans rfl; have hcz13_1 : w11.cell? ⟨gb125, 1, none⟩ = some (.int .i64 a0_1) := (blk_cell BK125.out 1).trans rfl; have hcz13_2 : w11.cell? ⟨gb125, 2, none⟩ = some (.string a0_2) := (blk_cell BK125.out 2).trans rfl; have hfz13_0 := blk_frozen BK125.out 0; have hfz13_1 := blk_frozen BK125.out 1; have hfz13_2 := blk_frozen BK125.out 2; have hcz14_0 : w11.cell? ⟨gb126, 0, none⟩ = some (.int .u8 a1_0) := (blk_cell BK126.out 0).trans rfl; have hcz14_1 : w11.cell? ⟨gb126, 1, none⟩ = some (.int .i64 a1_1) := (blk_cell BK126.out 1).trans rfl; have hcz14_2 : w11.cell? ⟨gb126, 2, none⟩ = some (.string a1_2) := (blk_cell BK126.out 2).trans rfl; have hfz14_0 := blk_frozen BK126.out 0; have hfz14_1 := blk_frozen BK126.out 1; have hfz14_2 := blk_frozen BK126.out 2))
     go_ret
     exact ⟨by first | rfl | (simp [*, errW_none, errW_some] <;> rfl), by repeat (first | (with_reducible first | exact HB.out | apply bA_ | apply bN_ | apply b1_ | refine below_set ?_ GE125.out | refine below_set ?_ GE126.out) | exact HB.out)⟩
 · rw [if_neg c3] at H
   have c3b0 : (a0_0 == a1_0) = false := beq_eq_false_iff_ne.mpr c3
   have c3b1 : (a0_0 != a1_0) = true := bne_iff_ne.mpr c3
   obtain rfl := Option.some.inj H
   go_enter Tryz.func22, Tryz.ntmps22
   go_wp2_with (first | ((with_reducible refine gate_dst (N := 2) rfl ?_); refine box_event ?hg (N := 2) ?hd (cs := #[.int .u8 a0_0, .int .i64 a0_1, .string a0_2]) (t := 36) ?hr ?_; (case hd => rfl); (case hg => rfl); (case hr => first | (go_simp; done) | (go_simp; rfl)); intro gb125 hg w15 hbox hb; have n0_ := Aside0.mk (below_step (by repeat (first | (with_reducible first | exact HB.out | apply bA_ | apply bN_ | apply b1_) | exact HB.out)) hb); have n1_ := Aside0.mk (hbox); have n2_ := Aside0.mk ((by rw [hg]; exact (below_size (by repeat (first | (with_reducible first | exact HB.out | apply bA_ | apply bN_ | apply b1_) | exact HB.out))) : w.heap.size ≤ gb125)); have n3_ := Aside0.mk ((by rw [hg]; exact (below_size (by repeat (first | (with_reducible first | exact HB.out | apply bA_ | apply bN_ | apply b1_) | exact HB.out))) : w.heap.size ≤ gb125)); clear HB; have HB := n0_; have BK125 := n1_; have GW125 := n2_; have GE125 := n3_; clear n0_ n1_ n2_ n3_; clear hb hbox hg) | ((with_reducible refine gate_dst (N := 3) rfl ?_); refine box_event ?hg (N := 3) ?hd (cs := #[.int .u8 a1_0, .int .i64 a1_1, .string a1_2]) (t := 36) ?hr ?_; (case hd => rfl); (case hg => rfl); (case hr => first | (go_simp; done) | (go_simp; rfl)); intro gb126 hg w16 hbox hb; have n0_ := Aside0.mk (blk_below (g := gb125) (o := .cells #[.int .u8 a0_0, .int .i64 a0_1, .string a0_2] 36 (0, 0)) (by (with_reducible repeat (first | refine blk_drewN ?_ _ | refine blk_drew ?_ | refine blk_alloc ?_ _)); exact BK125.out) hb); have n1_ := Aside0.mk (below_step (by repeat (first | (with_reducible first | exact HB.out | apply bA_ | apply bN_ | apply b1_ | refine below_set ?_ GE125.out) | exact HB.out)) hb); have n2_ := Aside0.mk (hbox); have n3_ := Aside0.mk ((by rw [hg]; exact (below_size (by repeat (first | (with_reducible first | exact HB.out | apply bA_ | apply bN_ | apply b1_ | refine below_set ?_ GE125.out) | exact HB.out))) : w.heap.size ≤ gb126)); have n4_ := Aside0.mk ((by rw [hg]; exact (below_size (by repeat (first | (with_reducible first | exact HB.out | apply bA_ | apply bN_ | apply b1_ | refine below_set ?_ GE125.out) | exact HB.out))) : w.heap.size ≤ gb126)); have n5_ := Aside0.mk ((by rw [hg]; exact Nat.ne_of_lt (blk_lt (g := gb125) (o := .cells #[.int .u8 a0_0, .int .i64 a0_1, .string a0_2] 36 (0, 0)) (by (with_reducible repeat (first | refine blk_drewN ?_ _ | refine blk_drew ?_ | refine blk_alloc ?_ _)); exact BK125.out)) : gb125 ≠ gb126)); have n6_ := Aside0.mk ((by rw [hg]; exact Nat.ne_of_gt (blk_lt (g := gb125) (o := .cells #[.int .u8 a0_0, .int .i64 a0_1, .string a0_2] 36 (0, 0)) (by (with_reducible repeat (first | refine blk_drewN ?_ _ | refine blk_drew ?_ | refine blk_alloc ?_ _)); exact BK125.out)) : gb126 ≠ gb125)); clear BK125; clear HB; have BK125 := n0_; have HB := n1_; have BK126 := n2_; have GW126 := n3_; have GE126 := n4_; have NB125_126 := n5_; have NB126_125 := n6_; clear n0_ n1_ n2_ n3_ n4_ n5_ n6_; clear hb hbox hg; have hnb17 := NB125_126.out; have hnc17 := NB126_125.out; have hcz18_0 : w16.cell? ⟨gb125, 0, none⟩ = some (.int .u8 a0_0) := (blk_cell BK125.out 0).trans rfl; have hcz18_1 : w16.cell? ⟨gb125, 1, none⟩ = some (.int .i64 a0_1) := (blk_cell BK125.out 1).trans rfl; have hcz18_2 : w16.cell? ⟨gb125, 2, none⟩ = some (.string a0_2) := (blk_cell BK125.out 2).trans rfl; have hfz18_0 := blk_frozen BK125.out 0; have hfz18_1 := blk_frozen BK125.out 1; have hfz18_2 := blk_frozen BK125.out 2; have hcz19_0 : w16.cell? ⟨gb126, 0, none⟩ = some (.int .u8 a1_0) := (blk_cell BK126.out 0).trans rfl; have hcz19_1 : w16.cell? ⟨gb126, 1, none⟩ = some (.int .i64 a1_1) := (blk_cell BK126.out 1).trans rfl; have hcz19_2 : w16.cell? ⟨gb126, 2, none⟩ = some (.string a1_2) := (blk_cell BK126.out 2).trans rfl; have hfz19_0 := blk_frozen BK126.out 0; have hfz19_1 := blk_frozen BK126.out 1; have hfz19_2 := blk_frozen BK126.out 2))
   go_ret
   exact ⟨by first | rfl | (simp [*, errW_none, errW_some] <;> rfl), by repeat (first | (with_reducible first | exact HB.out | apply bA_ | apply bN_ | apply b1_ | refine below_set ?_ GE125.out | refine below_set ?_ GE126.out) | exact HB.out)⟩
def r1_SameRows.l0 : Nat → List (S36) → List (S36) → Int → Option (Bool)
 | 0, _, _, _ => none
 | k + 1, x0, x1, x5 => if x5 < (x0.length : Int) then (if 0 ≤ x5 then (if x5 < (x1.length : Int) then ((r1_Same.f ((rd_T36 x0 x5).f0) ((rd_T36 x0 x5).f1) ((rd_T36 x0 x5).f2) ((rd_T36 x1 x5).f0) ((rd_T36 x1 x5).f1) ((rd_T36 x1 x5).f2)).bind fun t129 => (if t129 = true then (r1_SameRows.l0 k x0 x1 (wrap64 (x5 + 1))) else (some false))) else (none)) else (none)) else (some true)
def r1_SameRows.f (k : Nat) (l0 : List (S36)) (l1 : List (S36)) : Option (Bool) := if (l0.length : Int) = (l1.length : Int) then (r1_SameRows.l0 k l0 l1 0) else (some false)
def r1_SameRows.T6 : Bool × List (List Nat × List Nat) := (true, [([], []), ([], []), ([0, 1], [0, 1]), ([2], [2]), ([], []), ([], []), ([4, 5], [4, 5]), ([6], [6]), ([3, 7], [3, 7]), ([8], [8])])
def r1_SameRows.B6 : List Nat := [0, 0, 3, 7, 0, 0, 48, 112, 255, 511]
theorem r1_SameRows.tab6 : rtab .any (opsOf Tryz.f50 6) = r1_SameRows.T6 := by kernel_rfl
theorem r1_SameRows.bits6 : waitsOk r1_SameRows.T6.2 r1_SameRows.B6 = true := by kernel_rfl
theorem r1_SameRows.calls (k : Nat) (A0 : Option Addr) (c0 : Nat) (l0 : List (S36)) (A1 : Option Addr) (c1 : Nat) (l1 : List (S36)) (r : Bool) (w : World) (hr0 : Kd.C k36 w A0 l0.length l0) (hc0 : l0.length ≤ c0) (hr1 : Kd.C k36 w A1 l1.length l1) (hc1 : l1.length ≤ c1) (h : r1_SameRows.f k l0 l1 = some r) :
 Calls Tryz.prog 50 #[.slice A0 l0.length c0, .slice A1 l1.length c1] w fun e w' => e = .returned (.bool r) ∧ Below w.heap.size w w' := by
 have hu36 := Tryz.underlying36
 have HR0 := Aside0.mk hr0
 have HC0 := Aside0.mk hc0
 clear hr0 hc0
 have HR1 := Aside0.mk hr1
 have HC1 := Aside0.mk hc1
 clear hr1 hc1
 have HB := Aside0.mk (Below.refl w.heap.size w)
 have H : (if (l0.length : Int) = (l1.length : Int) then (r1_SameRows.l0 k l0 l1 0) else (some false)) = some r := h
 clear h
 by_cases c3 : (l0.length : Int) = (l1.length : Int)
 · rw [if_pos c3] at H
   have c3b0 : ((l0.length : Int) == (l1.length : Int)) = true := beq_iff_eq.mpr c3
   have c3b1 : ((l0.length : Int) != (l1.length : Int)) = false := bne_eq_false_iff_eq.mpr c3
   have c3b2 : (l0.length == l1.length) = true := by first | simpa using c3 | (simp at c3 ⊢; omega)
   clear c3
   have H' := Aside0.mk H
   clear H
   go_enter Tryz.func50, Tryz.ntmps50
   go_wp2
   go_loopg [5] k (fun kq v5 w' => ∃ (x5_1 : Int), v5 = .int .i64 x5_1 ∧ Aside0 (r1_SameRows.l0 kq l0 l1 x5_1 = some r) ∧ Aside0 (kq ≤ k) ∧ Aside0 (Below w.heap.size w w'))
   case atStart => exact ⟨(0), (by first | rfl | (simp; done) | (simp [*]; done)), H', ⟨Nat.le_refl _⟩, ⟨by repeat (first | (with_reducible first | exact HB.out | apply bA_ | apply bN_ | apply b1_) | exact HB.out)⟩⟩
   case round =>
    clear H'
    try clear c1
    try clear p2
    try clear c3
    try clear c3b0
    try clear c3b1
    try clear c3b2
    obtain ⟨x5_1, rfl, HA, HK1, HB⟩ := hrel
    cases gk with
    | zero => exact absurd HA.out (by simp [r1_SameRows.l0])
    | succ k1 =>
     have H := HA.out
     clear HA
     simp only [r1_SameRows.l0] at H
     by_cases c4 : x5_1 < (l0.length : Int)
     · rw [if_pos c4] at H
       have c4b0 : decide (x5_1 < (l0.length : Int)) = true := dT_ c4
       clear c4
       by_cases c5 : 0 ≤ x5_1
       · rw [if_pos c5] at H
         have c5b0 : decide (0 ≤ x5_1) = true := dT_ c5
         clear c5
         by_cases c6 : x5_1 < (l1.length : Int)
         · rw [if_pos c6] at H
           have c6b0 : decide (x5_1 < (l1.length : Int)) = true := dT_ c6
           clear c6
           replace H := Option.bind_eq_some_iff.mp H
           obtain ⟨t129, A70, H⟩ := H
           replace H : (if t129 = true then (r1_SameRows.l0 k1 l0 l1 (wrap64 (x5_1 + 1))) else (some false)) = some r := H
           have A7 := Aside0.mk A70
           clear A70
           by_cases c8 : t129 = true
           · subst c8
             have H1 : (r1_SameRows.l0 k1 l0 l1 (wrap64 (x5_1 + 1))) = some r := by rw [if_pos rfl] at H; exact H
             clear H
             have H := H1
             clear H1
             have H' := Aside0.mk H
             clear H
             try go_wp2
             have n0_ := Aside0.mk (b1_ HB.out)
             clear HB
             have HB := n0_
             clear n0_
             have p127 : 0 ≤ (x5_1 : Int) := oT_ (by assumption)
             have q127 : x5_1 < (l0.length : Int) := oT_ (by assumption)
             obtain ⟨ad127, e127, hx127_0, hx127_1, hx127_2⟩ := at_T36 HR0.out x5_1 p127 q127
             have hw127_2 := hx127_2
             have hw127_1 := hx127_1
             have hw127_0 := hx127_0
             cases e127
             replace hx127_0 := (HB.out.cell (bLC_ w _ hx127_0)).trans hx127_0
             replace hx127_1 := (HB.out.cell (bLC_ w _ hx127_1)).trans hx127_1
             replace hx127_2 := (HB.out.cell (bLC_ w _ hx127_2)).trans hx127_2
             replace p127 := eq_true p127
             replace q127 := eq_true q127
             have p128 : 0 ≤ (x5_1 : Int) := oT_ (by assumption)
             have q128 : x5_1 < (l1.length : Int) := oT_ (by assumption)
             obtain ⟨ad128, e128, hx128_0, hx128_1, hx128_2⟩ := at_T36 HR1.out x5_1 p128 q128
             have hw128_2 := hx128_2
             have hw128_1 := hx128_1
             have hw128_0 := hx128_0
             cases e128
             replace hx128_0 := (HB.out.cell (bLC_ w _ hx128_0)).trans hx128_0
             replace hx128_1 := (HB.out.cell (bLC_ w _ hx128_1)).trans hx128_1
             replace hx128_2 := (HB.out.cell (bLC_ w _ hx128_2)).trans hx128_2
             replace p128 := eq_true p128
             replace q128 := eq_true q128
             refine start_ (n := 10) (S := fun w' => w'.cell? (ad127.add ((x5_1).toNat * 3)) = some (.int .u8 ((rd_T36 l0 x5_1).f0)) ∧ w'.cell? ⟨(ad127.add ((x5_1).toNat * 3)).block, (ad127.add ((x5_1).toNat * 3)).off + 1, none⟩ = some (.int .i64 ((rd_T36 l0 x5_1).f1)) ∧ w'.cell? ⟨(ad127.add ((x5_1).toNat * 3)).block, (ad127.add ((x5_1).toNat * 3)).off + 2, none⟩ = some (.string ((rd_T36 l0 x5_1).f2)) ∧ w'.cell? (ad128.add ((x5_1).toNat * 3)) = some (.int .u8 ((rd_T36 l1 x5_1).f0)) ∧ w'.cell? ⟨(ad128.add ((x5_1).toNat * 3)).block, (ad128.add ((x5_1).toNat * 3)).off + 1, none⟩ = some (.int .i64 ((rd_T36 l1 x5_1).f1)) ∧ w'.cell? ⟨(ad128.add ((x5_1).toNat * 3)).block, (ad128.add ((x5_1).toNat * 3)).off + 2, none⟩ = some (.string ((rd_T36 l1 x5_1).f2))) (ds := []) #[X_,X_,X_,X_,X_,X_,X_,X_,X_,X_] (by kernel_rfl) rfl rfl ⟨((HB.out.cell (bLC_ w _ hw127_0)).trans hw127_0), ((HB.out.cell (bLC_ w _ hw127_1)).trans hw127_1), ((HB.out.cell (bLC_ w _ hw127_2)).trans hw127_2), ((HB.out.cell (bLC_ w _ hw128_0)).trans hw128_0), ((HB.out.cell (bLC_ w _ hw128_1)).trans hw128_1), ((HB.out.cell (bLC_ w _ hw128_2)).trans hw128_2)⟩ (fun hHeld => ?_); refine with_tabW r1_SameRows.tab6 r1_SameRows.bits6 (fun HT_ HW_ => ?_)
             generalize wr.drew = w9 at HB hx127_0 hx127_1 hx127_2 hx128_0 hx128_1 hx128_2 hHeld ⊢
             refine pure_ (i := 0) (N := some 17) (v := ?_) (a' := ?_) #[Y_,X_,X_,X_,X_,X_,X_,X_,X_,X_] rfl rfl (any_of HT_.out (by kernel_rfl)) (fun _ _ _ h => h) (Or.inl ⟨by rfl, ?_⟩) ?_ ?_
             rotate_left
             · intro w'
               go_simp
               with_reducible rfl
             rotate_left
             · simp only [Act.put, sTA_, sCZ_, sCS_, i64_w, i32_w]
               rfl
             refine pure_ (i := 1) (N := some 18) (v := ?_) (a' := ?_) #[Y_,Y_,X_,X_,X_,X_,X_,X_,X_,X_] rfl rfl (any_of HT_.out (by kernel_rfl)) (fun _ _ _ h => h) (Or.inl ⟨by rfl, ?_⟩) ?_ ?_
             rotate_left
             · intro w'
               go_simp
               with_reducible rfl
             rotate_left
             · simp only [Act.put, sTA_, sCZ_, sCS_, i64_w, i32_w]
               rfl
             refine pure_ (i := 2) (N := some 19) (v := ?_) (a' := ?_) #[Y_,Y_,Y_,X_,X_,X_,X_,X_,X_,X_] rfl rfl (any_of HT_.out (by kernel_rfl)) (fun _ _ _ h => h) (Or.inl ⟨by rfl, ?_⟩) ?_ ?_
             rotate_left
             · intro w'
               go_simp
               with_reducible rfl
             rotate_left
             · simp only [Act.put, sTA_, sCZ_, sCS_, i64_w, i32_w]
               rfl
             refine pure_ (i := 4) (N := some 21) (v := ?_) (a' := ?_) #[Y_,Y_,Y_,X_,Y_,X_,X_,X_,X_,X_] rfl rfl (any_of HT_.out (by kernel_rfl)) (fun _ _ _ h => h) (Or.inl ⟨by rfl, ?_⟩) ?_ ?_
             rotate_left
             · intro w'
               go_simp
               with_reducible rfl
             rotate_left
             · simp only [Act.put, sTA_, sCZ_, sCS_, i64_w, i32_w]
               rfl
             refine pure_ (i := 5) (N := some 22) (v := ?_) (a' := ?_) #[Y_,Y_,Y_,X_,Y_,Y_,X_,X_,X_,X_] rfl rfl (any_of HT_.out (by kernel_rfl)) (fun _ _ _ h => h) (Or.inl ⟨by rfl, ?_⟩) ?_ ?_
             rotate_left
             · intro w'
               go_simp
               with_reducible rfl
             rotate_left
             · simp only [Act.put, sTA_, sCZ_, sCS_, i64_w, i32_w]
               rfl
             refine pure_ (i := 6) (N := some 23) (v := ?_) (a' := ?_) #[Y_,Y_,Y_,X_,Y_,Y_,Y_,X_,X_,X_] rfl rfl (any_of HT_.out (by kernel_rfl)) (fun _ _ _ h => h) (Or.inl ⟨by rfl, ?_⟩) ?_ ?_
             rotate_left
             · intro w'
               go_simp
               with_reducible rfl
             rotate_left
             · simp only [Act.put, sTA_, sCZ_, sCS_, i64_w, i32_w]
               rfl
             refine take_ (i := 3) (N := some 20) (v := ?_) (a' := ?_) #[Y_,Y_,Y_,Y_,Y_,Y_,Y_,X_,X_,X_] rfl rfl (take_ofW HT_.out HW_.out (by kernel_rfl)) (fun _ _ _ h => h) (Or.inl ⟨by rfl, ?_⟩) hHeld ?_ ?_
             rotate_left
             · rintro w' ⟨s0, s1, s2, s3, s4, s5⟩
               go_simp
               with_reducible rfl
             rotate_left
             · simp only [Act.put, sTA_, sCZ_, sCS_, i64_w, i32_w]
               rfl
             refine take_ (i := 7) (N := some 24) (v := ?_) (a' := ?_) #[Y_,Y_,Y_,Y_,Y_,Y_,Y_,Y_,X_,X_] rfl rfl (take_ofW HT_.out HW_.out (by kernel_rfl)) (fun _ _ _ h => h) (Or.inl ⟨by rfl, ?_⟩) hHeld ?_ ?_
             rotate_left
             · rintro w' ⟨s0, s1, s2, s3, s4, s5⟩
               go_simp
               with_reducible rfl
             rotate_left
             · simp only [Act.put, sTA_, sCZ_, sCS_, i64_w, i32_w]
               rfl
             refine one_ (i := 8) (N := some 25) #[Y_,Y_,Y_,Y_,Y_,Y_,Y_,Y_,Y_,X_] rfl rfl (one_of HT_.out (by kernel_rfl)) (by decide) (fun K hK => ?_)
             refine goes_ Tryz.func22 (by kernel_rfl) rfl #[.agg #[.int .u8 ((rd_T36 l0 x5_1).f0), .int .i64 ((rd_T36 l0 x5_1).f1), .string ((rd_T36 l0 x5_1).f2)], .agg #[.int .u8 ((rd_T36 l1 x5_1).f0), .int .i64 ((rd_T36 l1 x5_1).f1), .string ((rd_T36 l1 x5_1).f2)]] (by rfl) rfl rfl (by (try simp only [List.map_toArray, List.map_cons, List.map_nil]); first | done | rfl | (simp only [List.length_drop, List.length_take]; rfl)) ?_
             with_reducible refine (r1_Same.calls ((rd_T36 l0 x5_1).f0) ((rd_T36 l0 x5_1).f1) ((rd_T36 l0 x5_1).f2) ((rd_T36 l1 x5_1).f0) ((rd_T36 l1 x5_1).f1) ((rd_T36 l1 x5_1).f2) true _ A7.out).mono ?_
             rintro e w10 ⟨rfl, hb⟩
             refine ⟨_, rfl, ?_⟩
             have n0_ := Aside0.mk (below_step (by repeat (first | (with_reducible first | exact HB.out | apply bA_ | apply bN_ | apply b1_) | exact HB.out)) hb)
             clear HB
             have HB := n0_
             clear n0_
             (try clear hb)
             (try clear hb2)
             (try clear hk)
             (try clear hi)
             refine hK.out _ _ ⟨((HB.out.cell (bLC_ w _ hw127_0)).trans hw127_0), ((HB.out.cell (bLC_ w _ hw127_1)).trans hw127_1), ((HB.out.cell (bLC_ w _ hw127_2)).trans hw127_2), ((HB.out.cell (bLC_ w _ hw128_0)).trans hw128_0), ((HB.out.cell (bLC_ w _ hw128_1)).trans hw128_1), ((HB.out.cell (bLC_ w _ hw128_2)).trans hw128_2)⟩ (fun hHeld => ?_)
             clear hK K
             refine norm_ (a' := ?_) ?_ ?_
             rotate_left
             · show Act.put _ (some 25) _ = _
               simp only [Act.put, sTA_, sCZ_, sCS_, i64_w, i32_w]
               rfl
             refine pure_ (i := 9) (N := some 26) (v := ?_) (a' := ?_) #[Y_,Y_,Y_,Y_,Y_,Y_,Y_,Y_,Y_,Y_] rfl rfl (any_of HT_.out (by kernel_rfl)) (fun _ _ _ h => h) (Or.inl ⟨by rfl, ?_⟩) ?_ ?_
             rotate_left
             · intro w'
               go_simp
               with_reducible rfl
             rotate_left
             · simp only [Act.put, sTA_, sCZ_, sCS_, i64_w, i32_w]
               rfl
             refine done_ (done_of HT_.out (by kernel_rfl)) ?_
             try go_wp2
             go_roundg k1
             case measure => have := HK1.out; omega
             case rel => exact ⟨(wrap64 (x5_1 + 1)), (by first | rfl | (simp; done) | (simp [*]; done)), H', ⟨by have := HK1.out; omega⟩, ⟨by repeat (first | (with_reducible first | exact HB.out | apply bA_ | apply bN_ | apply b1_) | exact HB.out)⟩⟩
           · replace c8 := Bool.eq_false_iff.mpr c8
             subst c8
             have H1 : (some false) = some r := by rw [if_neg (show ¬ (false = true) by decide)] at H; exact H
             clear H
             have H := H1
             clear H1
             obtain rfl := Option.some.inj H
             try go_wp2
             have n0_ := Aside0.mk (b1_ HB.out)
             clear HB
             have HB := n0_
             clear n0_
             have p127 : 0 ≤ (x5_1 : Int) := oT_ (by assumption)
             have q127 : x5_1 < (l0.length : Int) := oT_ (by assumption)
             obtain ⟨ad127, e127, hx127_0, hx127_1, hx127_2⟩ := at_T36 HR0.out x5_1 p127 q127
             have hw127_2 := hx127_2
             have hw127_1 := hx127_1
             have hw127_0 := hx127_0
             cases e127
             replace hx127_0 := (HB.out.cell (bLC_ w _ hx127_0)).trans hx127_0
             replace hx127_1 := (HB.out.cell (bLC_ w _ hx127_1)).trans hx127_1
             replace hx127_2 := (HB.out.cell (bLC_ w _ hx127_2)).trans hx127_2
             replace p127 := eq_true p127
             replace q127 := eq_true q127
             have p128 : 0 ≤ (x5_1 : Int) := oT_ (by assumption)
             have q128 : x5_1 < (l1.length : Int) := oT_ (by assumption)
             obtain ⟨ad128, e128, hx128_0, hx128_1, hx128_2⟩ := at_T36 HR1.out x5_1 p128 q128
             have hw128_2 := hx128_2
             have hw128_1 := hx128_1
             have hw128_0 := hx128_0
             cases e128
             replace hx128_0 := (HB.out.cell (bLC_ w _ hx128_0)).trans hx128_0
             replace hx128_1 := (HB.out.cell (bLC_ w _ hx128_1)).trans hx128_1
             replace hx128_2 := (HB.out.cell (bLC_ w _ hx128_2)).trans hx128_2
             replace p128 := eq_true p128
             replace q128 := eq_true q128
             refine start_ (n := 10) (S := fun w' => w'.cell? (ad127.add ((x5_1).toNat * 3)) = some (.int .u8 ((rd_T36 l0 x5_1).f0)) ∧ w'.cell? ⟨(ad127.add ((x5_1).toNat * 3)).block, (ad127.add ((x5_1).toNat * 3)).off + 1, none⟩ = some (.int .i64 ((rd_T36 l0 x5_1).f1)) ∧ w'.cell? ⟨(ad127.add ((x5_1).toNat * 3)).block, (ad127.add ((x5_1).toNat * 3)).off + 2, none⟩ = some (.string ((rd_T36 l0 x5_1).f2)) ∧ w'.cell? (ad128.add ((x5_1).toNat * 3)) = some (.int .u8 ((rd_T36 l1 x5_1).f0)) ∧ w'.cell? ⟨(ad128.add ((x5_1).toNat * 3)).block, (ad128.add ((x5_1).toNat * 3)).off + 1, none⟩ = some (.int .i64 ((rd_T36 l1 x5_1).f1)) ∧ w'.cell? ⟨(ad128.add ((x5_1).toNat * 3)).block, (ad128.add ((x5_1).toNat * 3)).off + 2, none⟩ = some (.string ((rd_T36 l1 x5_1).f2))) (ds := []) #[X_,X_,X_,X_,X_,X_,X_,X_,X_,X_] (by kernel_rfl) rfl rfl ⟨((HB.out.cell (bLC_ w _ hw127_0)).trans hw127_0), ((HB.out.cell (bLC_ w _ hw127_1)).trans hw127_1), ((HB.out.cell (bLC_ w _ hw127_2)).trans hw127_2), ((HB.out.cell (bLC_ w _ hw128_0)).trans hw128_0), ((HB.out.cell (bLC_ w _ hw128_1)).trans hw128_1), ((HB.out.cell (bLC_ w _ hw128_2)).trans hw128_2)⟩ (fun hHeld => ?_); refine with_tabW r1_SameRows.tab6 r1_SameRows.bits6 (fun HT_ HW_ => ?_)
             generalize wr.drew = w11 at HB hx127_0 hx127_1 hx127_2 hx128_0 hx128_1 hx128_2 hHeld ⊢
             refine pure_ (i := 0) (N := some 17) (v := ?_) (a' := ?_) #[Y_,X_,X_,X_,X_,X_,X_,X_,X_,X_] rfl rfl (any_of HT_.out (by kernel_rfl)) (fun _ _ _ h => h) (Or.inl ⟨by rfl, ?_⟩) ?_ ?_
             rotate_left
             · intro w'
               go_simp
               with_reducible rfl
             rotate_left
             · simp only [Act.put, sTA_, sCZ_, sCS_, i64_w, i32_w]
               rfl
             refine pure_ (i := 1) (N := some 18) (v := ?_) (a' := ?_) #[Y_,Y_,X_,X_,X_,X_,X_,X_,X_,X_] rfl rfl (any_of HT_.out (by kernel_rfl)) (fun _ _ _ h => h) (Or.inl ⟨by rfl, ?_⟩) ?_ ?_
             rotate_left
             · intro w'
               go_simp
               with_reducible rfl
             rotate_left
             · simp only [Act.put, sTA_, sCZ_, sCS_, i64_w, i32_w]
               rfl
             refine pure_ (i := 2) (N := some 19) (v := ?_) (a' := ?_) #[Y_,Y_,Y_,X_,X_,X_,X_,X_,X_,X_] rfl rfl (any_of HT_.out (by kernel_rfl)) (fun _ _ _ h => h) (Or.inl ⟨by rfl, ?_⟩) ?_ ?_
             rotate_left
             · intro w'
               go_simp
               with_reducible rfl
             rotate_left
             · simp only [Act.put, sTA_, sCZ_, sCS_, i64_w, i32_w]
               rfl
             refine pure_ (i := 4) (N := some 21) (v := ?_) (a' := ?_) #[Y_,Y_,Y_,X_,Y_,X_,X_,X_,X_,X_] rfl rfl (any_of HT_.out (by kernel_rfl)) (fun _ _ _ h => h) (Or.inl ⟨by rfl, ?_⟩) ?_ ?_
             rotate_left
             · intro w'
               go_simp
               with_reducible rfl
             rotate_left
             · simp only [Act.put, sTA_, sCZ_, sCS_, i64_w, i32_w]
               rfl
             refine pure_ (i := 5) (N := some 22) (v := ?_) (a' := ?_) #[Y_,Y_,Y_,X_,Y_,Y_,X_,X_,X_,X_] rfl rfl (any_of HT_.out (by kernel_rfl)) (fun _ _ _ h => h) (Or.inl ⟨by rfl, ?_⟩) ?_ ?_
             rotate_left
             · intro w'
               go_simp
               with_reducible rfl
             rotate_left
             · simp only [Act.put, sTA_, sCZ_, sCS_, i64_w, i32_w]
               rfl
             refine pure_ (i := 6) (N := some 23) (v := ?_) (a' := ?_) #[Y_,Y_,Y_,X_,Y_,Y_,Y_,X_,X_,X_] rfl rfl (any_of HT_.out (by kernel_rfl)) (fun _ _ _ h => h) (Or.inl ⟨by rfl, ?_⟩) ?_ ?_
             rotate_left
             · intro w'
               go_simp
               with_reducible rfl
             rotate_left
             · simp only [Act.put, sTA_, sCZ_, sCS_, i64_w, i32_w]
               rfl
             refine take_ (i := 3) (N := some 20) (v := ?_) (a' := ?_) #[Y_,Y_,Y_,Y_,Y_,Y_,Y_,X_,X_,X_] rfl rfl (take_ofW HT_.out HW_.out (by kernel_rfl)) (fun _ _ _ h => h) (Or.inl ⟨by rfl, ?_⟩) hHeld ?_ ?_
             rotate_left
             · rintro w' ⟨s0, s1, s2, s3, s4, s5⟩
               go_simp
               with_reducible rfl
             rotate_left
             · simp only [Act.put, sTA_, sCZ_, sCS_, i64_w, i32_w]
               rfl
             refine take_ (i := 7) (N := some 24) (v := ?_) (a' := ?_) #[Y_,Y_,Y_,Y_,Y_,Y_,Y_,Y_,X_,X_] rfl rfl (take_ofW HT_.out HW_.out (by kernel_rfl)) (fun _ _ _ h => h) (Or.inl ⟨by rfl, ?_⟩) hHeld ?_ ?_
             rotate_left
             · rintro w' ⟨s0, s1, s2, s3, s4, s5⟩
               go_simp
               with_reducible rfl
             rotate_left
             · simp only [Act.put, sTA_, sCZ_, sCS_, i64_w, i32_w]
               rfl
             refine one_ (i := 8) (N := some 25) #[Y_,Y_,Y_,Y_,Y_,Y_,Y_,Y_,Y_,X_] rfl rfl (one_of HT_.out (by kernel_rfl)) (by decide) (fun K hK => ?_)
             refine goes_ Tryz.func22 (by kernel_rfl) rfl #[.agg #[.int .u8 ((rd_T36 l0 x5_1).f0), .int .i64 ((rd_T36 l0 x5_1).f1), .string ((rd_T36 l0 x5_1).f2)], .agg #[.int .u8 ((rd_T36 l1 x5_1).f0), .int .i64 ((rd_T36 l1 x5_1).f1), .string ((rd_T36 l1 x5_1).f2)]] (by rfl) rfl rfl (by (try simp only [List.map_toArray, List.map_cons, List.map_nil]); first | done | rfl | (simp only [List.length_drop, List.length_take]; rfl)) ?_
             with_reducible refine (r1_Same.calls ((rd_T36 l0 x5_1).f0) ((rd_T36 l0 x5_1).f1) ((rd_T36 l0 x5_1).f2) ((rd_T36 l1 x5_1).f0) ((rd_T36 l1 x5_1).f1) ((rd_T36 l1 x5_1).f2) false _ A7.out).mono ?_
             rintro e w12 ⟨rfl, hb⟩
             refine ⟨_, rfl, ?_⟩
             have n0_ := Aside0.mk (below_step (by repeat (first | (with_reducible first | exact HB.out | apply bA_ | apply bN_ | apply b1_) | exact HB.out)) hb)
             clear HB
             have HB := n0_
             clear n0_
             (try clear hb)
             (try clear hb2)
             (try clear hk)
             (try clear hi)
             refine hK.out _ _ ⟨((HB.out.cell (bLC_ w _ hw127_0)).trans hw127_0), ((HB.out.cell (bLC_ w _ hw127_1)).trans hw127_1), ((HB.out.cell (bLC_ w _ hw127_2)).trans hw127_2), ((HB.out.cell (bLC_ w _ hw128_0)).trans hw128_0), ((HB.out.cell (bLC_ w _ hw128_1)).trans hw128_1), ((HB.out.cell (bLC_ w _ hw128_2)).trans hw128_2)⟩ (fun hHeld => ?_)
             clear hK K
             refine norm_ (a' := ?_) ?_ ?_
             rotate_left
             · show Act.put _ (some 25) _ = _
               simp only [Act.put, sTA_, sCZ_, sCS_, i64_w, i32_w]
               rfl
             refine pure_ (i := 9) (N := some 26) (v := ?_) (a' := ?_) #[Y_,Y_,Y_,Y_,Y_,Y_,Y_,Y_,Y_,Y_] rfl rfl (any_of HT_.out (by kernel_rfl)) (fun _ _ _ h => h) (Or.inl ⟨by rfl, ?_⟩) ?_ ?_
             rotate_left
             · intro w'
               go_simp
               with_reducible rfl
             rotate_left
             · simp only [Act.put, sTA_, sCZ_, sCS_, i64_w, i32_w]
               rfl
             refine done_ (done_of HT_.out (by kernel_rfl)) ?_
             try go_wp2
             go_ret
             exact ⟨by first | rfl | (simp [*, errW_none, errW_some] <;> rfl), by repeat (first | (with_reducible first | exact HB.out | apply bA_ | apply bN_ | apply b1_) | exact HB.out)⟩
         · rw [if_neg c6] at H
           exact absurd H (by simp)
       · rw [if_neg c5] at H
         exact absurd H (by simp)
     · rw [if_neg c4] at H
       have c4b0 : decide (x5_1 < (l0.length : Int)) = false := dF_ c4
       clear c4
       obtain rfl := Option.some.inj H
       go_wp2
       go_ret
       exact ⟨by first | rfl | (simp [*, errW_none, errW_some] <;> rfl), by repeat (first | (with_reducible first | exact HB.out | apply bA_ | apply bN_ | apply b1_) | exact HB.out)⟩
 · rw [if_neg c3] at H
   have c3b0 : ((l0.length : Int) == (l1.length : Int)) = false := beq_eq_false_iff_ne.mpr c3
   have c3b1 : ((l0.length : Int) != (l1.length : Int)) = true := bne_iff_ne.mpr c3
   have c3b2 : (l0.length == l1.length) = false := by first | simpa using c3 | (simp at c3 ⊢; omega)
   obtain rfl := Option.some.inj H
   go_enter Tryz.func50, Tryz.ntmps50
   go_wp2
   go_ret
   exact ⟨by first | rfl | (simp [*, errW_none, errW_some] <;> rfl), by repeat (first | (with_reducible first | exact HB.out | apply bA_ | apply bN_ | apply b1_) | exact HB.out)⟩
def r6_SameLists.l0 : Nat → List (List (S36)) → List (List (S36)) → Int → Option (Bool)
 | 0, _, _, _ => none
 | k + 1, x0, x1, x5 => if x5 < (x0.length : Int) then (if 0 ≤ x5 then (if x5 < (x1.length : Int) then ((r1_SameRows.f k (rd_L4 x0 x5) (rd_L4 x1 x5)).bind fun t132 => (if t132 = true then (r6_SameLists.l0 k x0 x1 (wrap64 (x5 + 1))) else (some false))) else (none)) else (none)) else (some true)
def r6_SameLists.f (k : Nat) (l0 : List (List (S36))) (l1 : List (List (S36))) : Option (Bool) := if (l0.length : Int) = (l1.length : Int) then (r6_SameLists.l0 k l0 l1 0) else (some false)
def r6_SameLists.T6 : Bool × List (List Nat × List Nat) := (true, [([], []), ([], []), ([0, 1], [0, 1]), ([2], [2]), ([], []), ([], []), ([4, 5], [4, 5]), ([6], [6]), ([3, 7], [3, 7]), ([8], [8])])
def r6_SameLists.B6 : List Nat := [0, 0, 3, 7, 0, 0, 48, 112, 255, 511]
theorem r6_SameLists.tab6 : rtab .any (opsOf Tryz.f19 6) = r6_SameLists.T6 := by kernel_rfl
theorem r6_SameLists.bits6 : waitsOk r6_SameLists.T6.2 r6_SameLists.B6 = true := by kernel_rfl
theorem r6_SameLists.calls (k : Nat) (A0 : Option Addr) (c0 : Nat) (l0 : List (List (S36))) (A1 : Option Addr) (c1 : Nat) (l1 : List (List (S36))) (r : Bool) (w : World) (hr0 : Kd.C (Kd.slice 36 k36) w A0 l0.length l0) (hc0 : l0.length ≤ c0) (hr1 : Kd.C (Kd.slice 36 k36) w A1 l1.length l1) (hc1 : l1.length ≤ c1) (h : r6_SameLists.f k l0 l1 = some r) :
 Calls Tryz.prog 19 #[.slice A0 l0.length c0, .slice A1 l1.length c1] w fun e w' => e = .returned (.bool r) ∧ Below w.heap.size w w' := by
 have HR0 := Aside0.mk hr0
 have HC0 := Aside0.mk hc0
 clear hr0 hc0
 have HR1 := Aside0.mk hr1
 have HC1 := Aside0.mk hc1
 clear hr1 hc1
 have HB := Aside0.mk (Below.refl w.heap.size w)
 have H : (if (l0.length : Int) = (l1.length : Int) then (r6_SameLists.l0 k l0 l1 0) else (some false)) = some r := h
 clear h
 by_cases c3 : (l0.length : Int) = (l1.length : Int)
 · rw [if_pos c3] at H
   have c3b0 : ((l0.length : Int) == (l1.length : Int)) = true := beq_iff_eq.mpr c3
   have c3b1 : ((l0.length : Int) != (l1.length : Int)) = false := bne_eq_false_iff_eq.mpr c3
   have c3b2 : (l0.length == l1.length) = true := by first | simpa using c3 | (simp at c3 ⊢; omega)
   clear c3
   have H' := Aside0.mk H
   clear H
   go_enter Tryz.func19, Tryz.ntmps19
   go_wp2
   go_loopg [5] k (fun kq v5 w' => ∃ (x5_1 : Int), v5 = .int .i64 x5_1 ∧ Aside0 (r6_SameLists.l0 kq l0 l1 x5_1 = some r) ∧ Aside0 (kq ≤ k) ∧ Aside0 (Below w.heap.size w w'))
   case atStart => exact ⟨(0), (by first | rfl | (simp; done) | (simp [*]; done)), H', ⟨Nat.le_refl _⟩, ⟨by repeat (first | (with_reducible first | exact HB.out | apply bA_ | apply bN_ | apply b1_) | exact HB.out)⟩⟩
   case round =>
    clear H'
    try clear c1
    try clear p2
    try clear c3
    try clear c3b0
    try clear c3b1
    try clear c3b2
    obtain ⟨x5_1, rfl, HA, HK1, HB⟩ := hrel
    cases gk with
    | zero => exact absurd HA.out (by simp [r6_SameLists.l0])
    | succ k1 =>
     have H := HA.out
     clear HA
     simp only [r6_SameLists.l0] at H
     by_cases c4 : x5_1 < (l0.length : Int)
     · rw [if_pos c4] at H
       have c4b0 : decide (x5_1 < (l0.length : Int)) = true := dT_ c4
       clear c4
       by_cases c5 : 0 ≤ x5_1
       · rw [if_pos c5] at H
         have c5b0 : decide (0 ≤ x5_1) = true := dT_ c5
         clear c5
         by_cases c6 : x5_1 < (l1.length : Int)
         · rw [if_pos c6] at H
           have c6b0 : decide (x5_1 < (l1.length : Int)) = true := dT_ c6
           clear c6
           replace H := Option.bind_eq_some_iff.mp H
           obtain ⟨t132, A70, H⟩ := H
           replace H : (if t132 = true then (r6_SameLists.l0 k1 l0 l1 (wrap64 (x5_1 + 1))) else (some false)) = some r := H
           have A7 := Aside0.mk A70
           clear A70
           by_cases c8 : t132 = true
           · subst c8
             have H1 : (r6_SameLists.l0 k1 l0 l1 (wrap64 (x5_1 + 1))) = some r := by rw [if_pos rfl] at H; exact H
             clear H
             have H := H1
             clear H1
             have H' := Aside0.mk H
             clear H
             try go_wp2
             have n0_ := Aside0.mk (b1_ HB.out)
             clear HB
             have HB := n0_
             clear n0_
             have p130 : 0 ≤ (x5_1 : Int) := oT_ (by assumption)
             have q130 : x5_1 < (l0.length : Int) := oT_ (by assumption)
             obtain ⟨ad130, A130_0, c130_0, e130, hx130_0, hl130_0, hi130_0⟩ := at_L4 HR0.out x5_1 p130 q130
             have hw130_0 := hx130_0
             cases e130
             replace hx130_0 := (HB.out.cell (bLC_ w _ hx130_0)).trans hx130_0
             have HR130_0 := Aside0.mk hi130_0
             have HC130_0 := Aside0.mk hl130_0
             clear hi130_0 hl130_0
             replace p130 := eq_true p130
             replace q130 := eq_true q130
             have p131 : 0 ≤ (x5_1 : Int) := oT_ (by assumption)
             have q131 : x5_1 < (l1.length : Int) := oT_ (by assumption)
             obtain ⟨ad131, A131_0, c131_0, e131, hx131_0, hl131_0, hi131_0⟩ := at_L4 HR1.out x5_1 p131 q131
             have hw131_0 := hx131_0
             cases e131
             replace hx131_0 := (HB.out.cell (bLC_ w _ hx131_0)).trans hx131_0
             have HR131_0 := Aside0.mk hi131_0
             have HC131_0 := Aside0.mk hl131_0
             clear hi131_0 hl131_0
             replace p131 := eq_true p131
             replace q131 := eq_true q131
             refine start_ (n := 10) (S := fun w' => w'.cell? (ad130.add (x5_1).toNat) = some (.slice A130_0 (rd_L4 l0 x5_1).length c130_0) ∧ w'.cell? (ad131.add (x5_1).toNat) = some (.slice A131_0 (rd_L4 l1 x5_1).length c131_0)) (ds := []) #[X_,X_,X_,X_,X_,X_,X_,X_,X_,X_] (by kernel_rfl) rfl rfl ⟨((HB.out.cell (bLC_ w _ hw130_0)).trans hw130_0), ((HB.out.cell (bLC_ w _ hw131_0)).trans hw131_0)⟩ (fun hHeld => ?_); refine with_tabW r6_SameLists.tab6 r6_SameLists.bits6 (fun HT_ HW_ => ?_)
             generalize wr.drew = w9 at HB HR130_0 HR131_0 hx130_0 hx131_0 hHeld ⊢
             refine pure_ (i := 0) (N := some 17) (v := ?_) (a' := ?_) #[Y_,X_,X_,X_,X_,X_,X_,X_,X_,X_] rfl rfl (any_of HT_.out (by kernel_rfl)) (fun _ _ _ h => h) (Or.inl ⟨by rfl, ?_⟩) ?_ ?_
             rotate_left
             · intro w'
               go_simp
               with_reducible rfl
             rotate_left
             · simp only [Act.put, sTA_, sCZ_, sCS_, i64_w, i32_w]
               rfl
             refine pure_ (i := 1) (N := some 18) (v := ?_) (a' := ?_) #[Y_,Y_,X_,X_,X_,X_,X_,X_,X_,X_] rfl rfl (any_of HT_.out (by kernel_rfl)) (fun _ _ _ h => h) (Or.inl ⟨by rfl, ?_⟩) ?_ ?_
             rotate_left
             · intro w'
               go_simp
               with_reducible rfl
             rotate_left
             · simp only [Act.put, sTA_, sCZ_, sCS_, i64_w, i32_w]
               rfl
             refine pure_ (i := 2) (N := some 19) (v := ?_) (a' := ?_) #[Y_,Y_,Y_,X_,X_,X_,X_,X_,X_,X_] rfl rfl (any_of HT_.out (by kernel_rfl)) (fun _ _ _ h => h) (Or.inl ⟨by rfl, ?_⟩) ?_ ?_
             rotate_left
             · intro w'
               go_simp
               with_reducible rfl
             rotate_left
             · simp only [Act.put, sTA_, sCZ_, sCS_, i64_w, i32_w]
               rfl
             refine pure_ (i := 4) (N := some 21) (v := ?_) (a' := ?_) #[Y_,Y_,Y_,X_,Y_,X_,X_,X_,X_,X_] rfl rfl (any_of HT_.out (by kernel_rfl)) (fun _ _ _ h => h) (Or.inl ⟨by rfl, ?_⟩) ?_ ?_
             rotate_left
             · intro w'
               go_simp
               with_reducible rfl
             rotate_left
             · simp only [Act.put, sTA_, sCZ_, sCS_, i64_w, i32_w]
               rfl
             refine pure_ (i := 5) (N := some 22) (v := ?_) (a' := ?_) #[Y_,Y_,Y_,X_,Y_,Y_,X_,X_,X_,X_] rfl rfl (any_of HT_.out (by kernel_rfl)) (fun _ _ _ h => h) (Or.inl ⟨by rfl, ?_⟩) ?_ ?_
             rotate_left
             · intro w'
               go_simp
               with_reducible rfl
             rotate_left
             · simp only [Act.put, sTA_, sCZ_, sCS_, i64_w, i32_w]
               rfl
             refine pure_ (i := 6) (N := some 23) (v := ?_) (a' := ?_) #[Y_,Y_,Y_,X_,Y_,Y_,Y_,X_,X_,X_] rfl rfl (any_of HT_.out (by kernel_rfl)) (fun _ _ _ h => h) (Or.inl ⟨by rfl, ?_⟩) ?_ ?_
             rotate_left
             · intro w'
               go_simp
               with_reducible rfl
             rotate_left
             · simp only [Act.put, sTA_, sCZ_, sCS_, i64_w, i32_w]
               rfl
             refine take_ (i := 3) (N := some 20) (v := ?_) (a' := ?_) #[Y_,Y_,Y_,Y_,Y_,Y_,Y_,X_,X_,X_] rfl rfl (take_ofW HT_.out HW_.out (by kernel_rfl)) (fun _ _ _ h => h) (Or.inl ⟨by rfl, ?_⟩) hHeld ?_ ?_
             rotate_left
             · rintro w' ⟨s0, s1⟩
               go_simp
               with_reducible rfl
             rotate_left
             · simp only [Act.put, sTA_, sCZ_, sCS_, i64_w, i32_w]
               rfl
             refine take_ (i := 7) (N := some 24) (v := ?_) (a' := ?_) #[Y_,Y_,Y_,Y_,Y_,Y_,Y_,Y_,X_,X_] rfl rfl (take_ofW HT_.out HW_.out (by kernel_rfl)) (fun _ _ _ h => h) (Or.inl ⟨by rfl, ?_⟩) hHeld ?_ ?_
             rotate_left
             · rintro w' ⟨s0, s1⟩
               go_simp
               with_reducible rfl
             rotate_left
             · simp only [Act.put, sTA_, sCZ_, sCS_, i64_w, i32_w]
               rfl
             refine one_ (i := 8) (N := some 25) #[Y_,Y_,Y_,Y_,Y_,Y_,Y_,Y_,Y_,X_] rfl rfl (one_of HT_.out (by kernel_rfl)) (by decide) (fun K hK => ?_)
             refine goes_ Tryz.func50 (by kernel_rfl) rfl #[.slice A130_0 (rd_L4 l0 x5_1).length c130_0, .slice A131_0 (rd_L4 l1 x5_1).length c131_0] (by rfl) rfl rfl (by (try simp only [List.map_toArray, List.map_cons, List.map_nil]); first | done | rfl | (simp only [List.length_drop, List.length_take]; rfl)) ?_
             with_reducible refine (r1_SameRows.calls k1 _ _ (rd_L4 l0 x5_1) _ _ (rd_L4 l1 x5_1) true _ ?side1 ?side2 ?side3 ?side4 A7.out).mono ?_
             (case side1 => repeat (first | exact (Kd.C_below HR130_0.out HB.out) | (with_reducible refine Kd.cA_ ?_ _) | (with_reducible refine Kd.cN_ ?_ _) | (with_reducible refine Kd.cD_ ?_)))
             (case side2 => exact HC130_0.out)
             (case side3 => repeat (first | exact (Kd.C_below HR131_0.out HB.out) | (with_reducible refine Kd.cA_ ?_ _) | (with_reducible refine Kd.cN_ ?_ _) | (with_reducible refine Kd.cD_ ?_)))
             (case side4 => exact HC131_0.out)
             rintro e w10 ⟨rfl, hb⟩
             refine ⟨_, rfl, ?_⟩
             have n0_ := Aside0.mk (below_step (by repeat (first | (with_reducible first | exact HB.out | apply bA_ | apply bN_ | apply b1_) | exact HB.out)) hb)
             clear HB
             have HB := n0_
             clear n0_
             (try clear hb)
             (try clear hb2)
             (try clear hk)
             (try clear hi)
             refine hK.out _ _ ⟨((HB.out.cell (bLC_ w _ hw130_0)).trans hw130_0), ((HB.out.cell (bLC_ w _ hw131_0)).trans hw131_0)⟩ (fun hHeld => ?_)
             clear hK K
             refine norm_ (a' := ?_) ?_ ?_
             rotate_left
             · show Act.put _ (some 25) _ = _
               simp only [Act.put, sTA_, sCZ_, sCS_, i64_w, i32_w]
               rfl
             refine pure_ (i := 9) (N := some 26) (v := ?_) (a' := ?_) #[Y_,Y_,Y_,Y_,Y_,Y_,Y_,Y_,Y_,Y_] rfl rfl (any_of HT_.out (by kernel_rfl)) (fun _ _ _ h => h) (Or.inl ⟨by rfl, ?_⟩) ?_ ?_
             rotate_left
             · intro w'
               go_simp
               with_reducible rfl
             rotate_left
             · simp only [Act.put, sTA_, sCZ_, sCS_, i64_w, i32_w]
               rfl
             refine done_ (done_of HT_.out (by kernel_rfl)) ?_
             try go_wp2
             go_roundg k1
             case measure => have := HK1.out; omega
             case rel => exact ⟨(wrap64 (x5_1 + 1)), (by first | rfl | (simp; done) | (simp [*]; done)), H', ⟨by have := HK1.out; omega⟩, ⟨by repeat (first | (with_reducible first | exact HB.out | apply bA_ | apply bN_ | apply b1_) | exact HB.out)⟩⟩
           · replace c8 := Bool.eq_false_iff.mpr c8
             subst c8
             have H1 : (some false) = some r := by rw [if_neg (show ¬ (false = true) by decide)] at H; exact H
             clear H
             have H := H1
             clear H1
             obtain rfl := Option.some.inj H
             try go_wp2
             have n0_ := Aside0.mk (b1_ HB.out)
             clear HB
             have HB := n0_
             clear n0_
             have p130 : 0 ≤ (x5_1 : Int) := oT_ (by assumption)
             have q130 : x5_1 < (l0.length : Int) := oT_ (by assumption)
             obtain ⟨ad130, A130_0, c130_0, e130, hx130_0, hl130_0, hi130_0⟩ := at_L4 HR0.out x5_1 p130 q130
             have hw130_0 := hx130_0
             cases e130
             replace hx130_0 := (HB.out.cell (bLC_ w _ hx130_0)).trans hx130_0
             have HR130_0 := Aside0.mk hi130_0
             have HC130_0 := Aside0.mk hl130_0
             clear hi130_0 hl130_0
             replace p130 := eq_true p130
             replace q130 := eq_true q130
             have p131 : 0 ≤ (x5_1 : Int) := oT_ (by assumption)
             have q131 : x5_1 < (l1.length : Int) := oT_ (by assumption)
             obtain ⟨ad131, A131_0, c131_0, e131, hx131_0, hl131_0, hi131_0⟩ := at_L4 HR1.out x5_1 p131 q131
             have hw131_0 := hx131_0
             cases e131
             replace hx131_0 := (HB.out.cell (bLC_ w _ hx131_0)).trans hx131_0
             have HR131_0 := Aside0.mk hi131_0
             have HC131_0 := Aside0.mk hl131_0
             clear hi131_0 hl131_0
             replace p131 := eq_true p131
             replace q131 := eq_true q131
             refine start_ (n := 10) (S := fun w' => w'.cell? (ad130.add (x5_1).toNat) = some (.slice A130_0 (rd_L4 l0 x5_1).length c130_0) ∧ w'.cell? (ad131.add (x5_1).toNat) = some (.slice A131_0 (rd_L4 l1 x5_1).length c131_0)) (ds := []) #[X_,X_,X_,X_,X_,X_,X_,X_,X_,X_] (by kernel_rfl) rfl rfl ⟨((HB.out.cell (bLC_ w _ hw130_0)).trans hw130_0), ((HB.out.cell (bLC_ w _ hw131_0)).trans hw131_0)⟩ (fun hHeld => ?_); refine with_tabW r6_SameLists.tab6 r6_SameLists.bits6 (fun HT_ HW_ => ?_)
             generalize wr.drew = w11 at HB HR130_0 HR131_0 hx130_0 hx131_0 hHeld ⊢
             refine pure_ (i := 0) (N := some 17) (v := ?_) (a' := ?_) #[Y_,X_,X_,X_,X_,X_,X_,X_,X_,X_] rfl rfl (any_of HT_.out (by kernel_rfl)) (fun _ _ _ h => h) (Or.inl ⟨by rfl, ?_⟩) ?_ ?_
             rotate_left
             · intro w'
               go_simp
               with_reducible rfl
             rotate_left
             · simp only [Act.put, sTA_, sCZ_, sCS_, i64_w, i32_w]
               rfl
             refine pure_ (i := 1) (N := some 18) (v := ?_) (a' := ?_) #[Y_,Y_,X_,X_,X_,X_,X_,X_,X_,X_] rfl rfl (any_of HT_.out (by kernel_rfl)) (fun _ _ _ h => h) (Or.inl ⟨by rfl, ?_⟩) ?_ ?_
             rotate_left
             · intro w'
               go_simp
               with_reducible rfl
             rotate_left
             · simp only [Act.put, sTA_, sCZ_, sCS_, i64_w, i32_w]
               rfl
             refine pure_ (i := 2) (N := some 19) (v := ?_) (a' := ?_) #[Y_,Y_,Y_,X_,X_,X_,X_,X_,X_,X_] rfl rfl (any_of HT_.out (by kernel_rfl)) (fun _ _ _ h => h) (Or.inl ⟨by rfl, ?_⟩) ?_ ?_
             rotate_left
             · intro w'
               go_simp
               with_reducible rfl
             rotate_left
             · simp only [Act.put, sTA_, sCZ_, sCS_, i64_w, i32_w]
               rfl
             refine pure_ (i := 4) (N := some 21) (v := ?_) (a' := ?_) #[Y_,Y_,Y_,X_,Y_,X_,X_,X_,X_,X_] rfl rfl (any_of HT_.out (by kernel_rfl)) (fun _ _ _ h => h) (Or.inl ⟨by rfl, ?_⟩) ?_ ?_
             rotate_left
             · intro w'
               go_simp
               with_reducible rfl
             rotate_left
             · simp only [Act.put, sTA_, sCZ_, sCS_, i64_w, i32_w]
               rfl
             refine pure_ (i := 5) (N := some 22) (v := ?_) (a' := ?_) #[Y_,Y_,Y_,X_,Y_,Y_,X_,X_,X_,X_] rfl rfl (any_of HT_.out (by kernel_rfl)) (fun _ _ _ h => h) (Or.inl ⟨by rfl, ?_⟩) ?_ ?_
             rotate_left
             · intro w'
               go_simp
               with_reducible rfl
             rotate_left
             · simp only [Act.put, sTA_, sCZ_, sCS_, i64_w, i32_w]
               rfl
             refine pure_ (i := 6) (N := some 23) (v := ?_) (a' := ?_) #[Y_,Y_,Y_,X_,Y_,Y_,Y_,X_,X_,X_] rfl rfl (any_of HT_.out (by kernel_rfl)) (fun _ _ _ h => h) (Or.inl ⟨by rfl, ?_⟩) ?_ ?_
             rotate_left
             · intro w'
               go_simp
               with_reducible rfl
             rotate_left
             · simp only [Act.put, sTA_, sCZ_, sCS_, i64_w, i32_w]
               rfl
             refine take_ (i := 3) (N := some 20) (v := ?_) (a' := ?_) #[Y_,Y_,Y_,Y_,Y_,Y_,Y_,X_,X_,X_] rfl rfl (take_ofW HT_.out HW_.out (by kernel_rfl)) (fun _ _ _ h => h) (Or.inl ⟨by rfl, ?_⟩) hHeld ?_ ?_
             rotate_left
             · rintro w' ⟨s0, s1⟩
               go_simp
               with_reducible rfl
             rotate_left
             · simp only [Act.put, sTA_, sCZ_, sCS_, i64_w, i32_w]
               rfl
             refine take_ (i := 7) (N := some 24) (v := ?_) (a' := ?_) #[Y_,Y_,Y_,Y_,Y_,Y_,Y_,Y_,X_,X_] rfl rfl (take_ofW HT_.out HW_.out (by kernel_rfl)) (fun _ _ _ h => h) (Or.inl ⟨by rfl, ?_⟩) hHeld ?_ ?_
             rotate_left
             · rintro w' ⟨s0, s1⟩
               go_simp
               with_reducible rfl
             rotate_left
             · simp only [Act.put, sTA_, sCZ_, sCS_, i64_w, i32_w]
               rfl
             refine one_ (i := 8) (N := some 25) #[Y_,Y_,Y_,Y_,Y_,Y_,Y_,Y_,Y_,X_] rfl rfl (one_of HT_.out (by kernel_rfl)) (by decide) (fun K hK => ?_)
             refine goes_ Tryz.func50 (by kernel_rfl) rfl #[.slice A130_0 (rd_L4 l0 x5_1).length c130_0, .slice A131_0 (rd_L4 l1 x5_1).length c131_0] (by rfl) rfl rfl (by (try simp only [List.map_toArray, List.map_cons, List.map_nil]); first | done | rfl | (simp only [List.length_drop, List.length_take]; rfl)) ?_
             with_reducible refine (r1_SameRows.calls k1 _ _ (rd_L4 l0 x5_1) _ _ (rd_L4 l1 x5_1) false _ ?side1 ?side2 ?side3 ?side4 A7.out).mono ?_
             (case side1 => repeat (first | exact (Kd.C_below HR130_0.out HB.out) | (with_reducible refine Kd.cA_ ?_ _) | (with_reducible refine Kd.cN_ ?_ _) | (with_reducible refine Kd.cD_ ?_)))
             (case side2 => exact HC130_0.out)
             (case side3 => repeat (first | exact (Kd.C_below HR131_0.out HB.out) | (with_reducible refine Kd.cA_ ?_ _) | (with_reducible refine Kd.cN_ ?_ _) | (with_reducible refine Kd.cD_ ?_)))
             (case side4 => exact HC131_0.out)
             rintro e w12 ⟨rfl, hb⟩
             refine ⟨_, rfl, ?_⟩
             have n0_ := Aside0.mk (below_step (by repeat (first | (with_reducible first | exact HB.out | apply bA_ | apply bN_ | apply b1_) | exact HB.out)) hb)
             clear HB
             have HB := n0_
             clear n0_
             (try clear hb)
             (try clear hb2)
             (try clear hk)
             (try clear hi)
             refine hK.out _ _ ⟨((HB.out.cell (bLC_ w _ hw130_0)).trans hw130_0), ((HB.out.cell (bLC_ w _ hw131_0)).trans hw131_0)⟩ (fun hHeld => ?_)
             clear hK K
             refine norm_ (a' := ?_) ?_ ?_
             rotate_left
             · show Act.put _ (some 25) _ = _
               simp only [Act.put, sTA_, sCZ_, sCS_, i64_w, i32_w]
               rfl
             refine pure_ (i := 9) (N := some 26) (v := ?_) (a' := ?_) #[Y_,Y_,Y_,Y_,Y_,Y_,Y_,Y_,Y_,Y_] rfl rfl (any_of HT_.out (by kernel_rfl)) (fun _ _ _ h => h) (Or.inl ⟨by rfl, ?_⟩) ?_ ?_
             rotate_left
             · intro w'
               go_simp
               with_reducible rfl
             rotate_left
             · simp only [Act.put, sTA_, sCZ_, sCS_, i64_w, i32_w]
               rfl
             refine done_ (done_of HT_.out (by kernel_rfl)) ?_
             try go_wp2
             go_ret
             exact ⟨by first | rfl | (simp [*, errW_none, errW_some] <;> rfl), by repeat (first | (with_reducible first | exact HB.out | apply bA_ | apply bN_ | apply b1_) | exact HB.out)⟩
         · rw [if_neg c6] at H
           exact absurd H (by simp)
       · rw [if_neg c5] at H
         exact absurd H (by simp)
     · rw [if_neg c4] at H
       have c4b0 : decide (x5_1 < (l0.length : Int)) = false := dF_ c4
       clear c4
       obtain rfl := Option.some.inj H
       go_wp2
       go_ret
       exact ⟨by first | rfl | (simp [*, errW_none, errW_some] <;> rfl), by repeat (first | (with_reducible first | exact HB.out | apply bA_ | apply bN_ | apply b1_) | exact HB.out)⟩
 · rw [if_neg c3] at H
   have c3b0 : ((l0.length : Int) == (l1.length : Int)) = false := beq_eq_false_iff_ne.mpr c3
   have c3b1 : ((l0.length : Int) != (l1.length : Int)) = true := bne_iff_ne.mpr c3
   have c3b2 : (l0.length == l1.length) = false := by first | simpa using c3 | (simp at c3 ⊢; omega)
   obtain rfl := Option.some.inj H
   go_enter Tryz.func19, Tryz.ntmps19
   go_wp2
   go_ret
   exact ⟨by first | rfl | (simp [*, errW_none, errW_some] <;> rfl), by repeat (first | (with_reducible first | exact HB.out | apply bA_ | apply bN_ | apply b1_) | exact HB.out)⟩
end Go.Proofs.YtecgkcgfeghhgaaGreatDoor.PAll
set_option linter.unusedVariables false
set_option linter.unusedSimpArgs false
namespace Go.Proofs.YtecgkcgfeghhgaaGreatDoor.PAll
open Go.RowKit Go.Proofs.YtecgkcgfeghhgaaGreatDoorW.PrintWords Go.Proofs.YtecgkcgfeghhgaaGreatDoorW.PrintLast Go.Proofs.YtecgkcgfeghhgaaGreatDoorW.PrintMore
open Classical in
theorem sameV_eq (a b : V) : r1_Same.f a.f0 a.f1 a.f2 b.f0 b.f1 b.f2 = some (decide (a = b)) := by
 unfold r1_Same.f
 by_cases h0 : a.f0 = b.f0
 · by_cases h1 : a.f1 = b.f1
   · rw [if_pos h0, if_pos h1]
     congr 1
     by_cases h2 : a.f2 = b.f2
     · rw [decide_eq_true (show a = b by cases a; cases b; simp_all), h2]
       simp
     · rw [decide_eq_false (fun e => h2 (by rw [e])), ByteArray.toList_eq, ByteArray.toList_eq, beq_eq_false_iff_ne]
       exact fun e => h2 (ByteArray.ext (Array.toList_inj.1 e))
   · rw [if_pos h0, if_neg h1, decide_eq_false (fun e => h1 (by rw [e]))]
 · rw [if_neg h0, decide_eq_false (fun e => h0 (by rw [e]))]
open Classical in
theorem sameRows_l0 (a b : List V) (hl : a.length = b.length) (hn : a.length ≤ 1099511627776) : ∀ (d i : Nat), i + d = a.length → Ev (fun k => r1_SameRows.l0 k a b (i : Int)) (decide (a.drop i = b.drop i)) := by
 intro d
 induction d with
 | zero =>
  intro i hi
  rw [List.drop_eq_nil_of_le (by omega), List.drop_eq_nil_of_le (by omega), decide_eq_true rfl]
  refine Ev.step (f := fun _ => some true) (fun k => ?_) (Ev.now _)
  simp only [r1_SameRows.l0]
  rw [if_neg (by omega)]
 | succ d ih =>
  intro i hi
  have h1 : i < a.length := by omega
  have h2 : i < b.length := by omega
  rw [drop_cons a i h1, drop_cons b i h2]
  have one : ∀ k, r1_SameRows.l0 (k + 1) a b (i : Int) = if decide (a[i] = b[i]) = true then r1_SameRows.l0 k a b ((i + 1 : Nat) : Int) else some false := fun k => by
   simp only [r1_SameRows.l0]
   rw [if_pos (by omega), if_pos (by omega), if_pos (by omega), rdV_at h1, rdV_at h2, sameV_eq, w64 _ (by omega) (by omega)]
   rfl
  by_cases c : a[i] = b[i]
  · refine Ev.step (f := fun k => r1_SameRows.l0 k a b ((i + 1 : Nat) : Int)) (fun k => by rw [one, if_pos (decide_eq_true c)]) ?_
    have h3 := ih (i + 1) (by omega)
    have e : decide (a[i] :: a.drop (i + 1) = b[i] :: b.drop (i + 1)) = decide (a.drop (i + 1) = b.drop (i + 1)) := by
     rw [decide_eq_decide, List.cons.injEq]
     exact ⟨fun h => h.2, fun h => ⟨c, h⟩⟩
    rw [e]
    exact h3
  · refine Ev.step (f := fun _ => some false) (fun k => by rw [one, if_neg (by simpa using c)]) ?_
    rw [decide_eq_false (fun e => c (List.cons.inj e).1)]
    exact Ev.now _
open Classical in
theorem sameRows_ev (a b : List V) (hn : a.length ≤ 1099511627776) : Ev (fun k => r1_SameRows.f k a b) (decide (a = b)) := by
 by_cases hl : a.length = b.length
 · have := sameRows_l0 a b hl hn a.length 0 (by omega)
   simp only [List.drop_zero] at this
   exact Ev.congr (fun k => by unfold r1_SameRows.f; rw [if_pos (by omega)]; rfl) this
 · rw [decide_eq_false (fun e => hl (by rw [e]))]
   exact Ev.congr (f := fun _ => some false) (fun k => by unfold r1_SameRows.f; rw [if_neg (by omega)]) (Ev.now _)
open Classical in
theorem sameLists_l0 (a b : List (List V)) (hl : a.length = b.length) (hn : a.length ≤ 1099511627776) (hr : ∀ r ∈ a, r.length ≤ 1099511627776) : ∀ (d i : Nat), i + d = a.length → Ev (fun k => r6_SameLists.l0 k a b (i : Int)) (decide (a.drop i = b.drop i)) := by
 intro d
 induction d with
 | zero =>
  intro i hi
  rw [List.drop_eq_nil_of_le (by omega), List.drop_eq_nil_of_le (by omega), decide_eq_true rfl]
  refine Ev.step (f := fun _ => some true) (fun k => ?_) (Ev.now _)
  simp only [r6_SameLists.l0]
  rw [if_neg (by omega)]
 | succ d ih =>
  intro i hi
  have h1 : i < a.length := by omega
  have h2 : i < b.length := by omega
  rw [drop_cons a i h1, drop_cons b i h2]
  have one : ∀ k, r6_SameLists.l0 (k + 1) a b (i : Int) = (r1_SameRows.f k a[i] b[i]).bind fun t => if t = true then r6_SameLists.l0 k a b ((i + 1 : Nat) : Int) else some false := fun k => by
   simp only [r6_SameLists.l0]
   rw [if_pos (by omega), if_pos (by omega), if_pos (by omega), rdL_at h1, rdL_at h2, w64 _ (by omega) (by omega)]
   rfl
  have hs := sameRows_ev a[i] b[i] (hr _ (List.getElem_mem h1))
  refine Ev.step one (Ev.bind hs ?_)
  by_cases c : a[i] = b[i]
  · refine Ev.congr (f := fun k => r6_SameLists.l0 k a b ((i + 1 : Nat) : Int)) (fun k => by rw [if_pos (decide_eq_true c)]) ?_
    have h3 := ih (i + 1) (by omega)
    have e : decide (a[i] :: a.drop (i + 1) = b[i] :: b.drop (i + 1)) = decide (a.drop (i + 1) = b.drop (i + 1)) := by
     rw [decide_eq_decide, List.cons.injEq]
     exact ⟨fun h => h.2, fun h => ⟨c, h⟩⟩
    rw [e]
    exact h3
  · refine Ev.congr (f := fun _ => some false) (fun k => by rw [if_neg (by simpa using c)]) ?_
    rw [decide_eq_false (fun e => c (List.cons.inj e).1)]
    exact Ev.now _
open Classical in
theorem sameLists_ev (a b : List (List V)) (hn : a.length ≤ 1099511627776) (hr : ∀ r ∈ a, r.length ≤ 1099511627776) : Ev (fun k => r6_SameLists.f k a b) (decide (a = b)) := by
 by_cases hl : a.length = b.length
 · have := sameLists_l0 a b hl hn hr a.length 0 (by omega)
   simp only [List.drop_zero] at this
   exact Ev.congr (fun k => by unfold r6_SameLists.f; rw [if_pos (by omega)]; rfl) this
 · rw [decide_eq_false (fun e => hl (by rw [e]))]
   exact Ev.congr (f := fun _ => some false) (fun k => by unfold r6_SameLists.f; rw [if_neg (by omega)]) (Ev.now _)
theorem sameLists_refl (a : List (List V)) (hn : a.length ≤ 1099511627776) (hr : ∀ r ∈ a, r.length ≤ 1099511627776) : Ev (fun k => r6_SameLists.f k a a) true := by
 classical
 have h := sameLists_ev a a hn hr
 rwa [decide_eq_true rfl] at h
def Gr (w w' : World) : Prop := ∃ (q : Nat) (os : Array Obj), w' = Sort.grow (w.drewN q) os
theorem Gr.refl (w : World) : Gr w w := ⟨0, #[], by simp [Sort.grow, World.drewN]⟩
theorem Gr.trans {a b c : World} (h : Gr a b) (k : Gr b c) : Gr a c := by
 obtain ⟨q, os, rfl⟩ := h
 obtain ⟨p, os', rfl⟩ := k
 refine ⟨q + p, os ++ os', ?_⟩
 simp [Sort.grow, World.drewN, Nat.add_assoc, Array.append_assoc]
theorem Gr.alloc {a b : World} (h : Gr a b) (o : Obj) : Gr a (b.alloc o) := by
 obtain ⟨q, os, rfl⟩ := h
 refine ⟨q, os.push o, ?_⟩
 show ({ (Sort.grow (a.drewN q) os) with heap := (Sort.grow (a.drewN q) os).heap.push o } : World) = _
 simp [Sort.grow]
theorem Gr.drew {a b : World} (h : Gr a b) : Gr a b.drew := by
 obtain ⟨q, os, rfl⟩ := h
 exact ⟨q + 1, os, rfl⟩
theorem Gr.below {a b : World} (h : Gr a b) : Below a.heap.size a b := by
 obtain ⟨q, os, rfl⟩ := h
 exact below_grow a q os
def cmpI (a b : Int) : Int := if a < b then -1 else if b < a then 1 else 0
theorem cmpKind_calls (a b : Int) (w : World) :
 Calls Tryz.prog 103 #[.int .u8 a, .int .u8 b] w fun e w' => e = .returned (.int .i64 (cmpI a b)) ∧ Gr w w' := by
 have ha : (a != a) = false := by simp
 have hb : (b != b) = false := by simp
 by_cases h1 : a < b
 · have H : Aside0 (cmpI a b = -1) := ⟨by unfold cmpI; rw [if_pos h1]⟩
   go_enter Tryz.func103, Tryz.ntmps103
   go_wp2
   go_ret
   refine ⟨?_, Gr.refl _⟩
   rw [H.out]; rfl
 · by_cases h2 : b < a
   · have H : Aside0 (cmpI a b = 1) := ⟨by unfold cmpI; rw [if_neg h1, if_pos h2]⟩
     go_enter Tryz.func103, Tryz.ntmps103
     go_wp2
     go_ret
     refine ⟨?_, Gr.refl _⟩
     rw [H.out]; rfl
   · have H : Aside0 (cmpI a b = 0) := ⟨by unfold cmpI; rw [if_neg h1, if_neg h2]⟩
     go_enter Tryz.func103, Tryz.ntmps103
     go_wp2
     go_ret
     refine ⟨?_, Gr.refl _⟩
     rw [H.out]; rfl
theorem cmpInt_calls (a b : Int) (w : World) :
 Calls Tryz.prog 104 #[.int .i64 a, .int .i64 b] w fun e w' => e = .returned (.int .i64 (cmpI a b)) ∧ Gr w w' := by
 have ha : (a != a) = false := by simp
 have hb : (b != b) = false := by simp
 by_cases h1 : a < b
 · have H : Aside0 (cmpI a b = -1) := ⟨by unfold cmpI; rw [if_pos h1]⟩
   go_enter Tryz.func104, Tryz.ntmps104
   go_wp2
   go_ret
   refine ⟨?_, Gr.refl _⟩
   rw [H.out]; rfl
 · by_cases h2 : b < a
   · have H : Aside0 (cmpI a b = 1) := ⟨by unfold cmpI; rw [if_neg h1, if_pos h2]⟩
     go_enter Tryz.func104, Tryz.ntmps104
     go_wp2
     go_ret
     refine ⟨?_, Gr.refl _⟩
     rw [H.out]; rfl
   · have H : Aside0 (cmpI a b = 0) := ⟨by unfold cmpI; rw [if_neg h1, if_neg h2]⟩
     go_enter Tryz.func104, Tryz.ntmps104
     go_wp2
     go_ret
     refine ⟨?_, Gr.refl _⟩
     rw [H.out]; rfl
def compareV (a b : V) : Int :=
 if cmpI a.f0 b.f0 = 0 then (if a.f0 = 0 then 0 else if a.f0 = 2 then Lib.compareBytes a.f2.data.toList b.f2.data.toList else cmpI a.f1 b.f1) else cmpI a.f0 b.f0
def KindOk (v : V) : Prop := v.f0 = 0 ∨ v.f0 = 1 ∨ v.f0 = 2 ∨ v.f0 = 3
theorem compare_calls (a b : V) (ha : KindOk a) (w : World) :
 Calls Tryz.prog 91 #[.agg #[.int .u8 a.f0, .int .i64 a.f1, .string a.f2], .agg #[.int .u8 b.f0, .int .i64 b.f1, .string b.f2]] w fun e w' => e = .returned (.int .i64 (compareV a b)) ∧ Gr w w' := by
 have HA := Aside0.mk ha
 clear ha
 have B1 := Aside0.mk (((Gr.refl w).alloc (.cells #[.int .u8 a.f0, .int .i64 a.f1, .string a.f2] 36)).alloc (.cells #[.int .u8 b.f0, .int .i64 b.f1, .string b.f2] 36))
 have D1 : Aside0 (((w.alloc (.cells #[.int .u8 a.f0, .int .i64 a.f1, .string a.f2] 36)).alloc (.cells #[.int .u8 b.f0, .int .i64 b.f1, .string b.f2] 36)).heap[w.heap.size]? = some (.cells #[.int .u8 a.f0, .int .i64 a.f1, .string a.f2] 36 (0, 0))) := ⟨by
  rw [Below.heap_alloc _ _ _ (by simp)]; exact heap_alloc_new _ _⟩
 have D2 : Aside0 (((w.alloc (.cells #[.int .u8 a.f0, .int .i64 a.f1, .string a.f2] 36)).alloc (.cells #[.int .u8 b.f0, .int .i64 b.f1, .string b.f2] 36)).heap[w.heap.size + 1]? = some (.cells #[.int .u8 b.f0, .int .i64 b.f1, .string b.f2] 36 (0, 0))) := ⟨by
  have := heap_alloc_new (w.alloc (.cells #[.int .u8 a.f0, .int .i64 a.f1, .string a.f2] 36)) (.cells #[.int .u8 b.f0, .int .i64 b.f1, .string b.f2] 36)
  simpa using this⟩
 go_enter Tryz.func91, Tryz.ntmps91
 go_wp2_with fail
 refine (cmpKind_calls a.f0 b.f0 _).mono ?_
 rintro e w1 ⟨rfl, hb1⟩
 have HB1 := Aside0.mk (B1.out.trans hb1)
 have E1 := (hb1.below.block w.heap.size (by simp; omega)).trans D1.out
 have E2 := (hb1.below.block (w.heap.size + 1) (by simp)).trans D2.out
 have q0 : w1.cell? ⟨w.heap.size, 0, none⟩ = some (.int .u8 a.f0) := (blk_cell E1 0).trans rfl
 have q1 : w1.cell? ⟨w.heap.size, 1, none⟩ = some (.int .i64 a.f1) := (blk_cell E1 1).trans rfl
 have q2 : w1.cell? ⟨w.heap.size, 2, none⟩ = some (.string a.f2) := (blk_cell E1 2).trans rfl
 have p1 : w1.cell? ⟨w.heap.size + 1, 1, none⟩ = some (.int .i64 b.f1) := (blk_cell E2 1).trans rfl
 have p2 : w1.cell? ⟨w.heap.size + 1, 2, none⟩ = some (.string b.f2) := (blk_cell E2 2).trans rfl
 clear hb1 D1 D2 E1 E2
 obtain ⟨c, hc⟩ : ∃ c, c = cmpI a.f0 b.f0 := ⟨_, rfl⟩
 rw [← hc]
 by_cases hz : c = 0
 · have z1 : (c != 0) = false := by simp [hz]
   have HZ : Aside0 (cmpI a.f0 b.f0 = 0) := ⟨by rw [← hc, hz]⟩
   clear hz hc
   rcases HA.out with hk | hk | hk | hk
   · have k0 : (a.f0 == 0) = true := by simp [hk]
     have H : Aside0 (compareV a b = 0) := ⟨by unfold compareV; rw [if_pos HZ.out, if_pos hk]⟩
     clear hk
     go_wp2
     go_ret
     refine ⟨?_, HB1.out⟩
     rw [H.out]; rfl
   · have k0 : (a.f0 == 0) = false := by simp [hk]
     have k1 : (a.f0 == 1) = true := by simp [hk]
     have H : Aside0 (compareV a b = cmpI a.f1 b.f1) := ⟨by unfold compareV; rw [if_pos HZ.out, if_neg (by omega), if_neg (by omega)]⟩
     clear hk
     go_wp2_with fail
     refine (cmpInt_calls a.f1 b.f1 w1).mono ?_
     rintro e w2 ⟨rfl, hb2⟩
     have HB2 := Aside0.mk (HB1.out.trans hb2)
     clear hb2
     go_wp2
     go_ret
     refine ⟨?_, HB2.out⟩
     rw [H.out]; rfl
   · have k0 : (a.f0 == 0) = false := by simp [hk]
     have k1 : (a.f0 == 1) = false := by simp [hk]
     have k3 : (a.f0 == 3) = false := by simp [hk]
     have k2 : (a.f0 == 2) = true := by simp [hk]
     have H : Aside0 (compareV a b = Lib.compareBytes a.f2.data.toList b.f2.data.toList) := ⟨by unfold compareV; rw [if_pos HZ.out, if_neg (by omega), if_pos hk]⟩
     clear hk
     go_wp2_with fail
     refine (Tryz.strings_Compare a.f2 b.f2 w1).mono ?_
     rintro e w2 ⟨rfl, hb2⟩
     have HB2 := Aside0.mk (show Gr w w2 by rw [hb2]; exact HB1.out)
     clear hb2
     go_wp2
     go_ret
     refine ⟨?_, HB2.out⟩
     rw [H.out]; rfl
   · have k0 : (a.f0 == 0) = false := by simp [hk]
     have k1 : (a.f0 == 1) = false := by simp [hk]
     have k3 : (a.f0 == 3) = true := by simp [hk]
     have H : Aside0 (compareV a b = cmpI a.f1 b.f1) := ⟨by unfold compareV; rw [if_pos HZ.out, if_neg (by omega), if_neg (by omega)]⟩
     clear hk
     go_wp2_with fail
     refine (cmpInt_calls a.f1 b.f1 w1).mono ?_
     rintro e w2 ⟨rfl, hb2⟩
     have HB2 := Aside0.mk (HB1.out.trans hb2)
     clear hb2
     go_wp2
     go_ret
     refine ⟨?_, HB2.out⟩
     rw [H.out]; rfl
 · have z1 : (c != 0) = true := by simpa using hz
   have H : Aside0 (compareV a b = c) := ⟨by unfold compareV; rw [if_neg (by rw [← hc]; exact hz), hc]⟩
   clear hz hc
   go_wp2
   go_ret
   refine ⟨?_, HB1.out⟩
   rw [H.out]; rfl
def cmpRows : List V → List V → Int
 | [], [] => 0
 | [], _ :: _ => -1
 | _ :: _, [] => 1
 | a :: x, b :: y => if compareV a b = 0 then cmpRows x y else compareV a b
theorem cmpRows_nil (l : List V) : cmpRows [] l = if l.length = 0 then 0 else -1 := by
 cases l <;> simp [cmpRows]
theorem compareFunc_calls (A0 : Option Addr) (c0 : Nat) (l0 : List V) (A1 : Option Addr) (c1 : Nat) (l1 : List V) (w : World) (hr0 : Kd.C kV w A0 l0.length l0) (hr1 : Kd.C kV w A1 l1.length l1) (hk : ∀ v ∈ l0, KindOk v) (hn0 : l0.length ≤ 1099511627776) (hn1 : l1.length ≤ 1099511627776) :
 Calls Tryz.prog 99 #[.slice A0 l0.length c0, .slice A1 l1.length c1, .func (.func 91) #[] #[]] w fun e w' => e = .returned (.int .i64 (cmpRows l0 l1)) ∧ Gr w w' := by
 have HR0 := Aside0.mk hr0
 have HR1 := Aside0.mk hr1
 have HK := Aside0.mk hk
 have HN0 := Aside0.mk hn0
 have HN1 := Aside0.mk hn1
 clear hr0 hr1 hk hn0 hn1
 go_enter Tryz.func99, Tryz.ntmps99
 go_wp2
 go_loopg [13] l0.length (fun kq v13 W => ∃ x : Nat, v13 = .int .i64 x ∧ Aside0 (x ≤ l0.length ∧ x ≤ l1.length ∧ kq = l0.length - x) ∧ Aside0 (cmpRows l0 l1 = cmpRows (l0.drop x) (l1.drop x)) ∧ Aside0 (Gr w W))
 case atStart => exact ⟨0, rfl, ⟨by omega⟩, ⟨rfl⟩, ⟨Gr.refl _⟩⟩
 case round =>
  obtain ⟨x, rfl, HX, HI, HB⟩ := hrel
  obtain ⟨hx0, hx1, hkq⟩ := HX.out
  by_cases hlt : x < l0.length
  · have c1' : decide ((x : Int) < (l0.length : Int)) = true := decide_eq_true (by omega)
    have c2 : decide (0 ≤ (x : Int)) = true := decide_eq_true (by omega)
    obtain ⟨ad, e, hx_0, hx_1, hx_2⟩ := at_T36 HR0.out (x : Int) (by omega) (by omega)
    cases e
    replace hx_0 := (HB.out.below.cell (World.block_lt_of_cell? w _ hx_0)).trans hx_0
    replace hx_1 := (HB.out.below.cell (World.block_lt_of_cell? w _ hx_1)).trans hx_1
    replace hx_2 := (HB.out.below.cell (World.block_lt_of_cell? w _ hx_2)).trans hx_2
    rw [rdV_at hlt] at hx_0 hx_1 hx_2
    rw [drop_cons l0 x hlt] at HI
    have hkv := HK.out l0[x] (List.getElem_mem hlt)
    obtain ⟨y, hy⟩ : ∃ y, y = l0[x] := ⟨_, rfl⟩
    rw [← hy] at hx_0 hx_1 hx_2 HI hkv
    have HKV := Aside0.mk hkv
    have HWR : Aside0 (wrap64 ((x : Int) + 1) = (x : Int) + 1) := ⟨by have := HN0.out; unfold wrap64; omega⟩
    have HLT := Aside0.mk hlt
    have HKQ := Aside0.mk hkq
    clear hy hkq hkv
    simp only [Int.toNat_natCast] at hx_0 hx_1 hx_2
    by_cases hge : l1.length ≤ x
    · have c3 : decide ((x : Int) ≥ (l1.length : Int)) = true := decide_eq_true (by omega)
      have c4 : decide (l1.length ≤ x) = true := decide_eq_true hge
      have H : Aside0 (cmpRows l0 l1 = 1) := ⟨by rw [HI.out, List.drop_eq_nil_of_le hge]; rfl⟩
      have HG := Aside0.mk hge
      have B2 := Aside0.mk (HB.out.alloc (.cells #[.int .u8 y.f0, .int .i64 y.f1, .string y.f2] 36))
      clear hge
      go_wp2
      go_ret
      refine ⟨?_, B2.out⟩
      rw [H.out]; rfl
    · have c3 : decide ((x : Int) ≥ (l1.length : Int)) = false := decide_eq_false (by omega)
      have c4 : decide (l1.length ≤ x) = false := decide_eq_false hge
      have c5 : decide ((x : Int) < (l1.length : Int)) = true := decide_eq_true (by omega)
      have c6 : decide (x < l1.length) = true := decide_eq_true (by omega)
      have hlt1 : x < l1.length := by omega
      obtain ⟨ad1, e, hz_0, hz_1, hz_2⟩ := at_T36 HR1.out (x : Int) (by omega) (by omega)
      cases e
      replace hz_0 := (HB.out.below.cell (World.block_lt_of_cell? w _ hz_0)).trans hz_0
      replace hz_1 := (HB.out.below.cell (World.block_lt_of_cell? w _ hz_1)).trans hz_1
      replace hz_2 := (HB.out.below.cell (World.block_lt_of_cell? w _ hz_2)).trans hz_2
      rw [rdV_at hlt1] at hz_0 hz_1 hz_2
      rw [drop_cons l1 x hlt1] at HI
      obtain ⟨z, hz⟩ : ∃ z, z = l1[x] := ⟨_, rfl⟩
      rw [← hz] at hz_0 hz_1 hz_2 HI
      have HLT1 := Aside0.mk hlt1
      clear hz hge
      simp only [Int.toNat_natCast] at hz_0 hz_1 hz_2
      have s0 : ∀ o, (wr.alloc o).cell? (ad1.add (x * 3)) = some (.int .u8 z.f0) := fun o => (((Below.refl _ _).alloc (Nat.le_refl _) o).cell (World.block_lt_of_cell? wr _ hz_0)).trans hz_0
      have s1 : ∀ o, (wr.alloc o).cell? ⟨(ad1.add (x * 3)).block, (ad1.add (x * 3)).off + 1, none⟩ = some (.int .i64 z.f1) := fun o => (((Below.refl _ _).alloc (Nat.le_refl _) o).cell (World.block_lt_of_cell? wr _ hz_1)).trans hz_1
      have s2 : ∀ o, (wr.alloc o).cell? ⟨(ad1.add (x * 3)).block, (ad1.add (x * 3)).off + 2, none⟩ = some (.string z.f2) := fun o => (((Below.refl _ _).alloc (Nat.le_refl _) o).cell (World.block_lt_of_cell? wr _ hz_2)).trans hz_2
      have B2 := Aside0.mk ((HB.out.alloc (.cells #[.int .u8 y.f0, .int .i64 y.f1, .string y.f2] 36)).alloc (.cells #[.int .u8 z.f0, .int .i64 z.f1, .string z.f2] 36))
      go_wp2_with fail
      refine (compare_calls y z HKV.out _).mono ?_
      rintro e w1 ⟨rfl, hb1⟩
      have HB1 := Aside0.mk (B2.out.trans hb1)
      clear hb1 s0 s1 s2
      obtain ⟨c, hc⟩ : ∃ c, c = compareV y z := ⟨_, rfl⟩
      rw [← hc]
      by_cases h0 : c = 0
      · have z1 : (c != 0) = false := by simp [h0]
        have HI2 : Aside0 (cmpRows l0 l1 = cmpRows (l0.drop (x + 1)) (l1.drop (x + 1))) := ⟨by rw [HI.out]; simp only [cmpRows]; rw [if_pos (by rw [← hc, h0])]⟩
        clear h0 hc
        go_wp2
        have hlt := HLT.out
        have hlt1 := HLT1.out
        have hk := HKQ.out
        cases gk with
        | zero => omega
        | succ k1 =>
         go_roundg k1
         case measure => omega
         case rel => exact ⟨x + 1, by rw [HWR.out]; rfl, ⟨by omega⟩, HI2, HB1⟩
      · have z1 : (c != 0) = true := by simpa using h0
        have H : Aside0 (cmpRows l0 l1 = c) := ⟨by rw [HI.out]; simp only [cmpRows]; rw [if_neg (by rw [← hc]; exact h0), hc]⟩
        clear h0 hc
        go_wp2
        go_ret
        refine ⟨?_, HB1.out⟩
        rw [H.out]; rfl
  · have c1' : decide ((x : Int) < (l0.length : Int)) = false := decide_eq_false (by omega)
    have hxe : x = l0.length := by omega
    rw [List.drop_eq_nil_of_le (by omega), cmpRows_nil, List.length_drop, hxe] at HI
    by_cases hl : l0.length < l1.length
    · have c3 : decide (l0.length < l1.length) = true := decide_eq_true hl
      have H : Aside0 (cmpRows l0 l1 = -1) := ⟨by rw [HI.out, if_neg (by omega)]⟩
      clear hl hxe
      go_wp2
      go_ret
      refine ⟨?_, HB.out⟩
      rw [H.out]; rfl
    · have c3 : decide (l0.length < l1.length) = false := decide_eq_false hl
      have H : Aside0 (cmpRows l0 l1 = 0) := ⟨by rw [HI.out, if_pos (by omega)]⟩
      clear hl hxe
      go_wp2
      go_ret
      refine ⟨?_, HB.out⟩
      rw [H.out]; rfl
theorem compareRows_calls (A0 : Option Addr) (c0 : Nat) (l0 : List V) (A1 : Option Addr) (c1 : Nat) (l1 : List V) (w : World) (hr0 : Kd.C kV w A0 l0.length l0) (hr1 : Kd.C kV w A1 l1.length l1) (hk : ∀ v ∈ l0, KindOk v) (hn0 : l0.length ≤ 1099511627776) (hn1 : l1.length ≤ 1099511627776) :
 Calls Tryz.prog 83 #[.slice A0 l0.length c0, .slice A1 l1.length c1] w fun e w' => e = .returned (.int .i64 (cmpRows l0 l1)) ∧ Gr w w' := by
 have H := Aside0.mk (compareFunc_calls A0 c0 l0 A1 c1 l1 w hr0 hr1 hk hn0 hn1)
 clear hr0 hr1 hk hn0 hn1
 go_enter Tryz.func83, Tryz.ntmps83
 go_wp2_with fail
 refine H.out.mono ?_
 rintro e w1 ⟨rfl, hb1⟩
 have HB1 := Aside0.mk hb1
 clear hb1
 go_wp2
 go_ret
 exact ⟨rfl, HB1.out⟩
end Go.Proofs.YtecgkcgfeghhgaaGreatDoor.PAll
set_option linter.unusedVariables false
set_option linter.unusedSimpArgs false
namespace Go.Proofs.YtecgkcgfeghhgaaGreatDoor.PAll
open Go.RowKit Go.Proofs.YtecgkcgfeghhgaaGreatDoorW.PrintWords Go.Proofs.YtecgkcgfeghhgaaGreatDoorW.PrintLast Go.Proofs.YtecgkcgfeghhgaaGreatDoorW.PrintMore
open Go.Shelf Go.Lib
theorem add64 (x y c : Int) (hx : 0 ≤ x) (hy : 0 ≤ y) (hc : 0 ≤ c) (hc1 : c ≤ 1) (w : World) :
 (callFunc 160 #[.int .u64 x, .int .u64 y, .int .u64 c]).run Tryz.prog w = .ok (.value (.tuple #[.int .u64 ((x + y + c) % 18446744073709551616), .int .u64 ((x + y + c) / 18446744073709551616)])) w := by
 obtain ⟨a, rfl⟩ := Int.eq_ofNat_of_zero_le hx
 obtain ⟨b, rfl⟩ := Int.eq_ofNat_of_zero_le hy
 obtain ⟨d, rfl⟩ := Int.eq_ofNat_of_zero_le hc
 have h := Any7.bits_Add64 add64L a b d (by omega) w
 change (callFunc 160 _).run _ _ = _ at h
 simpa using h
theorem grownBy_set0 {w W : World} {b : Nat} (h : w.grownBy W (some b)) (j : Nat) (u : Value) : w.grownBy (W.setCell ⟨b, j, none⟩ u) (some b) :=
 ⟨h.os, h.tape, h.output, Nat.le_trans h.size (by simp [World.setCell]), fun k hk hne => (Below.heap_setCell W _ _ k (fun e => hne (by rw [e]))).trans (h.block k hk hne)⟩
theorem grownBy_set {w W : World} {b : Nat} (h : w.grownBy W (some b)) (j : Nat) (u : Value) : w.grownBy ((W.setCell ⟨b, j, none⟩ u).drew) (some b) :=
 ⟨h.os, h.tape, h.output, Nat.le_trans h.size (by simp [World.setCell, World.drew]), fun k hk hne => (Below.heap_setCell W _ _ k (fun e => hne (by rw [e]))).trans (h.block k hk hne)⟩
theorem total_take (S : TypeId) (b : Nat) (h l n : Int) (v : V) (w : World) (hb : w.heap[b]? = some (.cells #[.int .u64 h, .int .u64 l, .int .u64 n] S (0, 0))) (h0 : 0 ≤ h) (l0 : 0 ≤ l) (l1 : l < 18446744073709551616) :
 Calls Tryz.prog 158 #[.pointer (some ⟨b, 0, none⟩), .agg #[.int .u8 v.f0, .int .i64 v.f1, .string v.f2]] w fun e w' => e = .returned (.tuple #[]) ∧ w'.heap[b]? = some (.cells #[.int .u64 ((h + IntKind.u64.wrap (v.f1 / 9223372036854775808) + (l + IntKind.u64.wrap v.f1) / 18446744073709551616) % 18446744073709551616), .int .u64 ((l + IntKind.u64.wrap v.f1) % 18446744073709551616), .int .u64 (IntKind.u64.wrap (n + 1))] S (0, 0)) ∧ w.grownBy w' (some b) := by
 have hlt : b < w.heap.size := (Array.getElem?_eq_some_iff.1 hb).1
 have C0 : (w.alloc (.cells #[.int .u8 v.f0, .int .i64 v.f1, .string v.f2] 36)).heap[b]? = some (.cells #[.int .u64 h, .int .u64 l, .int .u64 n] S (0, 0)) := (Below.heap_alloc w _ b hlt).trans hb
 have hg : w.grownBy (w.alloc (.cells #[.int .u8 v.f0, .int .i64 v.f1, .string v.f2] 36)) (some b) := ⟨rfl, rfl, rfl, by simp, fun k hk _ => Below.heap_alloc w _ k hk⟩
 have V1 : (w.alloc (.cells #[.int .u8 v.f0, .int .i64 v.f1, .string v.f2] 36)).heap[w.heap.size]? = some (.cells #[.int .u8 v.f0, .int .i64 v.f1, .string v.f2] 36 (0, 0)) := heap_alloc_new _ _
 have hne : b ≠ w.heap.size := by omega
 have HG := Aside0.mk hg
 have HNE := Aside0.mk hne
 have HLT := Aside0.mk hlt
 have HL1 := Aside0.mk l1
 clear l1
 clear hg hne hb hlt
 obtain ⟨W, hW⟩ : ∃ W, W = w.alloc (.cells #[.int .u8 v.f0, .int .i64 v.f1, .string v.f2] 36) := ⟨_, rfl⟩
 obtain ⟨q, hq⟩ : ∃ q, q = w.heap.size := ⟨_, rfl⟩
 rw [← hW] at C0 V1 HG
 rw [← hq] at V1 HNE
 have HW := Aside0.mk hW
 have HQ := Aside0.mk hq
 clear hW hq
 have F0 : W.cell? ⟨b, 0, none⟩ = some (.int .u64 h) := (blk_cell C0 0).trans rfl
 have F1 : W.cell? ⟨b, 1, none⟩ = some (.int .u64 l) := (blk_cell C0 1).trans rfl
 have F2 : W.cell? ⟨b, 2, none⟩ = some (.int .u64 n) := (blk_cell C0 2).trans rfl
 have F3 : W.cell? ⟨q, 1, none⟩ = some (.int .i64 v.f1) := (blk_cell V1 1).trans rfl
 have F4 : ∀ j, W.frozen? ⟨b, j, none⟩ = false := fun j => by simp [World.frozen?, C0]
 have HC0 := Aside0.mk C0
 have HV1 := Aside0.mk V1
 have A1 : ∀ W, (callFunc 160 #[.int .u64 l, .int .u64 (IntKind.u64.wrap v.f1), .int .u64 0]).run Tryz.prog W = .ok (.value (.tuple #[.int .u64 ((l + IntKind.u64.wrap v.f1 + 0) % 18446744073709551616), .int .u64 ((l + IntKind.u64.wrap v.f1 + 0) / 18446744073709551616)])) W := fun W => add64 _ _ _ l0 (by simp [IntKind.wrap, IntKind.bits, IntKind.signed]; omega) (by omega) (by omega) W
 clear C0 V1
 go_enter Tryz.func158, Tryz.ntmps158
 go_wp2
 rw [← HW.out, ← HQ.out]
 go_region
 obtain ⟨lw, hlw⟩ : ∃ lw, lw = (l + IntKind.u64.wrap v.f1) % 18446744073709551616 := ⟨_, rfl⟩
 obtain ⟨cw, hcw⟩ : ∃ cw, cw = (l + IntKind.u64.wrap v.f1) / 18446744073709551616 := ⟨_, rfl⟩
 obtain ⟨W2, hW2⟩ : ∃ W2, W2 = (W.setCell ⟨b, 1, none⟩ (.int .u64 lw)).drew := ⟨_, rfl⟩
 have hsr : 0 ≤ IntKind.u64.wrap v.f1 ∧ IntKind.u64.wrap v.f1 < 18446744073709551616 := by simp [IntKind.wrap, IntKind.bits, IntKind.signed]; omega
 have hcw0 : 0 ≤ cw := by rw [hcw]; omega
 have hcw1 : cw ≤ 1 := by rw [hcw]; have := HL1.out; omega
 have C2 : W2.heap[b]? = some (.cells #[.int .u64 h, .int .u64 lw, .int .u64 n] S (0, 0)) := by rw [hW2]; exact (blk_set HC0.out 1 _).trans rfl
 have V2 : W2.heap[q]? = some (.cells #[.int .u8 v.f0, .int .i64 v.f1, .string v.f2] 36 (0, 0)) := by rw [hW2]; exact (Below.heap_setCell W _ _ q (Ne.symm HNE.out)).trans HV1.out
 have G2 : Aside0 (w.grownBy W2 (some b)) := ⟨by rw [hW2]; exact grownBy_set HG.out 1 _⟩
 rw [← hlw, ← hcw]
 rw [← hW2]
 have HLW := Aside0.mk hlw
 have HCW := Aside0.mk hcw
 clear hlw hcw hW2 F0 F1 F2 F3 F4 A1 hsr HW HQ HC0 HV1 HG
 have F0 : W2.cell? ⟨b, 0, none⟩ = some (.int .u64 h) := (blk_cell C2 0).trans rfl
 have F3 : W2.cell? ⟨q, 1, none⟩ = some (.int .i64 v.f1) := (blk_cell V2 1).trans rfl
 have F4 : ∀ j, W2.frozen? ⟨b, j, none⟩ = false := fun j => by simp [World.frozen?, C2]
 have A1 : ∀ W, (callFunc 160 #[.int .u64 h, .int .u64 (IntKind.u64.wrap (v.f1 / 9223372036854775808)), .int .u64 cw]).run Tryz.prog W = .ok (.value (.tuple #[.int .u64 ((h + IntKind.u64.wrap (v.f1 / 9223372036854775808) + cw) % 18446744073709551616), .int .u64 ((h + IntKind.u64.wrap (v.f1 / 9223372036854775808) + cw) / 18446744073709551616)])) W := fun W => add64 _ _ _ h0 (by simp [IntKind.wrap, IntKind.bits, IntKind.signed]; omega) hcw0 hcw1 W
 have HC2 := Aside0.mk C2
 clear C2 V2 hcw0 hcw1
 go_wp2
 go_region
 obtain ⟨hw', hhw⟩ : ∃ hw, hw = (h + IntKind.u64.wrap (v.f1 / 9223372036854775808) + cw) % 18446744073709551616 := ⟨_, rfl⟩
 obtain ⟨W3, hW3⟩ : ∃ W3, W3 = (W2.setCell ⟨b, 0, none⟩ (.int .u64 hw')).drew := ⟨_, rfl⟩
 have C3 : W3.heap[b]? = some (.cells #[.int .u64 hw', .int .u64 lw, .int .u64 n] S (0, 0)) := by rw [hW3]; exact (blk_set HC2.out 0 _).trans rfl
 have G3 : Aside0 (w.grownBy W3 (some b)) := ⟨by rw [hW3]; exact grownBy_set G2.out 0 _⟩
 rw [← hhw]
 rw [← hW3]
 have HHW := Aside0.mk hhw
 clear hhw hW3 F0 F3 F4 A1 HC2 G2
 have F2 : W3.cell? ⟨b, 2, none⟩ = some (.int .u64 n) := (blk_cell C3 2).trans rfl
 have F4 : ∀ j, W3.frozen? ⟨b, j, none⟩ = false := fun j => by simp [World.frozen?, C3]
 have HC3 := Aside0.mk C3
 clear C3
 go_wp2
 go_end0
 refine ⟨rfl, ?_, ?_⟩
 · rw [← HCW.out, ← HHW.out, ← HLW.out]
   exact (blk_set HC3.out 2 _).trans rfl
 · exact (grownBy_set0 G3.out 2 _)
end Go.Proofs.YtecgkcgfeghhgaaGreatDoor.PAll
namespace Go.Proofs.YtecgkcgfeghhgaaGreatDoor.PAll
open Go.RowKit Go.Proofs.YtecgkcgfeghhgaaGreatDoorW.PrintWords Go.Proofs.YtecgkcgfeghhgaaGreatDoorW.PrintLast Go.Proofs.YtecgkcgfeghhgaaGreatDoorW.PrintMore
attribute [local go_sem] max2_int min2_int max_two min_two max_three min_three max_four min_four
set_option linter.unusedVariables false
set_option linter.unusedSimpArgs false
def value_Int.f (a0 : Int) : Option (Int × Int × ByteArray) := some (1, a0, (⟨#[]⟩ : ByteArray))
theorem value_Int.calls (a0 : Int) (r1 : Int) (r2 : Int) (r3 : ByteArray) (w : World) (h : value_Int.f a0 = some (r1, r2, r3)) :
 Calls Tryz.prog 159 #[.int .i64 a0] w fun e w' => e = .returned (.agg #[.int .u8 r1, .int .i64 r2, .string r3]) ∧ Below w.heap.size w w' := by
 have hu36 := Tryz.underlying36
 have HB := Aside0.mk (Below.refl w.heap.size w)
 have H : (some (1, a0, (⟨#[]⟩ : ByteArray))) = some (r1, r2, r3) := h
 clear h
 simp only [Option.some.injEq, Prod.mk.injEq] at H
 obtain ⟨rfl, rfl, rfl⟩ := H
 go_enter Tryz.func159, Tryz.ntmps159
 go_wp2_with (first | ((with_reducible refine gate_dst (N := 2) rfl ?_); refine box_event ?hg (N := 2) ?hd (cs := #[.int .u8 0, .int .i64 0, .string (⟨#[]⟩ : ByteArray)]) (t := 36) ?hr ?_; (case hd => rfl); (case hg => rfl); (case hr => first | (go_simp; done) | (go_simp; rfl)); intro gb123 hg w2 hbox hb; have n0_ := Aside0.mk (below_step (by repeat (first | (with_reducible first | exact HB.out | apply bA_ | apply bN_ | apply b1_) | exact HB.out)) hb); have n1_ := Aside0.mk (hbox); have n2_ := Aside0.mk ((by rw [hg]; exact (below_size (by repeat (first | (with_reducible first | exact HB.out | apply bA_ | apply bN_ | apply b1_) | exact HB.out))) : w.heap.size ≤ gb123)); have n3_ := Aside0.mk ((by rw [hg]; exact (below_size (by repeat (first | (with_reducible first | exact HB.out | apply bA_ | apply bN_ | apply b1_) | exact HB.out))) : w.heap.size ≤ gb123)); clear HB; have HB := n0_; have BK123 := n1_; have GW123 := n2_; have GE123 := n3_; clear n0_ n1_ n2_ n3_; clear hb hbox hg; have hcz3_0 : w2.cell? ⟨gb123, 0, none⟩ = some (.int .u8 0) := (blk_cell BK123.out 0).trans rfl; have hcz3_1 : w2.cell? ⟨gb123, 1, none⟩ = some (.int .i64 0) := (blk_cell BK123.out 1).trans rfl; have hcz3_2 : w2.cell? ⟨gb123, 2, none⟩ = some (.string (⟨#[]⟩ : ByteArray)) := (blk_cell BK123.out 2).trans rfl; have hfz3_0 := blk_frozen BK123.out 0; have hfz3_1 := blk_frozen BK123.out 1; have hfz3_2 := blk_frozen BK123.out 2))
 refine bodyPost_ret (results_cell_row rfl _ _ gb123 36 #[.int .u8 1, .int .i64 a0, .string (⟨#[]⟩ : ByteArray)] (0, 0) _ rfl (by (with_reducible repeat (first | refine blk_drewN ?_ _ | refine blk_drew ?_ | refine blk_alloc ?_ _)); refine blk_put (cs := #[.int .u8 1, .int .i64 a0, .string (⟨#[]⟩ : ByteArray)]) ?_ 2 _ rfl; (with_reducible repeat (first | refine blk_drewN ?_ _ | refine blk_drew ?_ | refine blk_alloc ?_ _)); refine blk_put (cs := #[.int .u8 1, .int .i64 0, .string (⟨#[]⟩ : ByteArray)]) ?_ 1 _ rfl; (with_reducible repeat (first | refine blk_drewN ?_ _ | refine blk_drew ?_ | refine blk_alloc ?_ _)); refine blk_put (cs := #[.int .u8 0, .int .i64 0, .string (⟨#[]⟩ : ByteArray)]) ?_ 0 _ rfl; (with_reducible repeat (first | refine blk_drewN ?_ _ | refine blk_drew ?_ | refine blk_alloc ?_ _)); exact BK123.out) Tryz.underlying36 rfl (by kernel_rfl)) rfl ?_
 exact ⟨by first | rfl | (simp [*, errW_none, errW_some] <;> rfl), by repeat (first | (with_reducible first | exact HB.out | apply bA_ | apply bN_ | apply b1_ | refine below_set ?_ GE123.out) | exact HB.out)⟩
end Go.Proofs.YtecgkcgfeghhgaaGreatDoor.PAll
set_option linter.unusedVariables false
set_option linter.unusedSimpArgs false
namespace Go.Proofs.YtecgkcgfeghhgaaGreatDoor.PAll
open Go.RowKit Go.Proofs.YtecgkcgfeghhgaaGreatDoorW.PrintWords Go.Proofs.YtecgkcgfeghhgaaGreatDoorW.PrintLast Go.Proofs.YtecgkcgfeghhgaaGreatDoorW.PrintMore
theorem out_cells {W : World} {q : Nat} {t : TypeId} {a b c d : Value} (h : W.heap[q]? = some (.cells #[a, b, c, d] t (0, 0))) (x0 x1 x2 x3 : Value) : ((((W.setCell ⟨q, 0, none⟩ x0).setCell ⟨q, 1, none⟩ x1).setCell ⟨q, 2, none⟩ x2).setCell ⟨q, 3, none⟩ x3).heap[q]? = some (.cells #[x0, x1, x2, x3] t (0, 0)) :=
 blk_put (cs := #[x0, x1, x2, d]) (blk_put (cs := #[x0, x1, c, d]) (blk_put (cs := #[x0, b, c, d]) (blk_put (cs := #[a, b, c, d]) h 0 _ rfl) 1 _ rfl) 2 _ rfl) 3 _ rfl
theorem out_below {w W : World} {q : Nat} (h : Below w.heap.size w W) (hq : q = w.heap.size) (x0 x1 x2 x3 : Value) : Below w.heap.size w ((((W.setCell ⟨q, 0, none⟩ x0).setCell ⟨q, 1, none⟩ x1).setCell ⟨q, 2, none⟩ x2).setCell ⟨q, 3, none⟩ x3) :=
 (((h.setCell (Nat.le_of_eq hq.symm) _).setCell (Nat.le_of_eq hq.symm) _).setCell (Nat.le_of_eq hq.symm) _).setCell (Nat.le_of_eq hq.symm) _
def totalOut (h l n : Int) : Int × Int × ByteArray × Int :=
 if n = 0 then (0, 0, ⟨#[]⟩, 0) else if h = IntKind.u64.wrap (wrap64 l / 9223372036854775808) then (1, wrap64 l, ⟨#[]⟩, 0) else (0, 0, ⟨#[]⟩, 4)
theorem total_done (b : Nat) (h l n : Int) (w : World) (hb : w.heap[b]? = some (.cells #[.int .u64 h, .int .u64 l, .int .u64 n] 122 (0, 0))) (r1 r2 : Int) (r3 : ByteArray) (r4 : Int) (hr : totalOut h l n = (r1, r2, r3, r4)) :
 Calls Tryz.prog 157 #[.pointer (some ⟨b, 0, none⟩)] w fun e w' => e = .returned (.agg #[.int .u8 r1, .int .i64 r2, .string r3, .int .i64 r4]) ∧ Below w.heap.size w w' := by
 have hlt : b < w.heap.size := (Array.getElem?_eq_some_iff.1 hb).1
 have HLT := Aside0.mk hlt
 have HBK := Aside0.mk hb
 have HR := Aside0.mk hr
 clear hb hlt hr
 by_cases hn : n = 0
 · have hnb : (n == 0) = true := by simp [hn]
   have HRR : Aside0 (r1 = 0 ∧ r2 = 0 ∧ r3 = ⟨#[]⟩ ∧ r4 = 0) := ⟨by
    have h := HR.out
    unfold totalOut at h
    rw [if_pos hn] at h
    simp only [Prod.mk.injEq] at h
    exact ⟨h.1.symm, h.2.1.symm, h.2.2.1.symm, h.2.2.2.symm⟩⟩
   clear hn
   go_enter Tryz.func157, Tryz.ntmps157
   go_wp2_with (first | ((with_reducible refine gate_dst (N := 2) rfl ?_); refine box_event ?hg (N := 2) ?hd (cs := #[.int .u8 0, .int .i64 0, .string (⟨#[]⟩ : ByteArray), .int .i64 0]) (t := 38) ?hr ?_; (case hd => rfl); (case hg => rfl); (case hr => first | (go_simp; done) | (go_simp; rfl)); intro q hq W hN hb1; have C0 := (hb1.block b HLT.out).trans HBK.out; have HB1 := Aside0.mk hb1; have HQ := Aside0.mk hq; have HN0 := Aside0.mk hN; have F0 : W.cell? ⟨b, 0, none⟩ = some (.int .u64 h) := (blk_cell C0 0).trans rfl; have F1 : W.cell? ⟨b, 1, none⟩ = some (.int .u64 l) := (blk_cell C0 1).trans rfl; have F2 : W.cell? ⟨b, 2, none⟩ = some (.int .u64 n) := (blk_cell C0 2).trans rfl; have G0 : W.cell? ⟨q, 0, none⟩ = some (.int .u8 0) := (blk_cell hN 0).trans rfl; have G1 : W.cell? ⟨q, 1, none⟩ = some (.int .i64 0) := (blk_cell hN 1).trans rfl; have G2 : W.cell? ⟨q, 2, none⟩ = some (.string ⟨#[]⟩) := (blk_cell hN 2).trans rfl; have G3 : W.cell? ⟨q, 3, none⟩ = some (.int .i64 0) := (blk_cell hN 3).trans rfl; have F4 : ∀ j, W.frozen? ⟨q, j, none⟩ = false := (fun j => by simp [World.frozen?, hN]); clear hb1 hq hN C0))
   refine bodyPost_ret (results_cell_row rfl _ _ q 38 #[.int .u8 0, .int .i64 0, .string (⟨#[]⟩ : ByteArray), .int .i64 0] (0, 0) _ rfl (out_cells HN0.out _ _ _ _) Tryz.underlying38 rfl (by kernel_rfl)) rfl ?_
   refine ⟨?_, out_below HB1.out HQ.out _ _ _ _⟩
   obtain ⟨rfl, rfl, rfl, rfl⟩ := HRR.out
   rfl
 · have hnb : (n == 0) = false := by simp [hn]
   by_cases hc : h = IntKind.u64.wrap (wrap64 l / 9223372036854775808)
   · have hcb : (h != IntKind.u64.wrap (wrap64 l / 9223372036854775808)) = false := by simp [← hc]
     have HRR : Aside0 (r1 = 1 ∧ r2 = wrap64 l ∧ r3 = ⟨#[]⟩ ∧ r4 = 0) := ⟨by
      have h := HR.out
      unfold totalOut at h
      rw [if_neg hn, if_pos hc] at h
      simp only [Prod.mk.injEq] at h
      exact ⟨h.1.symm, h.2.1.symm, h.2.2.1.symm, h.2.2.2.symm⟩⟩
     clear hn hc
     go_enter Tryz.func157, Tryz.ntmps157
     go_wp2_with (first | ((with_reducible refine gate_dst (N := 2) rfl ?_); refine box_event ?hg (N := 2) ?hd (cs := #[.int .u8 0, .int .i64 0, .string (⟨#[]⟩ : ByteArray), .int .i64 0]) (t := 38) ?hr ?_; (case hd => rfl); (case hg => rfl); (case hr => first | (go_simp; done) | (go_simp; rfl)); intro q hq W hN hb1; have C0 := (hb1.block b HLT.out).trans HBK.out; have HB1 := Aside0.mk hb1; have HQ := Aside0.mk hq; have HN0 := Aside0.mk hN; have F0 : W.cell? ⟨b, 0, none⟩ = some (.int .u64 h) := (blk_cell C0 0).trans rfl; have F1 : W.cell? ⟨b, 1, none⟩ = some (.int .u64 l) := (blk_cell C0 1).trans rfl; have F2 : W.cell? ⟨b, 2, none⟩ = some (.int .u64 n) := (blk_cell C0 2).trans rfl; have G0 : W.cell? ⟨q, 0, none⟩ = some (.int .u8 0) := (blk_cell hN 0).trans rfl; have G1 : W.cell? ⟨q, 1, none⟩ = some (.int .i64 0) := (blk_cell hN 1).trans rfl; have G2 : W.cell? ⟨q, 2, none⟩ = some (.string ⟨#[]⟩) := (blk_cell hN 2).trans rfl; have G3 : W.cell? ⟨q, 3, none⟩ = some (.int .i64 0) := (blk_cell hN 3).trans rfl; have F4 : ∀ j, W.frozen? ⟨q, j, none⟩ = false := (fun j => by simp [World.frozen?, hN]); clear hb1 hq hN C0))
     go_region
     obtain ⟨W2, hW2⟩ : ∃ W2, W2 = W.drew := ⟨_, rfl⟩
     rw [← hW2]
     have HN2 : Aside0 (W2.heap[q]? = some (.cells #[.int .u8 0, .int .i64 0, .string ⟨#[]⟩, .int .i64 0] 38 (0, 0))) := ⟨by rw [hW2]; exact HN0.out⟩
     have HB2 : Aside0 (Below w.heap.size w W2) := ⟨by rw [hW2]; exact HB1.out.drew⟩
     have F1' : W2.cell? ⟨b, 1, none⟩ = some (.int .u64 l) := by rw [hW2]; exact F1
     clear hW2 F0 F1 F2 F4 G0 G1 G2 G3
     go_wp2_with fail
     refine (value_Int.calls (wrap64 l) 1 (wrap64 l) ⟨#[]⟩ W2 rfl).mono ?_
     rintro e W3 ⟨rfl, hb3⟩
     have hN3 := (hb3.block q (blk_lt HN2.out)).trans HN2.out
     have HN3 := Aside0.mk hN3
     have HB3 := Aside0.mk (HB2.out.trans (hb3.mono HB2.out.size))
     have G0 : W3.cell? ⟨q, 0, none⟩ = some (.int .u8 0) := (blk_cell hN3 0).trans rfl
     have G1 : W3.cell? ⟨q, 1, none⟩ = some (.int .i64 0) := (blk_cell hN3 1).trans rfl
     have G2 : W3.cell? ⟨q, 2, none⟩ = some (.string ⟨#[]⟩) := (blk_cell hN3 2).trans rfl
     have G3 : W3.cell? ⟨q, 3, none⟩ = some (.int .i64 0) := (blk_cell hN3 3).trans rfl
     have F4 : ∀ j, W3.frozen? ⟨q, j, none⟩ = false := (fun j => by simp [World.frozen?, hN3])
     clear hb3 hN3 F1'
     go_wp2
     refine bodyPost_ret (results_cell_row rfl _ _ q 38 #[.int .u8 1, .int .i64 (wrap64 l), .string (⟨#[]⟩ : ByteArray), .int .i64 0] (0, 0) _ rfl (out_cells HN3.out _ _ _ _) Tryz.underlying38 rfl (by kernel_rfl)) rfl ?_
     refine ⟨?_, out_below HB3.out HQ.out _ _ _ _⟩
     obtain ⟨rfl, rfl, rfl, rfl⟩ := HRR.out
     rfl
   · have hcb : (h != IntKind.u64.wrap (wrap64 l / 9223372036854775808)) = true := by simpa using hc
     have HRR : Aside0 (r1 = 0 ∧ r2 = 0 ∧ r3 = ⟨#[]⟩ ∧ r4 = 4) := ⟨by
      have h := HR.out
      unfold totalOut at h
      rw [if_neg hn, if_neg hc] at h
      simp only [Prod.mk.injEq] at h
      exact ⟨h.1.symm, h.2.1.symm, h.2.2.1.symm, h.2.2.2.symm⟩⟩
     clear hn hc
     go_enter Tryz.func157, Tryz.ntmps157
     go_wp2_with (first | ((with_reducible refine gate_dst (N := 2) rfl ?_); refine box_event ?hg (N := 2) ?hd (cs := #[.int .u8 0, .int .i64 0, .string (⟨#[]⟩ : ByteArray), .int .i64 0]) (t := 38) ?hr ?_; (case hd => rfl); (case hg => rfl); (case hr => first | (go_simp; done) | (go_simp; rfl)); intro q hq W hN hb1; have C0 := (hb1.block b HLT.out).trans HBK.out; have HB1 := Aside0.mk hb1; have HQ := Aside0.mk hq; have HN0 := Aside0.mk hN; have F0 : W.cell? ⟨b, 0, none⟩ = some (.int .u64 h) := (blk_cell C0 0).trans rfl; have F1 : W.cell? ⟨b, 1, none⟩ = some (.int .u64 l) := (blk_cell C0 1).trans rfl; have F2 : W.cell? ⟨b, 2, none⟩ = some (.int .u64 n) := (blk_cell C0 2).trans rfl; have G0 : W.cell? ⟨q, 0, none⟩ = some (.int .u8 0) := (blk_cell hN 0).trans rfl; have G1 : W.cell? ⟨q, 1, none⟩ = some (.int .i64 0) := (blk_cell hN 1).trans rfl; have G2 : W.cell? ⟨q, 2, none⟩ = some (.string ⟨#[]⟩) := (blk_cell hN 2).trans rfl; have G3 : W.cell? ⟨q, 3, none⟩ = some (.int .i64 0) := (blk_cell hN 3).trans rfl; have F4 : ∀ j, W.frozen? ⟨q, j, none⟩ = false := (fun j => by simp [World.frozen?, hN]); clear hb1 hq hN C0))
     go_region
     obtain ⟨W2, hW2⟩ : ∃ W2, W2 = W.drew := ⟨_, rfl⟩
     rw [← hW2]
     have hN2 : W2.heap[q]? = some (.cells #[.int .u8 0, .int .i64 0, .string ⟨#[]⟩, .int .i64 0] 38 (0, 0)) := by rw [hW2]; exact HN0.out
     have HN2 := Aside0.mk hN2
     have HB2 : Aside0 (Below w.heap.size w W2) := ⟨by rw [hW2]; exact HB1.out.drew⟩
     clear hW2 F0 F1 F2 F4 G0 G1 G2 G3
     have G0 : W2.cell? ⟨q, 0, none⟩ = some (.int .u8 0) := (blk_cell hN2 0).trans rfl
     have G1 : W2.cell? ⟨q, 1, none⟩ = some (.int .i64 0) := (blk_cell hN2 1).trans rfl
     have G2 : W2.cell? ⟨q, 2, none⟩ = some (.string ⟨#[]⟩) := (blk_cell hN2 2).trans rfl
     have G3 : W2.cell? ⟨q, 3, none⟩ = some (.int .i64 0) := (blk_cell hN2 3).trans rfl
     have F4 : ∀ j, W2.frozen? ⟨q, j, none⟩ = false := (fun j => by simp [World.frozen?, hN2])
     clear hN2
     go_wp2
     refine bodyPost_ret (results_cell_row rfl _ _ q 38 #[.int .u8 0, .int .i64 0, .string (⟨#[]⟩ : ByteArray), .int .i64 4] (0, 0) _ rfl (out_cells HN2.out _ _ _ _) Tryz.underlying38 rfl (by kernel_rfl)) rfl ?_
     refine ⟨?_, out_below HB2.out HQ.out _ _ _ _⟩
     obtain ⟨rfl, rfl, rfl, rfl⟩ := HRR.out
     rfl
theorem below_grownBy {w W : World} {row : Option Nat} (h : Below w.heap.size w W) : w.grownBy W row := ⟨h.os, h.tape, h.output, h.size, fun k hk _ => h.block k hk⟩
theorem counter_take (b : Nat) (n : Int) (v : V) (w : World) (hb : w.heap[b]? = some (.cells #[.int .i64 n] 131 (0, 0))) :
 Calls Tryz.prog 168 #[.pointer (some ⟨b, 0, none⟩), .agg #[.int .u8 v.f0, .int .i64 v.f1, .string v.f2]] w fun e w' => e = .returned (.tuple #[]) ∧ w'.heap[b]? = some (.cells #[.int .i64 (wrap64 (n + 1))] 131 (0, 0)) ∧ w.grownBy w' (some b) := by
 have hlt : b < w.heap.size := (Array.getElem?_eq_some_iff.1 hb).1
 have HLT := Aside0.mk hlt
 have HBK := Aside0.mk hb
 clear hb hlt
 go_enter Tryz.func168, Tryz.ntmps168
 go_wp2_with (first | ((with_reducible refine gate_dst (N := 3) rfl ?_); refine box_event ?hg (N := 3) ?hd (cs := #[.int .u8 v.f0, .int .i64 v.f1, .string v.f2]) (t := 36) ?hr ?_; (case hd => rfl); (case hg => rfl); (case hr => first | (go_simp; done) | (go_simp; rfl)); intro q hq W hN hb1; have C0 := (hb1.block b HLT.out).trans HBK.out; have HB1 := Aside0.mk hb1; have HC0 := Aside0.mk C0; have F0 : W.cell? ⟨b, 0, none⟩ = some (.int .i64 n) := (blk_cell C0 0).trans rfl; have F4 : ∀ j, W.frozen? ⟨b, j, none⟩ = false := (fun j => by simp [World.frozen?, C0]); clear hb1 hq hN C0))
 go_end0
 exact ⟨rfl, (blk_set HC0.out 0 _).trans rfl, grownBy_set0 (below_grownBy HB1.out) 0 _⟩
theorem counter_done (b : Nat) (n : Int) (w : World) (hb : w.heap[b]? = some (.cells #[.int .i64 n] 131 (0, 0))) :
 Calls Tryz.prog 167 #[.pointer (some ⟨b, 0, none⟩)] w fun e w' => e = .returned (.agg #[.int .u8 1, .int .i64 n, .string ⟨#[]⟩, .int .i64 0]) ∧ Below w.heap.size w w' := by
 have hlt : b < w.heap.size := (Array.getElem?_eq_some_iff.1 hb).1
 have HLT := Aside0.mk hlt
 have HBK := Aside0.mk hb
 clear hb hlt
 go_enter Tryz.func167, Tryz.ntmps167
 go_wp2_with (first | ((with_reducible refine gate_dst (N := 2) rfl ?_); refine box_event ?hg (N := 2) ?hd (cs := #[.int .u8 0, .int .i64 0, .string (⟨#[]⟩ : ByteArray), .int .i64 0]) (t := 38) ?hr ?_; (case hd => rfl); (case hg => rfl); (case hr => first | (go_simp; done) | (go_simp; rfl)); intro q hq W hN hb1; have C0 := (hb1.block b HLT.out).trans HBK.out; have HB1 := Aside0.mk hb1; have HQ := Aside0.mk hq; have HN0 := Aside0.mk hN; have F0 : W.cell? ⟨b, 0, none⟩ = some (.int .i64 n) := (blk_cell C0 0).trans rfl; have G0 : W.cell? ⟨q, 0, none⟩ = some (.int .u8 0) := (blk_cell hN 0).trans rfl; have G1 : W.cell? ⟨q, 1, none⟩ = some (.int .i64 0) := (blk_cell hN 1).trans rfl; have G2 : W.cell? ⟨q, 2, none⟩ = some (.string ⟨#[]⟩) := (blk_cell hN 2).trans rfl; have G3 : W.cell? ⟨q, 3, none⟩ = some (.int .i64 0) := (blk_cell hN 3).trans rfl; have F4 : ∀ j, W.frozen? ⟨q, j, none⟩ = false := (fun j => by simp [World.frozen?, hN]); clear hb1 hq hN C0) | (go_at_call 159; refine (value_Int.calls n 1 n ⟨#[]⟩ _ rfl).mono ?_; rintro e W3 ⟨rfl, hb3⟩; have hN3 := (hb3.block q (blk_lt HN0.out)).trans HN0.out; have HN3 := Aside0.mk hN3; have HB3 := Aside0.mk (HB1.out.trans (hb3.mono HB1.out.size)); clear G0 G1 G2 G3 F4; have G0 : W3.cell? ⟨q, 0, none⟩ = some (.int .u8 0) := (blk_cell hN3 0).trans rfl; have G1 : W3.cell? ⟨q, 1, none⟩ = some (.int .i64 0) := (blk_cell hN3 1).trans rfl; have G2 : W3.cell? ⟨q, 2, none⟩ = some (.string ⟨#[]⟩) := (blk_cell hN3 2).trans rfl; have G3 : W3.cell? ⟨q, 3, none⟩ = some (.int .i64 0) := (blk_cell hN3 3).trans rfl; have F4 : ∀ j, W3.frozen? ⟨q, j, none⟩ = false := (fun j => by simp [World.frozen?, hN3]); clear hb3 hN3 F0))
 refine bodyPost_ret (results_cell_row rfl _ _ q 38 #[.int .u8 1, .int .i64 n, .string (⟨#[]⟩ : ByteArray), .int .i64 0] (0, 0) _ rfl (out_cells HN3.out _ _ _ _) Tryz.underlying38 rfl (by kernel_rfl)) rfl ?_
 exact ⟨rfl, out_below HB3.out HQ.out _ _ _ _⟩
theorem gath_sum (w : World) : Calls Tryz.prog 57 #[.int .u8 2] w fun e w' => e = .returned (.iface 120 (.pointer (some ⟨w.heap.size, 0, none⟩))) ∧ w' = w.alloc (.cells #[.int .u64 0, .int .u64 0, .int .u64 0] 122) := by
 go_enter Tryz.func57, Tryz.ntmps57
 go_wp2
 go_ret
 exact ⟨rfl, rfl⟩
theorem gath_avg (w : World) : Calls Tryz.prog 57 #[.int .u8 5] w fun e w' => e = .returned (.iface 123 (.pointer (some ⟨w.heap.size, 0, none⟩))) ∧ w' = w.alloc (.cells #[.int .u64 0, .int .u64 0, .int .u64 0] 125) := by
 go_enter Tryz.func57, Tryz.ntmps57
 go_wp2
 go_ret
 exact ⟨rfl, rfl⟩
theorem gath_min (w : World) : Calls Tryz.prog 57 #[.int .u8 3] w fun e w' => e = .returned (.iface 126 (.pointer (some ⟨w.heap.size, 0, none⟩))) ∧ w' = w.alloc (.cells #[.int .i64 1, .bool false, .int .u8 0, .int .i64 0, .string ⟨#[]⟩] 128) := by
 go_enter Tryz.func57, Tryz.ntmps57
 go_wp2
 go_ret
 exact ⟨rfl, rfl⟩
theorem gath_max (w : World) : Calls Tryz.prog 57 #[.int .u8 4] w fun e w' => e = .returned (.iface 126 (.pointer (some ⟨w.heap.size, 0, none⟩))) ∧ w' = w.alloc (.cells #[.int .i64 (-1), .bool false, .int .u8 0, .int .i64 0, .string ⟨#[]⟩] 128) := by
 go_enter Tryz.func57, Tryz.ntmps57
 go_wp2
 go_ret
 exact ⟨rfl, rfl⟩
theorem gath_count (fn : Int) (h : fn = 0 ∨ fn = 1) (w : World) : Calls Tryz.prog 57 #[.int .u8 fn] w fun e w' => e = .returned (.iface 129 (.pointer (some ⟨w.heap.size, 0, none⟩))) ∧ w' = w.alloc (.cells #[.int .i64 0] 131) := by
 rcases h with rfl | rfl
 · go_enter Tryz.func57, Tryz.ntmps57
   go_wp2
   go_ret
   exact ⟨rfl, rfl⟩
 · go_enter Tryz.func57, Tryz.ntmps57
   go_wp2
   go_ret
   exact ⟨rfl, rfl⟩
end Go.Proofs.YtecgkcgfeghhgaaGreatDoor.PAll
