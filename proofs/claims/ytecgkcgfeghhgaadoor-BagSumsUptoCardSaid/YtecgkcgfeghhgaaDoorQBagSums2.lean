/- What the last of these texts proves is told there. Joined by a program of this session out of its texts. -/
import Derived.Test.YtecgkcgfeghhgaaDoorQBagSums1
import Derived.Below
import Derived.Deep.Draws
import Derived.Deep.AppendLies
import Derived.Maps.AppendAt
import Derived.OwnWalk
import Derived.Laws.BytesArg
import Derived.Laws.MakeOwn
import Derived.Laws.OwnMore
import Derived.Deep.OwnRows
import Derived.Tactics
import Derived.Lib.ConvBytes
import Derived.Laws.Slices
import Derived.WalkKit
import Derived.KernelRfl
import Derived.RowKit3
import Derived.Deep.LoopGhost
import Derived.Deep.QuietTactic
import Derived.BigQuiet
import Derived.WideLaws
import Derived.Deep.DeepCutAuto
import Derived.Deep.CutBlock
import Derived.Deep.RegionHeld3
import Derived.Laws.Rows
import Derived.Lib.AppendStr
import Derived.ArgAppend
import Derived.Laws.IdiomCopy
import Derived.RowKit
import Derived.OrdersHeld
import Derived.Laws.BitsLemmas
import Derived.Laws.StructEq
import Derived.Shelf.Strings.BuilderK
import Derived.Shelf.Spec.SlicesGrow
import Derived.Shelf.SlGeneric
import Derived.Ground.Names8Prog
import Derived.Shelf.SlSortCmp.NoneTotal
import Derived.Ground.SlsfProg
import Derived.Ground.NamesProg
import Derived.Shelf.Spec.BitsCarry
import Derived.Ground.Names7Prog
import Derived.Shelf.Strings.Builder1
import Derived.Shelf.Small.Bits
import Derived.Shelf.Small.Strs
import Derived.Shelf.Strings.BuilderF
import Derived.Shelf.Strconv.Itoa0
import Derived.Shelf.Strconv.Itoa1
import Derived.Shelf.LaysM
import Derived.Shelf.Strconv.Itoa2
import Derived.Shelf.Strconv.Itoa3
import Derived.Shelf.Strconv.Itoa4
import Derived.Shelf.Strings.BuilderCap
import Derived.Maps.OwnOps
import Derived.ChangeArms
import Derived.Deep.Slices
import Derived.Deep.Strs
import Derived.Lib.ItoaLen
import Derived.BigRegion
import Derived.RegionTactic
import Derived.Sort.Statements
import Derived.WalkSpells
set_option maxHeartbeats 8000000
set_option maxRecDepth 100000
set_option linter.unusedVariables false
namespace Go.Proofs.YtecgkcgfeghhgaaDoor.Bld
open Go.RowKit Go.Shelf
theorem sizeBuilder : ∃ j : TypeInfo, Tryd.prog.info? 104 = some j ∧ j.size = 2 := by
 have h : (Tryd.prog.info? 104).map (fun i => i.size) = some 2 := by kernel_rfl
 obtain ⟨j, hj, hs⟩ := Option.map_eq_some_iff.1 h
 exact ⟨j, hj, hs⟩
theorem infoByte : (Tryd.prog.info? 5).map (fun i => (i.zero, i.size, i.bytes)) = some (some (.int .u8 0), 1, 1) := by kernel_rfl
theorem copyCheck_fresh (b : Nat) (w : World) (h0 : w.cell? ⟨b, 0, none⟩ = some (.pointer none)) (hsh : w.shape? b = some (104, 2)) (hfz : w.frozen? ⟨b, 0, none⟩ = false) :
 Calls Tryd.prog 54 #[.pointer (some ⟨b, 0, none⟩)] w fun e w' => e = .returned (.tuple #[]) ∧ w' = w.setCell ⟨b, 0, none⟩ (.pointer (some ⟨b, 0, none⟩)) := by
 obtain ⟨j, hj, hjs⟩ := sizeBuilder
 go_enter Tryd.func54, Tryd.ntmps54
 go_wp2
 rw [Lib.run_to_unsafe w ⟨b, 0, none⟩ Tryd.underlying102 Tryd.underlying128 hj (by rw [hjs]; decide) hsh (Nat.zero_lt_succ 1)]
 simp only [Result.andThen]
 rw [Oper.upon_value]
 go_wp2
 rw [run_callFunc_extern Tryd.func64 (by kernel_rfl) (by kernel_rfl) (by kernel_rfl) (e := Extern.AbiNoEscape.same) (by kernel_rfl)]
 rw [Lib.run_noEscape]
 simp only [Result.andThen]
 rw [Oper.upon_value]
 go_wp2
 rw [Lib.run_from_unsafe w ⟨b, 0, none⟩ Tryd.underlying128 Tryd.underlying102 hj hsh (by kernel_rfl)]
 simp only [Result.andThen]
 rw [Oper.upon_value]
 go_wp2
 go_end0
 exact ⟨rfl, rfl⟩
theorem copyCheck_used (b : Nat) (w : World) (h0 : w.cell? ⟨b, 0, none⟩ = some (.pointer (some ⟨b, 0, none⟩))) :
 Calls Tryd.prog 54 #[.pointer (some ⟨b, 0, none⟩)] w fun e w' => e = .returned (.tuple #[]) ∧ w' = w := by
 obtain ⟨j, hj, _⟩ := sizeBuilder
 go_enter Tryd.func54, Tryd.ntmps54
 go_wp2
 rw [Lib.run_neq_ptr_same w _ Tryd.underlying102 hj]
 go_wp2
 go_end0
 exact ⟨rfl, rfl⟩
theorem copyCheck (B b : Nat) (bs : List Value) (w : World) (h : Lib.IsBuilderF 104 5 B b bs w) :
 Calls Tryd.prog 54 #[.pointer (some ⟨b, 0, none⟩)] w fun e w' => e = .returned (.tuple #[]) ∧ (Lib.BuilderAtF 104 5 B b (.pointer (some ⟨b, 0, none⟩)) bs w' ∧ Below B w w' ∧ Lib.OthersKept 5 (some b) w w') := by
 rcases h with h | h
 · refine (copyCheck_fresh b w h.cell0 h.shape h.frozen0).mono ?_
   rintro e w' ⟨rfl, rfl⟩
   exact ⟨rfl, h.used _, (Below.refl B w).setCell (p := ⟨b, 0, none⟩) h.1 _, (Lib.OthersKept.refl _ _ w).setCell ⟨b, 0, none⟩ rfl _⟩
 · refine (copyCheck_used b w h.cell0).mono ?_
   rintro e w' ⟨rfl, rfl⟩
   exact ⟨rfl, h, Below.refl B _, Lib.OthersKept.refl _ _ _⟩
theorem WriteByte (B b : Nat) (bs : List Value) (c : Int) (w : World) (h : Lib.IsBuilderF 104 5 B b bs w) (hlen : bs.length + 1 ≤ 140737488355328) (hBw : B ≤ w.heap.size) :
 Calls Tryd.prog 43 #[.pointer (some ⟨b, 0, none⟩), .int .u8 c] w fun e w' => e = .returned .nilIface ∧ (Lib.BuilderAtF 104 5 B b (.pointer (some ⟨b, 0, none⟩)) (bs ++ [.int .u8 c]) w' ∧ Below B w w' ∧ Lib.OthersKept 5 (some b) w w') := by
 obtain ⟨i0, hi, hz0, hz1, hz2⟩ := info_parts infoByte
 go_enter Tryd.func43, Tryd.ntmps43
 go_wp2_with (go_at_call 54; refine (copyCheck B b bs _ h).mono ?_)
 rintro e w1 ⟨rfl, h1, hb1, hk1⟩
 obtain ⟨hB, v, hbk, hown, hne⟩ := h1
 have c0 : w1.cell? ⟨b, 0, none⟩ = some (.pointer (some ⟨b, 0, none⟩)) := by rw [Lib.cell_of_heap hbk]; rfl
 have c1 : w1.cell? ⟨b, 1, none⟩ = some v := by rw [Lib.cell_of_heap hbk]; rfl
 go_wp2_with (at_builtin; refine wpList_append_ownF _ rfl _ _ 54 rfl B 5 i0 (.int .u8 0) 1 1 Tryd.underlying54 hi hz0 hz1 hz2 rfl (by decide) _ _ _ rfl (hown.alloc _) ⟨w1.heap.size, 0, none⟩ 1 1 [.int .u8 c] rfl rfl ?c1 ?c2 ?c3 ?c4 ?c5 ?_)
 case c1 =>
  intro j u hj
  match j, hj with
  | 0, hj => simp at hj; subst hj; simp [Addr.add]
 case c2 => intro u hu; simp at hu; subst hu; rfl
 case c3 => unfold maxLen; omega
 case c4 => omega
 case c5 => have := hb1.size; simp; omega
 intro v' w2 hown' hgrow _
 have hlt : b < w1.heap.size := by
  rcases Nat.lt_or_ge b w1.heap.size with h' | h'
  · exact h'
  · simp [Array.getElem?_eq_none h'] at hbk
 have hb2 : w2.heap[b]? = some (.cells #[.pointer (some ⟨b, 0, none⟩), v] 104 (0, 0)) := by
  rw [hgrow.block b (by simp; omega) (fun e => hne e.symm), Lib.alloc_old w1 _ b hlt]
  exact hbk
 have d0 : w2.cell? ⟨b, 0, none⟩ = some (.pointer (some ⟨b, 0, none⟩)) := by rw [Lib.cell_of_heap hb2]; rfl
 have d1 : w2.cell? ⟨b, 1, none⟩ = some v := by rw [Lib.cell_of_heap hb2]; rfl
 have f1 : w2.frozen? ⟨b, 1, none⟩ = false := Lib.frozen_of_heap hb2 1
 obtain ⟨g, cap, rfl⟩ : ∃ g cap, v' = .slice (some ⟨g, 0, none⟩) (bs.length + 1) cap := by
  rcases hown'.2 with ⟨_, h0⟩ | ⟨g, cap, cur, fz, hv, _⟩
  · omega
  · exact ⟨g, cap, hv⟩
 go_wp2
 go_ret
 refine ⟨rfl, ?_, ?_, ((hk1.alloc _).grown hgrow (Lib.ownsRowF_kind (hown.alloc _))).setCell ⟨b, 1, none⟩ rfl _⟩
 · exact Lib.BuilderAtF.put (T := 104) (e := 5) hB hb2 (bs' := bs ++ [.int .u8 c]) (by simpa using hown') (by decide)
 · exact ((hb1.alloc (by have := hb1.size; omega) _).grown hgrow (by have := hb1.size; simp; omega) (fun k hk => (hown.lt k hk).1)).setCell (p := ⟨b, 1, none⟩) hB _
theorem WriteString (B b : Nat) (bs : List Value) (s : ByteArray) (w : World) (h : Lib.IsBuilderF 104 5 B b bs w) (hlen : bs.length + s.size ≤ 140737488355328) (hBw : B ≤ w.heap.size) :
 Calls Tryd.prog 41 #[.pointer (some ⟨b, 0, none⟩), .string s] w fun e w' => e = .returned (.tuple #[.int .i64 s.size, .nilIface]) ∧ (Lib.BuilderAtF 104 5 B b (.pointer (some ⟨b, 0, none⟩)) (bs ++ Lib.strCells s) w' ∧ Below B w w' ∧ Lib.OthersKept 5 (some b) w w') := by
 obtain ⟨i0, hi, hz0, hz1, hz2⟩ := info_parts infoByte
 go_enter Tryd.func41, Tryd.ntmps41
 go_wp2_with (go_at_call 54; refine (copyCheck B b bs _ h).mono ?_)
 rintro e w1 ⟨rfl, h1, hb1, hk1⟩
 obtain ⟨hB, v, hbk, hown, hne⟩ := h1
 have c0 : w1.cell? ⟨b, 0, none⟩ = some (.pointer (some ⟨b, 0, none⟩)) := by rw [Lib.cell_of_heap hbk]; rfl
 have c1 : w1.cell? ⟨b, 1, none⟩ = some v := by rw [Lib.cell_of_heap hbk]; rfl
 go_wp2_with (at_builtin; refine Lib.wpList_append_own_stringF _ rfl _ _ 54 9 rfl B 5 i0 Tryd.underlying54 Tryd.underlying9 hi hz0 hz1 hz2 _ _ _ rfl hown s rfl ?c3 ?c4 ?c5 ?_)
 case c3 => unfold maxLen; omega
 case c4 => omega
 case c5 => have := hb1.size; omega
 intro v' w2 hown' hgrow _
 have hlt : b < w1.heap.size := by
  rcases Nat.lt_or_ge b w1.heap.size with h' | h'
  · exact h'
  · simp [Array.getElem?_eq_none h'] at hbk
 have hb2 : w2.heap[b]? = some (.cells #[.pointer (some ⟨b, 0, none⟩), v] 104 (0, 0)) := by
  rw [hgrow.block b hlt (fun e => hne e.symm)]
  exact hbk
 have d0 : w2.cell? ⟨b, 0, none⟩ = some (.pointer (some ⟨b, 0, none⟩)) := by rw [Lib.cell_of_heap hb2]; rfl
 have d1 : w2.cell? ⟨b, 1, none⟩ = some v := by rw [Lib.cell_of_heap hb2]; rfl
 have f1 : w2.frozen? ⟨b, 1, none⟩ = false := Lib.frozen_of_heap hb2 1
 obtain ⟨ao, n', cap, rfl⟩ : ∃ ao n' cap, v' = .slice ao n' cap := by
  rcases hown'.2 with ⟨hv, _⟩ | ⟨g, cap, cur, fz, hv, _⟩
  · exact ⟨_, _, _, hv⟩
  · exact ⟨_, _, _, hv⟩
 go_wp2
 go_ret2
 refine ⟨rfl, ?_, ?_, (hk1.grown hgrow (Lib.ownsRowF_kind hown)).setCell ⟨b, 1, none⟩ rfl _⟩
 · exact Lib.BuilderAtF.put (T := 104) (e := 5) hB hb2 (bs' := bs ++ Lib.strCells s) (by simpa [Lib.strCells_length] using hown') (by decide)
 · exact (hb1.grown hgrow (by have := hb1.size; omega) (fun k hk => (hown.lt k hk).1)).setCell (p := ⟨b, 1, none⟩) hB _
end Go.Proofs.YtecgkcgfeghhgaaDoor.Bld
namespace Go.Proofs
open Go.Shelf
def Tryd.lays169_ren : Go.Shelf.Ren := ⟨fun | 169 => 45 | n => n, fun | 70 => 102 | 9 => 9 | 0 => 0 | 72 => 104 | 37 => 54 | 127 => 120 | 3 => 3 | 5 => 5 | n => n, fun | n => n⟩
theorem Tryd.lays169 : Go.Proofs.Lays.n169 Tryd.prog Tryd.lays169_ren := {
 mixed := by kernel_rfl
 f169 := Tryd.func45.trans (congrArg some (by kernel_rfl))
 t0 := Tryd.underlying0
 a0 := Tryd.isAgg0
 z0 := Tryd.sizeOf0
 v0 := Tryd.zeroValue0
 t3 := Tryd.underlying3
 a3 := Tryd.isAgg3
 z3 := Tryd.sizeOf3
 v3 := Tryd.zeroValue3
 t9 := Tryd.underlying9
 a9 := Tryd.isAgg9
 z9 := Tryd.sizeOf9
 v9 := Tryd.zeroValue9
 t37 := Tryd.underlying54
 a37 := Tryd.isAgg54
 z37 := Tryd.sizeOf54
 v37 := Tryd.zeroValue54
 t70 := Tryd.underlying102
 a70 := Tryd.isAgg102
 z70 := Tryd.sizeOf102
 v70 := Tryd.zeroValue102
 t72 := Tryd.underlying104
 a72 := Tryd.isAgg104
 z72 := Tryd.sizeOf104
 v72 := Tryd.zeroValue104
 t127 := Tryd.underlying120
 a127 := Tryd.isAgg120
 z127 := Tryd.sizeOf120
 v127 := Tryd.zeroValue120 }
theorem Tryd.Builder_Extra_169 : Builder.Extra Tryd.prog Tryd.lays169_ren := {
 sizeBuilder := by kernel_rfl
 liesBuilder := by kernel_rfl
 t5 := Tryd.underlying5
 a5 := Tryd.isAgg5
 z5 := Tryd.sizeOf5
 v5 := Tryd.zeroValue5
 infoByte := by kernel_rfl
 cellsByte := by kernel_rfl
 sizeByte := by kernel_rfl
 neB5 := by decide }
def Tryd.lays134_ren : Go.Shelf.Ren := ⟨fun | 134 => 122 | 129 => 82 | n => n, fun | 53 => 90 | 3 => 3 | 4 => 4 | 46 => 125 | 5 => 5 | 9 => 9 | n => n, fun | n => n⟩
theorem Tryd.lays134 : Go.Proofs.Lays.n134 Tryd.prog Tryd.lays134_ren := {
 mixed := by kernel_rfl
 f129 := Tryd.func82.trans (congrArg some (by kernel_rfl))
 f134 := Tryd.func122.trans (congrArg some (by kernel_rfl))
 t3 := Tryd.underlying3
 a3 := Tryd.isAgg3
 z3 := Tryd.sizeOf3
 v3 := Tryd.zeroValue3
 t4 := Tryd.underlying4
 a4 := Tryd.isAgg4
 z4 := Tryd.sizeOf4
 v4 := Tryd.zeroValue4
 t5 := Tryd.underlying5
 a5 := Tryd.isAgg5
 z5 := Tryd.sizeOf5
 v5 := Tryd.zeroValue5
 t9 := Tryd.underlying9
 a9 := Tryd.isAgg9
 z9 := Tryd.sizeOf9
 v9 := Tryd.zeroValue9
 t46 := Tryd.underlying125
 a46 := Tryd.isAgg125
 z46 := Tryd.sizeOf125
 v46 := Tryd.zeroValue125
 t53 := Tryd.underlying90
 a53 := Tryd.isAgg90
 z53 := Tryd.sizeOf90
 v53 := Tryd.zeroValue90 }
theorem Tryd.bits_LeadingZeros64 (x : Int) (w : World) (h0 : 0 ≤ x) (h1 : x ≤ 18446744073709551615) :
 Calls Tryd.prog 122 #[.int .u64 x] w fun e w' => e = .returned (.int .i64 (64 - (Lib.bitLen x.toNat : Int))) ∧ w' = w := Any.bits_LeadingZeros64 Tryd.lays134 x w h0 h1
def Tryd.lays106_ren : Go.Shelf.Ren := ⟨fun | 106 => 71 | 213 => 89 | 265 => 97 | n => n, fun | 9 => 9 | 3 => 3 | n => n, fun | n => n⟩
theorem Tryd.lays106 : Go.Proofs.Lays.n106 Tryd.prog Tryd.lays106_ren := {
 mixed := by kernel_rfl
 f106 := Tryd.func71.trans (congrArg some (by kernel_rfl))
 f213 := Tryd.func89.trans (congrArg some (by kernel_rfl))
 f265 := Tryd.func97.trans (congrArg some (by kernel_rfl))
 t3 := Tryd.underlying3
 a3 := Tryd.isAgg3
 z3 := Tryd.sizeOf3
 v3 := Tryd.zeroValue3
 t9 := Tryd.underlying9
 a9 := Tryd.isAgg9
 z9 := Tryd.sizeOf9
 v9 := Tryd.zeroValue9 }
open Go.RowKit in
theorem Tryd.strings_Compare (a b : ByteArray) (w : World) :
 Calls Tryd.prog 71 #[.string a, .string b] w fun e w' => e = .returned (.int .i64 (Lib.compareBytes a.data.toList b.data.toList)) ∧ w' = w := Any.strings_Compare Tryd.lays106 a b w
open Go.RowKit in
theorem Tryd.Builder_String_any_k (B b : Nat) (l : List UInt8) (w : World) (h : Lib.IsBuilderF 104 5 B b (Lib.byteCells l) w) (hBw : B ≤ w.heap.size) :
 Calls Tryd.prog 45 #[.pointer (some ⟨b, 0, none⟩)] w fun e w' => e = .returned (.string ⟨l.toArray⟩) ∧ (Lib.IsBuilderF 104 5 B b (Lib.byteCells l) w' ∧ Below B w w' ∧ Lib.OthersKept 5 (some b) w w') := Any.Builder_String_any_k Tryd.lays169 Tryd.Builder_Extra_169 B b l w h hBw
def Tryd.laysM171_ren : Go.Shelf.Ren := ⟨fun | 171 => 42 | 243 => 55 | 246 => 56 | 283 => 65 | 284 => 66 | 285 => 67 | 286 => 68 | 129 => 82 | 317 => 83 | 318 => 84 | 319 => 85 | 320 => 86 | 337 => 95 | 338 => 96 | n => n, fun | 3 => 3 | 9 => 9 | 2 => 2 | 4 => 4 | 171 => 130 | 0 => 0 | 53 => 90 | 37 => 54 | 5 => 5 | 173 => 133 | 212 => 151 | 51 => 148 | 20 => 20 | 213 => 152 | 46 => 125 | 232 => 165 | 233 => 166 | n => n, fun | 17 => 0 | 18 => 2 | 19 => 3 | n => n⟩
theorem Tryd.laysM171 : Go.Proofs.LaysM.n171 Tryd.prog Tryd.laysM171_ren := {
 mixed := by kernel_rfl
 f129 := Tryd.func82.trans (congrArg some (by kernel_rfl))
 f171 := Tryd.func42.trans (congrArg some (by kernel_rfl))
 f243 := Tryd.func55.trans (congrArg some (by kernel_rfl))
 f246 := Tryd.func56.trans (congrArg some (by kernel_rfl))
 f283 := Tryd.func65.trans (congrArg some (by kernel_rfl))
 f284 := Tryd.func66.trans (congrArg some (by kernel_rfl))
 f285 := Tryd.func67.trans (congrArg some (by kernel_rfl))
 f286 := Tryd.func68.trans (congrArg some (by kernel_rfl))
 f317 := Tryd.func83.trans (congrArg some (by kernel_rfl))
 f318 := Tryd.func84.trans (congrArg some (by kernel_rfl))
 f319 := Tryd.func85.trans (congrArg some (by kernel_rfl))
 f320 := Tryd.func86.trans (congrArg some (by kernel_rfl))
 f337 := Tryd.func95.trans (congrArg some (by kernel_rfl))
 f338 := Tryd.func96.trans (congrArg some (by kernel_rfl))
 t0 := Tryd.underlying0
 a0 := Tryd.isAgg0
 z0 := Tryd.sizeOf0
 v0 := Tryd.zeroValue0
 t2 := Tryd.underlying2
 a2 := Tryd.isAgg2
 z2 := Tryd.sizeOf2
 v2 := Tryd.zeroValue2
 t3 := Tryd.underlying3
 a3 := Tryd.isAgg3
 z3 := Tryd.sizeOf3
 v3 := Tryd.zeroValue3
 t4 := Tryd.underlying4
 a4 := Tryd.isAgg4
 z4 := Tryd.sizeOf4
 v4 := Tryd.zeroValue4
 t5 := Tryd.underlying5
 a5 := Tryd.isAgg5
 z5 := Tryd.sizeOf5
 v5 := Tryd.zeroValue5
 t9 := Tryd.underlying9
 a9 := Tryd.isAgg9
 z9 := Tryd.sizeOf9
 v9 := Tryd.zeroValue9
 t20 := Tryd.underlying20
 a20 := Tryd.isAgg20
 z20 := Tryd.sizeOf20
 v20 := Tryd.zeroValue20
 t37 := Tryd.underlying54
 a37 := Tryd.isAgg54
 z37 := Tryd.sizeOf54
 v37 := Tryd.zeroValue54
 t46 := Tryd.underlying125
 a46 := Tryd.isAgg125
 z46 := Tryd.sizeOf125
 v46 := Tryd.zeroValue125
 t51 := Tryd.underlying148
 a51 := Tryd.isAgg148
 z51 := Tryd.sizeOf148
 v51 := Tryd.zeroValue148
 t53 := Tryd.underlying90
 a53 := Tryd.isAgg90
 z53 := Tryd.sizeOf90
 v53 := Tryd.zeroValue90
 t171 := Tryd.underlying130
 a171 := Tryd.isAgg130
 z171 := Tryd.sizeOf130
 v171 := Tryd.zeroValue130
 t173 := Tryd.underlying133
 a173 := Tryd.isAgg133
 z173 := Tryd.sizeOf133
 v173 := Tryd.zeroValue133
 t212 := Tryd.underlying151
 a212 := Tryd.isAgg151
 z212 := Tryd.sizeOf151
 v212 := Tryd.zeroValue151
 t213 := Tryd.underlying152
 a213 := Tryd.isAgg152
 z213 := Tryd.sizeOf152
 t232 := Tryd.underlying165
 a232 := Tryd.isAgg165
 z232 := Tryd.sizeOf165
 v232 := Tryd.zeroValue165
 t233 := Tryd.underlying166
 a233 := Tryd.isAgg166
 z233 := Tryd.sizeOf166
 v233 := Tryd.zeroValue166
 g17 := by kernel_rfl
 g18 := by kernel_rfl
 g19 := by kernel_rfl
 i0 := by kernel_rfl
 i2 := by kernel_rfl
 i3 := by kernel_rfl
 i4 := by kernel_rfl
 i5 := by kernel_rfl
 i9 := by kernel_rfl
 i20 := by kernel_rfl
 i37 := by kernel_rfl
 i46 := by kernel_rfl
 i51 := by kernel_rfl
 i53 := by kernel_rfl
 i171 := by kernel_rfl
 i173 := by kernel_rfl
 i212 := by kernel_rfl
 i232 := by kernel_rfl
 i233 := by kernel_rfl
 m17 := by kernel_rfl
 m18 := by kernel_rfl
 m19 := by kernel_rfl }
open Go.RowKit Go.Sort Go.Lib in
theorem Tryd.strconv_Itoa (n : Int) (h0 : -9223372036854775808 ≤ n) (h1 : n ≤ 9223372036854775807) (w : World) (htab : Lib.TabIs Tryd.prog w "internal/strconv.uint64pow10" .u64 Lib.pow10Tab) :
 Calls Tryd.prog 42 #[.int .i64 n] w fun e w' => e = .returned (.string ⟨(Lib.itoa n).toArray⟩) ∧ ∃ k os, w' = grow (w.drewN k) os := Any.strconv_Itoa Tryd.laysM171 n h0 h1 w htab
def Tryd.laysM173_ren : Go.Shelf.Ren := ⟨fun | 173 => 44 | 246 => 56 | 283 => 65 | 284 => 66 | 285 => 67 | 286 => 68 | 129 => 82 | 317 => 83 | 318 => 84 | 319 => 85 | 320 => 86 | 337 => 95 | 338 => 96 | n => n, fun | 2 => 2 | 3 => 3 | 9 => 9 | 4 => 4 | 171 => 130 | 0 => 0 | 53 => 90 | 37 => 54 | 5 => 5 | 173 => 133 | 212 => 151 | 51 => 148 | 20 => 20 | 213 => 152 | 46 => 125 | 232 => 165 | 233 => 166 | n => n, fun | 17 => 0 | 18 => 2 | 19 => 3 | n => n⟩
theorem Tryd.laysM173 : Go.Proofs.LaysM.n173 Tryd.prog Tryd.laysM173_ren := {
 mixed := by kernel_rfl
 f129 := Tryd.func82.trans (congrArg some (by kernel_rfl))
 f173 := Tryd.func44.trans (congrArg some (by kernel_rfl))
 f246 := Tryd.func56.trans (congrArg some (by kernel_rfl))
 f283 := Tryd.func65.trans (congrArg some (by kernel_rfl))
 f284 := Tryd.func66.trans (congrArg some (by kernel_rfl))
 f285 := Tryd.func67.trans (congrArg some (by kernel_rfl))
 f286 := Tryd.func68.trans (congrArg some (by kernel_rfl))
 f317 := Tryd.func83.trans (congrArg some (by kernel_rfl))
 f318 := Tryd.func84.trans (congrArg some (by kernel_rfl))
 f319 := Tryd.func85.trans (congrArg some (by kernel_rfl))
 f320 := Tryd.func86.trans (congrArg some (by kernel_rfl))
 f337 := Tryd.func95.trans (congrArg some (by kernel_rfl))
 f338 := Tryd.func96.trans (congrArg some (by kernel_rfl))
 t0 := Tryd.underlying0
 a0 := Tryd.isAgg0
 z0 := Tryd.sizeOf0
 v0 := Tryd.zeroValue0
 t2 := Tryd.underlying2
 a2 := Tryd.isAgg2
 z2 := Tryd.sizeOf2
 v2 := Tryd.zeroValue2
 t3 := Tryd.underlying3
 a3 := Tryd.isAgg3
 z3 := Tryd.sizeOf3
 v3 := Tryd.zeroValue3
 t4 := Tryd.underlying4
 a4 := Tryd.isAgg4
 z4 := Tryd.sizeOf4
 v4 := Tryd.zeroValue4
 t5 := Tryd.underlying5
 a5 := Tryd.isAgg5
 z5 := Tryd.sizeOf5
 v5 := Tryd.zeroValue5
 t9 := Tryd.underlying9
 a9 := Tryd.isAgg9
 z9 := Tryd.sizeOf9
 v9 := Tryd.zeroValue9
 t20 := Tryd.underlying20
 a20 := Tryd.isAgg20
 z20 := Tryd.sizeOf20
 v20 := Tryd.zeroValue20
 t37 := Tryd.underlying54
 a37 := Tryd.isAgg54
 z37 := Tryd.sizeOf54
 v37 := Tryd.zeroValue54
 t46 := Tryd.underlying125
 a46 := Tryd.isAgg125
 z46 := Tryd.sizeOf125
 v46 := Tryd.zeroValue125
 t51 := Tryd.underlying148
 a51 := Tryd.isAgg148
 z51 := Tryd.sizeOf148
 v51 := Tryd.zeroValue148
 t53 := Tryd.underlying90
 a53 := Tryd.isAgg90
 z53 := Tryd.sizeOf90
 v53 := Tryd.zeroValue90
 t171 := Tryd.underlying130
 a171 := Tryd.isAgg130
 z171 := Tryd.sizeOf130
 v171 := Tryd.zeroValue130
 t173 := Tryd.underlying133
 a173 := Tryd.isAgg133
 z173 := Tryd.sizeOf133
 v173 := Tryd.zeroValue133
 t212 := Tryd.underlying151
 a212 := Tryd.isAgg151
 z212 := Tryd.sizeOf151
 v212 := Tryd.zeroValue151
 t213 := Tryd.underlying152
 a213 := Tryd.isAgg152
 z213 := Tryd.sizeOf152
 t232 := Tryd.underlying165
 a232 := Tryd.isAgg165
 z232 := Tryd.sizeOf165
 v232 := Tryd.zeroValue165
 t233 := Tryd.underlying166
 a233 := Tryd.isAgg166
 z233 := Tryd.sizeOf166
 v233 := Tryd.zeroValue166
 g17 := by kernel_rfl
 g18 := by kernel_rfl
 g19 := by kernel_rfl
 i0 := by kernel_rfl
 i2 := by kernel_rfl
 i3 := by kernel_rfl
 i4 := by kernel_rfl
 i5 := by kernel_rfl
 i9 := by kernel_rfl
 i20 := by kernel_rfl
 i37 := by kernel_rfl
 i46 := by kernel_rfl
 i51 := by kernel_rfl
 i53 := by kernel_rfl
 i171 := by kernel_rfl
 i173 := by kernel_rfl
 i212 := by kernel_rfl
 i232 := by kernel_rfl
 i233 := by kernel_rfl
 m17 := by kernel_rfl
 m18 := by kernel_rfl
 m19 := by kernel_rfl }
open Go.RowKit Go.Sort Go.Lib in
theorem Tryd.strconv_FormatInt_10 (n : Int) (h0 : -9223372036854775808 ≤ n) (h1 : n ≤ 9223372036854775807) (w : World) (htab : Lib.TabIs Tryd.prog w "internal/strconv.uint64pow10" .u64 Lib.pow10Tab) :
 Calls Tryd.prog 44 #[.int .i64 n, .int .i64 10] w fun e w' => e = .returned (.string ⟨(Lib.itoa n).toArray⟩) ∧ ∃ k os, w' = grow (w.drewN k) os := Any.strconv_FormatInt_10 Tryd.laysM173 n h0 h1 w htab
def growRows_ren : Go.Shelf.Ren := ⟨fun | 4 => 63 | n => n, fun | 22 => 37 | 25 => 58 | 3 => 3 | 4 => 4 | 9 => 9 | 20 => 20 | 0 => 0 | n => n, fun | n => n⟩
theorem growRows : Go.Proofs.Lays8.n4 Tryd.prog growRows_ren := {
 mixed := by kernel_rfl
 f4 := ⟨Tryd.f63.name, by decide, Tryd.func63.trans (congrArg some (by kernel_rfl))⟩
 t0 := Tryd.underlying0
 a0 := Tryd.isAgg0
 z0 := Tryd.sizeOf0
 v0 := Tryd.zeroValue0
 t3 := Tryd.underlying3
 a3 := Tryd.isAgg3
 z3 := Tryd.sizeOf3
 v3 := Tryd.zeroValue3
 t4 := Tryd.underlying4
 a4 := Tryd.isAgg4
 z4 := Tryd.sizeOf4
 v4 := Tryd.zeroValue4
 t9 := Tryd.underlying9
 a9 := Tryd.isAgg9
 z9 := Tryd.sizeOf9
 v9 := Tryd.zeroValue9
 t20 := Tryd.underlying20
 a20 := Tryd.isAgg20
 z20 := Tryd.sizeOf20
 v20 := Tryd.zeroValue20
 t22 := Tryd.underlying37
 a22 := Tryd.isAgg37
 z22 := Tryd.sizeOf37
 v22 := Tryd.zeroValue37 }
def sortRows_ren : Go.Shelf.Ren := ⟨fun | 6 => 50 | 15 => 61 | 14 => 60 | 28 => 81 | 29 => 82 | 20 => 73 | 21 => 74 | 22 => 75 | 23 => 76 | 24 => 77 | 25 => 78 | 26 => 79 | 27 => 80 | 46 => 90 | 47 => 91 | 48 => 92 | 49 => 93 | 50 => 94 | 57 => 98 | n => n, fun | 22 => 37 | 24 => 58 | 25 => 116 | 3 => 3 | 39 => 125 | 0 => 0 | 53 => 148 | 55 => 90 | 4 => 4 | 46 => 141 | 45 => 140 | 50 => 145 | 5 => 5 | 9 => 9 | 66 => 156 | 70 => 160 | 76 => 162 | 77 => 163 | n => n, fun | n => n⟩
theorem sortRows : Go.Proofs.SlLaysF.n6 Tryd.prog sortRows_ren := {
 mixed := by kernel_rfl
 f6 := ⟨Tryd.f50.name, by decide, Tryd.func50.trans (congrArg some (by kernel_rfl))⟩
 f14 := ⟨Tryd.f60.name, by decide, Tryd.func60.trans (congrArg some (by kernel_rfl))⟩
 f15 := Tryd.func61.trans (congrArg some (by kernel_rfl))
 f20 := ⟨Tryd.f73.name, by decide, Tryd.func73.trans (congrArg some (by kernel_rfl))⟩
 f21 := ⟨Tryd.f74.name, by decide, Tryd.func74.trans (congrArg some (by kernel_rfl))⟩
 f22 := ⟨Tryd.f75.name, by decide, Tryd.func75.trans (congrArg some (by kernel_rfl))⟩
 f23 := ⟨Tryd.f76.name, by decide, Tryd.func76.trans (congrArg some (by kernel_rfl))⟩
 f24 := ⟨Tryd.f77.name, by decide, Tryd.func77.trans (congrArg some (by kernel_rfl))⟩
 f25 := ⟨Tryd.f78.name, by decide, Tryd.func78.trans (congrArg some (by kernel_rfl))⟩
 f26 := ⟨Tryd.f79.name, by decide, Tryd.func79.trans (congrArg some (by kernel_rfl))⟩
 f27 := ⟨Tryd.f80.name, by decide, Tryd.func80.trans (congrArg some (by kernel_rfl))⟩
 f28 := Tryd.func81.trans (congrArg some (by kernel_rfl))
 f29 := Tryd.func82.trans (congrArg some (by kernel_rfl))
 f46 := ⟨Tryd.f90.name, by decide, Tryd.func90.trans (congrArg some (by kernel_rfl))⟩
 f47 := Tryd.func91.trans (congrArg some (by kernel_rfl))
 f48 := Tryd.func92.trans (congrArg some (by kernel_rfl))
 f49 := ⟨Tryd.f93.name, by decide, Tryd.func93.trans (congrArg some (by kernel_rfl))⟩
 f50 := ⟨Tryd.f94.name, by decide, Tryd.func94.trans (congrArg some (by kernel_rfl))⟩
 f57 := ⟨Tryd.f98.name, by decide, Tryd.func98.trans (congrArg some (by kernel_rfl))⟩
 t0 := Tryd.underlying0
 a0 := Tryd.isAgg0
 z0 := Tryd.sizeOf0
 v0 := Tryd.zeroValue0
 t3 := Tryd.underlying3
 a3 := Tryd.isAgg3
 z3 := Tryd.sizeOf3
 v3 := Tryd.zeroValue3
 t4 := Tryd.underlying4
 a4 := Tryd.isAgg4
 z4 := Tryd.sizeOf4
 v4 := Tryd.zeroValue4
 t5 := Tryd.underlying5
 a5 := Tryd.isAgg5
 z5 := Tryd.sizeOf5
 v5 := Tryd.zeroValue5
 t9 := Tryd.underlying9
 a9 := Tryd.isAgg9
 z9 := Tryd.sizeOf9
 v9 := Tryd.zeroValue9
 t22 := Tryd.underlying37
 a22 := Tryd.isAgg37
 z22 := Tryd.sizeOf37
 v22 := Tryd.zeroValue37
 a24 := Tryd.isAgg58
 z24 := Tryd.sizeOf58
 t25 := Tryd.underlying116
 a25 := Tryd.isAgg116
 z25 := Tryd.sizeOf116
 v25 := Tryd.zeroValue116
 t39 := Tryd.underlying125
 a39 := Tryd.isAgg125
 z39 := Tryd.sizeOf125
 v39 := Tryd.zeroValue125
 t45 := Tryd.underlying140
 a45 := Tryd.isAgg140
 z45 := Tryd.sizeOf140
 v45 := Tryd.zeroValue140
 t46 := Tryd.underlying141
 a46 := Tryd.isAgg141
 z46 := Tryd.sizeOf141
 v46 := Tryd.zeroValue141
 t50 := Tryd.underlying145
 a50 := Tryd.isAgg145
 z50 := Tryd.sizeOf145
 v50 := Tryd.zeroValue145
 t53 := Tryd.underlying148
 a53 := Tryd.isAgg148
 z53 := Tryd.sizeOf148
 v53 := Tryd.zeroValue148
 t55 := Tryd.underlying90
 a55 := Tryd.isAgg90
 z55 := Tryd.sizeOf90
 v55 := Tryd.zeroValue90
 t66 := Tryd.underlying156
 a66 := Tryd.isAgg156
 z66 := Tryd.sizeOf156
 v66 := Tryd.zeroValue156
 t70 := Tryd.underlying160
 a70 := Tryd.isAgg160
 z70 := Tryd.sizeOf160
 v70 := Tryd.zeroValue160
 t76 := Tryd.underlying162
 a76 := Tryd.isAgg162
 z76 := Tryd.sizeOf162
 v76 := Tryd.zeroValue162
 t77 := Tryd.underlying163
 a77 := Tryd.isAgg163
 z77 := Tryd.sizeOf163
 v77 := Tryd.zeroValue163 }
def add64L_ren : Go.Shelf.Ren := ⟨fun | 25 => 118 | n => n, fun | 22 => 90 | n => n, fun | n => n⟩
theorem add64L : Go.Proofs.Lays7.n25 Tryd.prog add64L_ren := {
 mixed := by kernel_rfl
 f25 := Tryd.func118.trans (congrArg some (by kernel_rfl))
 t22 := Tryd.underlying90
 a22 := Tryd.isAgg90
 z22 := Tryd.sizeOf90
 v22 := Tryd.zeroValue90
 i22 := by kernel_rfl }
def sub64L_ren : Go.Shelf.Ren := ⟨fun | 26 => 120 | n => n, fun | 22 => 90 | n => n, fun | n => n⟩
theorem sub64L : Go.Proofs.Lays7.n26 Tryd.prog sub64L_ren := {
 mixed := by kernel_rfl
 f26 := Tryd.func120.trans (congrArg some (by kernel_rfl))
 t22 := Tryd.underlying90
 a22 := Tryd.isAgg90
 z22 := Tryd.sizeOf90
 v22 := Tryd.zeroValue90
 i22 := by kernel_rfl }
end Go.Proofs
namespace Go.Proofs.YtecgkcgfeghhgaaDoor.PAll
open Go.RowKit Go.Proofs.YtecgkcgfeghhgaaDoorW.PrintWords Go.Proofs.YtecgkcgfeghhgaaDoorW.PrintLast Go.Proofs.YtecgkcgfeghhgaaDoorW.PrintMore
attribute [local go_sem] max2_int min2_int max_two min_two max_three min_three max_four min_four
set_option linter.unusedVariables false
set_option linter.unusedSimpArgs false
def errW : Option Int → Value
 | none => .nilIface
 | some c => .iface 0 (.int .i64 c)
theorem errW_none : errW none = .nilIface := rfl
theorem errW_some (c : Int) : errW (some c) = .iface 0 (.int .i64 c) := rfl
theorem info25 : (Tryd.prog.info? 25).map (fun i => (i.zero, i.size, i.bytes)) = some (some (.int .u8 0), 1, 1) := by kernel_rfl
theorem info27 : (Tryd.prog.info? 27).map (fun i => (i.zero, i.size, i.bytes)) = some (some (.agg #[(.int .u8 0), (.int .i64 0), (.string ⟨#[]⟩)]), 3, 32) := by kernel_rfl
structure S27 where
 f0 : Int
 f1 : Int
 f2 : ByteArray
def z27 : S27 := ⟨(0 : Int), (0 : Int), (⟨#[]⟩ : ByteArray)⟩
def k27 : Kd S27 := Kd.iso (Kd.pair (Kd.int .u8) (Kd.pair (Kd.int .i64) Kd.string)) (fun x : S27 => (x.f0, x.f1, x.f2))
theorem k27_open {w : World} {x : S27} {cs : List Value} (h : k27.K w x cs) : cs = [.int .u8 x.f0, .int .i64 x.f1, .string x.f2] := by
 obtain ⟨_, _, rfl, rfl, ⟨_, _, rfl, rfl, rfl⟩⟩ := h
 exact rfl
theorem k27_openM {w : World} {base : Nat} {ok : Nat → Prop} {x : S27} {cs : List Value} (h : k27.M w base ok x cs) : cs = [.int .u8 x.f0, .int .i64 x.f1, .string x.f2] := by
 obtain ⟨_, _, rfl, rfl, ⟨_, _, rfl, rfl, rfl⟩⟩ := h
 exact rfl
theorem k27_mkM (w : World) (base : Nat) (ok : Nat → Prop) (x : S27)  : k27.M w base ok x [.int .u8 x.f0, .int .i64 x.f1, .string x.f2] := ⟨[.int .u8 x.f0], [.int .i64 x.f1, .string x.f2], rfl, rfl, ⟨[.int .i64 x.f1], [.string x.f2], rfl, rfl, rfl⟩⟩
def rd_T27 (xs : List S27) (i : Int) : S27 := xs.getD i.toNat z27
theorem at_T27 {w : World} {A : Option Addr} {n : Nat} {xs : List S27} (h : Kd.C k27 w A n xs) (i : Int) (h0 : 0 ≤ i) (h1 : i < n) : ∃ ad , A = some ad ∧ w.cell? (ad.add (i.toNat * 3)) = some (.int .u8 (rd_T27 xs i).f0) ∧ w.cell? ⟨(ad.add (i.toNat * 3)).block, (ad.add (i.toNat * 3)).off + 1, none⟩ = some (.int .i64 (rd_T27 xs i).f1) ∧ w.cell? ⟨(ad.add (i.toNat * 3)).block, (ad.add (i.toNat * 3)).off + 2, none⟩ = some (.string (rd_T27 xs i).f2) := by
 obtain ⟨ad, c, e, _, hK, hc0⟩ := Kd.C_get h z27 i h0 h1
 have hc : ∀ j u, c[j]? = some u → w.cell? (ad.add (i.toNat * 3 + j)) = some u := hc0
 obtain rfl := k27_open hK
 exact ⟨ad, e, hc 0 _ rfl, by rw [← add_field _ _ 1 (by omega)]; exact hc 1 _ rfl, by rw [← add_field _ _ 2 (by omega)]; exact hc 2 _ rfl⟩
def rd_L4 (xs : List (List S27)) (i : Int) : (List S27) := xs.getD i.toNat ([] : List S27)
theorem at_L4 {w : World} {A : Option Addr} {n : Nat} {xs : List (List S27)} (h : Kd.C (Kd.slice 27 k27) w A n xs) (i : Int) (h0 : 0 ≤ i) (h1 : i < n) : ∃ ad A0 c0, A = some ad ∧ w.cell? (ad.add i.toNat) = some (.slice A0 (rd_L4 xs i).length c0) ∧ (rd_L4 xs i).length ≤ c0 ∧ k27.C w A0 (rd_L4 xs i).length (rd_L4 xs i) := by
 obtain ⟨ad, c, e, _, hK, hc0⟩ := Kd.C_get h ([] : List S27) i h0 h1
 have hc : ∀ j u, c[j]? = some u → w.cell? (ad.add (i.toNat * 1 + j)) = some u := hc0
 obtain ⟨A0, c0, rfl, l0, g0⟩ := hK
 exact ⟨ad, A0, c0, e, by have hq := hc 0 _ rfl; rwa [Nat.mul_one, Nat.add_zero] at hq, l0, g0⟩
structure S62 where
 f0 : Int
 f1 : Bool
def z62 : S62 := ⟨(0 : Int), false⟩
def k62 : Kd S62 := Kd.iso (Kd.pair (Kd.int .i64) Kd.bool) (fun x : S62 => (x.f0, x.f1))
theorem k62_open {w : World} {x : S62} {cs : List Value} (h : k62.K w x cs) : cs = [.int .i64 x.f0, .bool x.f1] := by
 obtain ⟨_, _, rfl, rfl, rfl⟩ := h
 exact rfl
theorem k62_mkM (w : World) (base : Nat) (ok : Nat → Prop) (x : S62)  : k62.M w base ok x [.int .i64 x.f0, .bool x.f1] := ⟨[.int .i64 x.f0], [.bool x.f1], rfl, rfl, rfl⟩
def rd_T62 (xs : List S62) (i : Int) : S62 := xs.getD i.toNat z62
theorem at_T62 {w : World} {A : Option Addr} {n : Nat} {xs : List S62} (h : Kd.C k62 w A n xs) (i : Int) (h0 : 0 ≤ i) (h1 : i < n) : ∃ ad , A = some ad ∧ w.cell? (ad.add (i.toNat * 2)) = some (.int .i64 (rd_T62 xs i).f0) ∧ w.cell? ⟨(ad.add (i.toNat * 2)).block, (ad.add (i.toNat * 2)).off + 1, none⟩ = some (.bool (rd_T62 xs i).f1) := by
 obtain ⟨ad, c, e, _, hK, hc0⟩ := Kd.C_get h z62 i h0 h1
 have hc : ∀ j u, c[j]? = some u → w.cell? (ad.add (i.toNat * 2 + j)) = some u := hc0
 obtain rfl := k62_open hK
 exact ⟨ad, e, hc 0 _ rfl, by rw [← add_field _ _ 1 (by omega)]; exact hc 1 _ rfl⟩
structure S47 where
 f0 : Int
 f1 : Int
 f2 : Bool
def z47 : S47 := ⟨(0 : Int), (0 : Int), false⟩
def k47 : Kd S47 := Kd.iso (Kd.pair (Kd.int .u8) (Kd.pair (Kd.int .i64) Kd.bool)) (fun x : S47 => (x.f0, x.f1, x.f2))
theorem k47_open {w : World} {x : S47} {cs : List Value} (h : k47.K w x cs) : cs = [.int .u8 x.f0, .int .i64 x.f1, .bool x.f2] := by
 obtain ⟨_, _, rfl, rfl, ⟨_, _, rfl, rfl, rfl⟩⟩ := h
 exact rfl
theorem k47_mkM (w : World) (base : Nat) (ok : Nat → Prop) (x : S47)  : k47.M w base ok x [.int .u8 x.f0, .int .i64 x.f1, .bool x.f2] := ⟨[.int .u8 x.f0], [.int .i64 x.f1, .bool x.f2], rfl, rfl, ⟨[.int .i64 x.f1], [.bool x.f2], rfl, rfl, rfl⟩⟩
def rd_T47 (xs : List S47) (i : Int) : S47 := xs.getD i.toNat z47
theorem at_T47 {w : World} {A : Option Addr} {n : Nat} {xs : List S47} (h : Kd.C k47 w A n xs) (i : Int) (h0 : 0 ≤ i) (h1 : i < n) : ∃ ad , A = some ad ∧ w.cell? (ad.add (i.toNat * 3)) = some (.int .u8 (rd_T47 xs i).f0) ∧ w.cell? ⟨(ad.add (i.toNat * 3)).block, (ad.add (i.toNat * 3)).off + 1, none⟩ = some (.int .i64 (rd_T47 xs i).f1) ∧ w.cell? ⟨(ad.add (i.toNat * 3)).block, (ad.add (i.toNat * 3)).off + 2, none⟩ = some (.bool (rd_T47 xs i).f2) := by
 obtain ⟨ad, c, e, _, hK, hc0⟩ := Kd.C_get h z47 i h0 h1
 have hc : ∀ j u, c[j]? = some u → w.cell? (ad.add (i.toNat * 3 + j)) = some u := hc0
 obtain rfl := k47_open hK
 exact ⟨ad, e, hc 0 _ rfl, by rw [← add_field _ _ 1 (by omega)]; exact hc 1 _ rfl, by rw [← add_field _ _ 2 (by omega)]; exact hc 2 _ rfl⟩
end Go.Proofs.YtecgkcgfeghhgaaDoor.PAll
set_option linter.unusedVariables false
set_option linter.unusedSimpArgs false
namespace Go.Proofs.YtecgkcgfeghhgaaDoor.PAll
open Go.RowKit Go.Proofs.YtecgkcgfeghhgaaDoorW.PrintWords Go.Proofs.YtecgkcgfeghhgaaDoorW.PrintLast Go.Proofs.YtecgkcgfeghhgaaDoorW.PrintMore
abbrev V := S27
abbrev kV : Kd V := k27
abbrev kRow : Kd (List V) := Kd.slice 27 k27
def LaidT (w : World) : Prop := Lib.TabIs Tryd.prog w "internal/strconv.uint64pow10" .u64 Lib.pow10Tab
theorem LaidT.below {w w' : World} (h : LaidT w) (hb : Below w.heap.size w w') : LaidT w' := by
 unfold LaidT Lib.TabIs World.var? at *
 cases hg : Tryd.prog.globalNamed "internal/strconv.uint64pow10" with
 | none => simp [hg] at h
 | some g =>
  simp only [hg, Option.bind_some] at h ⊢
  have hlt : g < w.heap.size := by
   rcases Nat.lt_or_ge g w.heap.size with h' | h'
   · exact h'
   · rw [Array.getElem?_eq_none h'] at h; simp at h
  rw [hb.block g hlt]
  exact h
theorem below_grow (w : World) (k : Nat) (os : Array Obj) : Below w.heap.size w (Sort.grow (w.drewN k) os) :=
 ⟨rfl, rfl, rfl, by show w.heap.size ≤ (w.heap ++ os).size; rw [Array.size_append]; omega, fun j hj => by
  show (w.heap ++ os)[j]? = w.heap[j]?
  rw [Array.getElem?_append_left hj]⟩
def VOk (v : V) : Prop := 0 ≤ v.f0 ∧ v.f0 ≤ 255 ∧ -9223372036854775808 ≤ v.f1 ∧ v.f1 ≤ 9223372036854775807
def nameV (v : V) : List UInt8 := Lib.itoa v.f0 ++ ([32] ++ (Lib.itoa v.f1 ++ ([32] ++ (Lib.itoa v.f2.size ++ ([58] ++ v.f2.data.toList)))))
def nameB : List V → List UInt8
 | [] => []
 | v :: r => nameV v ++ nameB r
def nameOf (l : List V) : ByteArray := ⟨(nameB l).toArray⟩
theorem sizeMk (l : List UInt8) : (⟨l.toArray⟩ : ByteArray).size = l.length := by simp [ByteArray.size]
theorem nameB_append (a b : List V) : nameB (a ++ b) = nameB a ++ nameB b := by
 induction a with
 | nil => rfl
 | cons v r ih => simp only [List.cons_append, nameB, ih, List.append_assoc]
theorem nameB_take (l : List V) (i : Nat) (h : i < l.length) : nameB (l.take (i + 1)) = nameB (l.take i) ++ nameV l[i] := by
 rw [List.take_succ_eq_append_getElem h, nameB_append]
 simp [nameB]
theorem nameB_len (l : List V) (i : Nat) (h : i < l.length) : (nameB (l.take i)).length + (nameV l[i]).length ≤ (nameB l).length := by
 have := nameB_take l i h
 have h2 : nameB l = nameB (l.take (i + 1)) ++ nameB (l.drop (i + 1)) := by rw [← nameB_append, List.take_append_drop]
 rw [h2, this]
 simp only [List.length_append]
 omega
structure NSt (w0 : World) (g : Nat) (v : V) (bs : List UInt8) (W : World) : Prop where
 bld : Lib.IsBuilderF 104 5 w0.heap.size w0.heap.size (Lib.byteCells bs) W
 below : Below w0.heap.size w0 W
 box : W.heap[g]? = some (.cells #[.int .u8 v.f0, .int .i64 v.f1, .string v.f2] 27 (0, 0))
 gt : w0.heap.size < g
theorem bld_below {B b : Nat} {bs : List Value} {W W' : World} (h : Lib.IsBuilderF 104 5 B b bs W) (hb : Below W.heap.size W W') : Lib.IsBuilderF 104 5 B b bs W' := by
 have one : ∀ p, Lib.BuilderAtF 104 5 B b p bs W → Lib.BuilderAtF 104 5 B b p bs W' := by
  intro p hA
  have hlt := hA.lt
  obtain ⟨hB, v, hbk, hown, hne⟩ := hA
  exact ⟨hB, v, (hb.block b hlt).trans hbk, hown.kept (grown_of_below hb none) (by cases v.ownBlock <;> simp), hne⟩
 rcases h with h | h
 · exact .inl (one _ h)
 · exact .inr (one _ h)
theorem NSt.quiet {w0 : World} {g : Nat} {v : V} {bs : List UInt8} {W W' : World} (h : NSt w0 g v bs W) (hb : Below W.heap.size W W') : NSt w0 g v bs W' :=
 ⟨bld_below h.bld hb, h.below.trans (hb.mono h.below.size), (hb.block g (by
  rcases Nat.lt_or_ge g W.heap.size with h' | h'
  · exact h'
  · have := h.box; simp [Array.getElem?_eq_none h'] at this)).trans h.box, h.gt⟩
theorem NSt.kept {w0 : World} {g : Nat} {v : V} {bs bs' : List UInt8} {W W' : World} (h : NSt w0 g v bs W) (hA : Lib.BuilderAtF 104 5 w0.heap.size w0.heap.size (.pointer (some ⟨w0.heap.size, 0, none⟩)) (Lib.byteCells bs') W') (hb : Below w0.heap.size W W') (hk : Lib.OthersKept 5 (some w0.heap.size) W W') : NSt w0 g v bs' W' :=
 ⟨.inr hA, h.below.trans hb, hk g _ h.box (by have := h.gt; simp; omega) (fun c fz e => by injection e with _ e2 _; revert e2; decide), h.gt⟩
theorem NSt.cells {w0 : World} {g : Nat} {v : V} {bs : List UInt8} {W : World} (h : NSt w0 g v bs W) : W.cell? ⟨g, 0, none⟩ = some (.int .u8 v.f0) ∧ W.cell? ⟨g, 1, none⟩ = some (.int .i64 v.f1) ∧ W.cell? ⟨g, 2, none⟩ = some (.string v.f2) :=
 ⟨(blk_cell h.box 0).trans rfl, (blk_cell h.box 1).trans rfl, (blk_cell h.box 2).trans rfl⟩
theorem NSt.ws {w0 : World} {g : Nat} {v : V} {bs : List UInt8} {W : World} (h : NSt w0 g v bs W) (s : ByteArray) (hlen : bs.length + s.size ≤ 140737488355328) :
 Calls Tryd.prog 41 #[.pointer (some ⟨w0.heap.size, 0, none⟩), .string s] W fun e w' => e = .returned (.tuple #[.int .i64 s.size, .nilIface]) ∧ Aside0 (NSt w0 g v (bs ++ s.data.toList) w') :=
 (Bld.WriteString w0.heap.size w0.heap.size (Lib.byteCells bs) s W h.bld (by rw [Lib.byteCells_length]; exact hlen) h.below.size).mono fun _ _ ⟨he, hA, hb, hk⟩ => ⟨he, ⟨h.kept (by
  have e : Lib.byteCells (bs ++ s.data.toList) = Lib.byteCells bs ++ Lib.strCells s := by simp [Lib.byteCells, Lib.strCells]
  rw [e]; exact hA) hb hk⟩⟩
theorem NSt.wb {w0 : World} {g : Nat} {v : V} {bs : List UInt8} {W : World} (h : NSt w0 g v bs W) (c : UInt8) (ci : Int) (hc : ci = c.toNat) (hlen : bs.length + 1 ≤ 140737488355328) :
 Calls Tryd.prog 43 #[.pointer (some ⟨w0.heap.size, 0, none⟩), .int .u8 ci] W fun e w' => e = .returned .nilIface ∧ Aside0 (NSt w0 g v (bs ++ [c]) w') :=
 (Bld.WriteByte w0.heap.size w0.heap.size (Lib.byteCells bs) ci W h.bld (by rw [Lib.byteCells_length]; exact hlen) h.below.size).mono fun _ _ ⟨he, hA, hb, hk⟩ => ⟨he, ⟨h.kept (by
  have e : Lib.byteCells (bs ++ [c]) = Lib.byteCells bs ++ [.int .u8 ci] := by simp [Lib.byteCells, hc]
  rw [e]; exact hA) hb hk⟩⟩
theorem NSt.itoa {w0 : World} {g : Nat} {v : V} {bs : List UInt8} {W : World} (h : NSt w0 g v bs W) (hT : LaidT w0) (n : Int) (h0 : -9223372036854775808 ≤ n) (h1 : n ≤ 9223372036854775807) :
 Calls Tryd.prog 42 #[.int .i64 n] W fun e w' => e = .returned (.string ⟨(Lib.itoa n).toArray⟩) ∧ Aside0 (NSt w0 g v bs w') :=
 (Tryd.strconv_Itoa n h0 h1 W (hT.below h.below)).mono fun _ _ ⟨he, k, os, hw⟩ => ⟨he, ⟨h.quiet (by rw [hw]; exact below_grow _ k os)⟩⟩
theorem NSt.fmt {w0 : World} {g : Nat} {v : V} {bs : List UInt8} {W : World} (h : NSt w0 g v bs W) (hT : LaidT w0) (n : Int) (h0 : -9223372036854775808 ≤ n) (h1 : n ≤ 9223372036854775807) :
 Calls Tryd.prog 44 #[.int .i64 n, .int .i64 10] W fun e w' => e = .returned (.string ⟨(Lib.itoa n).toArray⟩) ∧ Aside0 (NSt w0 g v bs w') :=
 (Tryd.strconv_FormatInt_10 n h0 h1 W (hT.below h.below)).mono fun _ _ ⟨he, k, os, hw⟩ => ⟨he, ⟨h.quiet (by rw [hw]; exact below_grow _ k os)⟩⟩
theorem name_calls (A0 : Option Addr) (c0 : Nat) (l0 : List V) (w : World) (hT : LaidT w) (hr0 : Kd.C kV w A0 l0.length l0) (hc0 : l0.length ≤ c0) (hok : ∀ v ∈ l0, VOk v) (hsz : (nameB l0).length ≤ 1099511627776) (hn : l0.length ≤ 1099511627776) :
 Calls Tryd.prog 29 #[.slice A0 l0.length c0] w fun e w' => e = .returned (.string (nameOf l0)) ∧ Below w.heap.size w w' := by
 have HT := Aside0.mk hT
 have HR0 := Aside0.mk hr0
 have HOK := Aside0.mk hok
 have HSZ := Aside0.mk hsz
 have HN := Aside0.mk hn
 clear hT hr0 hc0 hok hsz hn
 go_enter Tryd.func29, Tryd.ntmps29
 go_wp2
 have N0 : Aside0 (Lib.IsBuilderF 104 5 w.heap.size w.heap.size (Lib.byteCells (nameB (l0.take (0 : Int).toNat))) (w.alloc (.cells #[.pointer none, .slice none 0 0] 104))) := ⟨Lib.IsBuilderF.of (by simpa [nameB, Lib.byteCells] using Lib.fresh_isBuilder 104 5 w)⟩
 have B0 := Aside0.mk ((Below.refl w.heap.size w).alloc (Nat.le_refl _) (.cells #[.pointer none, .slice none 0 0] 104))
 go_loopg [8] l0.length (fun kq v8 W => ∃ x : Int, v8 = .int .i64 x ∧ Aside0 (0 ≤ x ∧ x ≤ l0.length ∧ (kq : Int) = l0.length - x) ∧ Aside0 (Lib.IsBuilderF 104 5 w.heap.size w.heap.size (Lib.byteCells (nameB (l0.take x.toNat))) W) ∧ Aside0 (Below w.heap.size w W))
 case atStart => exact ⟨0, rfl, ⟨by omega⟩, N0, B0⟩
 case round =>
  clear N0 B0
  obtain ⟨x, rfl, HX, HN1, HB⟩ := hrel
  obtain ⟨hx0, hx1, hkq⟩ := HX.out
  by_cases hlt : x < (l0.length : Int)
  · have c1 : decide (x < (l0.length : Int)) = true := decide_eq_true hlt
    have c2 : decide (0 ≤ x) = true := decide_eq_true hx0
    obtain ⟨ad, e, hx_0, hx_1, hx_2⟩ := at_T27 HR0.out x hx0 hlt
    cases e
    replace hx_0 := (HB.out.cell (World.block_lt_of_cell? w _ hx_0)).trans hx_0
    replace hx_1 := (HB.out.cell (World.block_lt_of_cell? w _ hx_1)).trans hx_1
    replace hx_2 := (HB.out.cell (World.block_lt_of_cell? w _ hx_2)).trans hx_2
    have hi : x.toNat < l0.length := by omega
    have hrd : rd_T27 l0 x = l0[x.toNat] := by simp [rd_T27, List.getElem?_eq_getElem hi]
    obtain ⟨v, hv⟩ : ∃ v, v = rd_T27 l0 x := ⟨_, rfl⟩
    rw [← hv] at hx_0 hx_1 hx_2
    obtain ⟨k0, k1, k2, k3⟩ := HOK.out v (by rw [hv, hrd]; exact List.getElem_mem hi)
    have hl1 := nameB_len l0 x.toNat hi
    rw [← hrd, ← hv] at hl1
    have hst : nameB (l0.take (x + 1).toNat) = nameB (l0.take x.toNat) ++ nameV v := by
     rw [show (x + 1).toNat = x.toNat + 1 by omega, nameB_take _ _ hi, hv, hrd]
    have HST := Aside0.mk hst
    have HV := Aside0.mk hv
    have HL := Aside0.mk hl1
    have HK := Aside0.mk hkq
    have HI := Aside0.mk hi
    have HLT := Aside0.mk hlt
    clear hst hv hl1 hkq
    clear hrd hi
    have hwr : wrap64 (x + 1) = x + 1 := by have := HN.out; unfold wrap64; omega
    have HWR := Aside0.mk hwr
    clear hwr
    have hgt : w.heap.size < wr.heap.size := by
     rcases HN1.out with h | h
     · exact h.lt
     · exact h.lt
    have S0 : Aside0 (NSt w wr.heap.size v (nameB (l0.take x.toNat)) (wr.alloc (.cells #[.int .u8 v.f0, .int .i64 v.f1, .string v.f2] 27))) :=
     ⟨⟨bld_below HN1.out ((Below.refl _ _).alloc (Nat.le_refl _) _), HB.out.alloc HB.out.size _, heap_alloc_new _ _, hgt⟩⟩
    have hA : (nameB (l0.take x.toNat)).length + ((Lib.itoa v.f0).length + (1 + ((Lib.itoa v.f1).length + (1 + ((Lib.itoa v.f2.size).length + (1 + v.f2.size)))))) ≤ 1099511627776 := by
     have h1 := HL.out
     have h2 := HSZ.out
     simp only [nameV, List.length_append, List.length_cons, List.length_nil, Nat.zero_add] at h1
     have h3 : v.f2.data.toList.length = v.f2.size := Array.length_toList
     omega
    have HSz := Aside0.mk sizeMk
    have HA := Aside0.mk hA
    clear hA hgt
    go_wp2_with fail
    refine (S0.out.itoa HT.out v.f0 (by omega) (by omega)).mono ?_
    rintro e w1 ⟨rfl, S1⟩
    clear S0
    go_wp2_with fail
    refine (S1.out.ws _ (by rw [HSz.out]; have := HA.out; omega)).mono ?_
    rintro e w2 ⟨rfl, S2⟩
    clear S1
    go_wp2_with fail
    refine (S2.out.wb 32 32 rfl (by simp only [List.length_append, List.length_cons, List.length_nil]; have := HA.out; omega)).mono ?_
    rintro e w3 ⟨rfl, S3⟩
    clear S2
    obtain ⟨_, q1, _⟩ := S3.out.cells
    go_wp2_with fail
    refine (S3.out.fmt HT.out v.f1 (by omega) (by omega)).mono ?_
    rintro e w4 ⟨rfl, S4⟩
    clear S3 q1
    go_wp2_with fail
    refine (S4.out.ws _ (by rw [HSz.out]; simp only [List.length_append, List.length_cons, List.length_nil]; have := HA.out; omega)).mono ?_
    rintro e w5 ⟨rfl, S5⟩
    clear S4
    go_wp2_with fail
    refine (S5.out.wb 32 32 rfl (by simp only [List.length_append, List.length_cons, List.length_nil]; have := HA.out; omega)).mono ?_
    rintro e w6 ⟨rfl, S6⟩
    clear S5
    obtain ⟨_, _, q2⟩ := S6.out.cells
    go_wp2_with fail
    refine (S6.out.itoa HT.out v.f2.size (by omega) (by have := HA.out; omega)).mono ?_
    rintro e w7 ⟨rfl, S7⟩
    clear S6 q2
    go_wp2_with fail
    refine (S7.out.ws _ (by rw [HSz.out]; simp only [List.length_append, List.length_cons, List.length_nil]; have := HA.out; omega)).mono ?_
    rintro e w8 ⟨rfl, S8⟩
    clear S7
    go_wp2_with fail
    refine (S8.out.wb 58 58 rfl (by simp only [List.length_append, List.length_cons, List.length_nil]; have := HA.out; omega)).mono ?_
    rintro e w9 ⟨rfl, S9⟩
    clear S8
    obtain ⟨_, _, q3⟩ := S9.out.cells
    go_wp2_with fail
    refine (S9.out.ws _ (by simp only [List.length_append, List.length_cons, List.length_nil]; have := HA.out; omega)).mono ?_
    rintro e w10 ⟨rfl, S10⟩
    clear S9 q3
    go_wp2_with fail
    have hlt := HLT.out
    have hk := HK.out
    cases gk with
    | zero => omega
    | succ k1 =>
     go_roundg k1
     case measure => omega
     case rel =>
      refine ⟨x + 1, by rw [HWR.out], ⟨by omega⟩, ⟨?_⟩, ⟨S10.out.below⟩⟩
      rw [HST.out]
      have := S10.out.bld
      simpa [nameV, List.append_assoc] using this
  · have c1 : decide (x < (l0.length : Int)) = false := decide_eq_false hlt
    go_wp2_with fail
    refine (Tryd.Builder_String_any_k w.heap.size w.heap.size (nameB (l0.take x.toNat)) wr HN1.out HB.out.size).mono ?_
    rintro e w1 ⟨rfl, _, hb, _⟩
    go_wp2
    go_ret
    refine ⟨?_, HB.out.trans hb⟩
    have : l0.take x.toNat = l0 := List.take_of_length_le (by omega)
    rw [this, nameOf]
    rfl
end Go.Proofs.YtecgkcgfeghhgaaDoor.PAll
set_option linter.unusedVariables false
namespace Go.Proofs.YtecgkcgfeghhgaaDoor.KV
open Go.RowKit Go.Proofs.YtecgkcgfeghhgaaDoorW.PrintWords
section
variable {α : Type}
def get : List (ByteArray × α) → ByteArray → Option α
 | [], _ => none
 | (t, u) :: r, s => if t = s then some u else get r s
def put : List (ByteArray × α) → ByteArray → α → List (ByteArray × α)
 | [], s, v => [(s, v)]
 | (t, u) :: r, s, v => if t = s then (s, v) :: r else (t, u) :: put r s v
theorem get_put_same (l : List (ByteArray × α)) (s : ByteArray) (v : α) : get (put l s v) s = some v := by
 induction l with
 | nil => simp [get, put]
 | cons p r ih =>
  obtain ⟨t, u⟩ := p
  by_cases h : t = s
  · simp [get, put, h]
  · simp [get, put, h, ih]
theorem get_put_other (l : List (ByteArray × α)) {s s' : ByteArray} (h : s' ≠ s) (v : α) : get (put l s v) s' = get l s' := by
 induction l with
 | nil => simp [get, put, Ne.symm h]
 | cons p r ih =>
  obtain ⟨t, u⟩ := p
  by_cases h1 : t = s
  · subst h1; simp [get, put, Ne.symm h]
  · by_cases h2 : t = s'
    · subst h2; simp [get, put, h1]
    · simp [get, put, h1, h2, ih]
def Is (w : World) (b : Nat) (enc : α → Value) (kv : List (ByteArray × α)) : Prop :=
 ∃ es clock, w.heap[b]? = some (.map es clock) ∧ es.toList.map (fun e => (e.key, e.val)) = kv.map (fun p => (Value.string p.1, enc p.2))
theorem Is.lt {w : World} {b : Nat} {enc : α → Value} {kv : List (ByteArray × α)} (h : Is w b enc kv) : b < w.heap.size := by
 obtain ⟨es, clock, hb, _⟩ := h
 exact (Array.getElem?_eq_some_iff.1 hb).1
theorem Is.move {w w' : World} {b : Nat} {enc : α → Value} {kv : List (ByteArray × α)} (h : Is w b enc kv) (hm : w'.heap[b]? = w.heap[b]?) : Is w' b enc kv := by
 obtain ⟨es, clock, hb, he⟩ := h
 exact ⟨es, clock, hm.trans hb, he⟩
theorem Is.below {w w' : World} {b : Nat} {enc : α → Value} {kv : List (ByteArray × α)} (h : Is w b enc kv) (hb : Below w.heap.size w w') : Is w' b enc kv := h.move (hb.block b h.lt)
theorem Is.grown {w w' : World} {b : Nat} {enc : α → Value} {kv : List (ByteArray × α)} (h : Is w b enc kv) {row : Option Nat} (hg : w.grownBy w' row) (hne : some b ≠ row) : Is w' b enc kv := h.move (hg.block b h.lt hne)
theorem Is.made (w : World) (enc : α → Value) : Is (w.alloc (.map #[] 0)) w.heap.size enc [] := by
 refine ⟨#[], 0, ?_, rfl⟩
 show (w.heap.push _)[w.heap.size]? = _
 simp
theorem beq_self (a : ByteArray) : (a == a) = true := (MapKept.bytes_beq a a).2 rfl
theorem beq_ne {a b : ByteArray} (h : a ≠ b) : (a == b) = false := by
 cases hb : (a == b) with
 | false => rfl
 | true => exact absurd ((MapKept.bytes_beq a b).1 hb) h
theorem find {enc : α → Value} (s : ByteArray) : ∀ (es : List MapEntry) (kv : List (ByteArray × α)) (i : Nat), es.map (fun e => (e.key, e.val)) = kv.map (fun p => (Value.string p.1, enc p.2)) →
 (Instr.findNow .string (.string s) es i = some none ∧ get kv s = none ∧ ∀ v, put kv s v = kv ++ [(s, v)]) ∨
 ∃ (j : Nat) (e : MapEntry) (u : α), Instr.findNow .string (.string s) es i = some (some (i + j, enc u)) ∧ es[j]? = some e ∧ e.key = .string s ∧ get kv s = some u ∧ ∀ v, put kv s v = kv.set j (s, v)
 | [], [], _, _ => .inl ⟨rfl, rfl, fun _ => rfl⟩
 | [], _ :: _, _, h => by simp at h
 | _ :: _, [], _, h => by simp at h
 | e :: es, (t, u) :: kv, i, h => by
  simp only [List.map_cons, List.cons.injEq, Prod.mk.injEq] at h
  obtain ⟨⟨hk, hv⟩, hr⟩ := h
  by_cases hts : t = s
  · subst hts
    refine .inr ⟨0, e, u, ?_, rfl, hk, by simp [get], fun v => by simp [put]⟩
    simp [Instr.findNow, Instr.sameNow, hk, hv, beq_self]
  · have hb : (s == t) = false := beq_ne (fun h => hts h.symm)
    rcases find s es kv (i + 1) hr with ⟨h1, h2, h3⟩ | ⟨j, e', u', h1, h2, h3, h4, h5⟩
    · exact .inl ⟨by simp [Instr.findNow, Instr.sameNow, hk, hb, h1], by simp [get, hts, h2], fun v => by simp [put, hts, h3]⟩
    · exact .inr ⟨j + 1, e', u', by simp [Instr.findNow, Instr.sameNow, hk, hb, h1]; omega, by simpa using h2, h3, by simp [get, hts, h4], fun v => by simp [put, hts, h5]⟩
variable {P : Program}
theorem run_lookup {w : World} {b : Nat} {enc : α → Value} {kv : List (ByteArray × α)} (h : Is w b enc kv) {t k e : TypeId} (ht : P.underlying t = some (.map k e)) (hk : P.underlying k = some .string) {z : Value} (hz : (zeroValue e).run P w = .ok z w) (s : ByteArray) (c : Bool) :
 (Instr.lookup t (.map (some b)) (.string s) c).run P w = .ok (if c then .tuple #[((get kv s).map enc).getD z, .bool (get kv s).isSome] else ((get kv s).map enc).getD z) w := by
 obtain ⟨es, clock, hb, he⟩ := h
 rcases find s es.toList kv 0 he with ⟨h1, h2, _⟩ | ⟨j, e', u, h1, h2, h3, h4, _⟩
 · cases c <;> simp [Instr.lookup, run_underlying ht, MapKept.run_getObj_map hb, MapKept.run_checkKey hk (d := .string) (k := .string s) trivial, MapKept.run_findKey hk h1, hz, Result.andThen, h2]
 · cases c <;> simp [Instr.lookup, run_underlying ht, MapKept.run_getObj_map hb, MapKept.run_checkKey hk (d := .string) (k := .string s) trivial, MapKept.run_findKey hk h1, Result.andThen, h4]
theorem run_update {w : World} {b : Nat} {enc : α → Value} {kv : List (ByteArray × α)} (h : Is w b enc kv) {t k e : TypeId} (ht : P.underlying t = some (.map k e)) (hk : P.underlying k = some .string) (s : ByteArray) (v : α) :
 ∃ w', (Instr.mapUpdate t (.map (some b)) (.string s) (enc v)).run P w = .ok () w' ∧ Is w' b enc (put kv s v) ∧ w.grownBy w' (some b) := by
 obtain ⟨es, clock, hb, he⟩ := h
 have hgrow : ∀ o, w.grownBy { w with heap := w.heap.setIfInBounds b o } (some b) := fun o => ⟨rfl, rfl, rfl, by simp, fun i _ hi => (MapKept.heap_set hb).2 i (fun e => hi (by rw [e]))⟩
 rcases find s es.toList kv 0 he with ⟨h1, h2, h3⟩ | ⟨j, e', u, h1, h2, h3, h4, h5⟩
 · refine ⟨_, ?_, ⟨es.push ⟨.string s, enc v, clock⟩, clock + 1, (MapKept.heap_set hb).1, ?_⟩, hgrow _⟩
   · simp [Instr.mapUpdate, run_underlying ht, MapKept.run_getObj_map hb, MapKept.run_checkKey hk (d := .string) (k := .string s) trivial, MapKept.run_findKey hk h1, MapKept.run_setObj_map _ hb, Result.andThen]
   · simp [h3, he]
 · have hj : es[j]? = some e' := by simpa using h2
   refine ⟨_, ?_, ⟨es.modify j (fun e => { e with key := .string s, val := enc v }), clock, (MapKept.heap_set hb).1, ?_⟩, hgrow _⟩
   · simp [Instr.mapUpdate, run_underlying ht, MapKept.run_getObj_map hb, MapKept.run_checkKey hk (d := .string) (k := .string s) trivial, MapKept.run_findKey hk h1, hj, h3, MapKept.run_keyThatStays (d := .string) (k := .string s) trivial, MapKept.run_setObj_map _ hb, Result.andThen]
   · rw [h5, Array.toList_modify, ChangeMaps.modify_eq_set _ _ _ _ h2, List.map_set, List.map_set, he]
theorem law_lookup (w : World) {ops : Array Oper} {rest : List Oper} {o : Oper} {a : Act} {Q : Exit → Act → World → Prop}
 (hg : o.guard = none) (m x : Operand) (t : TypeId) (hop : o.op = Op.lookup t m x false)
 (k e : TypeId) (hk : P.underlying k = some .string) (ht : P.underlying t = some (.map k e)) (z : Value) (hz : (zeroValue e).run P w = .ok z w) (b : Nat) (enc : α → Value) (kv : List (ByteArray × α))
 (hm : a.eval m = .map (some b)) (hM : Is w b enc kv) (s : ByteArray) (hx : a.eval x = .string s) (u : Value) (hu : ((get kv s).map enc).getD z = u)
 (hK : wpList P ops Q rest (a.put o.dst u) w) : wpList P ops Q (o :: rest) a w := by
 refine wpList_plain hg fun K' hK' => ?_
 have hrun := run_lookup (P := P) hM ht hk hz s false
 unfold Oper.wp
 simp only [execOp, hop, hm, hx]
 simp [hrun, hu, Result.andThen]
 exact hK' _ _ hK
theorem law_lookup_ok (w : World) {ops : Array Oper} {rest : List Oper} {o : Oper} {a : Act} {Q : Exit → Act → World → Prop}
 (hg : o.guard = none) (m x : Operand) (t : TypeId) (hop : o.op = Op.lookup t m x true)
 (k e : TypeId) (hk : P.underlying k = some .string) (ht : P.underlying t = some (.map k e)) (z : Value) (hz : (zeroValue e).run P w = .ok z w) (b : Nat) (enc : α → Value) (kv : List (ByteArray × α))
 (hm : a.eval m = .map (some b)) (hM : Is w b enc kv) (s : ByteArray) (hx : a.eval x = .string s) (u : Value) (hu : ((get kv s).map enc).getD z = u) (c : Bool) (hc : (get kv s).isSome = c)
 (hK : wpList P ops Q rest (a.put o.dst (.tuple #[u, .bool c])) w) : wpList P ops Q (o :: rest) a w := by
 refine wpList_plain hg fun K' hK' => ?_
 have hrun := run_lookup (P := P) hM ht hk hz s true
 unfold Oper.wp
 simp only [execOp, hop, hm, hx]
 simp [hrun, hu, hc, Result.andThen]
 exact hK' _ _ hK
theorem law_update (w : World) {ops : Array Oper} {rest : List Oper} {o : Oper} {a : Act} {Q : Exit → Act → World → Prop}
 (hg : o.guard = none) (m x v : Operand) (t : TypeId) (hop : o.op = Op.mapUpdate t m x v)
 (k e : TypeId) (hk : P.underlying k = some .string) (ht : P.underlying t = some (.map k e)) (b : Nat) (enc : α → Value) (kv : List (ByteArray × α))
 (hm : a.eval m = .map (some b)) (hM : Is w b enc kv) (s : ByteArray) (hx : a.eval x = .string s) (y : α) (hv : a.eval v = enc y)
 (hK : ∀ w', Is w' b enc (put kv s y) → w.grownBy w' (some b) → wpList P ops Q rest (a.put o.dst undef) w') : wpList P ops Q (o :: rest) a w := by
 refine wpList_plain hg fun K' hK' => ?_
 obtain ⟨w', hrun, r1, r2⟩ := run_update (P := P) hM ht hk s y
 unfold Oper.wp
 simp only [execOp, hop, hm, hx, hv]
 simp [hrun, Result.andThen]
 exact hK' _ _ (hK w' r1 r2)
end
end Go.Proofs.YtecgkcgfeghhgaaDoor.KV
set_option linter.unusedVariables false
set_option linter.unusedSimpArgs false
namespace Go.Proofs.YtecgkcgfeghhgaaDoor.PAll
open Go.RowKit Go.Proofs.YtecgkcgfeghhgaaDoorW.PrintWords Go.Proofs.YtecgkcgfeghhgaaDoorW.PrintLast Go.Proofs.YtecgkcgfeghhgaaDoorW.PrintMore
def RowOk (r : List V) : Prop := (∀ v ∈ r, VOk v) ∧ (nameB r).length ≤ 1099511627776 ∧ r.length ≤ 1099511627776
def RowsOk (l : List (List V)) : Prop := (∀ r ∈ l, RowOk r) ∧ l.length ≤ 1099511627776
def cnt (l : List ByteArray) (s : ByteArray) : Int := (l.countP (fun t => decide (t = s)) : Nat)
theorem cnt_nil (s : ByteArray) : cnt [] s = 0 := rfl
theorem cnt_snoc (l : List ByteArray) (t s : ByteArray) : cnt (l ++ [t]) s = cnt l s + (if t = s then 1 else 0) := by
 unfold cnt
 rw [List.countP_append]
 by_cases h : t = s <;> simp [h]
theorem cnt_nonneg (l : List ByteArray) (s : ByteArray) : 0 ≤ cnt l s := by unfold cnt; omega
theorem cnt_le (l : List ByteArray) (s : ByteArray) : cnt l s ≤ l.length := by
 unfold cnt
 have := List.countP_le_length (p := fun t => decide (t = s)) (l := l)
 omega
def CMap (W : World) (b : Nat) (f : ByteArray → Int) : Prop := ∃ kv, KV.Is W b (Value.int .i64) kv ∧ ∀ s, (KV.get kv s).getD 0 = f s
theorem CMap.below {W W' : World} {b : Nat} {f : ByteArray → Int} (h : CMap W b f) (hb : Below W.heap.size W W') : CMap W' b f := by
 obtain ⟨kv, h1, h2⟩ := h
 exact ⟨kv, h1.below hb, h2⟩
theorem CMap.grown {W W' : World} {b : Nat} {f : ByteArray → Int} (h : CMap W b f) {row : Option Nat} (hg : W.grownBy W' row) (hne : some b ≠ row) : CMap W' b f := by
 obtain ⟨kv, h1, h2⟩ := h
 exact ⟨kv, h1.grown hg hne, h2⟩
theorem CMap.lt {W : World} {b : Nat} {f : ByteArray → Int} (h : CMap W b f) : b < W.heap.size := by
 obtain ⟨kv, h1, h2⟩ := h
 exact h1.lt
theorem get_int {kv : List (ByteArray × Int)} {s : ByteArray} {c : Int} (h : (KV.get kv s).getD 0 = c) : ((KV.get kv s).map (Value.int .i64)).getD (.int .i64 0) = .int .i64 c := by
 subst h
 cases KV.get kv s <;> rfl
theorem CMap.put {W : World} {b : Nat} {f : ByteArray → Int} {kv : List (ByteArray × Int)} (h2 : ∀ s, (KV.get kv s).getD 0 = f s) {s : ByteArray} {c : Int} (h1 : KV.Is W b (Value.int .i64) (KV.put kv s c)) : CMap W b (fun t => if t = s then c else f t) := by
 refine ⟨_, h1, fun t => ?_⟩
 by_cases h : t = s
 · subst h; simp [KV.get_put_same]
 · simp [KV.get_put_other _ h, h, h2]
theorem zeroInt (w : World) : (zeroValue 3).run Tryd.prog w = .ok (.int .i64 0) w := by kernel_rfl
theorem take_snoc {α : Type} (l : List α) (i : Nat) (h : i < l.length) : l.take (i + 1) = l.take i ++ [l[i]] := List.take_succ_eq_append_getElem h
theorem tally_calls (A0 : Option Addr) (c0 : Nat) (l0 : List (List V)) (w : World) (hT : LaidT w) (hr0 : Kd.C kRow w A0 l0.length l0) (hc0 : l0.length ≤ c0) (hok : RowsOk l0) :
 Calls Tryd.prog 39 #[.slice A0 l0.length c0] w fun e w' => ∃ b : Nat, e = .returned (.map (some b)) ∧ w.heap.size ≤ b ∧ CMap w' b (cnt (l0.map nameOf)) ∧ Below w.heap.size w w' := by
 have HT := Aside0.mk hT
 have HR0 := Aside0.mk hr0
 have HOK := Aside0.mk hok
 clear hT hr0 hc0 hok
 have hmm : ∀ (n : Int) (w : World), (Instr.makeMap 85 (some (.int .i64 n))).run Tryd.prog w = .ok (.map (some w.heap.size)) (w.alloc (.map #[] 0)) := fun _ _ => by kernel_rfl
 go_enter Tryd.func39, Tryd.ntmps39
 go_wp2
 clear hmm
 have M0 : Aside0 (CMap (w.alloc (.map #[] 0)) w.heap.size (cnt ((l0.take (0 : Int).toNat).map nameOf))) := ⟨⟨[], KV.Is.made w _, fun s => by simp [KV.get, cnt_nil]⟩⟩
 have B0 := Aside0.mk ((Below.refl w.heap.size w).alloc (Nat.le_refl _) (.map #[] 0))
 go_loopg [11] l0.length (fun kq v11 W => ∃ x : Int, v11 = .int .i64 x ∧ Aside0 (0 ≤ x ∧ x ≤ l0.length ∧ (kq : Int) = l0.length - x) ∧ Aside0 (CMap W w.heap.size (cnt ((l0.take x.toNat).map nameOf))) ∧ Aside0 (Below w.heap.size w W))
 case atStart => exact ⟨0, rfl, ⟨by omega⟩, M0, B0⟩
 case round =>
  clear M0 B0
  obtain ⟨x, rfl, HX, HM, HB⟩ := hrel
  obtain ⟨hx0, hx1, hkq⟩ := HX.out
  by_cases hlt : x < (l0.length : Int)
  · have c1 : decide (x < (l0.length : Int)) = true := decide_eq_true hlt
    have c2 : decide (0 ≤ x) = true := decide_eq_true hx0
    obtain ⟨ad, A1, c1', e, hx_0, hl_0, hi_0⟩ := at_L4 HR0.out x hx0 hlt
    cases e
    replace hx_0 := (HB.out.cell (World.block_lt_of_cell? w _ hx_0)).trans hx_0
    have hi : x.toNat < l0.length := by omega
    have hrd : rd_L4 l0 x = l0[x.toNat] := by simp [rd_L4, List.getElem?_eq_getElem hi]
    have hok := HOK.out.1 (rd_L4 l0 x) (by rw [hrd]; exact List.getElem_mem hi)
    have hst : (l0.take (x + 1).toNat).map nameOf = (l0.take x.toNat).map nameOf ++ [nameOf (rd_L4 l0 x)] := by
     rw [show (x + 1).toNat = x.toNat + 1 by omega, take_snoc _ _ hi, List.map_append, hrd]; rfl
    obtain ⟨r, hr⟩ : ∃ r, r = rd_L4 l0 x := ⟨_, rfl⟩
    rw [← hr] at hx_0 hl_0 hi_0 hok hst
    have HI0 := Aside0.mk hi_0
    have HL0 := Aside0.mk hl_0
    have HOK1 := Aside0.mk hok
    have HST := Aside0.mk hst
    have HLT := Aside0.mk hlt
    have HWR : Aside0 (wrap64 (x + 1) = x + 1) := ⟨by have := HOK.out.2; unfold wrap64; omega⟩
    clear hi_0 hl_0 hok hst hrd hr hkq hi
    go_wp2_with fail
    refine (name_calls _ _ r wr (HT.out.below HB.out) (Kd.C_below HI0.out HB.out) HL0.out HOK1.out.1 HOK1.out.2.1 HOK1.out.2.2).mono ?_
    rintro e w1 ⟨rfl, hb1⟩
    have HM1 := Aside0.mk (HM.out.below hb1)
    have HB1 := Aside0.mk (HB.out.trans (hb1.mono HB.out.size))
    clear hb1
    obtain ⟨kv, hkv⟩ := HM1.out
    have HKV := Aside0.mk hkv
    have hc : Aside0 ((KV.get kv (nameOf r)).getD 0 = cnt ((l0.take x.toNat).map nameOf) (nameOf r)) := ⟨hkv.2 _⟩
    obtain ⟨c, hcc⟩ : ∃ c, c = cnt ((l0.take x.toNat).map nameOf) (nameOf r) := ⟨_, rfl⟩
    rw [← hcc] at hc
    have hc0 : 0 ≤ c := by rw [hcc]; exact cnt_nonneg _ _
    have hc1 : c ≤ 1099511627776 := by
     have h1 := cnt_le ((l0.take x.toNat).map nameOf) (nameOf r)
     have h2 := HOK.out.2
     rw [List.length_map, List.length_take] at h1
     omega
    have HCC := Aside0.mk hcc
    clear hcc hkv HM1 HM
    go_wp2_with (first
     | (at_lookup; refine KV.law_lookup _ rfl _ _ 85 rfl 9 3 Tryd.underlying9 Tryd.underlying85 (.int .i64 0) (zeroInt _) w.heap.size (Value.int .i64) kv rfl HKV.out.1 (nameOf r) rfl (.int .i64 c) (get_int hc.out) ?_)
     | (at_mapUpdate; refine KV.law_update _ rfl _ _ _ 85 rfl 9 3 Tryd.underlying9 Tryd.underlying85 w.heap.size (Value.int .i64) kv rfl HKV.out.1 (nameOf r) rfl (c + 1) rfl ?_; intro w2 hM2 hg2; have HM2 := Aside0.mk hM2; have HG2 := Aside0.mk hg2; clear hM2 hg2))
    have hlt := HLT.out
    have hk := HX.out.2.2
    cases gk with
    | zero => omega
    | succ k1 =>
     go_roundg k1
     case measure => omega
     case rel =>
      refine ⟨x + 1, by rw [HWR.out], ⟨by omega⟩, ⟨?_⟩, ⟨HB1.out.grown HG2.out HB1.out.size (fun k hk => by cases hk; exact Nat.le_refl _)⟩⟩
      have h3 := CMap.put HKV.out.2 HM2.out
      have h4 : (fun t => if t = nameOf r then c + 1 else cnt ((l0.take x.toNat).map nameOf) t) = cnt ((l0.take (x + 1).toNat).map nameOf) := by
       funext t
       rw [HST.out, cnt_snoc, HCC.out]
       by_cases h : t = nameOf r
       · subst h; simp
       · have : ¬ nameOf r = t := fun e => h e.symm
         simp [h, this]
      rw [h4] at h3
      exact h3
  · have c1 : decide (x < (l0.length : Int)) = false := decide_eq_false hlt
    go_wp2
    go_ret
    refine ⟨_, rfl, Nat.le_refl _, ?_, HB.out⟩
    have : l0.take x.toNat = l0 := List.take_of_length_le (by omega)
    have h := HM.out
    rw [this] at h
    exact h
end Go.Proofs.YtecgkcgfeghhgaaDoor.PAll
namespace Go.Proofs.YtecgkcgfeghhgaaDoor.PAll
open Go.RowKit Go.Proofs.YtecgkcgfeghhgaaDoorW.PrintWords Go.Proofs.YtecgkcgfeghhgaaDoorW.PrintLast Go.Proofs.YtecgkcgfeghhgaaDoorW.PrintMore
attribute [local go_sem] max2_int min2_int max_two min_two max_three min_three max_four min_four
set_option linter.unusedVariables false
set_option linter.unusedSimpArgs false
theorem eqA27 (d : Nat) (w : World) (x0 y0 : Int) (x1 y1 : Int) (x2 y2 : ByteArray) :
 (Op.equalIn (d + 2) 27 (.agg #[.int .u8 x0, .int .i64 x1, .string x2]) (.agg #[.int .u8 y0, .int .i64 y1, .string y2])).run Tryd.prog w = .ok (x0 == y0 && (x1 == y1 && (x2.toList == y2.toList))) w := by
 refine eqA_of Tryd.underlying27 (by kernel_rfl) ?_
 refine eqf_cons (by rfl) (by go_simp; rfl) (by go_simp; rfl) (by go_simp) ?_
 refine eqf_cons (by rfl) (by go_simp; rfl) (by go_simp; rfl) (by go_simp) ?_
 exact eqf_last (by rfl) (by go_simp; rfl) (by go_simp; rfl) (by go_simp)
end Go.Proofs.YtecgkcgfeghhgaaDoor.PAll
namespace Go.Proofs.YtecgkcgfeghhgaaDoor.PAll
open Go.RowKit Go.Proofs.YtecgkcgfeghhgaaDoorW.PrintWords Go.Proofs.YtecgkcgfeghhgaaDoorW.PrintLast Go.Proofs.YtecgkcgfeghhgaaDoorW.PrintMore
attribute [local go_sem] max2_int min2_int max_two min_two max_three min_three max_four min_four
set_option linter.unusedVariables false
set_option linter.unusedSimpArgs false
attribute [local go_sem high] eqA27
def value_Valid.f (a0_0 : Int) (a0_1 : Int) (a0_2 : ByteArray) : Option (Bool) := if a0_0 = 0 then (some (a0_0 == 0 && (a0_1 == 0 && (a0_2.toList == ([] : List UInt8))))) else (if a0_0 = 1 then (some (a0_2.toList == ([] : List UInt8))) else (if a0_0 = 2 then (if a0_1 = 0 then (some (decide ((a0_2.size : Int) ≤ 100))) else (some false)) else (if a0_0 = 3 then (if a0_2.toList = ([] : List UInt8) then (some (decide ((IntKind.u64.wrap (a0_1)) ≤ 1))) else (some false)) else (some false))))
theorem value_Valid.calls (a0_0 : Int) (a0_1 : Int) (a0_2 : ByteArray) (r : Bool) (w : World) (h : value_Valid.f a0_0 a0_1 a0_2 = some r) :
 Calls Tryd.prog 40 #[.agg #[.int .u8 a0_0, .int .i64 a0_1, .string a0_2]] w fun e w' => e = .returned (.bool r) ∧ Below w.heap.size w w' := by
 have hu27 := Tryd.underlying27
 have HB := Aside0.mk (Below.refl w.heap.size w)
 have H : (if a0_0 = 0 then (some (a0_0 == 0 && (a0_1 == 0 && (a0_2.toList == ([] : List UInt8))))) else (if a0_0 = 1 then (some (a0_2.toList == ([] : List UInt8))) else (if a0_0 = 2 then (if a0_1 = 0 then (some (decide ((a0_2.size : Int) ≤ 100))) else (some false)) else (if a0_0 = 3 then (if a0_2.toList = ([] : List UInt8) then (some (decide ((IntKind.u64.wrap (a0_1)) ≤ 1))) else (some false)) else (some false))))) = some r := h
 clear h
 by_cases c2 : a0_0 = 0
 · rw [if_pos c2] at H
   have c2b0 : (a0_0 == 0) = true := beq_iff_eq.mpr c2
   have c2b1 : (a0_0 != 0) = false := bne_eq_false_iff_eq.mpr c2
   clear c2
   obtain rfl := Option.some.inj H
   go_enter Tryd.func40, Tryd.ntmps40
   go_wp2_with (first | ((with_reducible refine gate_dst (N := 1) rfl ?_); (try (refine gate_guard (by rfl) ?_; dsimp only)); refine box_event ?hg (N := 1) ?hd (cs := #[.int .u8 a0_0, .int .i64 a0_1, .string a0_2]) (t := 27) ?hr ?_; (case hd => rfl); (case hg => rfl); (case hr => first | (go_simp; done) | (go_simp; rfl)); intro gb101 hg w3 hbox hb; have n0_ := Aside0.mk (below_step (by repeat (first | (with_reducible first | exact HB.out | apply bA_ | apply bN_ | apply b1_) | exact HB.out)) hb); have n1_ := Aside0.mk (hbox); have n2_ := Aside0.mk ((by rw [hg]; exact (below_size (by repeat (first | (with_reducible first | exact HB.out | apply bA_ | apply bN_ | apply b1_) | exact HB.out))) : w.heap.size ≤ gb101)); have n3_ := Aside0.mk ((by rw [hg]; exact (below_size (by repeat (first | (with_reducible first | exact HB.out | apply bA_ | apply bN_ | apply b1_) | exact HB.out))) : w.heap.size ≤ gb101)); clear HB; have HB := n0_; have BK101 := n1_; have GW101 := n2_; have GE101 := n3_; clear n0_ n1_ n2_ n3_; clear hb hbox hg; have hcz4_0 : w3.cell? ⟨gb101, 0, none⟩ = some (.int .u8 a0_0) := (blk_cell BK101.out 0).trans rfl; have hcz4_1 : w3.cell? ⟨gb101, 1, none⟩ = some (.int .i64 a0_1) := (blk_cell BK101.out 1).trans rfl; have hcz4_2 : w3.cell? ⟨gb101, 2, none⟩ = some (.string a0_2) := (blk_cell BK101.out 2).trans rfl; have hfz4_0 := blk_frozen BK101.out 0; have hfz4_1 := blk_frozen BK101.out 1; have hfz4_2 := blk_frozen BK101.out 2))
   go_ret
   exact ⟨by first | rfl | (simp [*, errW_none, errW_some] <;> rfl), by repeat (first | (with_reducible first | exact HB.out | apply bA_ | apply bN_ | apply b1_ | refine below_set ?_ GE101.out) | exact HB.out)⟩
 · rw [if_neg c2] at H
   have c2b0 : (a0_0 == 0) = false := beq_eq_false_iff_ne.mpr c2
   have c2b1 : (a0_0 != 0) = true := bne_iff_ne.mpr c2
   by_cases c5 : a0_0 = 1
   · rw [if_pos c5] at H
     have c5b0 : (a0_0 == 1) = true := beq_iff_eq.mpr c5
     have c5b1 : (a0_0 != 1) = false := bne_eq_false_iff_eq.mpr c5
     clear c5
     obtain rfl := Option.some.inj H
     go_enter Tryd.func40, Tryd.ntmps40
     go_wp2_with (first | ((with_reducible refine gate_dst (N := 1) rfl ?_); (try (refine gate_guard (by rfl) ?_; dsimp only)); refine box_event ?hg (N := 1) ?hd (cs := #[.int .u8 a0_0, .int .i64 a0_1, .string a0_2]) (t := 27) ?hr ?_; (case hd => rfl); (case hg => rfl); (case hr => first | (go_simp; done) | (go_simp; rfl)); intro gb101 hg w6 hbox hb; have n0_ := Aside0.mk (below_step (by repeat (first | (with_reducible first | exact HB.out | apply bA_ | apply bN_ | apply b1_) | exact HB.out)) hb); have n1_ := Aside0.mk (hbox); have n2_ := Aside0.mk ((by rw [hg]; exact (below_size (by repeat (first | (with_reducible first | exact HB.out | apply bA_ | apply bN_ | apply b1_) | exact HB.out))) : w.heap.size ≤ gb101)); have n3_ := Aside0.mk ((by rw [hg]; exact (below_size (by repeat (first | (with_reducible first | exact HB.out | apply bA_ | apply bN_ | apply b1_) | exact HB.out))) : w.heap.size ≤ gb101)); clear HB; have HB := n0_; have BK101 := n1_; have GW101 := n2_; have GE101 := n3_; clear n0_ n1_ n2_ n3_; clear hb hbox hg; have hcz7_0 : w6.cell? ⟨gb101, 0, none⟩ = some (.int .u8 a0_0) := (blk_cell BK101.out 0).trans rfl; have hcz7_1 : w6.cell? ⟨gb101, 1, none⟩ = some (.int .i64 a0_1) := (blk_cell BK101.out 1).trans rfl; have hcz7_2 : w6.cell? ⟨gb101, 2, none⟩ = some (.string a0_2) := (blk_cell BK101.out 2).trans rfl; have hfz7_0 := blk_frozen BK101.out 0; have hfz7_1 := blk_frozen BK101.out 1; have hfz7_2 := blk_frozen BK101.out 2))
     go_ret
     exact ⟨by first | rfl | (simp [*, errW_none, errW_some] <;> rfl), by repeat (first | (with_reducible first | exact HB.out | apply bA_ | apply bN_ | apply b1_ | refine below_set ?_ GE101.out) | exact HB.out)⟩
   · rw [if_neg c5] at H
     have c5b0 : (a0_0 == 1) = false := beq_eq_false_iff_ne.mpr c5
     have c5b1 : (a0_0 != 1) = true := bne_iff_ne.mpr c5
     by_cases c8 : a0_0 = 2
     · rw [if_pos c8] at H
       have c8b0 : (a0_0 == 2) = true := beq_iff_eq.mpr c8
       have c8b1 : (a0_0 != 2) = false := bne_eq_false_iff_eq.mpr c8
       clear c8
       by_cases c9 : a0_1 = 0
       · rw [if_pos c9] at H
         have c9b0 : (a0_1 == 0) = true := beq_iff_eq.mpr c9
         have c9b1 : (a0_1 != 0) = false := bne_eq_false_iff_eq.mpr c9
         clear c9
         obtain rfl := Option.some.inj H
         go_enter Tryd.func40, Tryd.ntmps40
         go_wp2_with (first | ((with_reducible refine gate_dst (N := 1) rfl ?_); (try (refine gate_guard (by rfl) ?_; dsimp only)); refine box_event ?hg (N := 1) ?hd (cs := #[.int .u8 a0_0, .int .i64 a0_1, .string a0_2]) (t := 27) ?hr ?_; (case hd => rfl); (case hg => rfl); (case hr => first | (go_simp; done) | (go_simp; rfl)); intro gb101 hg w10 hbox hb; have n0_ := Aside0.mk (below_step (by repeat (first | (with_reducible first | exact HB.out | apply bA_ | apply bN_ | apply b1_) | exact HB.out)) hb); have n1_ := Aside0.mk (hbox); have n2_ := Aside0.mk ((by rw [hg]; exact (below_size (by repeat (first | (with_reducible first | exact HB.out | apply bA_ | apply bN_ | apply b1_) | exact HB.out))) : w.heap.size ≤ gb101)); have n3_ := Aside0.mk ((by rw [hg]; exact (below_size (by repeat (first | (with_reducible first | exact HB.out | apply bA_ | apply bN_ | apply b1_) | exact HB.out))) : w.heap.size ≤ gb101)); clear HB; have HB := n0_; have BK101 := n1_; have GW101 := n2_; have GE101 := n3_; clear n0_ n1_ n2_ n3_; clear hb hbox hg; have hcz11_0 : w10.cell? ⟨gb101, 0, none⟩ = some (.int .u8 a0_0) := (blk_cell BK101.out 0).trans rfl; have hcz11_1 : w10.cell? ⟨gb101, 1, none⟩ = some (.int .i64 a0_1) := (blk_cell BK101.out 1).trans rfl; have hcz11_2 : w10.cell? ⟨gb101, 2, none⟩ = some (.string a0_2) := (blk_cell BK101.out 2).trans rfl; have hfz11_0 := blk_frozen BK101.out 0; have hfz11_1 := blk_frozen BK101.out 1; have hfz11_2 := blk_frozen BK101.out 2))
         go_ret
         exact ⟨by first | rfl | (simp [*, errW_none, errW_some] <;> rfl), by repeat (first | (with_reducible first | exact HB.out | apply bA_ | apply bN_ | apply b1_ | refine below_set ?_ GE101.out) | exact HB.out)⟩
       · rw [if_neg c9] at H
         have c9b0 : (a0_1 == 0) = false := beq_eq_false_iff_ne.mpr c9
         have c9b1 : (a0_1 != 0) = true := bne_iff_ne.mpr c9
         obtain rfl := Option.some.inj H
         go_enter Tryd.func40, Tryd.ntmps40
         go_wp2_with (first | ((with_reducible refine gate_dst (N := 1) rfl ?_); (try (refine gate_guard (by rfl) ?_; dsimp only)); refine box_event ?hg (N := 1) ?hd (cs := #[.int .u8 a0_0, .int .i64 a0_1, .string a0_2]) (t := 27) ?hr ?_; (case hd => rfl); (case hg => rfl); (case hr => first | (go_simp; done) | (go_simp; rfl)); intro gb101 hg w12 hbox hb; have n0_ := Aside0.mk (below_step (by repeat (first | (with_reducible first | exact HB.out | apply bA_ | apply bN_ | apply b1_) | exact HB.out)) hb); have n1_ := Aside0.mk (hbox); have n2_ := Aside0.mk ((by rw [hg]; exact (below_size (by repeat (first | (with_reducible first | exact HB.out | apply bA_ | apply bN_ | apply b1_) | exact HB.out))) : w.heap.size ≤ gb101)); have n3_ := Aside0.mk ((by rw [hg]; exact (below_size (by repeat (first | (with_reducible first | exact HB.out | apply bA_ | apply bN_ | apply b1_) | exact HB.out))) : w.heap.size ≤ gb101)); clear HB; have HB := n0_; have BK101 := n1_; have GW101 := n2_; have GE101 := n3_; clear n0_ n1_ n2_ n3_; clear hb hbox hg; have hcz13_0 : w12.cell? ⟨gb101, 0, none⟩ = some (.int .u8 a0_0) := (blk_cell BK101.out 0).trans rfl; have hcz13_1 : w12.cell? ⟨gb101, 1, none⟩ = some (.int .i64 a0_1) := (blk_cell BK101.out 1).trans rfl; have hcz13_2 : w12.cell? ⟨gb101, 2, none⟩ = some (.string a0_2) := (blk_cell BK101.out 2).trans rfl; have hfz13_0 := blk_frozen BK101.out 0; have hfz13_1 := blk_frozen BK101.out 1; have hfz13_2 := blk_frozen BK101.out 2))
         go_ret
         exact ⟨by first | rfl | (simp [*, errW_none, errW_some] <;> rfl), by repeat (first | (with_reducible first | exact HB.out | apply bA_ | apply bN_ | apply b1_ | refine below_set ?_ GE101.out) | exact HB.out)⟩
     · rw [if_neg c8] at H
       have c8b0 : (a0_0 == 2) = false := beq_eq_false_iff_ne.mpr c8
       have c8b1 : (a0_0 != 2) = true := bne_iff_ne.mpr c8
       by_cases c14 : a0_0 = 3
       · rw [if_pos c14] at H
         have c14b0 : (a0_0 == 3) = true := beq_iff_eq.mpr c14
         have c14b1 : (a0_0 != 3) = false := bne_eq_false_iff_eq.mpr c14
         clear c14
         by_cases c15 : a0_2.toList = ([] : List UInt8)
         · rw [if_pos c15] at H
           have c15b0 : (a0_2.toList == ([] : List UInt8)) = true := beq_iff_eq.mpr c15
           have c15b1 : (a0_2.toList != ([] : List UInt8)) = false := bne_eq_false_iff_eq.mpr c15
           clear c15
           obtain rfl := Option.some.inj H
           go_enter Tryd.func40, Tryd.ntmps40
           go_wp2_with (first | ((with_reducible refine gate_dst (N := 1) rfl ?_); (try (refine gate_guard (by rfl) ?_; dsimp only)); refine box_event ?hg (N := 1) ?hd (cs := #[.int .u8 a0_0, .int .i64 a0_1, .string a0_2]) (t := 27) ?hr ?_; (case hd => rfl); (case hg => rfl); (case hr => first | (go_simp; done) | (go_simp; rfl)); intro gb101 hg w16 hbox hb; have n0_ := Aside0.mk (below_step (by repeat (first | (with_reducible first | exact HB.out | apply bA_ | apply bN_ | apply b1_) | exact HB.out)) hb); have n1_ := Aside0.mk (hbox); have n2_ := Aside0.mk ((by rw [hg]; exact (below_size (by repeat (first | (with_reducible first | exact HB.out | apply bA_ | apply bN_ | apply b1_) | exact HB.out))) : w.heap.size ≤ gb101)); have n3_ := Aside0.mk ((by rw [hg]; exact (below_size (by repeat (first | (with_reducible first | exact HB.out | apply bA_ | apply bN_ | apply b1_) | exact HB.out))) : w.heap.size ≤ gb101)); clear HB; have HB := n0_; have BK101 := n1_; have GW101 := n2_; have GE101 := n3_; clear n0_ n1_ n2_ n3_; clear hb hbox hg; have hcz17_0 : w16.cell? ⟨gb101, 0, none⟩ = some (.int .u8 a0_0) := (blk_cell BK101.out 0).trans rfl; have hcz17_1 : w16.cell? ⟨gb101, 1, none⟩ = some (.int .i64 a0_1) := (blk_cell BK101.out 1).trans rfl; have hcz17_2 : w16.cell? ⟨gb101, 2, none⟩ = some (.string a0_2) := (blk_cell BK101.out 2).trans rfl; have hfz17_0 := blk_frozen BK101.out 0; have hfz17_1 := blk_frozen BK101.out 1; have hfz17_2 := blk_frozen BK101.out 2))
           go_ret
           exact ⟨by first | rfl | (simp [*, errW_none, errW_some] <;> rfl), by repeat (first | (with_reducible first | exact HB.out | apply bA_ | apply bN_ | apply b1_ | refine below_set ?_ GE101.out) | exact HB.out)⟩
         · rw [if_neg c15] at H
           have c15b0 : (a0_2.toList == ([] : List UInt8)) = false := beq_eq_false_iff_ne.mpr c15
           have c15b1 : (a0_2.toList != ([] : List UInt8)) = true := bne_iff_ne.mpr c15
           obtain rfl := Option.some.inj H
           go_enter Tryd.func40, Tryd.ntmps40
           go_wp2_with (first | ((with_reducible refine gate_dst (N := 1) rfl ?_); (try (refine gate_guard (by rfl) ?_; dsimp only)); refine box_event ?hg (N := 1) ?hd (cs := #[.int .u8 a0_0, .int .i64 a0_1, .string a0_2]) (t := 27) ?hr ?_; (case hd => rfl); (case hg => rfl); (case hr => first | (go_simp; done) | (go_simp; rfl)); intro gb101 hg w18 hbox hb; have n0_ := Aside0.mk (below_step (by repeat (first | (with_reducible first | exact HB.out | apply bA_ | apply bN_ | apply b1_) | exact HB.out)) hb); have n1_ := Aside0.mk (hbox); have n2_ := Aside0.mk ((by rw [hg]; exact (below_size (by repeat (first | (with_reducible first | exact HB.out | apply bA_ | apply bN_ | apply b1_) | exact HB.out))) : w.heap.size ≤ gb101)); have n3_ := Aside0.mk ((by rw [hg]; exact (below_size (by repeat (first | (with_reducible first | exact HB.out | apply bA_ | apply bN_ | apply b1_) | exact HB.out))) : w.heap.size ≤ gb101)); clear HB; have HB := n0_; have BK101 := n1_; have GW101 := n2_; have GE101 := n3_; clear n0_ n1_ n2_ n3_; clear hb hbox hg; have hcz19_0 : w18.cell? ⟨gb101, 0, none⟩ = some (.int .u8 a0_0) := (blk_cell BK101.out 0).trans rfl; have hcz19_1 : w18.cell? ⟨gb101, 1, none⟩ = some (.int .i64 a0_1) := (blk_cell BK101.out 1).trans rfl; have hcz19_2 : w18.cell? ⟨gb101, 2, none⟩ = some (.string a0_2) := (blk_cell BK101.out 2).trans rfl; have hfz19_0 := blk_frozen BK101.out 0; have hfz19_1 := blk_frozen BK101.out 1; have hfz19_2 := blk_frozen BK101.out 2))
           go_ret
           exact ⟨by first | rfl | (simp [*, errW_none, errW_some] <;> rfl), by repeat (first | (with_reducible first | exact HB.out | apply bA_ | apply bN_ | apply b1_ | refine below_set ?_ GE101.out) | exact HB.out)⟩
       · rw [if_neg c14] at H
         have c14b0 : (a0_0 == 3) = false := beq_eq_false_iff_ne.mpr c14
         have c14b1 : (a0_0 != 3) = true := bne_iff_ne.mpr c14
         obtain rfl := Option.some.inj H
         go_enter Tryd.func40, Tryd.ntmps40
         go_wp2_with (first | ((with_reducible refine gate_dst (N := 1) rfl ?_); (try (refine gate_guard (by rfl) ?_; dsimp only)); refine box_event ?hg (N := 1) ?hd (cs := #[.int .u8 a0_0, .int .i64 a0_1, .string a0_2]) (t := 27) ?hr ?_; (case hd => rfl); (case hg => rfl); (case hr => first | (go_simp; done) | (go_simp; rfl)); intro gb101 hg w20 hbox hb; have n0_ := Aside0.mk (below_step (by repeat (first | (with_reducible first | exact HB.out | apply bA_ | apply bN_ | apply b1_) | exact HB.out)) hb); have n1_ := Aside0.mk (hbox); have n2_ := Aside0.mk ((by rw [hg]; exact (below_size (by repeat (first | (with_reducible first | exact HB.out | apply bA_ | apply bN_ | apply b1_) | exact HB.out))) : w.heap.size ≤ gb101)); have n3_ := Aside0.mk ((by rw [hg]; exact (below_size (by repeat (first | (with_reducible first | exact HB.out | apply bA_ | apply bN_ | apply b1_) | exact HB.out))) : w.heap.size ≤ gb101)); clear HB; have HB := n0_; have BK101 := n1_; have GW101 := n2_; have GE101 := n3_; clear n0_ n1_ n2_ n3_; clear hb hbox hg; have hcz21_0 : w20.cell? ⟨gb101, 0, none⟩ = some (.int .u8 a0_0) := (blk_cell BK101.out 0).trans rfl; have hcz21_1 : w20.cell? ⟨gb101, 1, none⟩ = some (.int .i64 a0_1) := (blk_cell BK101.out 1).trans rfl; have hcz21_2 : w20.cell? ⟨gb101, 2, none⟩ = some (.string a0_2) := (blk_cell BK101.out 2).trans rfl; have hfz21_0 := blk_frozen BK101.out 0; have hfz21_1 := blk_frozen BK101.out 1; have hfz21_2 := blk_frozen BK101.out 2))
         go_ret
         exact ⟨by first | rfl | (simp [*, errW_none, errW_some] <;> rfl), by repeat (first | (with_reducible first | exact HB.out | apply bA_ | apply bN_ | apply b1_ | refine below_set ?_ GE101.out) | exact HB.out)⟩
end Go.Proofs.YtecgkcgfeghhgaaDoor.PAll
namespace Go.Proofs.YtecgkcgfeghhgaaDoor.PAll
open Go.RowKit Go.Proofs.YtecgkcgfeghhgaaDoorW.PrintWords Go.Proofs.YtecgkcgfeghhgaaDoorW.PrintLast Go.Proofs.YtecgkcgfeghhgaaDoorW.PrintMore
attribute [local go_sem] max2_int min2_int max_two min_two max_three min_three max_four min_four
set_option linter.unusedVariables false
set_option linter.unusedSimpArgs false
mutual
def bag_Valid.l0 : Nat → List Int → List (List (S27)) → Int → Int → Option (Bool)
 | 0, _, _, _, _ => none
 | k + 1, x3, x16, x17, x18 => if x18 < x17 then (if 0 ≤ x18 then (if x18 < (x16.length : Int) then (if ((rd_L4 x16 x18).length : Int) = (x3.length : Int) then (bag_Valid.l1 k x3 x16 x17 x18 (rd_L4 x16 x18) ((rd_L4 x16 x18).length : Int) 0) else (some false)) else (none)) else (none)) else (some true)
def bag_Valid.l1 : Nat → List Int → List (List (S27)) → Int → Int → List (S27) → Int → Int → Option (Bool)
 | 0, _, _, _, _, _, _, _ => none
 | k + 1, x3, x16, x17, x18, x27, x28, x29 => if x29 < x28 then (if 0 ≤ x29 then (if x29 < (x27.length : Int) then ((value_Valid.f ((rd_T27 x27 x29).f0) ((rd_T27 x27 x29).f1) ((rd_T27 x27 x29).f2)).bind fun t109 => (if t109 = true then (if x29 < (x3.length : Int) then (if (rd x3 x29) = 0 then (bag_Valid.l1 k (x3.set (x29 : Int).toNat ((rd_T27 x27 x29).f0)) x16 x17 x18 x27 x28 (wrap64 (x29 + 1))) else (if (rd x3 x29) = ((rd_T27 x27 x29).f0) then (bag_Valid.l1 k x3 x16 x17 x18 x27 x28 (wrap64 (x29 + 1))) else (if ((rd_T27 x27 x29).f0) = 0 then (bag_Valid.l1 k x3 x16 x17 x18 x27 x28 (wrap64 (x29 + 1))) else (some false)))) else (none)) else (some false))) else (none)) else (none)) else (bag_Valid.l0 k x3 x16 x17 (wrap64 (x18 + 1)))
end
def bag_Valid.f (k : Nat) (l0 : List (List (S27))) : Option (Bool) := if (l0.length : Int) = 0 then (some true) else (if 0 < (l0.length : Int) then (if 0 ≤ ((rd_L4 l0 0).length : Int) then (if (((rd_L4 l0 0).length : Int) : Int).toNat ≤ 281474976710656 then (bag_Valid.l0 k (List.replicate (((rd_L4 l0 0).length : Int) : Int).toNat 0) l0 (l0.length : Int) 0) else (none)) else (none)) else (none))
theorem bag_Valid.calls (k : Nat) (A0 : Option Addr) (c0 : Nat) (l0 : List (List (S27))) (r : Bool) (w : World) (hr0 : Kd.C (Kd.slice 27 k27) w A0 l0.length l0) (hc0 : l0.length ≤ c0) (h : bag_Valid.f k l0 = some r) :
 Calls Tryd.prog 26 #[.slice A0 l0.length c0] w fun e w' => e = .returned (.bool r) ∧ Below w.heap.size w w' := by
 have hu27 := Tryd.underlying27
 have HR0 := Aside0.mk hr0
 have HC0 := Aside0.mk hc0
 clear hr0 hc0
 have HB := Aside0.mk (Below.refl w.heap.size w)
 have H : (if (l0.length : Int) = 0 then (some true) else (if 0 < (l0.length : Int) then (if 0 ≤ ((rd_L4 l0 0).length : Int) then (if (((rd_L4 l0 0).length : Int) : Int).toNat ≤ 281474976710656 then (bag_Valid.l0 k (List.replicate (((rd_L4 l0 0).length : Int) : Int).toNat 0) l0 (l0.length : Int) 0) else (none)) else (none)) else (none))) = some r := h
 clear h
 by_cases c2 : (l0.length : Int) = 0
 · rw [if_pos c2] at H
   have c2b0 : ((l0.length : Int) == 0) = true := beq_iff_eq.mpr c2
   have c2b1 : ((l0.length : Int) != 0) = false := bne_eq_false_iff_eq.mpr c2
   clear c2
   obtain rfl := Option.some.inj H
   go_enter Tryd.func26, Tryd.ntmps26
   go_wp2
   go_ret
   exact ⟨by first | rfl | (simp [*, errW_none, errW_some] <;> rfl), by repeat (first | (with_reducible first | exact HB.out | apply bA_ | apply bN_ | apply b1_) | exact HB.out)⟩
 · rw [if_neg c2] at H
   have c2b0 : ((l0.length : Int) == 0) = false := beq_eq_false_iff_ne.mpr c2
   have c2b1 : ((l0.length : Int) != 0) = true := bne_iff_ne.mpr c2
   have c2b2 : ¬ (l0 = []) := fun h_ => c2 (by rw [h_]; rfl)
   by_cases c3 : 0 < (l0.length : Int)
   · rw [if_pos c3] at H
     have c3b0 : decide (0 < (l0.length : Int)) = true := dT_ c3
     have c3b1 : decide (0 < l0.length) = true := dT_ (by omega)
     clear c3
     by_cases c4 : 0 ≤ ((rd_L4 l0 0).length : Int)
     · rw [if_pos c4] at H
       have c4b0 := eq_true c4
       have c4b1 : decide (0 ≤ ((rd_L4 l0 0).length : Int)) = true := dT_ c4
       clear c4
       by_cases c5 : (((rd_L4 l0 0).length : Int) : Int).toNat ≤ 281474976710656
       · rw [if_pos c5] at H
         have c5b0 := eq_true c5
         have c5b1 : decide ((((rd_L4 l0 0).length : Int) : Int).toNat ≤ 281474976710656) = true := dT_ c5
         clear c5
         obtain ⟨y103, hy103⟩ : ∃ y_ : List Int, y_ = (List.replicate (((rd_L4 l0 0).length : Int) : Int).toNat 0) := ⟨_, rfl⟩
         replace H : (bag_Valid.l0 k y103 l0 (l0.length : Int) 0) = some r := by first | (rw [hy103]; with_reducible exact H) | (have H2_ := (Option.bind_some _ _).symm.trans H; rw [hy103]; with_reducible exact H2_) | (have H2_ := (Option.bind_some _ _).symm.trans H; with_reducible exact H2_) | with_reducible exact H | (rw [hy103]; exact H) | exact H
         have Ny103 := Aside0.mk hy103
         clear hy103
         have H' := Aside0.mk H
         clear H
         have p102 : 0 ≤ (0 : Int) := (by omega)
         have q102 : 0 < (l0.length : Int) := oT_ (by assumption)
         obtain ⟨ad102, A102_0, c102_0, e102, hx102_0, hl102_0, hi102_0⟩ := at_L4 HR0.out 0 p102 q102
         cases e102
         have qi102 : (0 < l0.length) = True := eq_true (by omega)
         (try rw [show ((0 : Int)).toNat = 0 from rfl] at hx102_0)
         (try rw [Addr.add_zero'] at hx102_0)
         have HR102_0 := Aside0.mk hi102_0
         have HC102_0 := Aside0.mk hl102_0
         clear hi102_0 hl102_0
         replace p102 := eq_true p102
         replace q102 := eq_true q102
         go_enter Tryd.func26, Tryd.ntmps26
         go_wp2_with (first | ((with_reducible refine gate_dst (N := 15) rfl ?_); refine Kd.R_make (Kd.int .u8) _ 25 rfl (N := 15) rfl 87 _ _ rfl ((rd_L4 l0 0).length : Int) rfl rfl Tryd.underlying87 (.int .u8 0) 1 info25 rfl (by decide) (by omega) 0 (ok := fun _ => True) (okp := fun _ => True) rfl (fun _ hk => hk) trivial (oT_ (by assumption)) (Nat.le_trans (Nat.mul_le_mul_right _ (oT_ (by assumption) : ((rd_L4 l0 0).length : Int).toNat ≤ 281474976710656)) (by omega)) (Below.refl _ _) (Nat.le_refl _) ?_; intro v104 w6 ho7 hb hg_ hnew_; clear hg_ hnew_; (first | rw [← Ny103.out] at ho7 | (simp only [Int.reduceToNat] at ho7; rw [← Ny103.out] at ho7)); have n0_ := Aside0.mk (Kd.R_lower ho7 (below_size (by repeat (first | (with_reducible first | exact HB.out | apply bA_ | apply bN_ | apply b1_) | exact HB.out)))); have n1_ := Aside0.mk (below_step (by repeat (first | (with_reducible first | exact HB.out | apply bA_ | apply bN_ | apply b1_) | exact HB.out)) hb); clear HB; have HO105 := n0_; have HB := n1_; clear n0_ n1_; clear hb ho7))
         go_loopg [18] k (fun kq v18 w' => ∃ (x3_1 : List Int) (x18_1 : Int), v18 = .int .i64 x18_1 ∧ Aside0 (bag_Valid.l0 kq x3_1 l0 (l0.length : Int) x18_1 = some r) ∧ Aside0 (kq ≤ k) ∧ Aside0 (Kd.R (Kd.int .u8) 25 w' w.heap.size (fun _ => True) v104 x3_1) ∧ Aside0 (Below w.heap.size w w'))
         case atStart => exact ⟨(y103), (0), (by first | rfl | (simp; done) | (simp [*]; done)), H', ⟨Nat.le_refl _⟩, ⟨by (with_reducible repeat (first | apply Kd.R_alloc | apply Kd.R_drewN | apply Kd.R_drew)); exact HO105.out⟩, ⟨by repeat (first | (with_reducible first | exact HB.out | apply bA_ | apply bN_ | apply b1_) | exact HB.out)⟩⟩
         case round =>
          clear H'
          try clear c1
          try clear p1
          try clear q1
          try clear hx1
          try clear qi1
          try clear c2
          try clear c2b0
          try clear c2b1
          try clear c2b2
          try clear p2
          try clear c3
          try clear c3b0
          try clear c3b1
          try clear c4
          try clear c4b0
          try clear c4b1
          try clear c5
          try clear c5b0
          try clear c5b1
          try clear hx102_0
          try clear p102
          try clear q102
          obtain ⟨x3_1, x18_1, rfl, HA, HK1, HO_3, HB⟩ := hrel
          cases gk with
          | zero => exact absurd HA.out (by simp [bag_Valid.l0])
          | succ k1 =>
           have H := HA.out
           clear HA
           simp only [bag_Valid.l0] at H
           by_cases c8 : x18_1 < (l0.length : Int)
           · rw [if_pos c8] at H
             have c8b0 : decide (x18_1 < (l0.length : Int)) = true := dT_ c8
             clear c8
             by_cases c9 : 0 ≤ x18_1
             · rw [if_pos c9] at H
               have c9b0 : decide (0 ≤ x18_1) = true := dT_ c9
               clear c9
               by_cases c10 : x18_1 < (l0.length : Int)
               · rw [if_pos c10] at H
                 have c10b0 : decide (x18_1 < (l0.length : Int)) = true := dT_ c10
                 clear c10
                 by_cases c11 : ((rd_L4 l0 x18_1).length : Int) = (x3_1.length : Int)
                 · rw [if_pos c11] at H
                   have c11b0 : (((rd_L4 l0 x18_1).length : Int) == (x3_1.length : Int)) = true := beq_iff_eq.mpr c11
                   have c11b1 : (((rd_L4 l0 x18_1).length : Int) != (x3_1.length : Int)) = false := bne_eq_false_iff_eq.mpr c11
                   have c11b2 : ((rd_L4 l0 x18_1).length == x3_1.length) = true := by first | simpa using c11 | (simp at c11 ⊢; omega)
                   clear c11
                   have H' := Aside0.mk H
                   clear H
                   have p106 : 0 ≤ (x18_1 : Int) := oT_ (by assumption)
                   have q106 : x18_1 < (l0.length : Int) := oT_ (by assumption)
                   obtain ⟨ad106, A106_0, c106_0, e106, hx106_0, hl106_0, hi106_0⟩ := at_L4 HR0.out x18_1 p106 q106
                   obtain rfl : ad102 = ad106 := (by injection e106)
                   replace hx106_0 := (HB.out.cell (bLC_ w _ hx106_0)).trans hx106_0
                   have HR106_0 := Aside0.mk hi106_0
                   have HC106_0 := Aside0.mk hl106_0
                   clear hi106_0 hl106_0
                   replace p106 := eq_true p106
                   replace q106 := eq_true q106
                   obtain ⟨Ao12, co12, eo12⟩ := Kd.R_slice HO_3.out
                   subst eo12
                   go_wp2
                   go_loopg [29] k1 (fun kq v29 w' => ∃ (x3_2 : List Int) (x29_2 : Int), v29 = .int .i64 x29_2 ∧ Aside0 (bag_Valid.l1 kq x3_2 l0 (l0.length : Int) x18_1 (rd_L4 l0 x18_1) ((rd_L4 l0 x18_1).length : Int) x29_2 = some r) ∧ Aside0 (kq ≤ k1) ∧ Aside0 (Kd.R (Kd.int .u8) 25 w' w.heap.size (fun _ => True) (.slice Ao12 x3_1.length co12) x3_2) ∧ Aside0 (Below w.heap.size w w'))
                   case atStart => exact ⟨(x3_1), (0), (by first | rfl | (simp; done) | (simp [*]; done)), H', ⟨Nat.le_refl _⟩, ⟨by (with_reducible repeat (first | apply Kd.R_alloc | apply Kd.R_drewN | apply Kd.R_drew)); exact HO_3.out⟩, ⟨by repeat (first | (with_reducible first | exact HB.out | apply bA_ | apply bN_ | apply b1_) | exact HB.out)⟩⟩
                   case round =>
                    clear H'
                    try clear c1
                    try clear p1
                    try clear q1
                    try clear hx1
                    try clear qi1
                    try clear c2
                    try clear c2b0
                    try clear c2b1
                    try clear c2b2
                    try clear p2
                    try clear c3
                    try clear c3b0
                    try clear c3b1
                    try clear c4
                    try clear c4b0
                    try clear c4b1
                    try clear c5
                    try clear c5b0
                    try clear c5b1
                    try clear c8
                    try clear c8b0
                    try clear c9
                    try clear c9b0
                    try clear c10
                    try clear c10b0
                    try clear p10
                    try clear q10
                    try clear hx10
                    try clear qi10
                    try clear c11
                    try clear c11b0
                    try clear c11b1
                    try clear c11b2
                    try clear hx102_0
                    try clear hx106_0
                    try clear p1
                    try clear p102
                    try clear p106
                    try clear p2
                    try clear q1
                    try clear q102
                    try clear q106
                    obtain ⟨x3_2, x29_2, rfl, HA, HK2, HO_3, HB⟩ := hrel
                    have hl3_2 := (Kd.R_reads' HO_3.out).1
                    rw [hl3_2] at HO_3
                    (try simp only [hl3_2])
                    cases gk with
                    | zero => exact absurd HA.out (by simp [bag_Valid.l1])
                    | succ k2 =>
                     have H := HA.out
                     clear HA
                     simp only [bag_Valid.l1] at H
                     by_cases c13 : x29_2 < ((rd_L4 l0 x18_1).length : Int)
                     · rw [if_pos c13] at H
                       have c13b0 : decide (x29_2 < ((rd_L4 l0 x18_1).length : Int)) = true := dT_ c13
                       clear c13
                       by_cases c14 : 0 ≤ x29_2
                       · rw [if_pos c14] at H
                         have c14b0 : decide (0 ≤ x29_2) = true := dT_ c14
                         clear c14
                         by_cases c15 : x29_2 < ((rd_L4 l0 x18_1).length : Int)
                         · rw [if_pos c15] at H
                           have c15b0 : decide (x29_2 < ((rd_L4 l0 x18_1).length : Int)) = true := dT_ c15
                           clear c15
                           replace H := Option.bind_eq_some_iff.mp H
                           obtain ⟨t109, A160, H⟩ := H
                           replace H : (if t109 = true then (if x29_2 < (x3_2.length : Int) then (if (rd x3_2 x29_2) = 0 then (bag_Valid.l1 k2 (x3_2.set (x29_2 : Int).toNat ((rd_T27 (rd_L4 l0 x18_1) x29_2).f0)) l0 (l0.length : Int) x18_1 (rd_L4 l0 x18_1) ((rd_L4 l0 x18_1).length : Int) (wrap64 (x29_2 + 1))) else (if (rd x3_2 x29_2) = ((rd_T27 (rd_L4 l0 x18_1) x29_2).f0) then (bag_Valid.l1 k2 x3_2 l0 (l0.length : Int) x18_1 (rd_L4 l0 x18_1) ((rd_L4 l0 x18_1).length : Int) (wrap64 (x29_2 + 1))) else (if ((rd_T27 (rd_L4 l0 x18_1) x29_2).f0) = 0 then (bag_Valid.l1 k2 x3_2 l0 (l0.length : Int) x18_1 (rd_L4 l0 x18_1) ((rd_L4 l0 x18_1).length : Int) (wrap64 (x29_2 + 1))) else (some false)))) else (none)) else (some false)) = some r := H
                           have A16 := Aside0.mk A160
                           clear A160
                           by_cases c17 : t109 = true
                           · subst c17
                             have H1 : (if x29_2 < (x3_2.length : Int) then (if (rd x3_2 x29_2) = 0 then (bag_Valid.l1 k2 (x3_2.set (x29_2 : Int).toNat ((rd_T27 (rd_L4 l0 x18_1) x29_2).f0)) l0 (l0.length : Int) x18_1 (rd_L4 l0 x18_1) ((rd_L4 l0 x18_1).length : Int) (wrap64 (x29_2 + 1))) else (if (rd x3_2 x29_2) = ((rd_T27 (rd_L4 l0 x18_1) x29_2).f0) then (bag_Valid.l1 k2 x3_2 l0 (l0.length : Int) x18_1 (rd_L4 l0 x18_1) ((rd_L4 l0 x18_1).length : Int) (wrap64 (x29_2 + 1))) else (if ((rd_T27 (rd_L4 l0 x18_1) x29_2).f0) = 0 then (bag_Valid.l1 k2 x3_2 l0 (l0.length : Int) x18_1 (rd_L4 l0 x18_1) ((rd_L4 l0 x18_1).length : Int) (wrap64 (x29_2 + 1))) else (some false)))) else (none)) = some r := by rw [if_pos rfl] at H; exact H
                             clear H
                             have H := H1
                             clear H1
                             by_cases c18 : x29_2 < (x3_2.length : Int)
                             · rw [if_pos c18] at H
                               have c18b0 : decide (x29_2 < (x3_2.length : Int)) = true := dT_ c18
                               clear c18
                               by_cases c19 : (rd x3_2 x29_2) = 0
                               · rw [if_pos c19] at H
                                 have c19b0 : ((rd x3_2 x29_2) == 0) = true := beq_iff_eq.mpr c19
                                 have c19b1 : ((rd x3_2 x29_2) != 0) = false := bne_eq_false_iff_eq.mpr c19
                                 clear c19
                                 obtain ⟨y111, hy111⟩ : ∃ y_ : List Int, y_ = (x3_2.set (x29_2 : Int).toNat ((rd_T27 (rd_L4 l0 x18_1) x29_2).f0)) := ⟨_, rfl⟩
                                 replace H : (bag_Valid.l1 k2 y111 l0 (l0.length : Int) x18_1 (rd_L4 l0 x18_1) ((rd_L4 l0 x18_1).length : Int) (wrap64 (x29_2 + 1))) = some r := by first | (rw [hy111]; with_reducible exact H) | (have H2_ := (Option.bind_some _ _).symm.trans H; rw [hy111]; with_reducible exact H2_) | (have H2_ := (Option.bind_some _ _).symm.trans H; with_reducible exact H2_) | with_reducible exact H | (rw [hy111]; exact H) | exact H
                                 have Ny111 := Aside0.mk hy111
                                 clear hy111
                                 have H' := Aside0.mk H
                                 clear H
                                 have p107 : 0 ≤ (x29_2 : Int) := oT_ (by assumption)
                                 have q107 : x29_2 < ((rd_L4 l0 x18_1).length : Int) := oT_ (by assumption)
                                 obtain ⟨ad107, e107, hx107_0, hx107_1, hx107_2⟩ := at_T27 HR106_0.out x29_2 p107 q107
                                 cases e107
                                 replace hx107_0 := (HB.out.cell (bLC_ w _ hx107_0)).trans hx107_0
                                 replace hx107_1 := (HB.out.cell (bLC_ w _ hx107_1)).trans hx107_1
                                 replace hx107_2 := (HB.out.cell (bLC_ w _ hx107_2)).trans hx107_2
                                 replace p107 := eq_true p107
                                 replace q107 := eq_true q107
                                 go_wp2_with (first | ((with_reducible refine gate_dst (N := 7) rfl ?_); refine box_event ?hg (N := 7) ?hd (cs := #[.int .u8 0, .int .i64 0, .string (⟨#[]⟩ : ByteArray)]) (t := 27) ?hr ?_; (case hd => rfl); (case hg => rfl); (case hr => first | (go_simp; done) | (go_simp; rfl)); intro gb108 hg w21 hbox hb; have n0_ := Aside0.mk (Kd.R_below (by (with_reducible repeat (first | apply Kd.R_alloc | apply Kd.R_drewN | apply Kd.R_drew)); exact HO_3.out) hb); have n1_ := Aside0.mk (below_step (by repeat (first | (with_reducible first | exact HB.out | apply bA_ | apply bN_ | apply b1_) | exact HB.out)) hb); have n2_ := Aside0.mk (hbox); have n3_ := Aside0.mk ((by rw [hg]; exact (below_size (by repeat (first | (with_reducible first | exact HB.out | apply bA_ | apply bN_ | apply b1_) | exact HB.out))) : w.heap.size ≤ gb108)); have n4_ := Aside0.mk ((by rw [hg]; exact (below_size (by repeat (first | (with_reducible first | exact HB.out | apply bA_ | apply bN_ | apply b1_) | exact HB.out))) : w.heap.size ≤ gb108)); clear HO_3; clear HB; have HO_3 := n0_; have HB := n1_; have BK108 := n2_; have GW108 := n3_; have GE108 := n4_; clear n0_ n1_ n2_ n3_ n4_; clear hb hbox hg; have hcz22_0 : w21.cell? ⟨gb108, 0, none⟩ = some (.int .u8 0) := (blk_cell BK108.out 0).trans rfl; have hcz22_1 : w21.cell? ⟨gb108, 1, none⟩ = some (.int .i64 0) := (blk_cell BK108.out 1).trans rfl; have hcz22_2 : w21.cell? ⟨gb108, 2, none⟩ = some (.string (⟨#[]⟩ : ByteArray)) := (blk_cell BK108.out 2).trans rfl; have hfz22_0 := blk_frozen BK108.out 0; have hfz22_1 := blk_frozen BK108.out 1; have hfz22_2 := blk_frozen BK108.out 2) | ((with_reducible refine gate_callee (f := 40) rfl ?_); refine goesL_ (some 35) rfl rfl Tryd.func40 (by kernel_rfl) rfl #[.agg #[.int .u8 ((rd_T27 (rd_L4 l0 x18_1) x29_2).f0), .int .i64 ((rd_T27 (rd_L4 l0 x18_1) x29_2).f1), .string ((rd_T27 (rd_L4 l0 x18_1) x29_2).f2)]] rfl (by (try simp only [List.map_toArray, List.map_cons, List.map_nil]); first | done | rfl | (simp only [List.length_drop, List.length_take]; rfl)) ?_; (with_reducible refine (value_Valid.calls ((rd_T27 (rd_L4 l0 x18_1) x29_2).f0) ((rd_T27 (rd_L4 l0 x18_1) x29_2).f1) ((rd_T27 (rd_L4 l0 x18_1) x29_2).f2) true _ A16.out).mono ?_); rintro e w23 ⟨rfl, hb⟩; refine ⟨_, rfl, ?_⟩; have n0_ := Aside0.mk (Kd.R_below (by (with_reducible repeat (first | apply Kd.R_alloc | apply Kd.R_drewN | apply Kd.R_drew)); exact (Kd.R_mono (Kd.R_far (p := ⟨gb108, 2, none⟩) (Kd.R_far (p := ⟨gb108, 1, none⟩) (Kd.R_far (p := ⟨gb108, 0, none⟩) (Kd.R_types HO_3.out BK108.out (by decide)) (fun _ hk => hk.2) (.int .u8 ((rd_T27 (rd_L4 l0 x18_1) x29_2).f0))) (fun _ hk => hk.2) (.int .i64 ((rd_T27 (rd_L4 l0 x18_1) x29_2).f1))) (fun _ hk => hk.2) (.string ((rd_T27 (rd_L4 l0 x18_1) x29_2).f2))) (fun _ h_ => h_.1))) hb); have n1_ := Aside0.mk (blk_below (g := gb108) (o := .cells #[.int .u8 ((rd_T27 (rd_L4 l0 x18_1) x29_2).f0), .int .i64 ((rd_T27 (rd_L4 l0 x18_1) x29_2).f1), .string ((rd_T27 (rd_L4 l0 x18_1) x29_2).f2)] 27 (0, 0)) (by (with_reducible repeat (first | refine blk_drewN ?_ _ | refine blk_drew ?_ | refine blk_alloc ?_ _)); refine blk_put (cs := #[.int .u8 ((rd_T27 (rd_L4 l0 x18_1) x29_2).f0), .int .i64 ((rd_T27 (rd_L4 l0 x18_1) x29_2).f1), .string (⟨#[]⟩ : ByteArray)]) ?_ 2 _ rfl; (with_reducible repeat (first | refine blk_drewN ?_ _ | refine blk_drew ?_ | refine blk_alloc ?_ _)); refine blk_put (cs := #[.int .u8 ((rd_T27 (rd_L4 l0 x18_1) x29_2).f0), .int .i64 0, .string (⟨#[]⟩ : ByteArray)]) ?_ 1 _ rfl; (with_reducible repeat (first | refine blk_drewN ?_ _ | refine blk_drew ?_ | refine blk_alloc ?_ _)); refine blk_put (cs := #[.int .u8 0, .int .i64 0, .string (⟨#[]⟩ : ByteArray)]) ?_ 0 _ rfl; (with_reducible repeat (first | refine blk_drewN ?_ _ | refine blk_drew ?_ | refine blk_alloc ?_ _)); exact BK108.out) hb); have n2_ := Aside0.mk (below_step (by repeat (first | (with_reducible first | exact HB.out | apply bA_ | apply bN_ | apply b1_ | refine below_set ?_ GE108.out) | exact HB.out)) hb); clear HO_3; clear BK108; clear HB; have HO_3 := n0_; have BK108 := n1_; have HB := n2_; clear n0_ n1_ n2_; (try clear hb); (try clear hb2); (try clear hk); (try clear hi); have p110 : 0 ≤ (x29_2 : Int) := oT_ (by assumption); have q110 : x29_2 < (x3_2.length : Int) := oT_ (by assumption); obtain ⟨ad110, e110, hx110_0⟩ := Kd.at_int (Kd.R_reads' HO_3.out).2.2 x29_2 p110 q110; cases e110; replace p110 := eq_true p110; replace q110 := eq_true q110; have hcz24_0 : w23.cell? ⟨gb108, 0, none⟩ = some (.int .u8 ((rd_T27 (rd_L4 l0 x18_1) x29_2).f0)) := (blk_cell BK108.out 0).trans rfl; have hcz24_1 : w23.cell? ⟨gb108, 1, none⟩ = some (.int .i64 ((rd_T27 (rd_L4 l0 x18_1) x29_2).f1)) := (blk_cell BK108.out 1).trans rfl; have hcz24_2 : w23.cell? ⟨gb108, 2, none⟩ = some (.string ((rd_T27 (rd_L4 l0 x18_1) x29_2).f2)) := (blk_cell BK108.out 2).trans rfl; have hfz24_0 := blk_frozen BK108.out 0; have hfz24_1 := blk_frozen BK108.out 1; have hfz24_2 := blk_frozen BK108.out 2; have p20 : 0 ≤ (x29_2 : Int) := oT_ (by assumption); have q20 : (x29_2 : Int) < ((x3_2.length : Int) : Int) := oT_ (by assumption); obtain ⟨go20, co20, eo20, gb20, gl20, cl20, HG20⟩ := Kd.R_form HO_3.out (by omega); (first | cases eo20 | (injection eo20 with ea_ en_ ec_; (first | subst ea_ | (injection ea_ with ea_; subst ea_)); subst ec_; clear en_)); have GB20 := Aside0.mk gb20; have GG20 := Aside0.mk HG20; clear gb20 gl20 HG20; (first | simp only [add_plain] at hx110_0 | skip); obtain ⟨hx20_0, hf20_0⟩ := Kd.R_celln 0 HO_3.out (x29_2 : Int) p20 q20; replace p20 := eq_true p20; replace q20 := eq_true q20; obtain ⟨hy25_, hz25_⟩ := Kd.R_celln 0 HO_3.out (x29_2 : Int) (oT_ (by assumption)) (oT_ (by assumption)); have HP25 := Kd.R_putg HO_3.out (x29_2 : Int) ((rd_T27 (rd_L4 l0 x18_1) x29_2).f0)) | ((with_reducible refine gate_store (t := 25) (p := 50) rfl ?_); refine store_event (t := 25) (p := 50) (v := ?vo_w26) (w1 := (w23.setCell ⟨go20, (x29_2 : Int).toNat, none⟩ (.int .u8 ((rd_T27 (rd_L4 l0 x18_1) x29_2).f0)))) ?hg ?ho ?hn ?hr ?_; (case ho => rfl); (case hg => rfl); (case hn => rfl); (case hr => first | (go_simp; done) | (go_simp; rfl)); intro w26 hw; have hg : w23.grownBy w26 (some go20) := (by rw [hw]; exact HP25.2); have hp_ : Kd.R (Kd.int .u8) 25 w26 w.heap.size (fun _ => True) (.slice (some ⟨go20, 0, none⟩) x3_2.length co12) y111 := (by rw [hw, Ny111.out]; exact HP25.1); clear HP25; have n0_ := Aside0.mk (hp_); have n1_ := Aside0.mk (blk_grown (g := gb108) (o := .cells #[.int .u8 ((rd_T27 (rd_L4 l0 x18_1) x29_2).f0), .int .i64 ((rd_T27 (rd_L4 l0 x18_1) x29_2).f1), .string ((rd_T27 (rd_L4 l0 x18_1) x29_2).f2)] 27 (0, 0)) (by (with_reducible repeat (first | refine blk_drewN ?_ _ | refine blk_drew ?_ | refine blk_alloc ?_ _)); exact BK108.out) hg (Kd.R_ne HO_3.out BK108.out (by decide))); have n2_ := Aside0.mk ((by rw [hw]; exact below_set (HB.out) GB20.out : Below w.heap.size w w26)); clear HO_3; clear BK108; clear HB; have HO_3 := n0_; have BK108 := n1_; have HB := n2_; clear n0_ n1_ n2_; clear hg hw hp_))
                                 (try simp only [← hl3_2])
                                 go_roundg k2
                                 case measure => have := HK1.out; have := HK2.out; omega
                                 case rel => exact ⟨(y111), (wrap64 (x29_2 + 1)), (by first | rfl | (simp; done) | (simp [*]; done)), H', ⟨by have := HK1.out; have := HK2.out; omega⟩, ⟨by (try simp only [hl3_2]); (with_reducible repeat (first | apply Kd.R_alloc | apply Kd.R_drewN | apply Kd.R_drew)); exact HO_3.out⟩, ⟨by repeat (first | (with_reducible first | exact HB.out | apply bA_ | apply bN_ | apply b1_ | refine below_set ?_ GE108.out) | exact HB.out)⟩⟩
                               · rw [if_neg c19] at H
                                 have c19b0 : ((rd x3_2 x29_2) == 0) = false := beq_eq_false_iff_ne.mpr c19
                                 have c19b1 : ((rd x3_2 x29_2) != 0) = true := bne_iff_ne.mpr c19
                                 by_cases c27 : (rd x3_2 x29_2) = ((rd_T27 (rd_L4 l0 x18_1) x29_2).f0)
                                 · rw [if_pos c27] at H
                                   have c27b0 : ((rd x3_2 x29_2) == ((rd_T27 (rd_L4 l0 x18_1) x29_2).f0)) = true := beq_iff_eq.mpr c27
                                   have c27b1 : ((rd x3_2 x29_2) != ((rd_T27 (rd_L4 l0 x18_1) x29_2).f0)) = false := bne_eq_false_iff_eq.mpr c27
                                   clear c27
                                   have H' := Aside0.mk H
                                   clear H
                                   have p107 : 0 ≤ (x29_2 : Int) := oT_ (by assumption)
                                   have q107 : x29_2 < ((rd_L4 l0 x18_1).length : Int) := oT_ (by assumption)
                                   obtain ⟨ad107, e107, hx107_0, hx107_1, hx107_2⟩ := at_T27 HR106_0.out x29_2 p107 q107
                                   cases e107
                                   replace hx107_0 := (HB.out.cell (bLC_ w _ hx107_0)).trans hx107_0
                                   replace hx107_1 := (HB.out.cell (bLC_ w _ hx107_1)).trans hx107_1
                                   replace hx107_2 := (HB.out.cell (bLC_ w _ hx107_2)).trans hx107_2
                                   replace p107 := eq_true p107
                                   replace q107 := eq_true q107
                                   go_wp2_with (first | ((with_reducible refine gate_dst (N := 7) rfl ?_); refine box_event ?hg (N := 7) ?hd (cs := #[.int .u8 0, .int .i64 0, .string (⟨#[]⟩ : ByteArray)]) (t := 27) ?hr ?_; (case hd => rfl); (case hg => rfl); (case hr => first | (go_simp; done) | (go_simp; rfl)); intro gb108 hg w28 hbox hb; have n0_ := Aside0.mk (Kd.R_below (by (with_reducible repeat (first | apply Kd.R_alloc | apply Kd.R_drewN | apply Kd.R_drew)); exact HO_3.out) hb); have n1_ := Aside0.mk (below_step (by repeat (first | (with_reducible first | exact HB.out | apply bA_ | apply bN_ | apply b1_) | exact HB.out)) hb); have n2_ := Aside0.mk (hbox); have n3_ := Aside0.mk ((by rw [hg]; exact (below_size (by repeat (first | (with_reducible first | exact HB.out | apply bA_ | apply bN_ | apply b1_) | exact HB.out))) : w.heap.size ≤ gb108)); have n4_ := Aside0.mk ((by rw [hg]; exact (below_size (by repeat (first | (with_reducible first | exact HB.out | apply bA_ | apply bN_ | apply b1_) | exact HB.out))) : w.heap.size ≤ gb108)); clear HO_3; clear HB; have HO_3 := n0_; have HB := n1_; have BK108 := n2_; have GW108 := n3_; have GE108 := n4_; clear n0_ n1_ n2_ n3_ n4_; clear hb hbox hg; have hcz29_0 : w28.cell? ⟨gb108, 0, none⟩ = some (.int .u8 0) := (blk_cell BK108.out 0).trans rfl; have hcz29_1 : w28.cell? ⟨gb108, 1, none⟩ = some (.int .i64 0) := (blk_cell BK108.out 1).trans rfl; have hcz29_2 : w28.cell? ⟨gb108, 2, none⟩ = some (.string (⟨#[]⟩ : ByteArray)) := (blk_cell BK108.out 2).trans rfl; have hfz29_0 := blk_frozen BK108.out 0; have hfz29_1 := blk_frozen BK108.out 1; have hfz29_2 := blk_frozen BK108.out 2) | ((with_reducible refine gate_callee (f := 40) rfl ?_); refine goesL_ (some 35) rfl rfl Tryd.func40 (by kernel_rfl) rfl #[.agg #[.int .u8 ((rd_T27 (rd_L4 l0 x18_1) x29_2).f0), .int .i64 ((rd_T27 (rd_L4 l0 x18_1) x29_2).f1), .string ((rd_T27 (rd_L4 l0 x18_1) x29_2).f2)]] rfl (by (try simp only [List.map_toArray, List.map_cons, List.map_nil]); first | done | rfl | (simp only [List.length_drop, List.length_take]; rfl)) ?_; (with_reducible refine (value_Valid.calls ((rd_T27 (rd_L4 l0 x18_1) x29_2).f0) ((rd_T27 (rd_L4 l0 x18_1) x29_2).f1) ((rd_T27 (rd_L4 l0 x18_1) x29_2).f2) true _ A16.out).mono ?_); rintro e w30 ⟨rfl, hb⟩; refine ⟨_, rfl, ?_⟩; have n0_ := Aside0.mk (Kd.R_below (by (with_reducible repeat (first | apply Kd.R_alloc | apply Kd.R_drewN | apply Kd.R_drew)); exact (Kd.R_mono (Kd.R_far (p := ⟨gb108, 2, none⟩) (Kd.R_far (p := ⟨gb108, 1, none⟩) (Kd.R_far (p := ⟨gb108, 0, none⟩) (Kd.R_types HO_3.out BK108.out (by decide)) (fun _ hk => hk.2) (.int .u8 ((rd_T27 (rd_L4 l0 x18_1) x29_2).f0))) (fun _ hk => hk.2) (.int .i64 ((rd_T27 (rd_L4 l0 x18_1) x29_2).f1))) (fun _ hk => hk.2) (.string ((rd_T27 (rd_L4 l0 x18_1) x29_2).f2))) (fun _ h_ => h_.1))) hb); have n1_ := Aside0.mk (blk_below (g := gb108) (o := .cells #[.int .u8 ((rd_T27 (rd_L4 l0 x18_1) x29_2).f0), .int .i64 ((rd_T27 (rd_L4 l0 x18_1) x29_2).f1), .string ((rd_T27 (rd_L4 l0 x18_1) x29_2).f2)] 27 (0, 0)) (by (with_reducible repeat (first | refine blk_drewN ?_ _ | refine blk_drew ?_ | refine blk_alloc ?_ _)); refine blk_put (cs := #[.int .u8 ((rd_T27 (rd_L4 l0 x18_1) x29_2).f0), .int .i64 ((rd_T27 (rd_L4 l0 x18_1) x29_2).f1), .string (⟨#[]⟩ : ByteArray)]) ?_ 2 _ rfl; (with_reducible repeat (first | refine blk_drewN ?_ _ | refine blk_drew ?_ | refine blk_alloc ?_ _)); refine blk_put (cs := #[.int .u8 ((rd_T27 (rd_L4 l0 x18_1) x29_2).f0), .int .i64 0, .string (⟨#[]⟩ : ByteArray)]) ?_ 1 _ rfl; (with_reducible repeat (first | refine blk_drewN ?_ _ | refine blk_drew ?_ | refine blk_alloc ?_ _)); refine blk_put (cs := #[.int .u8 0, .int .i64 0, .string (⟨#[]⟩ : ByteArray)]) ?_ 0 _ rfl; (with_reducible repeat (first | refine blk_drewN ?_ _ | refine blk_drew ?_ | refine blk_alloc ?_ _)); exact BK108.out) hb); have n2_ := Aside0.mk (below_step (by repeat (first | (with_reducible first | exact HB.out | apply bA_ | apply bN_ | apply b1_ | refine below_set ?_ GE108.out) | exact HB.out)) hb); clear HO_3; clear BK108; clear HB; have HO_3 := n0_; have BK108 := n1_; have HB := n2_; clear n0_ n1_ n2_; (try clear hb); (try clear hb2); (try clear hk); (try clear hi); have p110 : 0 ≤ (x29_2 : Int) := oT_ (by assumption); have q110 : x29_2 < (x3_2.length : Int) := oT_ (by assumption); obtain ⟨ad110, e110, hx110_0⟩ := Kd.at_int (Kd.R_reads' HO_3.out).2.2 x29_2 p110 q110; cases e110; replace p110 := eq_true p110; replace q110 := eq_true q110; have hcz31_0 : w30.cell? ⟨gb108, 0, none⟩ = some (.int .u8 ((rd_T27 (rd_L4 l0 x18_1) x29_2).f0)) := (blk_cell BK108.out 0).trans rfl; have hcz31_1 : w30.cell? ⟨gb108, 1, none⟩ = some (.int .i64 ((rd_T27 (rd_L4 l0 x18_1) x29_2).f1)) := (blk_cell BK108.out 1).trans rfl; have hcz31_2 : w30.cell? ⟨gb108, 2, none⟩ = some (.string ((rd_T27 (rd_L4 l0 x18_1) x29_2).f2)) := (blk_cell BK108.out 2).trans rfl; have hfz31_0 := blk_frozen BK108.out 0; have hfz31_1 := blk_frozen BK108.out 1; have hfz31_2 := blk_frozen BK108.out 2))
                                   (try simp only [← hl3_2])
                                   go_roundg k2
                                   case measure => have := HK1.out; have := HK2.out; omega
                                   case rel => exact ⟨(x3_2), (wrap64 (x29_2 + 1)), (by first | rfl | (simp; done) | (simp [*]; done)), H', ⟨by have := HK1.out; have := HK2.out; omega⟩, ⟨by (try simp only [hl3_2]); (with_reducible repeat (first | apply Kd.R_alloc | apply Kd.R_drewN | apply Kd.R_drew)); exact HO_3.out⟩, ⟨by repeat (first | (with_reducible first | exact HB.out | apply bA_ | apply bN_ | apply b1_ | refine below_set ?_ GE108.out) | exact HB.out)⟩⟩
                                 · rw [if_neg c27] at H
                                   have c27b0 : ((rd x3_2 x29_2) == ((rd_T27 (rd_L4 l0 x18_1) x29_2).f0)) = false := beq_eq_false_iff_ne.mpr c27
                                   have c27b1 : ((rd x3_2 x29_2) != ((rd_T27 (rd_L4 l0 x18_1) x29_2).f0)) = true := bne_iff_ne.mpr c27
                                   by_cases c32 : ((rd_T27 (rd_L4 l0 x18_1) x29_2).f0) = 0
                                   · rw [if_pos c32] at H
                                     have c32b0 : (((rd_T27 (rd_L4 l0 x18_1) x29_2).f0) == 0) = true := beq_iff_eq.mpr c32
                                     have c32b1 : (((rd_T27 (rd_L4 l0 x18_1) x29_2).f0) != 0) = false := bne_eq_false_iff_eq.mpr c32
                                     clear c32
                                     have H' := Aside0.mk H
                                     clear H
                                     have p107 : 0 ≤ (x29_2 : Int) := oT_ (by assumption)
                                     have q107 : x29_2 < ((rd_L4 l0 x18_1).length : Int) := oT_ (by assumption)
                                     obtain ⟨ad107, e107, hx107_0, hx107_1, hx107_2⟩ := at_T27 HR106_0.out x29_2 p107 q107
                                     cases e107
                                     replace hx107_0 := (HB.out.cell (bLC_ w _ hx107_0)).trans hx107_0
                                     replace hx107_1 := (HB.out.cell (bLC_ w _ hx107_1)).trans hx107_1
                                     replace hx107_2 := (HB.out.cell (bLC_ w _ hx107_2)).trans hx107_2
                                     replace p107 := eq_true p107
                                     replace q107 := eq_true q107
                                     go_wp2_with (first | ((with_reducible refine gate_dst (N := 7) rfl ?_); refine box_event ?hg (N := 7) ?hd (cs := #[.int .u8 0, .int .i64 0, .string (⟨#[]⟩ : ByteArray)]) (t := 27) ?hr ?_; (case hd => rfl); (case hg => rfl); (case hr => first | (go_simp; done) | (go_simp; rfl)); intro gb108 hg w33 hbox hb; have n0_ := Aside0.mk (Kd.R_below (by (with_reducible repeat (first | apply Kd.R_alloc | apply Kd.R_drewN | apply Kd.R_drew)); exact HO_3.out) hb); have n1_ := Aside0.mk (below_step (by repeat (first | (with_reducible first | exact HB.out | apply bA_ | apply bN_ | apply b1_) | exact HB.out)) hb); have n2_ := Aside0.mk (hbox); have n3_ := Aside0.mk ((by rw [hg]; exact (below_size (by repeat (first | (with_reducible first | exact HB.out | apply bA_ | apply bN_ | apply b1_) | exact HB.out))) : w.heap.size ≤ gb108)); have n4_ := Aside0.mk ((by rw [hg]; exact (below_size (by repeat (first | (with_reducible first | exact HB.out | apply bA_ | apply bN_ | apply b1_) | exact HB.out))) : w.heap.size ≤ gb108)); clear HO_3; clear HB; have HO_3 := n0_; have HB := n1_; have BK108 := n2_; have GW108 := n3_; have GE108 := n4_; clear n0_ n1_ n2_ n3_ n4_; clear hb hbox hg; have hcz34_0 : w33.cell? ⟨gb108, 0, none⟩ = some (.int .u8 0) := (blk_cell BK108.out 0).trans rfl; have hcz34_1 : w33.cell? ⟨gb108, 1, none⟩ = some (.int .i64 0) := (blk_cell BK108.out 1).trans rfl; have hcz34_2 : w33.cell? ⟨gb108, 2, none⟩ = some (.string (⟨#[]⟩ : ByteArray)) := (blk_cell BK108.out 2).trans rfl; have hfz34_0 := blk_frozen BK108.out 0; have hfz34_1 := blk_frozen BK108.out 1; have hfz34_2 := blk_frozen BK108.out 2) | ((with_reducible refine gate_callee (f := 40) rfl ?_); refine goesL_ (some 35) rfl rfl Tryd.func40 (by kernel_rfl) rfl #[.agg #[.int .u8 ((rd_T27 (rd_L4 l0 x18_1) x29_2).f0), .int .i64 ((rd_T27 (rd_L4 l0 x18_1) x29_2).f1), .string ((rd_T27 (rd_L4 l0 x18_1) x29_2).f2)]] rfl (by (try simp only [List.map_toArray, List.map_cons, List.map_nil]); first | done | rfl | (simp only [List.length_drop, List.length_take]; rfl)) ?_; (with_reducible refine (value_Valid.calls ((rd_T27 (rd_L4 l0 x18_1) x29_2).f0) ((rd_T27 (rd_L4 l0 x18_1) x29_2).f1) ((rd_T27 (rd_L4 l0 x18_1) x29_2).f2) true _ A16.out).mono ?_); rintro e w35 ⟨rfl, hb⟩; refine ⟨_, rfl, ?_⟩; have n0_ := Aside0.mk (Kd.R_below (by (with_reducible repeat (first | apply Kd.R_alloc | apply Kd.R_drewN | apply Kd.R_drew)); exact (Kd.R_mono (Kd.R_far (p := ⟨gb108, 2, none⟩) (Kd.R_far (p := ⟨gb108, 1, none⟩) (Kd.R_far (p := ⟨gb108, 0, none⟩) (Kd.R_types HO_3.out BK108.out (by decide)) (fun _ hk => hk.2) (.int .u8 ((rd_T27 (rd_L4 l0 x18_1) x29_2).f0))) (fun _ hk => hk.2) (.int .i64 ((rd_T27 (rd_L4 l0 x18_1) x29_2).f1))) (fun _ hk => hk.2) (.string ((rd_T27 (rd_L4 l0 x18_1) x29_2).f2))) (fun _ h_ => h_.1))) hb); have n1_ := Aside0.mk (blk_below (g := gb108) (o := .cells #[.int .u8 ((rd_T27 (rd_L4 l0 x18_1) x29_2).f0), .int .i64 ((rd_T27 (rd_L4 l0 x18_1) x29_2).f1), .string ((rd_T27 (rd_L4 l0 x18_1) x29_2).f2)] 27 (0, 0)) (by (with_reducible repeat (first | refine blk_drewN ?_ _ | refine blk_drew ?_ | refine blk_alloc ?_ _)); refine blk_put (cs := #[.int .u8 ((rd_T27 (rd_L4 l0 x18_1) x29_2).f0), .int .i64 ((rd_T27 (rd_L4 l0 x18_1) x29_2).f1), .string (⟨#[]⟩ : ByteArray)]) ?_ 2 _ rfl; (with_reducible repeat (first | refine blk_drewN ?_ _ | refine blk_drew ?_ | refine blk_alloc ?_ _)); refine blk_put (cs := #[.int .u8 ((rd_T27 (rd_L4 l0 x18_1) x29_2).f0), .int .i64 0, .string (⟨#[]⟩ : ByteArray)]) ?_ 1 _ rfl; (with_reducible repeat (first | refine blk_drewN ?_ _ | refine blk_drew ?_ | refine blk_alloc ?_ _)); refine blk_put (cs := #[.int .u8 0, .int .i64 0, .string (⟨#[]⟩ : ByteArray)]) ?_ 0 _ rfl; (with_reducible repeat (first | refine blk_drewN ?_ _ | refine blk_drew ?_ | refine blk_alloc ?_ _)); exact BK108.out) hb); have n2_ := Aside0.mk (below_step (by repeat (first | (with_reducible first | exact HB.out | apply bA_ | apply bN_ | apply b1_ | refine below_set ?_ GE108.out) | exact HB.out)) hb); clear HO_3; clear BK108; clear HB; have HO_3 := n0_; have BK108 := n1_; have HB := n2_; clear n0_ n1_ n2_; (try clear hb); (try clear hb2); (try clear hk); (try clear hi); have p110 : 0 ≤ (x29_2 : Int) := oT_ (by assumption); have q110 : x29_2 < (x3_2.length : Int) := oT_ (by assumption); obtain ⟨ad110, e110, hx110_0⟩ := Kd.at_int (Kd.R_reads' HO_3.out).2.2 x29_2 p110 q110; cases e110; replace p110 := eq_true p110; replace q110 := eq_true q110; have hcz36_0 : w35.cell? ⟨gb108, 0, none⟩ = some (.int .u8 ((rd_T27 (rd_L4 l0 x18_1) x29_2).f0)) := (blk_cell BK108.out 0).trans rfl; have hcz36_1 : w35.cell? ⟨gb108, 1, none⟩ = some (.int .i64 ((rd_T27 (rd_L4 l0 x18_1) x29_2).f1)) := (blk_cell BK108.out 1).trans rfl; have hcz36_2 : w35.cell? ⟨gb108, 2, none⟩ = some (.string ((rd_T27 (rd_L4 l0 x18_1) x29_2).f2)) := (blk_cell BK108.out 2).trans rfl; have hfz36_0 := blk_frozen BK108.out 0; have hfz36_1 := blk_frozen BK108.out 1; have hfz36_2 := blk_frozen BK108.out 2))
                                     (try simp only [← hl3_2])
                                     go_roundg k2
                                     case measure => have := HK1.out; have := HK2.out; omega
                                     case rel => exact ⟨(x3_2), (wrap64 (x29_2 + 1)), (by first | rfl | (simp; done) | (simp [*]; done)), H', ⟨by have := HK1.out; have := HK2.out; omega⟩, ⟨by (try simp only [hl3_2]); (with_reducible repeat (first | apply Kd.R_alloc | apply Kd.R_drewN | apply Kd.R_drew)); exact HO_3.out⟩, ⟨by repeat (first | (with_reducible first | exact HB.out | apply bA_ | apply bN_ | apply b1_ | refine below_set ?_ GE108.out) | exact HB.out)⟩⟩
                                   · rw [if_neg c32] at H
                                     have c32b0 : (((rd_T27 (rd_L4 l0 x18_1) x29_2).f0) == 0) = false := beq_eq_false_iff_ne.mpr c32
                                     have c32b1 : (((rd_T27 (rd_L4 l0 x18_1) x29_2).f0) != 0) = true := bne_iff_ne.mpr c32
                                     obtain rfl := Option.some.inj H
                                     have p107 : 0 ≤ (x29_2 : Int) := oT_ (by assumption)
                                     have q107 : x29_2 < ((rd_L4 l0 x18_1).length : Int) := oT_ (by assumption)
                                     obtain ⟨ad107, e107, hx107_0, hx107_1, hx107_2⟩ := at_T27 HR106_0.out x29_2 p107 q107
                                     cases e107
                                     replace hx107_0 := (HB.out.cell (bLC_ w _ hx107_0)).trans hx107_0
                                     replace hx107_1 := (HB.out.cell (bLC_ w _ hx107_1)).trans hx107_1
                                     replace hx107_2 := (HB.out.cell (bLC_ w _ hx107_2)).trans hx107_2
                                     replace p107 := eq_true p107
                                     replace q107 := eq_true q107
                                     go_wp2_with (first | ((with_reducible refine gate_dst (N := 7) rfl ?_); refine box_event ?hg (N := 7) ?hd (cs := #[.int .u8 0, .int .i64 0, .string (⟨#[]⟩ : ByteArray)]) (t := 27) ?hr ?_; (case hd => rfl); (case hg => rfl); (case hr => first | (go_simp; done) | (go_simp; rfl)); intro gb108 hg w37 hbox hb; have n0_ := Aside0.mk (Kd.R_below (by (with_reducible repeat (first | apply Kd.R_alloc | apply Kd.R_drewN | apply Kd.R_drew)); exact HO_3.out) hb); have n1_ := Aside0.mk (below_step (by repeat (first | (with_reducible first | exact HB.out | apply bA_ | apply bN_ | apply b1_) | exact HB.out)) hb); have n2_ := Aside0.mk (hbox); have n3_ := Aside0.mk ((by rw [hg]; exact (below_size (by repeat (first | (with_reducible first | exact HB.out | apply bA_ | apply bN_ | apply b1_) | exact HB.out))) : w.heap.size ≤ gb108)); have n4_ := Aside0.mk ((by rw [hg]; exact (below_size (by repeat (first | (with_reducible first | exact HB.out | apply bA_ | apply bN_ | apply b1_) | exact HB.out))) : w.heap.size ≤ gb108)); clear HO_3; clear HB; have HO_3 := n0_; have HB := n1_; have BK108 := n2_; have GW108 := n3_; have GE108 := n4_; clear n0_ n1_ n2_ n3_ n4_; clear hb hbox hg; have hcz38_0 : w37.cell? ⟨gb108, 0, none⟩ = some (.int .u8 0) := (blk_cell BK108.out 0).trans rfl; have hcz38_1 : w37.cell? ⟨gb108, 1, none⟩ = some (.int .i64 0) := (blk_cell BK108.out 1).trans rfl; have hcz38_2 : w37.cell? ⟨gb108, 2, none⟩ = some (.string (⟨#[]⟩ : ByteArray)) := (blk_cell BK108.out 2).trans rfl; have hfz38_0 := blk_frozen BK108.out 0; have hfz38_1 := blk_frozen BK108.out 1; have hfz38_2 := blk_frozen BK108.out 2) | ((with_reducible refine gate_callee (f := 40) rfl ?_); refine goesL_ (some 35) rfl rfl Tryd.func40 (by kernel_rfl) rfl #[.agg #[.int .u8 ((rd_T27 (rd_L4 l0 x18_1) x29_2).f0), .int .i64 ((rd_T27 (rd_L4 l0 x18_1) x29_2).f1), .string ((rd_T27 (rd_L4 l0 x18_1) x29_2).f2)]] rfl (by (try simp only [List.map_toArray, List.map_cons, List.map_nil]); first | done | rfl | (simp only [List.length_drop, List.length_take]; rfl)) ?_; (with_reducible refine (value_Valid.calls ((rd_T27 (rd_L4 l0 x18_1) x29_2).f0) ((rd_T27 (rd_L4 l0 x18_1) x29_2).f1) ((rd_T27 (rd_L4 l0 x18_1) x29_2).f2) true _ A16.out).mono ?_); rintro e w39 ⟨rfl, hb⟩; refine ⟨_, rfl, ?_⟩; have n0_ := Aside0.mk (Kd.R_below (by (with_reducible repeat (first | apply Kd.R_alloc | apply Kd.R_drewN | apply Kd.R_drew)); exact (Kd.R_mono (Kd.R_far (p := ⟨gb108, 2, none⟩) (Kd.R_far (p := ⟨gb108, 1, none⟩) (Kd.R_far (p := ⟨gb108, 0, none⟩) (Kd.R_types HO_3.out BK108.out (by decide)) (fun _ hk => hk.2) (.int .u8 ((rd_T27 (rd_L4 l0 x18_1) x29_2).f0))) (fun _ hk => hk.2) (.int .i64 ((rd_T27 (rd_L4 l0 x18_1) x29_2).f1))) (fun _ hk => hk.2) (.string ((rd_T27 (rd_L4 l0 x18_1) x29_2).f2))) (fun _ h_ => h_.1))) hb); have n1_ := Aside0.mk (blk_below (g := gb108) (o := .cells #[.int .u8 ((rd_T27 (rd_L4 l0 x18_1) x29_2).f0), .int .i64 ((rd_T27 (rd_L4 l0 x18_1) x29_2).f1), .string ((rd_T27 (rd_L4 l0 x18_1) x29_2).f2)] 27 (0, 0)) (by (with_reducible repeat (first | refine blk_drewN ?_ _ | refine blk_drew ?_ | refine blk_alloc ?_ _)); refine blk_put (cs := #[.int .u8 ((rd_T27 (rd_L4 l0 x18_1) x29_2).f0), .int .i64 ((rd_T27 (rd_L4 l0 x18_1) x29_2).f1), .string (⟨#[]⟩ : ByteArray)]) ?_ 2 _ rfl; (with_reducible repeat (first | refine blk_drewN ?_ _ | refine blk_drew ?_ | refine blk_alloc ?_ _)); refine blk_put (cs := #[.int .u8 ((rd_T27 (rd_L4 l0 x18_1) x29_2).f0), .int .i64 0, .string (⟨#[]⟩ : ByteArray)]) ?_ 1 _ rfl; (with_reducible repeat (first | refine blk_drewN ?_ _ | refine blk_drew ?_ | refine blk_alloc ?_ _)); refine blk_put (cs := #[.int .u8 0, .int .i64 0, .string (⟨#[]⟩ : ByteArray)]) ?_ 0 _ rfl; (with_reducible repeat (first | refine blk_drewN ?_ _ | refine blk_drew ?_ | refine blk_alloc ?_ _)); exact BK108.out) hb); have n2_ := Aside0.mk (below_step (by repeat (first | (with_reducible first | exact HB.out | apply bA_ | apply bN_ | apply b1_ | refine below_set ?_ GE108.out) | exact HB.out)) hb); clear HO_3; clear BK108; clear HB; have HO_3 := n0_; have BK108 := n1_; have HB := n2_; clear n0_ n1_ n2_; (try clear hb); (try clear hb2); (try clear hk); (try clear hi); have p110 : 0 ≤ (x29_2 : Int) := oT_ (by assumption); have q110 : x29_2 < (x3_2.length : Int) := oT_ (by assumption); obtain ⟨ad110, e110, hx110_0⟩ := Kd.at_int (Kd.R_reads' HO_3.out).2.2 x29_2 p110 q110; cases e110; replace p110 := eq_true p110; replace q110 := eq_true q110; have hcz40_0 : w39.cell? ⟨gb108, 0, none⟩ = some (.int .u8 ((rd_T27 (rd_L4 l0 x18_1) x29_2).f0)) := (blk_cell BK108.out 0).trans rfl; have hcz40_1 : w39.cell? ⟨gb108, 1, none⟩ = some (.int .i64 ((rd_T27 (rd_L4 l0 x18_1) x29_2).f1)) := (blk_cell BK108.out 1).trans rfl; have hcz40_2 : w39.cell? ⟨gb108, 2, none⟩ = some (.string ((rd_T27 (rd_L4 l0 x18_1) x29_2).f2)) := (blk_cell BK108.out 2).trans rfl; have hfz40_0 := blk_frozen BK108.out 0; have hfz40_1 := blk_frozen BK108.out 1; have hfz40_2 := blk_frozen BK108.out 2))
                                     go_ret
                                     exact ⟨by first | rfl | (simp [*, errW_none, errW_some] <;> rfl), by repeat (first | (with_reducible first | exact HB.out | apply bA_ | apply bN_ | apply b1_ | refine below_set ?_ GE108.out) | exact HB.out)⟩
                             · rw [if_neg c18] at H
                               exact absurd H (by simp)
                           · replace c17 := Bool.eq_false_iff.mpr c17
                             subst c17
                             have H1 : (some false) = some r := by rw [if_neg (show ¬ (false = true) by decide)] at H; exact H
                             clear H
                             have H := H1
                             clear H1
                             obtain rfl := Option.some.inj H
                             have p107 : 0 ≤ (x29_2 : Int) := oT_ (by assumption)
                             have q107 : x29_2 < ((rd_L4 l0 x18_1).length : Int) := oT_ (by assumption)
                             obtain ⟨ad107, e107, hx107_0, hx107_1, hx107_2⟩ := at_T27 HR106_0.out x29_2 p107 q107
                             cases e107
                             replace hx107_0 := (HB.out.cell (bLC_ w _ hx107_0)).trans hx107_0
                             replace hx107_1 := (HB.out.cell (bLC_ w _ hx107_1)).trans hx107_1
                             replace hx107_2 := (HB.out.cell (bLC_ w _ hx107_2)).trans hx107_2
                             replace p107 := eq_true p107
                             replace q107 := eq_true q107
                             go_wp2_with (first | ((with_reducible refine gate_dst (N := 7) rfl ?_); refine box_event ?hg (N := 7) ?hd (cs := #[.int .u8 0, .int .i64 0, .string (⟨#[]⟩ : ByteArray)]) (t := 27) ?hr ?_; (case hd => rfl); (case hg => rfl); (case hr => first | (go_simp; done) | (go_simp; rfl)); intro gb108 hg w41 hbox hb; have n0_ := Aside0.mk (Kd.R_below (by (with_reducible repeat (first | apply Kd.R_alloc | apply Kd.R_drewN | apply Kd.R_drew)); exact HO_3.out) hb); have n1_ := Aside0.mk (below_step (by repeat (first | (with_reducible first | exact HB.out | apply bA_ | apply bN_ | apply b1_) | exact HB.out)) hb); have n2_ := Aside0.mk (hbox); have n3_ := Aside0.mk ((by rw [hg]; exact (below_size (by repeat (first | (with_reducible first | exact HB.out | apply bA_ | apply bN_ | apply b1_) | exact HB.out))) : w.heap.size ≤ gb108)); have n4_ := Aside0.mk ((by rw [hg]; exact (below_size (by repeat (first | (with_reducible first | exact HB.out | apply bA_ | apply bN_ | apply b1_) | exact HB.out))) : w.heap.size ≤ gb108)); clear HO_3; clear HB; have HO_3 := n0_; have HB := n1_; have BK108 := n2_; have GW108 := n3_; have GE108 := n4_; clear n0_ n1_ n2_ n3_ n4_; clear hb hbox hg; have hcz42_0 : w41.cell? ⟨gb108, 0, none⟩ = some (.int .u8 0) := (blk_cell BK108.out 0).trans rfl; have hcz42_1 : w41.cell? ⟨gb108, 1, none⟩ = some (.int .i64 0) := (blk_cell BK108.out 1).trans rfl; have hcz42_2 : w41.cell? ⟨gb108, 2, none⟩ = some (.string (⟨#[]⟩ : ByteArray)) := (blk_cell BK108.out 2).trans rfl; have hfz42_0 := blk_frozen BK108.out 0; have hfz42_1 := blk_frozen BK108.out 1; have hfz42_2 := blk_frozen BK108.out 2) | ((with_reducible refine gate_callee (f := 40) rfl ?_); refine goesL_ (some 35) rfl rfl Tryd.func40 (by kernel_rfl) rfl #[.agg #[.int .u8 ((rd_T27 (rd_L4 l0 x18_1) x29_2).f0), .int .i64 ((rd_T27 (rd_L4 l0 x18_1) x29_2).f1), .string ((rd_T27 (rd_L4 l0 x18_1) x29_2).f2)]] rfl (by (try simp only [List.map_toArray, List.map_cons, List.map_nil]); first | done | rfl | (simp only [List.length_drop, List.length_take]; rfl)) ?_; (with_reducible refine (value_Valid.calls ((rd_T27 (rd_L4 l0 x18_1) x29_2).f0) ((rd_T27 (rd_L4 l0 x18_1) x29_2).f1) ((rd_T27 (rd_L4 l0 x18_1) x29_2).f2) false _ A16.out).mono ?_); rintro e w43 ⟨rfl, hb⟩; refine ⟨_, rfl, ?_⟩; have n0_ := Aside0.mk (Kd.R_below (by (with_reducible repeat (first | apply Kd.R_alloc | apply Kd.R_drewN | apply Kd.R_drew)); exact (Kd.R_mono (Kd.R_far (p := ⟨gb108, 2, none⟩) (Kd.R_far (p := ⟨gb108, 1, none⟩) (Kd.R_far (p := ⟨gb108, 0, none⟩) (Kd.R_types HO_3.out BK108.out (by decide)) (fun _ hk => hk.2) (.int .u8 ((rd_T27 (rd_L4 l0 x18_1) x29_2).f0))) (fun _ hk => hk.2) (.int .i64 ((rd_T27 (rd_L4 l0 x18_1) x29_2).f1))) (fun _ hk => hk.2) (.string ((rd_T27 (rd_L4 l0 x18_1) x29_2).f2))) (fun _ h_ => h_.1))) hb); have n1_ := Aside0.mk (blk_below (g := gb108) (o := .cells #[.int .u8 ((rd_T27 (rd_L4 l0 x18_1) x29_2).f0), .int .i64 ((rd_T27 (rd_L4 l0 x18_1) x29_2).f1), .string ((rd_T27 (rd_L4 l0 x18_1) x29_2).f2)] 27 (0, 0)) (by (with_reducible repeat (first | refine blk_drewN ?_ _ | refine blk_drew ?_ | refine blk_alloc ?_ _)); refine blk_put (cs := #[.int .u8 ((rd_T27 (rd_L4 l0 x18_1) x29_2).f0), .int .i64 ((rd_T27 (rd_L4 l0 x18_1) x29_2).f1), .string (⟨#[]⟩ : ByteArray)]) ?_ 2 _ rfl; (with_reducible repeat (first | refine blk_drewN ?_ _ | refine blk_drew ?_ | refine blk_alloc ?_ _)); refine blk_put (cs := #[.int .u8 ((rd_T27 (rd_L4 l0 x18_1) x29_2).f0), .int .i64 0, .string (⟨#[]⟩ : ByteArray)]) ?_ 1 _ rfl; (with_reducible repeat (first | refine blk_drewN ?_ _ | refine blk_drew ?_ | refine blk_alloc ?_ _)); refine blk_put (cs := #[.int .u8 0, .int .i64 0, .string (⟨#[]⟩ : ByteArray)]) ?_ 0 _ rfl; (with_reducible repeat (first | refine blk_drewN ?_ _ | refine blk_drew ?_ | refine blk_alloc ?_ _)); exact BK108.out) hb); have n2_ := Aside0.mk (below_step (by repeat (first | (with_reducible first | exact HB.out | apply bA_ | apply bN_ | apply b1_ | refine below_set ?_ GE108.out) | exact HB.out)) hb); clear HO_3; clear BK108; clear HB; have HO_3 := n0_; have BK108 := n1_; have HB := n2_; clear n0_ n1_ n2_; (try clear hb); (try clear hb2); (try clear hk); (try clear hi)))
                             go_ret
                             exact ⟨by first | rfl | (simp [*, errW_none, errW_some] <;> rfl), by repeat (first | (with_reducible first | exact HB.out | apply bA_ | apply bN_ | apply b1_ | refine below_set ?_ GE108.out) | exact HB.out)⟩
                         · rw [if_neg c15] at H
                           exact absurd H (by simp)
                       · rw [if_neg c14] at H
                         exact absurd H (by simp)
                     · rw [if_neg c13] at H
                       have c13b0 : decide (x29_2 < ((rd_L4 l0 x18_1).length : Int)) = false := dF_ c13
                       clear c13
                       have H' := Aside0.mk H
                       clear H
                       go_wp2
                       (try simp only [← hl3_2])
                       go_roundg k2
                       case measure => have := HK1.out; have := HK2.out; omega
                       case rel => exact ⟨(x3_2), (wrap64 (x18_1 + 1)), (by first | rfl | (simp; done) | (simp [*]; done)), H', ⟨by have := HK1.out; have := HK2.out; omega⟩, ⟨by (try simp only [hl3_2]); (with_reducible repeat (first | apply Kd.R_alloc | apply Kd.R_drewN | apply Kd.R_drew)); exact HO_3.out⟩, ⟨by repeat (first | (with_reducible first | exact HB.out | apply bA_ | apply bN_ | apply b1_) | exact HB.out)⟩⟩
                 · rw [if_neg c11] at H
                   have c11b0 : (((rd_L4 l0 x18_1).length : Int) == (x3_1.length : Int)) = false := beq_eq_false_iff_ne.mpr c11
                   have c11b1 : (((rd_L4 l0 x18_1).length : Int) != (x3_1.length : Int)) = true := bne_iff_ne.mpr c11
                   have c11b2 : ((rd_L4 l0 x18_1).length == x3_1.length) = false := by first | simpa using c11 | (simp at c11 ⊢; omega)
                   obtain rfl := Option.some.inj H
                   have p106 : 0 ≤ (x18_1 : Int) := oT_ (by assumption)
                   have q106 : x18_1 < (l0.length : Int) := oT_ (by assumption)
                   obtain ⟨ad106, A106_0, c106_0, e106, hx106_0, hl106_0, hi106_0⟩ := at_L4 HR0.out x18_1 p106 q106
                   obtain rfl : ad102 = ad106 := (by injection e106)
                   replace hx106_0 := (HB.out.cell (bLC_ w _ hx106_0)).trans hx106_0
                   have HR106_0 := Aside0.mk hi106_0
                   have HC106_0 := Aside0.mk hl106_0
                   clear hi106_0 hl106_0
                   replace p106 := eq_true p106
                   replace q106 := eq_true q106
                   obtain ⟨Ao44, co44, eo44⟩ := Kd.R_slice HO_3.out
                   subst eo44
                   go_wp2
                   go_ret
                   exact ⟨by first | rfl | (simp [*, errW_none, errW_some] <;> rfl), by repeat (first | (with_reducible first | exact HB.out | apply bA_ | apply bN_ | apply b1_) | exact HB.out)⟩
               · rw [if_neg c10] at H
                 exact absurd H (by simp)
             · rw [if_neg c9] at H
               exact absurd H (by simp)
           · rw [if_neg c8] at H
             have c8b0 : decide (x18_1 < (l0.length : Int)) = false := dF_ c8
             clear c8
             obtain rfl := Option.some.inj H
             go_wp2
             go_ret
             exact ⟨by first | rfl | (simp [*, errW_none, errW_some] <;> rfl), by repeat (first | (with_reducible first | exact HB.out | apply bA_ | apply bN_ | apply b1_) | exact HB.out)⟩
       · rw [if_neg c5] at H
         exact absurd H (by simp)
     · rw [if_neg c4] at H
       exact absurd H (by simp)
   · rw [if_neg c3] at H
     exact absurd H (by simp)
end Go.Proofs.YtecgkcgfeghhgaaDoor.PAll
set_option linter.unusedVariables false
set_option linter.unusedSimpArgs false
namespace Go.Proofs.YtecgkcgfeghhgaaDoor.PAll
open Go.RowKit Go.Proofs.YtecgkcgfeghhgaaDoorW.PrintWords Go.Proofs.YtecgkcgfeghhgaaDoorW.PrintLast Go.Proofs.YtecgkcgfeghhgaaDoorW.PrintMore
def noText (s : ByteArray) : Bool := s.toList == ([] : List UInt8)
def validV (v : V) : Bool :=
 if v.f0 = 0 then v.f1 == 0 && noText v.f2 else if v.f0 = 1 then noText v.f2 else if v.f0 = 2 then v.f1 == 0 && decide ((v.f2.size : Int) ≤ 100) else if v.f0 = 3 then noText v.f2 && decide (0 ≤ v.f1 ∧ v.f1 ≤ 1) else false
theorem wrap_u64_le (a : Int) (h0 : -9223372036854775808 ≤ a) (h1 : a ≤ 9223372036854775807) : (IntKind.u64.wrap a ≤ 1) ↔ (0 ≤ a ∧ a ≤ 1) := by
 simp only [IntKind.wrap, IntKind.bits, IntKind.signed]
 simp
 omega
theorem valid_value (v : V) (h : VOk v) : value_Valid.f v.f0 v.f1 v.f2 = some (validV v) := by
 obtain ⟨_, _, h2, h3⟩ := h
 unfold value_Valid.f validV noText
 by_cases c0 : v.f0 = 0
 · simp [c0]
 · by_cases c1 : v.f0 = 1
   · simp [c1]
   · by_cases c2 : v.f0 = 2
     · by_cases c4 : v.f1 = 0
       · simp [c2, c4]
       · simp [c2, c4]
     · by_cases c3 : v.f0 = 3
       · by_cases c4 : v.f2.toList = []
         · simp [c3, c4, wrap_u64_le v.f1 h2 h3]
         · simp [c3, c4]
       · simp [c0, c1, c2, c3]
def rowStep : List Int → List V → Option (List Int)
 | [], [] => some []
 | k :: ks, v :: vs => if validV v = true ∧ (k = 0 ∨ k = v.f0 ∨ v.f0 = 0) then (rowStep ks vs).map (fun r => (if k = 0 then v.f0 else k) :: r) else none
 | _, _ => none
def validFrom : List Int → List (List V) → Bool
 | _, [] => true
 | ks, r :: rs => match rowStep ks r with
  | some ks' => validFrom ks' rs
  | none => false
def validB (rows : List (List V)) : Bool := match rows with
 | [] => true
 | r :: rs => validFrom (List.replicate r.length 0) (r :: rs)
theorem rowStep_len : ∀ (ks : List Int) (r : List V) (ks' : List Int), rowStep ks r = some ks' → ks'.length = ks.length ∧ r.length = ks.length
 | [], [], ks', h => by simp [rowStep] at h; subst h; simp
 | [], _ :: _, _, h => by simp [rowStep] at h
 | _ :: _, [], _, h => by simp [rowStep] at h
 | k :: ks, v :: vs, ks', h => by
  simp only [rowStep] at h
  split at h
  · cases hr : rowStep ks vs with
    | none => simp [hr] at h
    | some t =>
     simp [hr] at h
     subst h
     have := rowStep_len ks vs t hr
     simp [this.1, this.2]
  · cases h
theorem rowStep_ne : ∀ (ks : List Int) (r : List V), r.length ≠ ks.length → rowStep ks r = none := by
 intro ks r h
 cases hr : rowStep ks r with
 | none => rfl
 | some t => exact absurd (rowStep_len ks r t hr).2 h
theorem w64 (x : Int) (h0 : 0 ≤ x) (h1 : x ≤ 1099511627776) : wrap64 (x + 1) = x + 1 := by unfold wrap64; omega
theorem rd_at {xs : List Int} {i : Nat} (h : i < xs.length) : rd xs (i : Int) = xs[i] := by simp [rd, List.getElem?_eq_getElem h]
theorem rdV_at {xs : List V} {i : Nat} (h : i < xs.length) : rd_T27 xs (i : Int) = xs[i] := by simp [rd_T27, List.getElem?_eq_getElem h]
theorem rdL_at {xs : List (List V)} {i : Nat} (h : i < xs.length) : rd_L4 xs (i : Int) = xs[i] := by simp [rd_L4, List.getElem?_eq_getElem h]
theorem drop_cons {α : Type} (l : List α) (i : Nat) (h : i < l.length) : l.drop i = l[i] :: l.drop (i + 1) := (List.drop_eq_getElem_cons h)
theorem valid_l1 (l : List (List V)) (N x18 : Int) (r : List V) (hr : ∀ v ∈ r, VOk v) (hn : r.length ≤ 1099511627776) (b : Bool) : ∀ (d j : Nat) (ks : List Int), j + d = r.length → ks.length = r.length →
 (∀ ks', rowStep (ks.drop j) (r.drop j) = some ks' → Ev (fun k => bag_Valid.l0 k (ks.take j ++ ks') l N (wrap64 (x18 + 1))) b → Ev (fun k => bag_Valid.l1 k ks l N x18 r (r.length : Int) (j : Int)) b) ∧
 (rowStep (ks.drop j) (r.drop j) = none → Ev (fun k => bag_Valid.l1 k ks l N x18 r (r.length : Int) (j : Int)) false) := by
 intro d
 induction d with
 | zero =>
  intro j ks hj hk
  have e1 : r.drop j = [] := List.drop_eq_nil_of_le (by omega)
  have e2 : ks.drop j = [] := List.drop_eq_nil_of_le (by omega)
  rw [e1, e2]
  refine ⟨fun ks' h hE => ?_, fun h => by simp [rowStep] at h⟩
  simp [rowStep] at h
  subst h
  rw [List.append_nil, List.take_of_length_le (by omega)] at hE
  refine Ev.step (f := fun k => bag_Valid.l0 k ks l N (wrap64 (x18 + 1))) (fun k => ?_) hE
  simp only [bag_Valid.l1]
  rw [if_neg (by omega)]
 | succ d ih =>
  intro j ks hj hk
  have hlt : j < r.length := by omega
  have hltk : j < ks.length := by omega
  rw [drop_cons r j hlt, drop_cons ks j hltk]
  have hv := valid_value r[j] (hr _ (List.getElem_mem hlt))
  have one : ∀ k, bag_Valid.l1 (k + 1) ks l N x18 r (r.length : Int) (j : Int) = if validV r[j] = true then (if ks[j] = 0 then bag_Valid.l1 k (ks.set j r[j].f0) l N x18 r (r.length : Int) ((j + 1 : Nat) : Int) else (if ks[j] = r[j].f0 then bag_Valid.l1 k ks l N x18 r (r.length : Int) ((j + 1 : Nat) : Int) else (if r[j].f0 = 0 then bag_Valid.l1 k ks l N x18 r (r.length : Int) ((j + 1 : Nat) : Int) else some false))) else some false := fun k => by
   simp only [bag_Valid.l1]
   rw [if_pos (by omega), if_pos (by omega), if_pos (by omega), rdV_at hlt, hv]
   simp only [Option.bind_some]
   rw [if_pos (show (j : Int) < (ks.length : Int) by omega), rd_at hltk, w64 _ (by omega) (by omega), Int.toNat_natCast]
   rfl
  by_cases c0 : validV r[j] = true
  · by_cases c1 : ks[j] = 0
    · have hs : (ks.set j r[j].f0).drop (j + 1) = ks.drop (j + 1) := by rw [List.drop_set]; simp
      have ht : (ks.set j r[j].f0).take (j + 1) = ks.take j ++ [r[j].f0] := by
       rw [take_snoc _ _ (by simpa using hltk)]
       rw [List.take_set, List.set_eq_of_length_le (by rw [List.length_take]; omega)]
       simp
      obtain ⟨i1, i2⟩ := ih (j + 1) (ks.set j r[j].f0) (by omega) (by simpa using hk)
      rw [hs] at i1 i2
      refine ⟨fun ks' h hE => ?_, fun h => ?_⟩
      · simp only [rowStep, c0, c1, true_or, and_self, if_true] at h
        cases hrs : rowStep (ks.drop (j + 1)) (r.drop (j + 1)) with
        | none => simp [hrs] at h
        | some t =>
         simp [hrs] at h
         subst h
         refine Ev.step (fun k => by rw [one k, if_pos c0, if_pos c1]) (i1 t hrs ?_)
         rw [ht, List.append_assoc]
         exact hE
      · simp only [rowStep, c0, c1, true_or, and_self, if_true] at h
        cases hrs : rowStep (ks.drop (j + 1)) (r.drop (j + 1)) with
        | none => exact Ev.step (fun k => by rw [one k, if_pos c0, if_pos c1]) (i2 hrs)
        | some t => simp [hrs] at h
    · obtain ⟨i1, i2⟩ := ih (j + 1) ks (by omega) hk
      have ht : ks.take (j + 1) = ks.take j ++ [ks[j]] := take_snoc _ _ hltk
      by_cases c2 : ks[j] = r[j].f0 ∨ r[j].f0 = 0
      · have one' : ∀ k, bag_Valid.l1 (k + 1) ks l N x18 r (r.length : Int) (j : Int) = bag_Valid.l1 k ks l N x18 r (r.length : Int) ((j + 1 : Nat) : Int) := fun k => by
         rw [one k, if_pos c0, if_neg c1]
         by_cases c3 : ks[j] = r[j].f0
         · rw [if_pos c3]
         · rw [if_neg c3, if_pos (c2.resolve_left c3)]
        refine ⟨fun ks' h hE => ?_, fun h => ?_⟩
        · simp only [rowStep, c0, c1, c2, false_or, true_and, if_true, if_false] at h
          cases hrs : rowStep (ks.drop (j + 1)) (r.drop (j + 1)) with
          | none => simp [hrs] at h
          | some t =>
           simp [hrs] at h
           subst h
           refine Ev.step (fun k => one' k) (i1 t hrs ?_)
           rw [ht, List.append_assoc]
           exact hE
        · simp only [rowStep, c0, c1, c2, false_or, true_and, if_true, if_false] at h
          cases hrs : rowStep (ks.drop (j + 1)) (r.drop (j + 1)) with
          | none => exact Ev.step (fun k => one' k) (i2 hrs)
          | some t => simp [hrs] at h
      · have one' : ∀ k, bag_Valid.l1 (k + 1) ks l N x18 r (r.length : Int) (j : Int) = some false := fun k => by
         rw [one k, if_pos c0, if_neg c1, if_neg (fun e => c2 (.inl e)), if_neg (fun e => c2 (.inr e))]
        refine ⟨fun ks' h _ => ?_, fun _ => Ev.step (fun k => one' k) (Ev.now false)⟩
        simp [rowStep, c0, c1, c2] at h
  · have one' : ∀ k, bag_Valid.l1 (k + 1) ks l N x18 r (r.length : Int) (j : Int) = some false := fun k => by
     rw [one k, if_neg c0]
    refine ⟨fun ks' h _ => ?_, fun _ => Ev.step (fun k => one' k) (Ev.now false)⟩
    simp [rowStep, c0] at h
def RowsV (l : List (List V)) : Prop := (∀ r ∈ l, (∀ v ∈ r, VOk v) ∧ r.length ≤ 1099511627776) ∧ l.length ≤ 1099511627776
theorem RowsOk.v {l : List (List V)} (h : RowsOk l) : RowsV l := ⟨fun r hr => ⟨(h.1 r hr).1, (h.1 r hr).2.2⟩, h.2⟩
theorem valid_l0 (l : List (List V)) (hl : RowsV l) : ∀ (d i : Nat) (ks : List Int), i + d = l.length → Ev (fun k => bag_Valid.l0 k ks l (l.length : Int) (i : Int)) (validFrom ks (l.drop i)) := by
 intro d
 induction d with
 | zero =>
  intro i ks hi
  rw [List.drop_eq_nil_of_le (by omega)]
  refine Ev.step (f := fun _ => some true) (fun k => ?_) (Ev.now true)
  simp only [bag_Valid.l0]
  rw [if_neg (by omega)]
 | succ d ih =>
  intro i ks hi
  have hlt : i < l.length := by omega
  have hr := hl.1 l[i] (List.getElem_mem hlt)
  have hn := hl.2
  rw [drop_cons l i hlt]
  simp only [validFrom]
  by_cases c : l[i].length = ks.length
  · have one : ∀ k, bag_Valid.l0 (k + 1) ks l (l.length : Int) (i : Int) = bag_Valid.l1 k ks l (l.length : Int) (i : Int) l[i] (l[i].length : Int) ((0 : Nat) : Int) := fun k => by
     simp only [bag_Valid.l0]
     rw [if_pos (by omega), if_pos (by omega), if_pos (by omega), rdL_at hlt, if_pos (by omega)]
     rfl
    cases hrs : rowStep ks l[i] with
    | none =>
     obtain ⟨_, i2⟩ := valid_l1 l (l.length : Int) (i : Int) l[i] hr.1 hr.2 false l[i].length 0 ks (by omega) c.symm
     exact Ev.step (fun k => one k) (i2 (by simpa using hrs))
    | some t =>
     obtain ⟨i1, _⟩ := valid_l1 l (l.length : Int) (i : Int) l[i] hr.1 hr.2 (validFrom t (l.drop (i + 1))) l[i].length 0 ks (by omega) c.symm
     refine Ev.step (fun k => one k) (i1 t (by simpa using hrs) ?_)
     rw [w64 _ (by omega) (by omega)]
     exact ih (i + 1) t (by omega)
  · have one : ∀ k, bag_Valid.l0 (k + 1) ks l (l.length : Int) (i : Int) = some false := fun k => by
     simp only [bag_Valid.l0]
     rw [if_pos (by omega), if_pos (by omega), if_pos (by omega), rdL_at hlt, if_neg (by omega)]
    rw [rowStep_ne ks l[i] c]
    exact Ev.step (fun k => one k) (Ev.now false)
theorem valid_ev (l : List (List V)) (hl : RowsV l) : Ev (fun k => bag_Valid.f k l) (validB l) := by
 cases l with
 | nil => exact Ev.congr (f := fun _ => some true) (fun k => by simp [bag_Valid.f]) (Ev.now true)
 | cons r rs =>
  have h := valid_l0 (r :: rs) hl (r :: rs).length 0 (List.replicate r.length 0) (by omega)
  have hr := (hl.1 r List.mem_cons_self).2
  refine Ev.congr (fun k => ?_) h
  have e : rd_L4 (r :: rs) 0 = r := rfl
  simp only [bag_Valid.f]
  rw [if_neg (by simp only [List.length_cons]; omega), if_pos (by simp only [List.length_cons]; omega), e, if_pos (by omega), if_pos (by omega), Int.toNat_natCast]
  rfl
end Go.Proofs.YtecgkcgfeghhgaaDoor.PAll
namespace Go.Proofs.YtecgkcgfeghhgaaDoor.PAll
open Go.RowKit Go.Proofs.YtecgkcgfeghhgaaDoorW.PrintWords Go.Proofs.YtecgkcgfeghhgaaDoorW.PrintLast Go.Proofs.YtecgkcgfeghhgaaDoorW.PrintMore
attribute [local go_sem] max2_int min2_int max_two min_two max_three min_three max_four min_four
set_option linter.unusedVariables false
set_option linter.unusedSimpArgs false
def bag_has.f (l0 : List (List (S27))) (a1 : Int) : Option (Bool) := if a1 ≥ 0 then (if a1 < 64 then (if (l0.length : Int) = 0 then (some true) else (if 0 < (l0.length : Int) then (some (decide (a1 < ((rd_L4 l0 0).length : Int)))) else (none))) else (some false)) else (some false)
theorem bag_has.calls (A0 : Option Addr) (c0 : Nat) (l0 : List (List (S27))) (a1 : Int) (r : Bool) (w : World) (hr0 : Kd.C (Kd.slice 27 k27) w A0 l0.length l0) (hc0 : l0.length ≤ c0) (h : bag_has.f l0 a1 = some r) :
 Calls Tryd.prog 30 #[.slice A0 l0.length c0, .int .i64 a1] w fun e w' => e = .returned (.bool r) ∧ Drawn0 w w' := by
 have HR0 := Aside0.mk hr0
 have HC0 := Aside0.mk hc0
 clear hr0 hc0
 have H : (if a1 ≥ 0 then (if a1 < 64 then (if (l0.length : Int) = 0 then (some true) else (if 0 < (l0.length : Int) then (some (decide (a1 < ((rd_L4 l0 0).length : Int)))) else (none))) else (some false)) else (some false)) = some r := h
 clear h
 by_cases c3 : a1 ≥ 0
 · rw [if_pos c3] at H
   have c3b0 : decide (0 ≤ a1) = true := dT_ c3
   clear c3
   by_cases c4 : a1 < 64
   · rw [if_pos c4] at H
     have c4b0 : decide (a1 < 64) = true := dT_ c4
     clear c4
     by_cases c5 : (l0.length : Int) = 0
     · rw [if_pos c5] at H
       have c5b0 : ((l0.length : Int) == 0) = true := beq_iff_eq.mpr c5
       have c5b1 : ((l0.length : Int) != 0) = false := bne_eq_false_iff_eq.mpr c5
       clear c5
       obtain rfl := Option.some.inj H
       go_enter Tryd.func30, Tryd.ntmps30
       go_wp2
       go_ret
       exact ⟨by first | rfl | (simp; done) | (simp [*]; done), by repeat (first | exact Drawn0.refl _ | apply Drawn0.step)⟩
     · rw [if_neg c5] at H
       have c5b0 : ((l0.length : Int) == 0) = false := beq_eq_false_iff_ne.mpr c5
       have c5b1 : ((l0.length : Int) != 0) = true := bne_iff_ne.mpr c5
       have c5b2 : ¬ (l0 = []) := fun h_ => c5 (by rw [h_]; rfl)
       by_cases c6 : 0 < (l0.length : Int)
       · rw [if_pos c6] at H
         have c6b0 : decide (0 < (l0.length : Int)) = true := dT_ c6
         have c6b1 : decide (0 < l0.length) = true := dT_ (by omega)
         clear c6
         obtain rfl := Option.some.inj H
         have p115 : 0 ≤ (0 : Int) := (by omega)
         have q115 : 0 < (l0.length : Int) := oT_ (by assumption)
         obtain ⟨ad115, A115_0, c115_0, e115, hx115_0, hl115_0, hi115_0⟩ := at_L4 HR0.out 0 p115 q115
         cases e115
         have qi115 : (0 < l0.length) = True := eq_true (by omega)
         (try rw [show ((0 : Int)).toNat = 0 from rfl] at hx115_0)
         (try rw [Addr.add_zero'] at hx115_0)
         have HR115_0 := Aside0.mk hi115_0
         have HC115_0 := Aside0.mk hl115_0
         clear hi115_0 hl115_0
         replace p115 := eq_true p115
         replace q115 := eq_true q115
         go_enter Tryd.func30, Tryd.ntmps30
         go_wp2
         go_ret
         exact ⟨by first | rfl | (simp; done) | (simp [*]; done), by repeat (first | exact Drawn0.refl _ | apply Drawn0.step)⟩
       · rw [if_neg c6] at H
         exact absurd H (by simp)
   · rw [if_neg c4] at H
     have c4b0 : decide (a1 < 64) = false := dF_ c4
     clear c4
     obtain rfl := Option.some.inj H
     go_enter Tryd.func30, Tryd.ntmps30
     go_wp2
     go_ret
     exact ⟨by first | rfl | (simp; done) | (simp [*]; done), by repeat (first | exact Drawn0.refl _ | apply Drawn0.step)⟩
 · rw [if_neg c3] at H
   have c3b0 : decide (0 ≤ a1) = false := dF_ c3
   clear c3
   obtain rfl := Option.some.inj H
   go_enter Tryd.func30, Tryd.ntmps30
   go_wp2
   go_ret
   exact ⟨by first | rfl | (simp; done) | (simp [*]; done), by repeat (first | exact Drawn0.refl _ | apply Drawn0.step)⟩
end Go.Proofs.YtecgkcgfeghhgaaDoor.PAll
set_option linter.unusedVariables false
set_option linter.unusedSimpArgs false
namespace Go.Proofs.YtecgkcgfeghhgaaDoor.PAll
open Go.RowKit Go.Proofs.YtecgkcgfeghhgaaDoorW.PrintWords Go.Proofs.YtecgkcgfeghhgaaDoorW.PrintLast Go.Proofs.YtecgkcgfeghhgaaDoorW.PrintMore
abbrev KeyT := S62
abbrev kKey : Kd KeyT := k62
def hasB (l : List (List V)) (n : Int) : Bool := match l with
 | [] => decide (0 ≤ n ∧ n < 64)
 | r :: _ => decide (0 ≤ n ∧ n < 64 ∧ n < (r.length : Int))
theorem has_eq (l : List (List V)) (n : Int) : bag_has.f l n = some (hasB l n) := by
 unfold bag_has.f hasB
 cases l with
 | nil => by_cases h1 : 0 ≤ n <;> by_cases h2 : n < 64 <;> simp [h1, h2]
 | cons r rs =>
  have e : rd_L4 (r :: rs) 0 = r := rfl
  rw [e]
  by_cases h1 : 0 ≤ n <;> by_cases h2 : n < 64 <;> simp [h1, h2] <;> omega
def keysB (l : List (List V)) (ks : List KeyT) : Bool := ks.all fun k => hasB l k.f0
theorem fits1_calls (v0 : Int) (v1 : Bool) (b : Nat) (A1 : Option Addr) (c1 : Nat) (l0 : List (List V)) (w : World) (hcell : w.cell? ⟨b, 0, none⟩ = some (.slice A1 l0.length c1)) (hr : Kd.C kRow w A1 l0.length l0) (hc : l0.length ≤ c1) :
 Calls Tryd.prog 47 #[.agg #[.int .i64 v0, .bool v1], .pointer (some ⟨b, 0, none⟩)] w fun e w' => e = .returned (.bool (!hasB l0 v0)) ∧ Below w.heap.size w w' := by
 have HR := Aside0.mk hr
 have HC := Aside0.mk hc
 have hb := World.block_lt_of_cell? w _ hcell
 have B1 := Aside0.mk ((Below.refl w.heap.size w).alloc (Nat.le_refl _) (.cells #[.int .i64 v0, .bool v1] 62))
 clear hr hc
 go_enter Tryd.func47, Tryd.ntmps47
 go_wp2_with fail
 refine (bag_has.calls _ _ l0 v0 (hasB l0 v0) _ (Kd.C_below HR.out B1.out) HC.out (has_eq l0 v0)).mono ?_
 rintro e w1 ⟨rfl, hd⟩
 have HB1 := Aside0.mk (B1.out.trans (hd.below.mono B1.out.size))
 clear hd
 go_wp2
 go_ret
 exact ⟨rfl, HB1.out⟩
def badAt (l0 : List (List V)) : List KeyT → Int → Int
 | [], _ => -1
 | k :: ks, i => if hasB l0 k.f0 = true then badAt l0 ks (i + 1) else i
theorem badAt_iff (l0 : List (List V)) : ∀ (ks : List KeyT) (i : Int), 0 ≤ i → (decide (badAt l0 ks i ≥ 0) = !keysB l0 ks)
 | [], i, h => by simp [badAt, keysB]
 | k :: ks, i, h => by
  have ih := badAt_iff l0 ks (i + 1) (by omega)
  by_cases c : hasB l0 k.f0 = true
  · simp only [badAt, c, if_true]
    rw [ih]
    simp [keysB, c]
  · have e : badAt l0 (k :: ks) i = i := by simp only [badAt]; rw [if_neg c]
    rw [decide_eq_true (show badAt l0 (k :: ks) i ≥ 0 by rw [e]; exact h)]
    simp at c
    simp [keysB, c]
theorem rdK_at {xs : List KeyT} {i : Nat} (h : i < xs.length) : rd_T62 xs (i : Int) = xs[i] := by simp [rd_T62, List.getElem?_eq_getElem h]
theorem indexFunc_calls (A0 : Option Addr) (c0 : Nat) (ks : List KeyT) (b : Nat) (A1 : Option Addr) (c1 : Nat) (l0 : List (List V)) (w : World) (hk : Kd.C kKey w A0 ks.length ks) (hn : ks.length ≤ 1099511627776) (hcell : w.cell? ⟨b, 0, none⟩ = some (.slice A1 l0.length c1)) (hr : Kd.C kRow w A1 l0.length l0) (hc : l0.length ≤ c1) :
 Calls Tryd.prog 57 #[.slice A0 ks.length c0, .func (.func 47) #[] #[.pointer (some ⟨b, 0, none⟩)]] w fun e w' => e = .returned (.int .i64 (badAt l0 ks 0)) ∧ Below w.heap.size w w' := by
 have HK := Aside0.mk hk
 have HN := Aside0.mk hn
 have HCE := Aside0.mk hcell
 have HR := Aside0.mk hr
 have HC := Aside0.mk hc
 clear hk hn hcell hr hc
 go_enter Tryd.func57, Tryd.ntmps57
 go_wp2
 go_loopg [8] ks.length (fun kq v8 W => ∃ x : Nat, v8 = .int .i64 x ∧ Aside0 (x ≤ ks.length ∧ kq = ks.length - x) ∧ Aside0 (badAt l0 ks 0 = badAt l0 (ks.drop x) x) ∧ Aside0 (Below w.heap.size w W))
 case atStart => exact ⟨0, rfl, ⟨by omega⟩, ⟨rfl⟩, ⟨Below.refl _ _⟩⟩
 case round =>
  obtain ⟨x, rfl, HX, HI, HB⟩ := hrel
  obtain ⟨hx1, hkq⟩ := HX.out
  by_cases hlt : x < ks.length
  · have c1' : decide ((x : Int) < (ks.length : Int)) = true := decide_eq_true (by omega)
    have c2 : decide (0 ≤ (x : Int)) = true := decide_eq_true (by omega)
    obtain ⟨ad, e, hx_0, hx_1⟩ := at_T62 HK.out (x : Int) (by omega) (by omega)
    cases e
    replace hx_0 := (HB.out.cell (World.block_lt_of_cell? w _ hx_0)).trans hx_0
    replace hx_1 := (HB.out.cell (World.block_lt_of_cell? w _ hx_1)).trans hx_1
    rw [rdK_at hlt] at hx_0 hx_1
    rw [drop_cons ks x hlt] at HI
    obtain ⟨y, hy⟩ : ∃ y, y = ks[x] := ⟨_, rfl⟩
    rw [← hy] at hx_0 hx_1 HI
    have HWR : Aside0 (wrap64 ((x : Int) + 1) = (x : Int) + 1) := ⟨by have := HN.out; unfold wrap64; omega⟩
    have HCE1 := Aside0.mk ((HB.out.cell (World.block_lt_of_cell? w _ HCE.out)).trans HCE.out)
    have HLT := Aside0.mk hlt
    have HKQ := Aside0.mk hkq
    clear hy hkq
    simp only [Int.toNat_natCast] at hx_0 hx_1
    go_wp2_with fail
    refine (fits1_calls y.f0 y.f1 b A1 c1 l0 wr HCE1.out (Kd.C_below HR.out HB.out) HC.out).mono ?_
    rintro e w1 ⟨rfl, hb1⟩
    have HB1 := Aside0.mk (HB.out.trans (hb1.mono HB.out.size))
    clear hb1
    by_cases hh : hasB l0 y.f0 = true
    · have hb : (!hasB l0 y.f0) = false := by simp [hh]
      have HI2 : Aside0 (badAt l0 ks 0 = badAt l0 (ks.drop (x + 1)) ((x : Int) + 1)) := ⟨by rw [HI.out]; simp only [badAt]; rw [if_pos hh]⟩
      clear hh
      go_wp2
      have hlt := HLT.out
      have hk := HKQ.out
      cases gk with
      | zero => omega
      | succ k1 =>
       go_roundg k1
       case measure => omega
       case rel => exact ⟨x + 1, by rw [HWR.out]; rfl, ⟨by omega⟩, HI2, HB1⟩
    · have hb : (!hasB l0 y.f0) = true := by simpa using hh
      have HI2 : Aside0 (badAt l0 ks 0 = (x : Int)) := ⟨by rw [HI.out]; simp only [badAt]; rw [if_neg hh]⟩
      clear hh
      go_wp2
      go_ret
      refine ⟨?_, HB1.out⟩
      rw [HI2.out]
      rfl
  · have c1' : decide ((x : Int) < (ks.length : Int)) = false := decide_eq_false (by omega)
    go_wp2
    go_ret
    refine ⟨?_, HB.out⟩
    rw [HI.out, List.drop_eq_nil_of_le (by omega)]
    rfl
theorem containsFunc_calls (A0 : Option Addr) (c0 : Nat) (ks : List KeyT) (b : Nat) (A1 : Option Addr) (c1 : Nat) (l0 : List (List V)) (w : World) (hk : Kd.C kKey w A0 ks.length ks) (hn : ks.length ≤ 1099511627776) (hcell : w.cell? ⟨b, 0, none⟩ = some (.slice A1 l0.length c1)) (hr : Kd.C kRow w A1 l0.length l0) (hc : l0.length ≤ c1) :
 Calls Tryd.prog 46 #[.slice A0 ks.length c0, .func (.func 47) #[] #[.pointer (some ⟨b, 0, none⟩)]] w fun e w' => e = .returned (.bool (!keysB l0 ks)) ∧ Below w.heap.size w w' := by
 have H := Aside0.mk (indexFunc_calls A0 c0 ks b A1 c1 l0 w hk hn hcell hr hc)
 clear hk hn hcell hr hc
 obtain ⟨i, hi⟩ : ∃ i, i = badAt l0 ks 0 := ⟨_, rfl⟩
 have HI := Aside0.mk hi
 rw [← hi] at H
 clear hi
 go_enter Tryd.func46, Tryd.ntmps46
 go_wp2_with fail
 refine H.out.mono ?_
 rintro e w1 ⟨rfl, hb1⟩
 have HB1 := Aside0.mk hb1
 clear hb1
 go_wp2
 go_ret
 refine ⟨?_, HB1.out⟩
 have h := badAt_iff l0 ks 0 (by omega)
 rw [← HI.out] at h
 rw [← h]
 rfl
theorem fits_calls (A0 : Option Addr) (c0 : Nat) (l0 : List (List V)) (A1 : Option Addr) (c1 : Nat) (l1 : List KeyT) (w : World) (hr0 : Kd.C kRow w A0 l0.length l0) (hc0 : l0.length ≤ c0) (hr1 : Kd.C kKey w A1 l1.length l1) (hc1 : l1.length ≤ c1) (hv : RowsV l0) (hn : l1.length ≤ 1099511627776) :
 Calls Tryd.prog 33 #[.slice A0 l0.length c0, .slice A1 l1.length c1] w fun e w' => e = .returned (.bool (validB l0 && keysB l0 l1)) ∧ Below w.heap.size w w' := by
 obtain ⟨k, hk⟩ := (valid_ev l0 hv).rounds
 have HK := Aside0.mk hk
 have HR0 := Aside0.mk hr0
 have HC0 := Aside0.mk hc0
 have HR1 := Aside0.mk hr1
 have HN := Aside0.mk hn
 clear hk hr0 hc0 hr1 hc1 hv hn
 have B1 := Aside0.mk ((Below.refl w.heap.size w).alloc (Nat.le_refl _) (.cells #[.slice A0 l0.length c0] 37))
 have HCE : Aside0 ((w.alloc (.cells #[.slice A0 l0.length c0] 37)).cell? ⟨w.heap.size, 0, none⟩ = some (.slice A0 l0.length c0)) := ⟨(blk_cell (heap_alloc_new _ _) 0).trans rfl⟩
 go_enter Tryd.func33, Tryd.ntmps33
 go_wp2_with fail
 refine (bag_Valid.calls k _ _ l0 (validB l0) _ (Kd.C_below HR0.out B1.out) HC0.out HK.out).mono ?_
 rintro e w1 ⟨rfl, hb1⟩
 have HB1 := Aside0.mk (B1.out.trans (hb1.mono B1.out.size))
 have HCE1 := Aside0.mk ((hb1.cell (World.block_lt_of_cell? _ _ HCE.out)).trans HCE.out)
 clear hb1 HCE
 cases hv : validB l0 with
 | true =>
  have HV := Aside0.mk hv
  clear hv
  go_wp2_with fail
  refine (containsFunc_calls _ _ l1 w.heap.size _ _ l0 w1 (Kd.C_below HR1.out HB1.out) HN.out HCE1.out (Kd.C_below HR0.out HB1.out) HC0.out).mono ?_
  rintro e w2 ⟨rfl, hb2⟩
  have HB2 := Aside0.mk (HB1.out.trans (hb2.mono HB1.out.size))
  clear hb2
  cases hq : keysB l0 l1 with
  | true =>
   have HQ := Aside0.mk hq
   clear hq
   go_wp2
   go_ret
   refine ⟨?_, HB2.out⟩
   rw [HV.out, HQ.out]
   rfl
  | false =>
   have HQ := Aside0.mk hq
   clear hq
   go_wp2
   go_ret
   refine ⟨?_, HB2.out⟩
   rw [HV.out, HQ.out]
   rfl
 | false =>
  have HV := Aside0.mk hv
  clear hv
  go_wp2
  go_ret
  refine ⟨?_, HB1.out⟩
  rw [HV.out]
  rfl
end Go.Proofs.YtecgkcgfeghhgaaDoor.PAll
namespace Go.Proofs.YtecgkcgfeghhgaaDoor.bulks
theorem one_le {H : Type} (d : DataW H) : 1 ≤ Rows.uptoBulk d := by
 cases d with
 | lit l => cases l <;> simp [Rows.uptoBulk]
 | nil => simp [Rows.uptoBulk]
 | ptr d => simp [Rows.uptoBulk]
 | slice elems spare => simp [Rows.uptoBulk]
 | agg parts => simp [Rows.uptoBulk]
 | iface t d => simp [Rows.uptoBulk]
 | map entries => simp [Rows.uptoBulk]
 | held h => simp [Rows.uptoBulk]
end Go.Proofs.YtecgkcgfeghhgaaDoor.bulks
set_option linter.unusedVariables false
set_option linter.unusedSimpArgs false
namespace Go.Proofs.YtecgkcgfeghhgaaDoor.PAll
open Go.RowKit Go.Proofs.YtecgkcgfeghhgaaDoorW.PrintWords Go.Proofs.YtecgkcgfeghhgaaDoorW.PrintLast Go.Proofs.YtecgkcgfeghhgaaDoorW.PrintMore
open Go.ChangeShapes Go.WideShapes Go.Deep
section
variable {H : Type} {enc : TypeId × Value → H} {w : World} {base : Nat} {spare : Nat → Bool} {held : Bool}
theorem wf_i64 {n : Int} (h : (Lit.int .i64 n).wf = true) : -9223372036854775808 ≤ n ∧ n ≤ 9223372036854775807 := by
 have h2 : IntKind.i64.min ≤ n ∧ n ≤ 9223372036854775807 := by simpa [Lit.wf] using h
 have e : IntKind.i64.min = -9223372036854775808 := by decide
 rw [e] at h2
 exact h2
theorem sum_len {α : Type} (f : α → Nat) (hf : ∀ a, 1 ≤ f a) : ∀ l : List α, l.length ≤ (l.map f).sum
 | [] => by simp
 | a :: l => by
  have h1 := hf a
  have h2 := sum_len f hf l
  simp only [List.map_cons, List.sum_cons, List.length_cons]
  omega
theorem bulkAll_sum : ∀ l : List (DataW H), Rows.uptoBulkAll l = (l.map Rows.uptoBulk).sum
 | [] => by simp [Rows.uptoBulkAll]
 | d :: r => by simp [Rows.uptoBulkAll, bulkAll_sum r]
theorem sum_le_sum {n : Nat} {f g : Nat → Nat} (h : ∀ i, i < n → f i ≤ g i) : ((List.range n).map f).sum ≤ ((List.range n).map g).sum := by
 induction n with
 | zero => simp
 | succ n ih =>
  rw [List.range_succ, List.map_append, List.map_append, List.sum_append, List.sum_append]
  have h1 := ih (fun i hi => h i (by omega))
  have h2 := h n (by omega)
  simp only [List.map_cons, List.map_nil, List.sum_cons, List.sum_nil]
  omega
theorem list_of_trod {α : Type} [Inhabited α] (d : Kd α) {t e : TypeId} (ht : (Tryd.prog).underlying t = some (.slice e)) (hsz : (Tryd.prog).cellsOf e = d.sz) (B : α → Nat) (G : α → Prop)
 (he : ∀ {fuel : Nat} {cs : List Value} {x : DataW H × List MemPlace}, cs.length = d.sz → DataW.trod enc Tryd.prog w base spare held fuel e cs = some x → ∃ a : α, d.K w a cs ∧ G a ∧ B a ≤ Rows.uptoBulk x.1)
 {fuel : Nat} {cs : List Value} {x : DataW H × List MemPlace} (h : DataW.trod enc Tryd.prog w base spare held fuel t cs = some x) :
 ∃ (A : Option Addr) (cap : Nat) (l : List α), cs = [.slice A l.length cap] ∧ l.length ≤ cap ∧ cap ≤ maxLen ∧ d.C w A l.length l ∧ (∀ a ∈ l, G a) ∧ (l.map B).sum + 1 ≤ Rows.uptoBulk x.1 := by
 rcases open_slice ht h with ⟨rfl, hx⟩ | ⟨a, len, cap, m, n, D, Pl, rfl, hb, hl, hm, hmm, rfl, hx⟩
 · exact ⟨none, 0, [], rfl, Nat.le_refl _, by decide, Kd.C_nil _ _, by simp, by rw [hx]; simp [Rows.uptoBulk]⟩
 have hlm : len ≤ m := by rw [hmm]; split <;> omega
 have each : ∀ i, i < len → ∃ r : α, (G r ∧ B r ≤ Rows.uptoBulk (D i)) ∧ ∃ cs', cs'.length = d.sz ∧ d.K w r cs' ∧ ∀ j u, cs'[j]? = some u → w.cell? (a.add (i * d.sz + j)) = some u := fun i hi => by
  obtain ⟨cs', h1, h2⟩ := hx i (by omega)
  rw [hsz] at h1
  obtain ⟨_, hlen, hcell⟩ := World.cells?_some h1
  obtain ⟨r, hK, hG, hB⟩ := he hlen h2
  refine ⟨r, ⟨hG, hB⟩, cs', hlen, hK, fun j u hu => ?_⟩
  have hj : j < d.sz := by have := (List.getElem?_eq_some_iff.1 hu).1; omega
  have hc := hcell j hj
  rw [Go.Deep.add_add] at hc
  rw [hc]
  exact hu
 obtain ⟨q, hq⟩ := choose_lt each
 refine ⟨some a, cap, (List.range len).map q, by simp, by simpa using hl, hm, ⟨rfl, by simp only [List.length_map, List.length_range]; have : maxLen = 9223372036854775807 := rfl; omega, fun _ => ⟨a, rfl, fun j p hj => ?_⟩⟩, fun r hr => ?_, ?_⟩
 · have hjl : j < len := by have := (List.getElem?_eq_some_iff.1 hj).1; simpa using this
   obtain rfl : q j = p := by simpa [hjl] using hj
   obtain ⟨_, cs', h1, h2, h3⟩ := hq j hjl
   exact ⟨cs', h1, h2, h3⟩
 · obtain ⟨i, hi, rfl⟩ := List.mem_map.1 hr
   exact (hq i (List.mem_range.1 hi)).1.1
 · have h1 := sum_le_sum (n := len) (f := fun i => B (q i)) (g := fun i => Rows.uptoBulk (D i)) (fun i hi => (hq i hi).1.2)
   simp only [Rows.uptoBulk, bulkAll_sum, List.map_map, Function.comp_def]
   omega
instance : Inhabited V := ⟨⟨0, 0, ⟨#[]⟩⟩⟩
instance : Inhabited KeyT := ⟨⟨0, false⟩⟩
theorem ints_of_trod {k : IntKind} {t e : TypeId} (ht : (Tryd.prog).underlying t = some (.slice e)) (he : (Tryd.prog).underlying e = some (.int k)) (hc : (Tryd.prog).cellsOf e = 1) {fuel : Nat} {cs : List Value} {x : DataW H × List MemPlace} (h : DataW.trod enc Tryd.prog w base spare held fuel t cs = some x) :
 ∃ (A : Option Addr) (cap : Nat) (l : List Int), cs = [.slice A l.length cap] ∧ l.length ≤ cap ∧ cap ≤ maxLen ∧ (Kd.int k).C w A l.length l ∧ (∀ n ∈ l, (Lit.int k n).wf = true) ∧ l.length + 1 ≤ Rows.uptoBulk x.1 := by
 obtain ⟨A, cap, l, h1, h2, h3, h4, h5, h6⟩ := list_of_trod (Kd.int k) ht hc (fun _ => 1) (fun n => (Lit.int k n).wf = true) (fun hl h => by
  obtain ⟨n, e0, _, w0⟩ := DataW.trod_int (k := k) he h
  rw [e0]
  exact ⟨n, rfl, w0, bulks.one_le _⟩) h
 exact ⟨A, cap, l, h1, h2, h3, h4, h5, by have := sum_len (fun _ : Int => 1) (fun _ => Nat.le_refl _) l; omega⟩
end
end Go.Proofs.YtecgkcgfeghhgaaDoor.PAll
set_option linter.unusedVariables false
set_option linter.unusedSimpArgs false
namespace Go.Proofs.YtecgkcgfeghhgaaDoor.PAll
open Go.RowKit Go.Proofs.YtecgkcgfeghhgaaDoorW.PrintWords Go.Proofs.YtecgkcgfeghhgaaDoorW.PrintLast Go.Proofs.YtecgkcgfeghhgaaDoorW.PrintMore
def Gr (w w' : World) : Prop := ∃ (q : Nat) (os : Array Obj), w' = Sort.grow (w.drewN q) os
theorem Gr.refl (w : World) : Gr w w := ⟨0, #[], by simp [Sort.grow, World.drewN]⟩
theorem Gr.trans {a b c : World} (h : Gr a b) (k : Gr b c) : Gr a c := by
 obtain ⟨q, os, rfl⟩ := h
 obtain ⟨p, os', rfl⟩ := k
 refine ⟨q + p, os ++ os', ?_⟩
 simp [Sort.grow, World.drewN, Nat.add_assoc, Array.append_assoc]
theorem Gr.alloc {a b : World} (h : Gr a b) (o : Obj) : Gr a (b.alloc o) := by
 obtain ⟨q, os, rfl⟩ := h
 refine ⟨q, os.push o, ?_⟩
 show ({ (Sort.grow (a.drewN q) os) with heap := (Sort.grow (a.drewN q) os).heap.push o } : World) = _
 simp [Sort.grow]
theorem Gr.drew {a b : World} (h : Gr a b) : Gr a b.drew := by
 obtain ⟨q, os, rfl⟩ := h
 exact ⟨q + 1, os, rfl⟩
theorem Gr.below {a b : World} (h : Gr a b) : Below a.heap.size a b := by
 obtain ⟨q, os, rfl⟩ := h
 exact below_grow a q os
def cmpI (a b : Int) : Int := if a < b then -1 else if b < a then 1 else 0
theorem cmpKind_calls (a b : Int) (w : World) :
 Calls Tryd.prog 69 #[.int .u8 a, .int .u8 b] w fun e w' => e = .returned (.int .i64 (cmpI a b)) ∧ Gr w w' := by
 have ha : (a != a) = false := by simp
 have hb : (b != b) = false := by simp
 by_cases h1 : a < b
 · have H : Aside0 (cmpI a b = -1) := ⟨by unfold cmpI; rw [if_pos h1]⟩
   go_enter Tryd.func69, Tryd.ntmps69
   go_wp2
   go_ret
   refine ⟨?_, Gr.refl _⟩
   rw [H.out]; rfl
 · by_cases h2 : b < a
   · have H : Aside0 (cmpI a b = 1) := ⟨by unfold cmpI; rw [if_neg h1, if_pos h2]⟩
     go_enter Tryd.func69, Tryd.ntmps69
     go_wp2
     go_ret
     refine ⟨?_, Gr.refl _⟩
     rw [H.out]; rfl
   · have H : Aside0 (cmpI a b = 0) := ⟨by unfold cmpI; rw [if_neg h1, if_neg h2]⟩
     go_enter Tryd.func69, Tryd.ntmps69
     go_wp2
     go_ret
     refine ⟨?_, Gr.refl _⟩
     rw [H.out]; rfl
theorem cmpInt_calls (a b : Int) (w : World) :
 Calls Tryd.prog 70 #[.int .i64 a, .int .i64 b] w fun e w' => e = .returned (.int .i64 (cmpI a b)) ∧ Gr w w' := by
 have ha : (a != a) = false := by simp
 have hb : (b != b) = false := by simp
 by_cases h1 : a < b
 · have H : Aside0 (cmpI a b = -1) := ⟨by unfold cmpI; rw [if_pos h1]⟩
   go_enter Tryd.func70, Tryd.ntmps70
   go_wp2
   go_ret
   refine ⟨?_, Gr.refl _⟩
   rw [H.out]; rfl
 · by_cases h2 : b < a
   · have H : Aside0 (cmpI a b = 1) := ⟨by unfold cmpI; rw [if_neg h1, if_pos h2]⟩
     go_enter Tryd.func70, Tryd.ntmps70
     go_wp2
     go_ret
     refine ⟨?_, Gr.refl _⟩
     rw [H.out]; rfl
   · have H : Aside0 (cmpI a b = 0) := ⟨by unfold cmpI; rw [if_neg h1, if_neg h2]⟩
     go_enter Tryd.func70, Tryd.ntmps70
     go_wp2
     go_ret
     refine ⟨?_, Gr.refl _⟩
     rw [H.out]; rfl
def compareV (a b : V) : Int :=
 if cmpI a.f0 b.f0 = 0 then (if a.f0 = 0 then 0 else if a.f0 = 2 then Lib.compareBytes a.f2.data.toList b.f2.data.toList else cmpI a.f1 b.f1) else cmpI a.f0 b.f0
def KindOk (v : V) : Prop := v.f0 = 0 ∨ v.f0 = 1 ∨ v.f0 = 2 ∨ v.f0 = 3
theorem compare_calls (a b : V) (ha : KindOk a) (w : World) :
 Calls Tryd.prog 59 #[.agg #[.int .u8 a.f0, .int .i64 a.f1, .string a.f2], .agg #[.int .u8 b.f0, .int .i64 b.f1, .string b.f2]] w fun e w' => e = .returned (.int .i64 (compareV a b)) ∧ Gr w w' := by
 have HA := Aside0.mk ha
 clear ha
 have B1 := Aside0.mk (((Gr.refl w).alloc (.cells #[.int .u8 a.f0, .int .i64 a.f1, .string a.f2] 27)).alloc (.cells #[.int .u8 b.f0, .int .i64 b.f1, .string b.f2] 27))
 have D1 : Aside0 (((w.alloc (.cells #[.int .u8 a.f0, .int .i64 a.f1, .string a.f2] 27)).alloc (.cells #[.int .u8 b.f0, .int .i64 b.f1, .string b.f2] 27)).heap[w.heap.size]? = some (.cells #[.int .u8 a.f0, .int .i64 a.f1, .string a.f2] 27 (0, 0))) := ⟨by
  rw [Below.heap_alloc _ _ _ (by simp)]; exact heap_alloc_new _ _⟩
 have D2 : Aside0 (((w.alloc (.cells #[.int .u8 a.f0, .int .i64 a.f1, .string a.f2] 27)).alloc (.cells #[.int .u8 b.f0, .int .i64 b.f1, .string b.f2] 27)).heap[w.heap.size + 1]? = some (.cells #[.int .u8 b.f0, .int .i64 b.f1, .string b.f2] 27 (0, 0))) := ⟨by
  have := heap_alloc_new (w.alloc (.cells #[.int .u8 a.f0, .int .i64 a.f1, .string a.f2] 27)) (.cells #[.int .u8 b.f0, .int .i64 b.f1, .string b.f2] 27)
  simpa using this⟩
 go_enter Tryd.func59, Tryd.ntmps59
 go_wp2_with fail
 refine (cmpKind_calls a.f0 b.f0 _).mono ?_
 rintro e w1 ⟨rfl, hb1⟩
 have HB1 := Aside0.mk (B1.out.trans hb1)
 have E1 := (hb1.below.block w.heap.size (by simp; omega)).trans D1.out
 have E2 := (hb1.below.block (w.heap.size + 1) (by simp)).trans D2.out
 have q0 : w1.cell? ⟨w.heap.size, 0, none⟩ = some (.int .u8 a.f0) := (blk_cell E1 0).trans rfl
 have q1 : w1.cell? ⟨w.heap.size, 1, none⟩ = some (.int .i64 a.f1) := (blk_cell E1 1).trans rfl
 have q2 : w1.cell? ⟨w.heap.size, 2, none⟩ = some (.string a.f2) := (blk_cell E1 2).trans rfl
 have p1 : w1.cell? ⟨w.heap.size + 1, 1, none⟩ = some (.int .i64 b.f1) := (blk_cell E2 1).trans rfl
 have p2 : w1.cell? ⟨w.heap.size + 1, 2, none⟩ = some (.string b.f2) := (blk_cell E2 2).trans rfl
 clear hb1 D1 D2 E1 E2
 obtain ⟨c, hc⟩ : ∃ c, c = cmpI a.f0 b.f0 := ⟨_, rfl⟩
 rw [← hc]
 by_cases hz : c = 0
 · have z1 : (c != 0) = false := by simp [hz]
   have HZ : Aside0 (cmpI a.f0 b.f0 = 0) := ⟨by rw [← hc, hz]⟩
   clear hz hc
   rcases HA.out with hk | hk | hk | hk
   · have k0 : (a.f0 == 0) = true := by simp [hk]
     have H : Aside0 (compareV a b = 0) := ⟨by unfold compareV; rw [if_pos HZ.out, if_pos hk]⟩
     clear hk
     go_wp2
     go_ret
     refine ⟨?_, HB1.out⟩
     rw [H.out]; rfl
   · have k0 : (a.f0 == 0) = false := by simp [hk]
     have k1 : (a.f0 == 1) = true := by simp [hk]
     have H : Aside0 (compareV a b = cmpI a.f1 b.f1) := ⟨by unfold compareV; rw [if_pos HZ.out, if_neg (by omega), if_neg (by omega)]⟩
     clear hk
     go_wp2_with fail
     refine (cmpInt_calls a.f1 b.f1 w1).mono ?_
     rintro e w2 ⟨rfl, hb2⟩
     have HB2 := Aside0.mk (HB1.out.trans hb2)
     clear hb2
     go_wp2
     go_ret
     refine ⟨?_, HB2.out⟩
     rw [H.out]; rfl
   · have k0 : (a.f0 == 0) = false := by simp [hk]
     have k1 : (a.f0 == 1) = false := by simp [hk]
     have k3 : (a.f0 == 3) = false := by simp [hk]
     have k2 : (a.f0 == 2) = true := by simp [hk]
     have H : Aside0 (compareV a b = Lib.compareBytes a.f2.data.toList b.f2.data.toList) := ⟨by unfold compareV; rw [if_pos HZ.out, if_neg (by omega), if_pos hk]⟩
     clear hk
     go_wp2_with fail
     refine (Tryd.strings_Compare a.f2 b.f2 w1).mono ?_
     rintro e w2 ⟨rfl, hb2⟩
     have HB2 := Aside0.mk (show Gr w w2 by rw [hb2]; exact HB1.out)
     clear hb2
     go_wp2
     go_ret
     refine ⟨?_, HB2.out⟩
     rw [H.out]; rfl
   · have k0 : (a.f0 == 0) = false := by simp [hk]
     have k1 : (a.f0 == 1) = false := by simp [hk]
     have k3 : (a.f0 == 3) = true := by simp [hk]
     have H : Aside0 (compareV a b = cmpI a.f1 b.f1) := ⟨by unfold compareV; rw [if_pos HZ.out, if_neg (by omega), if_neg (by omega)]⟩
     clear hk
     go_wp2_with fail
     refine (cmpInt_calls a.f1 b.f1 w1).mono ?_
     rintro e w2 ⟨rfl, hb2⟩
     have HB2 := Aside0.mk (HB1.out.trans hb2)
     clear hb2
     go_wp2
     go_ret
     refine ⟨?_, HB2.out⟩
     rw [H.out]; rfl
 · have z1 : (c != 0) = true := by simpa using hz
   have H : Aside0 (compareV a b = c) := ⟨by unfold compareV; rw [if_neg (by rw [← hc]; exact hz), hc]⟩
   clear hz hc
   go_wp2
   go_ret
   refine ⟨?_, HB1.out⟩
   rw [H.out]; rfl
def cmpRows : List V → List V → Int
 | [], [] => 0
 | [], _ :: _ => -1
 | _ :: _, [] => 1
 | a :: x, b :: y => if compareV a b = 0 then cmpRows x y else compareV a b
theorem cmpRows_nil (l : List V) : cmpRows [] l = if l.length = 0 then 0 else -1 := by
 cases l <;> simp [cmpRows]
theorem compareFunc_calls (A0 : Option Addr) (c0 : Nat) (l0 : List V) (A1 : Option Addr) (c1 : Nat) (l1 : List V) (w : World) (hr0 : Kd.C kV w A0 l0.length l0) (hr1 : Kd.C kV w A1 l1.length l1) (hk : ∀ v ∈ l0, KindOk v) (hn0 : l0.length ≤ 1099511627776) (hn1 : l1.length ≤ 1099511627776) :
 Calls Tryd.prog 62 #[.slice A0 l0.length c0, .slice A1 l1.length c1, .func (.func 59) #[] #[]] w fun e w' => e = .returned (.int .i64 (cmpRows l0 l1)) ∧ Gr w w' := by
 have HR0 := Aside0.mk hr0
 have HR1 := Aside0.mk hr1
 have HK := Aside0.mk hk
 have HN0 := Aside0.mk hn0
 have HN1 := Aside0.mk hn1
 clear hr0 hr1 hk hn0 hn1
 go_enter Tryd.func62, Tryd.ntmps62
 go_wp2
 go_loopg [13] l0.length (fun kq v13 W => ∃ x : Nat, v13 = .int .i64 x ∧ Aside0 (x ≤ l0.length ∧ x ≤ l1.length ∧ kq = l0.length - x) ∧ Aside0 (cmpRows l0 l1 = cmpRows (l0.drop x) (l1.drop x)) ∧ Aside0 (Gr w W))
 case atStart => exact ⟨0, rfl, ⟨by omega⟩, ⟨rfl⟩, ⟨Gr.refl _⟩⟩
 case round =>
  obtain ⟨x, rfl, HX, HI, HB⟩ := hrel
  obtain ⟨hx0, hx1, hkq⟩ := HX.out
  by_cases hlt : x < l0.length
  · have c1' : decide ((x : Int) < (l0.length : Int)) = true := decide_eq_true (by omega)
    have c2 : decide (0 ≤ (x : Int)) = true := decide_eq_true (by omega)
    obtain ⟨ad, e, hx_0, hx_1, hx_2⟩ := at_T27 HR0.out (x : Int) (by omega) (by omega)
    cases e
    replace hx_0 := (HB.out.below.cell (World.block_lt_of_cell? w _ hx_0)).trans hx_0
    replace hx_1 := (HB.out.below.cell (World.block_lt_of_cell? w _ hx_1)).trans hx_1
    replace hx_2 := (HB.out.below.cell (World.block_lt_of_cell? w _ hx_2)).trans hx_2
    rw [rdV_at hlt] at hx_0 hx_1 hx_2
    rw [drop_cons l0 x hlt] at HI
    have hkv := HK.out l0[x] (List.getElem_mem hlt)
    obtain ⟨y, hy⟩ : ∃ y, y = l0[x] := ⟨_, rfl⟩
    rw [← hy] at hx_0 hx_1 hx_2 HI hkv
    have HKV := Aside0.mk hkv
    have HWR : Aside0 (wrap64 ((x : Int) + 1) = (x : Int) + 1) := ⟨by have := HN0.out; unfold wrap64; omega⟩
    have HLT := Aside0.mk hlt
    have HKQ := Aside0.mk hkq
    clear hy hkq hkv
    simp only [Int.toNat_natCast] at hx_0 hx_1 hx_2
    by_cases hge : l1.length ≤ x
    · have c3 : decide ((x : Int) ≥ (l1.length : Int)) = true := decide_eq_true (by omega)
      have c4 : decide (l1.length ≤ x) = true := decide_eq_true hge
      have H : Aside0 (cmpRows l0 l1 = 1) := ⟨by rw [HI.out, List.drop_eq_nil_of_le hge]; rfl⟩
      have HG := Aside0.mk hge
      have B2 := Aside0.mk (HB.out.alloc (.cells #[.int .u8 y.f0, .int .i64 y.f1, .string y.f2] 27))
      clear hge
      go_wp2
      go_ret
      refine ⟨?_, B2.out⟩
      rw [H.out]; rfl
    · have c3 : decide ((x : Int) ≥ (l1.length : Int)) = false := decide_eq_false (by omega)
      have c4 : decide (l1.length ≤ x) = false := decide_eq_false hge
      have c5 : decide ((x : Int) < (l1.length : Int)) = true := decide_eq_true (by omega)
      have c6 : decide (x < l1.length) = true := decide_eq_true (by omega)
      have hlt1 : x < l1.length := by omega
      obtain ⟨ad1, e, hz_0, hz_1, hz_2⟩ := at_T27 HR1.out (x : Int) (by omega) (by omega)
      cases e
      replace hz_0 := (HB.out.below.cell (World.block_lt_of_cell? w _ hz_0)).trans hz_0
      replace hz_1 := (HB.out.below.cell (World.block_lt_of_cell? w _ hz_1)).trans hz_1
      replace hz_2 := (HB.out.below.cell (World.block_lt_of_cell? w _ hz_2)).trans hz_2
      rw [rdV_at hlt1] at hz_0 hz_1 hz_2
      rw [drop_cons l1 x hlt1] at HI
      obtain ⟨z, hz⟩ : ∃ z, z = l1[x] := ⟨_, rfl⟩
      rw [← hz] at hz_0 hz_1 hz_2 HI
      have HLT1 := Aside0.mk hlt1
      clear hz hge
      simp only [Int.toNat_natCast] at hz_0 hz_1 hz_2
      have s0 : ∀ o, (wr.alloc o).cell? (ad1.add (x * 3)) = some (.int .u8 z.f0) := fun o => (((Below.refl _ _).alloc (Nat.le_refl _) o).cell (World.block_lt_of_cell? wr _ hz_0)).trans hz_0
      have s1 : ∀ o, (wr.alloc o).cell? ⟨(ad1.add (x * 3)).block, (ad1.add (x * 3)).off + 1, none⟩ = some (.int .i64 z.f1) := fun o => (((Below.refl _ _).alloc (Nat.le_refl _) o).cell (World.block_lt_of_cell? wr _ hz_1)).trans hz_1
      have s2 : ∀ o, (wr.alloc o).cell? ⟨(ad1.add (x * 3)).block, (ad1.add (x * 3)).off + 2, none⟩ = some (.string z.f2) := fun o => (((Below.refl _ _).alloc (Nat.le_refl _) o).cell (World.block_lt_of_cell? wr _ hz_2)).trans hz_2
      have B2 := Aside0.mk ((HB.out.alloc (.cells #[.int .u8 y.f0, .int .i64 y.f1, .string y.f2] 27)).alloc (.cells #[.int .u8 z.f0, .int .i64 z.f1, .string z.f2] 27))
      go_wp2_with fail
      refine (compare_calls y z HKV.out _).mono ?_
      rintro e w1 ⟨rfl, hb1⟩
      have HB1 := Aside0.mk (B2.out.trans hb1)
      clear hb1 s0 s1 s2
      obtain ⟨c, hc⟩ : ∃ c, c = compareV y z := ⟨_, rfl⟩
      rw [← hc]
      by_cases h0 : c = 0
      · have z1 : (c != 0) = false := by simp [h0]
        have HI2 : Aside0 (cmpRows l0 l1 = cmpRows (l0.drop (x + 1)) (l1.drop (x + 1))) := ⟨by rw [HI.out]; simp only [cmpRows]; rw [if_pos (by rw [← hc, h0])]⟩
        clear h0 hc
        go_wp2
        have hlt := HLT.out
        have hlt1 := HLT1.out
        have hk := HKQ.out
        cases gk with
        | zero => omega
        | succ k1 =>
         go_roundg k1
         case measure => omega
         case rel => exact ⟨x + 1, by rw [HWR.out]; rfl, ⟨by omega⟩, HI2, HB1⟩
      · have z1 : (c != 0) = true := by simpa using h0
        have H : Aside0 (cmpRows l0 l1 = c) := ⟨by rw [HI.out]; simp only [cmpRows]; rw [if_neg (by rw [← hc]; exact h0), hc]⟩
        clear h0 hc
        go_wp2
        go_ret
        refine ⟨?_, HB1.out⟩
        rw [H.out]; rfl
  · have c1' : decide ((x : Int) < (l0.length : Int)) = false := decide_eq_false (by omega)
    have hxe : x = l0.length := by omega
    rw [List.drop_eq_nil_of_le (by omega), cmpRows_nil, List.length_drop, hxe] at HI
    by_cases hl : l0.length < l1.length
    · have c3 : decide (l0.length < l1.length) = true := decide_eq_true hl
      have H : Aside0 (cmpRows l0 l1 = -1) := ⟨by rw [HI.out, if_neg (by omega)]⟩
      clear hl hxe
      go_wp2
      go_ret
      refine ⟨?_, HB.out⟩
      rw [H.out]; rfl
    · have c3 : decide (l0.length < l1.length) = false := decide_eq_false hl
      have H : Aside0 (cmpRows l0 l1 = 0) := ⟨by rw [HI.out, if_pos (by omega)]⟩
      clear hl hxe
      go_wp2
      go_ret
      refine ⟨?_, HB.out⟩
      rw [H.out]; rfl
theorem compareRows_calls (A0 : Option Addr) (c0 : Nat) (l0 : List V) (A1 : Option Addr) (c1 : Nat) (l1 : List V) (w : World) (hr0 : Kd.C kV w A0 l0.length l0) (hr1 : Kd.C kV w A1 l1.length l1) (hk : ∀ v ∈ l0, KindOk v) (hn0 : l0.length ≤ 1099511627776) (hn1 : l1.length ≤ 1099511627776) :
 Calls Tryd.prog 52 #[.slice A0 l0.length c0, .slice A1 l1.length c1] w fun e w' => e = .returned (.int .i64 (cmpRows l0 l1)) ∧ Gr w w' := by
 have H := Aside0.mk (compareFunc_calls A0 c0 l0 A1 c1 l1 w hr0 hr1 hk hn0 hn1)
 clear hr0 hr1 hk hn0 hn1
 go_enter Tryd.func52, Tryd.ntmps52
 go_wp2_with fail
 refine H.out.mono ?_
 rintro e w1 ⟨rfl, hb1⟩
 have HB1 := Aside0.mk hb1
 clear hb1
 go_wp2
 go_ret
 exact ⟨rfl, HB1.out⟩
end Go.Proofs.YtecgkcgfeghhgaaDoor.PAll
set_option linter.unusedVariables false
set_option linter.unusedSimpArgs false
namespace Go.Proofs.YtecgkcgfeghhgaaDoor.PAll
open Go.RowKit Go.Proofs.YtecgkcgfeghhgaaDoorW.PrintWords Go.Proofs.YtecgkcgfeghhgaaDoorW.PrintLast Go.Proofs.YtecgkcgfeghhgaaDoorW.PrintMore
open Go.Shelf Go.Lib
theorem add64 (x y c : Int) (hx : 0 ≤ x) (hy : 0 ≤ y) (hc : 0 ≤ c) (hc1 : c ≤ 1) (w : World) :
 (callFunc 118 #[.int .u64 x, .int .u64 y, .int .u64 c]).run Tryd.prog w = .ok (.value (.tuple #[.int .u64 ((x + y + c) % 18446744073709551616), .int .u64 ((x + y + c) / 18446744073709551616)])) w := by
 obtain ⟨a, rfl⟩ := Int.eq_ofNat_of_zero_le hx
 obtain ⟨b, rfl⟩ := Int.eq_ofNat_of_zero_le hy
 obtain ⟨d, rfl⟩ := Int.eq_ofNat_of_zero_le hc
 have h := Any7.bits_Add64 add64L a b d (by omega) w
 change (callFunc 118 _).run _ _ = _ at h
 simpa using h
theorem grownBy_set0 {w W : World} {b : Nat} (h : w.grownBy W (some b)) (j : Nat) (u : Value) : w.grownBy (W.setCell ⟨b, j, none⟩ u) (some b) :=
 ⟨h.os, h.tape, h.output, Nat.le_trans h.size (by simp [World.setCell]), fun k hk hne => (Below.heap_setCell W _ _ k (fun e => hne (by rw [e]))).trans (h.block k hk hne)⟩
theorem grownBy_set {w W : World} {b : Nat} (h : w.grownBy W (some b)) (j : Nat) (u : Value) : w.grownBy ((W.setCell ⟨b, j, none⟩ u).drew) (some b) :=
 ⟨h.os, h.tape, h.output, Nat.le_trans h.size (by simp [World.setCell, World.drew]), fun k hk hne => (Below.heap_setCell W _ _ k (fun e => hne (by rw [e]))).trans (h.block k hk hne)⟩
theorem total_take (S : TypeId) (b : Nat) (h l n : Int) (v : V) (w : World) (hb : w.heap[b]? = some (.cells #[.int .u64 h, .int .u64 l, .int .u64 n] S (0, 0))) (h0 : 0 ≤ h) (l0 : 0 ≤ l) (l1 : l < 18446744073709551616) :
 Calls Tryd.prog 116 #[.pointer (some ⟨b, 0, none⟩), .agg #[.int .u8 v.f0, .int .i64 v.f1, .string v.f2]] w fun e w' => e = .returned (.tuple #[]) ∧ w'.heap[b]? = some (.cells #[.int .u64 ((h + IntKind.u64.wrap (v.f1 / 9223372036854775808) + (l + IntKind.u64.wrap v.f1) / 18446744073709551616) % 18446744073709551616), .int .u64 ((l + IntKind.u64.wrap v.f1) % 18446744073709551616), .int .u64 (IntKind.u64.wrap (n + 1))] S (0, 0)) ∧ w.grownBy w' (some b) := by
 have hlt : b < w.heap.size := (Array.getElem?_eq_some_iff.1 hb).1
 have C0 : (w.alloc (.cells #[.int .u8 v.f0, .int .i64 v.f1, .string v.f2] 27)).heap[b]? = some (.cells #[.int .u64 h, .int .u64 l, .int .u64 n] S (0, 0)) := (Below.heap_alloc w _ b hlt).trans hb
 have hg : w.grownBy (w.alloc (.cells #[.int .u8 v.f0, .int .i64 v.f1, .string v.f2] 27)) (some b) := ⟨rfl, rfl, rfl, by simp, fun k hk _ => Below.heap_alloc w _ k hk⟩
 have V1 : (w.alloc (.cells #[.int .u8 v.f0, .int .i64 v.f1, .string v.f2] 27)).heap[w.heap.size]? = some (.cells #[.int .u8 v.f0, .int .i64 v.f1, .string v.f2] 27 (0, 0)) := heap_alloc_new _ _
 have hne : b ≠ w.heap.size := by omega
 have HG := Aside0.mk hg
 have HNE := Aside0.mk hne
 have HLT := Aside0.mk hlt
 have HL1 := Aside0.mk l1
 clear l1
 clear hg hne hb hlt
 obtain ⟨W, hW⟩ : ∃ W, W = w.alloc (.cells #[.int .u8 v.f0, .int .i64 v.f1, .string v.f2] 27) := ⟨_, rfl⟩
 obtain ⟨q, hq⟩ : ∃ q, q = w.heap.size := ⟨_, rfl⟩
 rw [← hW] at C0 V1 HG
 rw [← hq] at V1 HNE
 have HW := Aside0.mk hW
 have HQ := Aside0.mk hq
 clear hW hq
 have F0 : W.cell? ⟨b, 0, none⟩ = some (.int .u64 h) := (blk_cell C0 0).trans rfl
 have F1 : W.cell? ⟨b, 1, none⟩ = some (.int .u64 l) := (blk_cell C0 1).trans rfl
 have F2 : W.cell? ⟨b, 2, none⟩ = some (.int .u64 n) := (blk_cell C0 2).trans rfl
 have F3 : W.cell? ⟨q, 1, none⟩ = some (.int .i64 v.f1) := (blk_cell V1 1).trans rfl
 have F4 : ∀ j, W.frozen? ⟨b, j, none⟩ = false := fun j => by simp [World.frozen?, C0]
 have HC0 := Aside0.mk C0
 have HV1 := Aside0.mk V1
 have A1 : ∀ W, (callFunc 118 #[.int .u64 l, .int .u64 (IntKind.u64.wrap v.f1), .int .u64 0]).run Tryd.prog W = .ok (.value (.tuple #[.int .u64 ((l + IntKind.u64.wrap v.f1 + 0) % 18446744073709551616), .int .u64 ((l + IntKind.u64.wrap v.f1 + 0) / 18446744073709551616)])) W := fun W => add64 _ _ _ l0 (by simp [IntKind.wrap, IntKind.bits, IntKind.signed]; omega) (by omega) (by omega) W
 clear C0 V1
 go_enter Tryd.func116, Tryd.ntmps116
 go_wp2
 rw [← HW.out, ← HQ.out]
 go_region
 obtain ⟨lw, hlw⟩ : ∃ lw, lw = (l + IntKind.u64.wrap v.f1) % 18446744073709551616 := ⟨_, rfl⟩
 obtain ⟨cw, hcw⟩ : ∃ cw, cw = (l + IntKind.u64.wrap v.f1) / 18446744073709551616 := ⟨_, rfl⟩
 obtain ⟨W2, hW2⟩ : ∃ W2, W2 = (W.setCell ⟨b, 1, none⟩ (.int .u64 lw)).drew := ⟨_, rfl⟩
 have hsr : 0 ≤ IntKind.u64.wrap v.f1 ∧ IntKind.u64.wrap v.f1 < 18446744073709551616 := by simp [IntKind.wrap, IntKind.bits, IntKind.signed]; omega
 have hcw0 : 0 ≤ cw := by rw [hcw]; omega
 have hcw1 : cw ≤ 1 := by rw [hcw]; have := HL1.out; omega
 have C2 : W2.heap[b]? = some (.cells #[.int .u64 h, .int .u64 lw, .int .u64 n] S (0, 0)) := by rw [hW2]; exact (blk_set HC0.out 1 _).trans rfl
 have V2 : W2.heap[q]? = some (.cells #[.int .u8 v.f0, .int .i64 v.f1, .string v.f2] 27 (0, 0)) := by rw [hW2]; exact (Below.heap_setCell W _ _ q (Ne.symm HNE.out)).trans HV1.out
 have G2 : Aside0 (w.grownBy W2 (some b)) := ⟨by rw [hW2]; exact grownBy_set HG.out 1 _⟩
 rw [← hlw, ← hcw]
 rw [← hW2]
 have HLW := Aside0.mk hlw
 have HCW := Aside0.mk hcw
 clear hlw hcw hW2 F0 F1 F2 F3 F4 A1 hsr HW HQ HC0 HV1 HG
 have F0 : W2.cell? ⟨b, 0, none⟩ = some (.int .u64 h) := (blk_cell C2 0).trans rfl
 have F3 : W2.cell? ⟨q, 1, none⟩ = some (.int .i64 v.f1) := (blk_cell V2 1).trans rfl
 have F4 : ∀ j, W2.frozen? ⟨b, j, none⟩ = false := fun j => by simp [World.frozen?, C2]
 have A1 : ∀ W, (callFunc 118 #[.int .u64 h, .int .u64 (IntKind.u64.wrap (v.f1 / 9223372036854775808)), .int .u64 cw]).run Tryd.prog W = .ok (.value (.tuple #[.int .u64 ((h + IntKind.u64.wrap (v.f1 / 9223372036854775808) + cw) % 18446744073709551616), .int .u64 ((h + IntKind.u64.wrap (v.f1 / 9223372036854775808) + cw) / 18446744073709551616)])) W := fun W => add64 _ _ _ h0 (by simp [IntKind.wrap, IntKind.bits, IntKind.signed]; omega) hcw0 hcw1 W
 have HC2 := Aside0.mk C2
 clear C2 V2 hcw0 hcw1
 go_wp2
 go_region
 obtain ⟨hw', hhw⟩ : ∃ hw, hw = (h + IntKind.u64.wrap (v.f1 / 9223372036854775808) + cw) % 18446744073709551616 := ⟨_, rfl⟩
 obtain ⟨W3, hW3⟩ : ∃ W3, W3 = (W2.setCell ⟨b, 0, none⟩ (.int .u64 hw')).drew := ⟨_, rfl⟩
 have C3 : W3.heap[b]? = some (.cells #[.int .u64 hw', .int .u64 lw, .int .u64 n] S (0, 0)) := by rw [hW3]; exact (blk_set HC2.out 0 _).trans rfl
 have G3 : Aside0 (w.grownBy W3 (some b)) := ⟨by rw [hW3]; exact grownBy_set G2.out 0 _⟩
 rw [← hhw]
 rw [← hW3]
 have HHW := Aside0.mk hhw
 clear hhw hW3 F0 F3 F4 A1 HC2 G2
 have F2 : W3.cell? ⟨b, 2, none⟩ = some (.int .u64 n) := (blk_cell C3 2).trans rfl
 have F4 : ∀ j, W3.frozen? ⟨b, j, none⟩ = false := fun j => by simp [World.frozen?, C3]
 have HC3 := Aside0.mk C3
 clear C3
 go_wp2
 go_end0
 refine ⟨rfl, ?_, ?_⟩
 · rw [← HCW.out, ← HHW.out, ← HLW.out]
   exact (blk_set HC3.out 2 _).trans rfl
 · exact (grownBy_set0 G3.out 2 _)
end Go.Proofs.YtecgkcgfeghhgaaDoor.PAll
namespace Go.Proofs.YtecgkcgfeghhgaaDoor.PAll
open Go.RowKit Go.Proofs.YtecgkcgfeghhgaaDoorW.PrintWords Go.Proofs.YtecgkcgfeghhgaaDoorW.PrintLast Go.Proofs.YtecgkcgfeghhgaaDoorW.PrintMore
attribute [local go_sem] max2_int min2_int max_two min_two max_three min_three max_four min_four
set_option linter.unusedVariables false
set_option linter.unusedSimpArgs false
def value_Int.f (a0 : Int) : Option (Int × Int × ByteArray) := some (1, a0, (⟨#[]⟩ : ByteArray))
theorem value_Int.calls (a0 : Int) (r1 : Int) (r2 : Int) (r3 : ByteArray) (w : World) (h : value_Int.f a0 = some (r1, r2, r3)) :
 Calls Tryd.prog 117 #[.int .i64 a0] w fun e w' => e = .returned (.agg #[.int .u8 r1, .int .i64 r2, .string r3]) ∧ Below w.heap.size w w' := by
 have hu27 := Tryd.underlying27
 have HB := Aside0.mk (Below.refl w.heap.size w)
 have H : (some (1, a0, (⟨#[]⟩ : ByteArray))) = some (r1, r2, r3) := h
 clear h
 simp only [Option.some.injEq, Prod.mk.injEq] at H
 obtain ⟨rfl, rfl, rfl⟩ := H
 go_enter Tryd.func117, Tryd.ntmps117
 go_wp2_with (first | ((with_reducible refine gate_dst (N := 2) rfl ?_); refine box_event ?hg (N := 2) ?hd (cs := #[.int .u8 0, .int .i64 0, .string (⟨#[]⟩ : ByteArray)]) (t := 27) ?hr ?_; (case hd => rfl); (case hg => rfl); (case hr => first | (go_simp; done) | (go_simp; rfl)); intro gb123 hg w2 hbox hb; have n0_ := Aside0.mk (below_step (by repeat (first | (with_reducible first | exact HB.out | apply bA_ | apply bN_ | apply b1_) | exact HB.out)) hb); have n1_ := Aside0.mk (hbox); have n2_ := Aside0.mk ((by rw [hg]; exact (below_size (by repeat (first | (with_reducible first | exact HB.out | apply bA_ | apply bN_ | apply b1_) | exact HB.out))) : w.heap.size ≤ gb123)); have n3_ := Aside0.mk ((by rw [hg]; exact (below_size (by repeat (first | (with_reducible first | exact HB.out | apply bA_ | apply bN_ | apply b1_) | exact HB.out))) : w.heap.size ≤ gb123)); clear HB; have HB := n0_; have BK123 := n1_; have GW123 := n2_; have GE123 := n3_; clear n0_ n1_ n2_ n3_; clear hb hbox hg; have hcz3_0 : w2.cell? ⟨gb123, 0, none⟩ = some (.int .u8 0) := (blk_cell BK123.out 0).trans rfl; have hcz3_1 : w2.cell? ⟨gb123, 1, none⟩ = some (.int .i64 0) := (blk_cell BK123.out 1).trans rfl; have hcz3_2 : w2.cell? ⟨gb123, 2, none⟩ = some (.string (⟨#[]⟩ : ByteArray)) := (blk_cell BK123.out 2).trans rfl; have hfz3_0 := blk_frozen BK123.out 0; have hfz3_1 := blk_frozen BK123.out 1; have hfz3_2 := blk_frozen BK123.out 2))
 refine bodyPost_ret (results_cell_row rfl _ _ gb123 27 #[.int .u8 1, .int .i64 a0, .string (⟨#[]⟩ : ByteArray)] (0, 0) _ rfl (by (with_reducible repeat (first | refine blk_drewN ?_ _ | refine blk_drew ?_ | refine blk_alloc ?_ _)); refine blk_put (cs := #[.int .u8 1, .int .i64 a0, .string (⟨#[]⟩ : ByteArray)]) ?_ 2 _ rfl; (with_reducible repeat (first | refine blk_drewN ?_ _ | refine blk_drew ?_ | refine blk_alloc ?_ _)); refine blk_put (cs := #[.int .u8 1, .int .i64 0, .string (⟨#[]⟩ : ByteArray)]) ?_ 1 _ rfl; (with_reducible repeat (first | refine blk_drewN ?_ _ | refine blk_drew ?_ | refine blk_alloc ?_ _)); refine blk_put (cs := #[.int .u8 0, .int .i64 0, .string (⟨#[]⟩ : ByteArray)]) ?_ 0 _ rfl; (with_reducible repeat (first | refine blk_drewN ?_ _ | refine blk_drew ?_ | refine blk_alloc ?_ _)); exact BK123.out) Tryd.underlying27 rfl (by kernel_rfl)) rfl ?_
 exact ⟨by first | rfl | (simp [*, errW_none, errW_some] <;> rfl), by repeat (first | (with_reducible first | exact HB.out | apply bA_ | apply bN_ | apply b1_ | refine below_set ?_ GE123.out) | exact HB.out)⟩
end Go.Proofs.YtecgkcgfeghhgaaDoor.PAll
set_option linter.unusedVariables false
set_option linter.unusedSimpArgs false
namespace Go.Proofs.YtecgkcgfeghhgaaDoor.PAll
open Go.RowKit Go.Proofs.YtecgkcgfeghhgaaDoorW.PrintWords Go.Proofs.YtecgkcgfeghhgaaDoorW.PrintLast Go.Proofs.YtecgkcgfeghhgaaDoorW.PrintMore
theorem out_cells {W : World} {q : Nat} {t : TypeId} {a b c d : Value} (h : W.heap[q]? = some (.cells #[a, b, c, d] t (0, 0))) (x0 x1 x2 x3 : Value) : ((((W.setCell ⟨q, 0, none⟩ x0).setCell ⟨q, 1, none⟩ x1).setCell ⟨q, 2, none⟩ x2).setCell ⟨q, 3, none⟩ x3).heap[q]? = some (.cells #[x0, x1, x2, x3] t (0, 0)) :=
 blk_put (cs := #[x0, x1, x2, d]) (blk_put (cs := #[x0, x1, c, d]) (blk_put (cs := #[x0, b, c, d]) (blk_put (cs := #[a, b, c, d]) h 0 _ rfl) 1 _ rfl) 2 _ rfl) 3 _ rfl
theorem out_below {w W : World} {q : Nat} (h : Below w.heap.size w W) (hq : q = w.heap.size) (x0 x1 x2 x3 : Value) : Below w.heap.size w ((((W.setCell ⟨q, 0, none⟩ x0).setCell ⟨q, 1, none⟩ x1).setCell ⟨q, 2, none⟩ x2).setCell ⟨q, 3, none⟩ x3) :=
 (((h.setCell (Nat.le_of_eq hq.symm) _).setCell (Nat.le_of_eq hq.symm) _).setCell (Nat.le_of_eq hq.symm) _).setCell (Nat.le_of_eq hq.symm) _
def totalOut (h l n : Int) : Int × Int × ByteArray × Int :=
 if n = 0 then (0, 0, ⟨#[]⟩, 0) else if h = IntKind.u64.wrap (wrap64 l / 9223372036854775808) then (1, wrap64 l, ⟨#[]⟩, 0) else (0, 0, ⟨#[]⟩, 4)
theorem total_done (b : Nat) (h l n : Int) (w : World) (hb : w.heap[b]? = some (.cells #[.int .u64 h, .int .u64 l, .int .u64 n] 92 (0, 0))) (r1 r2 : Int) (r3 : ByteArray) (r4 : Int) (hr : totalOut h l n = (r1, r2, r3, r4)) :
 Calls Tryd.prog 115 #[.pointer (some ⟨b, 0, none⟩)] w fun e w' => e = .returned (.agg #[.int .u8 r1, .int .i64 r2, .string r3, .int .i64 r4]) ∧ Below w.heap.size w w' := by
 have hlt : b < w.heap.size := (Array.getElem?_eq_some_iff.1 hb).1
 have HLT := Aside0.mk hlt
 have HBK := Aside0.mk hb
 have HR := Aside0.mk hr
 clear hb hlt hr
 by_cases hn : n = 0
 · have hnb : (n == 0) = true := by simp [hn]
   have HRR : Aside0 (r1 = 0 ∧ r2 = 0 ∧ r3 = ⟨#[]⟩ ∧ r4 = 0) := ⟨by
    have h := HR.out
    unfold totalOut at h
    rw [if_pos hn] at h
    simp only [Prod.mk.injEq] at h
    exact ⟨h.1.symm, h.2.1.symm, h.2.2.1.symm, h.2.2.2.symm⟩⟩
   clear hn
   go_enter Tryd.func115, Tryd.ntmps115
   go_wp2_with (first | ((with_reducible refine gate_dst (N := 2) rfl ?_); refine box_event ?hg (N := 2) ?hd (cs := #[.int .u8 0, .int .i64 0, .string (⟨#[]⟩ : ByteArray), .int .i64 0]) (t := 31) ?hr ?_; (case hd => rfl); (case hg => rfl); (case hr => first | (go_simp; done) | (go_simp; rfl)); intro q hq W hN hb1; have C0 := (hb1.block b HLT.out).trans HBK.out; have HB1 := Aside0.mk hb1; have HQ := Aside0.mk hq; have HN0 := Aside0.mk hN; have F0 : W.cell? ⟨b, 0, none⟩ = some (.int .u64 h) := (blk_cell C0 0).trans rfl; have F1 : W.cell? ⟨b, 1, none⟩ = some (.int .u64 l) := (blk_cell C0 1).trans rfl; have F2 : W.cell? ⟨b, 2, none⟩ = some (.int .u64 n) := (blk_cell C0 2).trans rfl; have G0 : W.cell? ⟨q, 0, none⟩ = some (.int .u8 0) := (blk_cell hN 0).trans rfl; have G1 : W.cell? ⟨q, 1, none⟩ = some (.int .i64 0) := (blk_cell hN 1).trans rfl; have G2 : W.cell? ⟨q, 2, none⟩ = some (.string ⟨#[]⟩) := (blk_cell hN 2).trans rfl; have G3 : W.cell? ⟨q, 3, none⟩ = some (.int .i64 0) := (blk_cell hN 3).trans rfl; have F4 : ∀ j, W.frozen? ⟨q, j, none⟩ = false := (fun j => by simp [World.frozen?, hN]); clear hb1 hq hN C0))
   refine bodyPost_ret (results_cell_row rfl _ _ q 31 #[.int .u8 0, .int .i64 0, .string (⟨#[]⟩ : ByteArray), .int .i64 0] (0, 0) _ rfl (out_cells HN0.out _ _ _ _) Tryd.underlying31 rfl (by kernel_rfl)) rfl ?_
   refine ⟨?_, out_below HB1.out HQ.out _ _ _ _⟩
   obtain ⟨rfl, rfl, rfl, rfl⟩ := HRR.out
   rfl
 · have hnb : (n == 0) = false := by simp [hn]
   by_cases hc : h = IntKind.u64.wrap (wrap64 l / 9223372036854775808)
   · have hcb : (h != IntKind.u64.wrap (wrap64 l / 9223372036854775808)) = false := by simp [← hc]
     have HRR : Aside0 (r1 = 1 ∧ r2 = wrap64 l ∧ r3 = ⟨#[]⟩ ∧ r4 = 0) := ⟨by
      have h := HR.out
      unfold totalOut at h
      rw [if_neg hn, if_pos hc] at h
      simp only [Prod.mk.injEq] at h
      exact ⟨h.1.symm, h.2.1.symm, h.2.2.1.symm, h.2.2.2.symm⟩⟩
     clear hn hc
     go_enter Tryd.func115, Tryd.ntmps115
     go_wp2_with (first | ((with_reducible refine gate_dst (N := 2) rfl ?_); refine box_event ?hg (N := 2) ?hd (cs := #[.int .u8 0, .int .i64 0, .string (⟨#[]⟩ : ByteArray), .int .i64 0]) (t := 31) ?hr ?_; (case hd => rfl); (case hg => rfl); (case hr => first | (go_simp; done) | (go_simp; rfl)); intro q hq W hN hb1; have C0 := (hb1.block b HLT.out).trans HBK.out; have HB1 := Aside0.mk hb1; have HQ := Aside0.mk hq; have HN0 := Aside0.mk hN; have F0 : W.cell? ⟨b, 0, none⟩ = some (.int .u64 h) := (blk_cell C0 0).trans rfl; have F1 : W.cell? ⟨b, 1, none⟩ = some (.int .u64 l) := (blk_cell C0 1).trans rfl; have F2 : W.cell? ⟨b, 2, none⟩ = some (.int .u64 n) := (blk_cell C0 2).trans rfl; have G0 : W.cell? ⟨q, 0, none⟩ = some (.int .u8 0) := (blk_cell hN 0).trans rfl; have G1 : W.cell? ⟨q, 1, none⟩ = some (.int .i64 0) := (blk_cell hN 1).trans rfl; have G2 : W.cell? ⟨q, 2, none⟩ = some (.string ⟨#[]⟩) := (blk_cell hN 2).trans rfl; have G3 : W.cell? ⟨q, 3, none⟩ = some (.int .i64 0) := (blk_cell hN 3).trans rfl; have F4 : ∀ j, W.frozen? ⟨q, j, none⟩ = false := (fun j => by simp [World.frozen?, hN]); clear hb1 hq hN C0))
     go_region
     obtain ⟨W2, hW2⟩ : ∃ W2, W2 = W.drew := ⟨_, rfl⟩
     rw [← hW2]
     have HN2 : Aside0 (W2.heap[q]? = some (.cells #[.int .u8 0, .int .i64 0, .string ⟨#[]⟩, .int .i64 0] 31 (0, 0))) := ⟨by rw [hW2]; exact HN0.out⟩
     have HB2 : Aside0 (Below w.heap.size w W2) := ⟨by rw [hW2]; exact HB1.out.drew⟩
     have F1' : W2.cell? ⟨b, 1, none⟩ = some (.int .u64 l) := by rw [hW2]; exact F1
     clear hW2 F0 F1 F2 F4 G0 G1 G2 G3
     go_wp2_with fail
     refine (value_Int.calls (wrap64 l) 1 (wrap64 l) ⟨#[]⟩ W2 rfl).mono ?_
     rintro e W3 ⟨rfl, hb3⟩
     have hN3 := (hb3.block q (blk_lt HN2.out)).trans HN2.out
     have HN3 := Aside0.mk hN3
     have HB3 := Aside0.mk (HB2.out.trans (hb3.mono HB2.out.size))
     have G0 : W3.cell? ⟨q, 0, none⟩ = some (.int .u8 0) := (blk_cell hN3 0).trans rfl
     have G1 : W3.cell? ⟨q, 1, none⟩ = some (.int .i64 0) := (blk_cell hN3 1).trans rfl
     have G2 : W3.cell? ⟨q, 2, none⟩ = some (.string ⟨#[]⟩) := (blk_cell hN3 2).trans rfl
     have G3 : W3.cell? ⟨q, 3, none⟩ = some (.int .i64 0) := (blk_cell hN3 3).trans rfl
     have F4 : ∀ j, W3.frozen? ⟨q, j, none⟩ = false := (fun j => by simp [World.frozen?, hN3])
     clear hb3 hN3 F1'
     go_wp2
     refine bodyPost_ret (results_cell_row rfl _ _ q 31 #[.int .u8 1, .int .i64 (wrap64 l), .string (⟨#[]⟩ : ByteArray), .int .i64 0] (0, 0) _ rfl (out_cells HN3.out _ _ _ _) Tryd.underlying31 rfl (by kernel_rfl)) rfl ?_
     refine ⟨?_, out_below HB3.out HQ.out _ _ _ _⟩
     obtain ⟨rfl, rfl, rfl, rfl⟩ := HRR.out
     rfl
   · have hcb : (h != IntKind.u64.wrap (wrap64 l / 9223372036854775808)) = true := by simpa using hc
     have HRR : Aside0 (r1 = 0 ∧ r2 = 0 ∧ r3 = ⟨#[]⟩ ∧ r4 = 4) := ⟨by
      have h := HR.out
      unfold totalOut at h
      rw [if_neg hn, if_neg hc] at h
      simp only [Prod.mk.injEq] at h
      exact ⟨h.1.symm, h.2.1.symm, h.2.2.1.symm, h.2.2.2.symm⟩⟩
     clear hn hc
     go_enter Tryd.func115, Tryd.ntmps115
     go_wp2_with (first | ((with_reducible refine gate_dst (N := 2) rfl ?_); refine box_event ?hg (N := 2) ?hd (cs := #[.int .u8 0, .int .i64 0, .string (⟨#[]⟩ : ByteArray), .int .i64 0]) (t := 31) ?hr ?_; (case hd => rfl); (case hg => rfl); (case hr => first | (go_simp; done) | (go_simp; rfl)); intro q hq W hN hb1; have C0 := (hb1.block b HLT.out).trans HBK.out; have HB1 := Aside0.mk hb1; have HQ := Aside0.mk hq; have HN0 := Aside0.mk hN; have F0 : W.cell? ⟨b, 0, none⟩ = some (.int .u64 h) := (blk_cell C0 0).trans rfl; have F1 : W.cell? ⟨b, 1, none⟩ = some (.int .u64 l) := (blk_cell C0 1).trans rfl; have F2 : W.cell? ⟨b, 2, none⟩ = some (.int .u64 n) := (blk_cell C0 2).trans rfl; have G0 : W.cell? ⟨q, 0, none⟩ = some (.int .u8 0) := (blk_cell hN 0).trans rfl; have G1 : W.cell? ⟨q, 1, none⟩ = some (.int .i64 0) := (blk_cell hN 1).trans rfl; have G2 : W.cell? ⟨q, 2, none⟩ = some (.string ⟨#[]⟩) := (blk_cell hN 2).trans rfl; have G3 : W.cell? ⟨q, 3, none⟩ = some (.int .i64 0) := (blk_cell hN 3).trans rfl; have F4 : ∀ j, W.frozen? ⟨q, j, none⟩ = false := (fun j => by simp [World.frozen?, hN]); clear hb1 hq hN C0))
     go_region
     obtain ⟨W2, hW2⟩ : ∃ W2, W2 = W.drew := ⟨_, rfl⟩
     rw [← hW2]
     have hN2 : W2.heap[q]? = some (.cells #[.int .u8 0, .int .i64 0, .string ⟨#[]⟩, .int .i64 0] 31 (0, 0)) := by rw [hW2]; exact HN0.out
     have HN2 := Aside0.mk hN2
     have HB2 : Aside0 (Below w.heap.size w W2) := ⟨by rw [hW2]; exact HB1.out.drew⟩
     clear hW2 F0 F1 F2 F4 G0 G1 G2 G3
     have G0 : W2.cell? ⟨q, 0, none⟩ = some (.int .u8 0) := (blk_cell hN2 0).trans rfl
     have G1 : W2.cell? ⟨q, 1, none⟩ = some (.int .i64 0) := (blk_cell hN2 1).trans rfl
     have G2 : W2.cell? ⟨q, 2, none⟩ = some (.string ⟨#[]⟩) := (blk_cell hN2 2).trans rfl
     have G3 : W2.cell? ⟨q, 3, none⟩ = some (.int .i64 0) := (blk_cell hN2 3).trans rfl
     have F4 : ∀ j, W2.frozen? ⟨q, j, none⟩ = false := (fun j => by simp [World.frozen?, hN2])
     clear hN2
     go_wp2
     refine bodyPost_ret (results_cell_row rfl _ _ q 31 #[.int .u8 0, .int .i64 0, .string (⟨#[]⟩ : ByteArray), .int .i64 4] (0, 0) _ rfl (out_cells HN2.out _ _ _ _) Tryd.underlying31 rfl (by kernel_rfl)) rfl ?_
     refine ⟨?_, out_below HB2.out HQ.out _ _ _ _⟩
     obtain ⟨rfl, rfl, rfl, rfl⟩ := HRR.out
     rfl
theorem below_grownBy {w W : World} {row : Option Nat} (h : Below w.heap.size w W) : w.grownBy W row := ⟨h.os, h.tape, h.output, h.size, fun k hk _ => h.block k hk⟩
theorem counter_take (b : Nat) (n : Int) (v : V) (w : World) (hb : w.heap[b]? = some (.cells #[.int .i64 n] 101 (0, 0))) :
 Calls Tryd.prog 126 #[.pointer (some ⟨b, 0, none⟩), .agg #[.int .u8 v.f0, .int .i64 v.f1, .string v.f2]] w fun e w' => e = .returned (.tuple #[]) ∧ w'.heap[b]? = some (.cells #[.int .i64 (wrap64 (n + 1))] 101 (0, 0)) ∧ w.grownBy w' (some b) := by
 have hlt : b < w.heap.size := (Array.getElem?_eq_some_iff.1 hb).1
 have HLT := Aside0.mk hlt
 have HBK := Aside0.mk hb
 clear hb hlt
 go_enter Tryd.func126, Tryd.ntmps126
 go_wp2_with (first | ((with_reducible refine gate_dst (N := 3) rfl ?_); refine box_event ?hg (N := 3) ?hd (cs := #[.int .u8 v.f0, .int .i64 v.f1, .string v.f2]) (t := 27) ?hr ?_; (case hd => rfl); (case hg => rfl); (case hr => first | (go_simp; done) | (go_simp; rfl)); intro q hq W hN hb1; have C0 := (hb1.block b HLT.out).trans HBK.out; have HB1 := Aside0.mk hb1; have HC0 := Aside0.mk C0; have F0 : W.cell? ⟨b, 0, none⟩ = some (.int .i64 n) := (blk_cell C0 0).trans rfl; have F4 : ∀ j, W.frozen? ⟨b, j, none⟩ = false := (fun j => by simp [World.frozen?, C0]); clear hb1 hq hN C0))
 go_end0
 exact ⟨rfl, (blk_set HC0.out 0 _).trans rfl, grownBy_set0 (below_grownBy HB1.out) 0 _⟩
theorem counter_done (b : Nat) (n : Int) (w : World) (hb : w.heap[b]? = some (.cells #[.int .i64 n] 101 (0, 0))) :
 Calls Tryd.prog 125 #[.pointer (some ⟨b, 0, none⟩)] w fun e w' => e = .returned (.agg #[.int .u8 1, .int .i64 n, .string ⟨#[]⟩, .int .i64 0]) ∧ Below w.heap.size w w' := by
 have hlt : b < w.heap.size := (Array.getElem?_eq_some_iff.1 hb).1
 have HLT := Aside0.mk hlt
 have HBK := Aside0.mk hb
 clear hb hlt
 go_enter Tryd.func125, Tryd.ntmps125
 go_wp2_with (first | ((with_reducible refine gate_dst (N := 2) rfl ?_); refine box_event ?hg (N := 2) ?hd (cs := #[.int .u8 0, .int .i64 0, .string (⟨#[]⟩ : ByteArray), .int .i64 0]) (t := 31) ?hr ?_; (case hd => rfl); (case hg => rfl); (case hr => first | (go_simp; done) | (go_simp; rfl)); intro q hq W hN hb1; have C0 := (hb1.block b HLT.out).trans HBK.out; have HB1 := Aside0.mk hb1; have HQ := Aside0.mk hq; have HN0 := Aside0.mk hN; have F0 : W.cell? ⟨b, 0, none⟩ = some (.int .i64 n) := (blk_cell C0 0).trans rfl; have G0 : W.cell? ⟨q, 0, none⟩ = some (.int .u8 0) := (blk_cell hN 0).trans rfl; have G1 : W.cell? ⟨q, 1, none⟩ = some (.int .i64 0) := (blk_cell hN 1).trans rfl; have G2 : W.cell? ⟨q, 2, none⟩ = some (.string ⟨#[]⟩) := (blk_cell hN 2).trans rfl; have G3 : W.cell? ⟨q, 3, none⟩ = some (.int .i64 0) := (blk_cell hN 3).trans rfl; have F4 : ∀ j, W.frozen? ⟨q, j, none⟩ = false := (fun j => by simp [World.frozen?, hN]); clear hb1 hq hN C0) | (go_at_call 117; refine (value_Int.calls n 1 n ⟨#[]⟩ _ rfl).mono ?_; rintro e W3 ⟨rfl, hb3⟩; have hN3 := (hb3.block q (blk_lt HN0.out)).trans HN0.out; have HN3 := Aside0.mk hN3; have HB3 := Aside0.mk (HB1.out.trans (hb3.mono HB1.out.size)); clear G0 G1 G2 G3 F4; have G0 : W3.cell? ⟨q, 0, none⟩ = some (.int .u8 0) := (blk_cell hN3 0).trans rfl; have G1 : W3.cell? ⟨q, 1, none⟩ = some (.int .i64 0) := (blk_cell hN3 1).trans rfl; have G2 : W3.cell? ⟨q, 2, none⟩ = some (.string ⟨#[]⟩) := (blk_cell hN3 2).trans rfl; have G3 : W3.cell? ⟨q, 3, none⟩ = some (.int .i64 0) := (blk_cell hN3 3).trans rfl; have F4 : ∀ j, W3.frozen? ⟨q, j, none⟩ = false := (fun j => by simp [World.frozen?, hN3]); clear hb3 hN3 F0))
 refine bodyPost_ret (results_cell_row rfl _ _ q 31 #[.int .u8 1, .int .i64 n, .string (⟨#[]⟩ : ByteArray), .int .i64 0] (0, 0) _ rfl (out_cells HN3.out _ _ _ _) Tryd.underlying31 rfl (by kernel_rfl)) rfl ?_
 exact ⟨rfl, out_below HB3.out HQ.out _ _ _ _⟩
theorem gath_sum (w : World) : Calls Tryd.prog 28 #[.int .u8 2] w fun e w' => e = .returned (.iface 89 (.pointer (some ⟨w.heap.size, 0, none⟩))) ∧ w' = w.alloc (.cells #[.int .u64 0, .int .u64 0, .int .u64 0] 92) := by
 go_enter Tryd.func28, Tryd.ntmps28
 go_wp2
 go_ret
 exact ⟨rfl, rfl⟩
theorem gath_avg (w : World) : Calls Tryd.prog 28 #[.int .u8 5] w fun e w' => e = .returned (.iface 93 (.pointer (some ⟨w.heap.size, 0, none⟩))) ∧ w' = w.alloc (.cells #[.int .u64 0, .int .u64 0, .int .u64 0] 95) := by
 go_enter Tryd.func28, Tryd.ntmps28
 go_wp2
 go_ret
 exact ⟨rfl, rfl⟩
theorem gath_min (w : World) : Calls Tryd.prog 28 #[.int .u8 3] w fun e w' => e = .returned (.iface 96 (.pointer (some ⟨w.heap.size, 0, none⟩))) ∧ w' = w.alloc (.cells #[.int .i64 1, .bool false, .int .u8 0, .int .i64 0, .string ⟨#[]⟩] 98) := by
 go_enter Tryd.func28, Tryd.ntmps28
 go_wp2
 go_ret
 exact ⟨rfl, rfl⟩
theorem gath_max (w : World) : Calls Tryd.prog 28 #[.int .u8 4] w fun e w' => e = .returned (.iface 96 (.pointer (some ⟨w.heap.size, 0, none⟩))) ∧ w' = w.alloc (.cells #[.int .i64 (-1), .bool false, .int .u8 0, .int .i64 0, .string ⟨#[]⟩] 98) := by
 go_enter Tryd.func28, Tryd.ntmps28
 go_wp2
 go_ret
 exact ⟨rfl, rfl⟩
theorem gath_count (fn : Int) (h : fn = 0 ∨ fn = 1) (w : World) : Calls Tryd.prog 28 #[.int .u8 fn] w fun e w' => e = .returned (.iface 99 (.pointer (some ⟨w.heap.size, 0, none⟩))) ∧ w' = w.alloc (.cells #[.int .i64 0] 101) := by
 rcases h with rfl | rfl
 · go_enter Tryd.func28, Tryd.ntmps28
   go_wp2
   go_ret
   exact ⟨rfl, rfl⟩
 · go_enter Tryd.func28, Tryd.ntmps28
   go_wp2
   go_ret
   exact ⟨rfl, rfl⟩
end Go.Proofs.YtecgkcgfeghhgaaDoor.PAll
namespace Go.Proofs.YtecgkcgfeghhgaaDoor.PAll
open Go.RowKit Go.Proofs.YtecgkcgfeghhgaaDoorW.PrintWords Go.Proofs.YtecgkcgfeghhgaaDoorW.PrintLast Go.Proofs.YtecgkcgfeghhgaaDoorW.PrintMore
attribute [local go_sem] max2_int min2_int max_two min_two max_three min_three max_four min_four
set_option linter.unusedVariables false
set_option linter.unusedSimpArgs false
mutual
def bag_allowed.j0 : Nat → Int → List (S27) → Bool → Option (Bool)
 | 0, _, _, _ => none
 | k + 1, x0, x2, x19 => if x19 = true then (some false) else (bag_allowed.l0 k x0 0 x2 (x2.length : Int) 0)
def bag_allowed.l0 : Nat → Int → Int → List (S27) → Int → Int → Option (Bool)
 | 0, _, _, _, _, _ => none
 | k + 1, x0, x7, x20, x21, x22 => if x22 < x21 then (if 0 ≤ x22 then (if x22 < (x20.length : Int) then ((value_Valid.f ((rd_T27 x20 x22).f0) ((rd_T27 x20 x22).f1) ((rd_T27 x20 x22).f2)).bind fun t114 => (if t114 = true then (if x7 = 0 then (bag_allowed.j2 k x0 x7 x20 x21 x22 false ((rd_T27 x20 x22).f0) ((rd_T27 x20 x22).f1) ((rd_T27 x20 x22).f2)) else (if ((rd_T27 x20 x22).f0) = 0 then (bag_allowed.j2 k x0 x7 x20 x21 x22 false ((rd_T27 x20 x22).f0) ((rd_T27 x20 x22).f1) ((rd_T27 x20 x22).f2)) else (bag_allowed.j2 k x0 x7 x20 x21 x22 (((rd_T27 x20 x22).f0) != x7) ((rd_T27 x20 x22).f0) ((rd_T27 x20 x22).f1) ((rd_T27 x20 x22).f2)))) else (bag_allowed.j2 k x0 x7 x20 x21 x22 true ((rd_T27 x20 x22).f0) ((rd_T27 x20 x22).f1) ((rd_T27 x20 x22).f2)))) else (none)) else (none)) else (if x7 = 0 then (some true) else (if x7 = 1 then (some true) else (if x0 = 2 then (some false) else (some (x0 != 5)))))
def bag_allowed.j2 : Nat → Int → Int → List (S27) → Int → Int → Bool → Int → Int → ByteArray → Option (Bool)
 | 0, _, _, _, _, _, _, _, _, _ => none
 | k + 1, x0, x7, x20, x21, x22, x43, x114000, x114001, x114002 => if x43 = true then (some false) else (if x114000 = 0 then (bag_allowed.l0 k x0 x7 x20 x21 (wrap64 (x22 + 1))) else (bag_allowed.l0 k x0 x114000 x20 x21 (wrap64 (x22 + 1))))
end
def bag_allowed.f (k : Nat) (a0 : Int) (a1 : Bool) (l2 : List (S27)) : Option (Bool) := if a0 > 5 then (bag_allowed.j0 k a0 l2 true) else (if a0 = 0 then (bag_allowed.j0 k a0 l2 a1) else (bag_allowed.j0 k a0 l2 false))
theorem bag_allowed.calls (k : Nat) (a0 : Int) (a1 : Bool) (A2 : Option Addr) (c2 : Nat) (l2 : List (S27)) (r : Bool) (w : World) (hr2 : Kd.C k27 w A2 l2.length l2) (hc2 : l2.length ≤ c2) (h : bag_allowed.f k a0 a1 l2 = some r) :
 Calls Tryd.prog 27 #[.int .u8 a0, .bool a1, .slice A2 l2.length c2] w fun e w' => e = .returned (.bool r) ∧ Below w.heap.size w w' := by
 have hu27 := Tryd.underlying27
 have HR2 := Aside0.mk hr2
 have HC2 := Aside0.mk hc2
 clear hr2 hc2
 have HB := Aside0.mk (Below.refl w.heap.size w)
 have H : (if a0 > 5 then (bag_allowed.j0 k a0 l2 true) else (if a0 = 0 then (bag_allowed.j0 k a0 l2 a1) else (bag_allowed.j0 k a0 l2 false))) = some r := h
 clear h
 have HC4 := Aside0.mk H
 clear H
 go_enter Tryd.func27, Tryd.ntmps27
 go_upto_region 1 with (fail)
 go_cut [19] (fun v19 wc => ∃ (kq : Nat) (x19_3 : Bool), v19 = .bool x19_3 ∧ Aside0 (bag_allowed.j0 kq a0 l2 x19_3 = some r) ∧ Aside0 (kq ≤ k) ∧ Aside0 (Below w.heap.size w wc))
 case first =>
  have H := HC4.out
  clear HC4
  by_cases c5 : a0 > 5
  · rw [if_pos c5] at H
    have c5b0 : decide (5 < a0) = true := dT_ c5
    clear c5
    (first | rw [c5b0] | (simp only [i64_w, i32_w]; rw [c5b0]) | skip)
    have H' := Aside0.mk H
    clear H
    go_wp2
    go_meet
    case rel => exact ⟨_, (true), (by first | rfl | (simp; done) | (simp [*]; done)), H', ⟨by first | omega | exact Nat.le_refl _⟩, ⟨by repeat (first | (with_reducible first | exact HB.out | apply bA_ | apply bN_ | apply b1_) | exact HB.out)⟩⟩
  · rw [if_neg c5] at H
    have c5b0 : decide (5 < a0) = false := dF_ c5
    clear c5
    (first | rw [c5b0] | (simp only [i64_w, i32_w]; rw [c5b0]) | skip)
    by_cases c6 : a0 = 0
    · rw [if_pos c6] at H
      have c6b0 : (a0 == 0) = true := beq_iff_eq.mpr c6
      have c6b1 : (a0 != 0) = false := bne_eq_false_iff_eq.mpr c6
      clear c6
      have H' := Aside0.mk H
      clear H
      go_wp2
      go_meet
      case rel => exact ⟨_, (a1), (by first | rfl | (simp; done) | (simp [*]; done)), H', ⟨by first | omega | exact Nat.le_refl _⟩, ⟨by repeat (first | (with_reducible first | exact HB.out | apply bA_ | apply bN_ | apply b1_) | exact HB.out)⟩⟩
    · rw [if_neg c6] at H
      have c6b0 : (a0 == 0) = false := beq_eq_false_iff_ne.mpr c6
      have c6b1 : (a0 != 0) = true := bne_iff_ne.mpr c6
      have H' := Aside0.mk H
      clear H
      go_wp2
      go_meet
      case rel => exact ⟨_, (false), (by first | rfl | (simp; done) | (simp [*]; done)), H', ⟨by first | omega | exact Nat.le_refl _⟩, ⟨by repeat (first | (with_reducible first | exact HB.out | apply bA_ | apply bN_ | apply b1_) | exact HB.out)⟩⟩
 case rest =>
  clear HC4
  try clear c2
  try clear p2
  try clear c5
  try clear c5b0
  try clear c6
  try clear c6b0
  try clear c6b1
  obtain ⟨kq, x19_3, rfl, HA, HJ3, HB⟩ := hcut
  cases kq with
  | zero => exact absurd HA.out (by simp [bag_allowed.j0])
  | succ kj3 =>
   have H := HA.out
   clear HA
   simp only [bag_allowed.j0] at H
   by_cases c7 : x19_3 = true
   · subst c7
     have H1 : (some false) = some r := by rw [if_pos rfl] at H; exact H
     clear H
     have H := H1
     clear H1
     obtain rfl := Option.some.inj H
     go_wp2
     go_ret
     exact ⟨by first | rfl | (simp [*, errW_none, errW_some] <;> rfl), by repeat (first | (with_reducible first | exact HB.out | apply bA_ | apply bN_ | apply b1_) | exact HB.out)⟩
   · replace c7 := Bool.eq_false_iff.mpr c7
     subst c7
     have H1 : (bag_allowed.l0 kj3 a0 0 l2 (l2.length : Int) 0) = some r := by rw [if_neg (show ¬ (false = true) by decide)] at H; exact H
     clear H
     have H := H1
     clear H1
     have H' := Aside0.mk H
     clear H
     go_wp2
     go_loopg [7, 22] kj3 (fun kq v7 v22 w' => ∃ (x7_2 : Int) (x22_2 : Int), v7 = .int .u8 x7_2 ∧ v22 = .int .i64 x22_2 ∧ Aside0 (bag_allowed.l0 kq a0 x7_2 l2 (l2.length : Int) x22_2 = some r) ∧ Aside0 (kq ≤ kj3) ∧ Aside0 (Below w.heap.size w w'))
     case atStart => exact ⟨(0), (0), (by first | rfl | (simp; done) | (simp [*]; done)), (by first | rfl | (simp; done) | (simp [*]; done)), H', ⟨Nat.le_refl _⟩, ⟨by repeat (first | (with_reducible first | exact HB.out | apply bA_ | apply bN_ | apply b1_) | exact HB.out)⟩⟩
     case round =>
      clear H'
      try clear c2
      try clear p2
      try clear c5
      try clear c5b0
      try clear c6
      try clear c6b0
      try clear c6b1
      try clear c7
      try clear p2
      obtain ⟨x7_2, x22_2, rfl, rfl, HA, HK2, HB⟩ := hrel
      cases gk with
      | zero => exact absurd HA.out (by simp [bag_allowed.l0])
      | succ k2 =>
       have H := HA.out
       clear HA
       simp only [bag_allowed.l0] at H
       by_cases c8 : x22_2 < (l2.length : Int)
       · rw [if_pos c8] at H
         have c8b0 : decide (x22_2 < (l2.length : Int)) = true := dT_ c8
         clear c8
         by_cases c9 : 0 ≤ x22_2
         · rw [if_pos c9] at H
           have c9b0 : decide (0 ≤ x22_2) = true := dT_ c9
           clear c9
           by_cases c10 : x22_2 < (l2.length : Int)
           · rw [if_pos c10] at H
             have c10b0 : decide (x22_2 < (l2.length : Int)) = true := dT_ c10
             clear c10
             have HC11 := Aside0.mk H
             clear H
             have p112 : 0 ≤ (x22_2 : Int) := oT_ (by assumption)
             have q112 : x22_2 < (l2.length : Int) := oT_ (by assumption)
             obtain ⟨ad112, e112, hx112_0, hx112_1, hx112_2⟩ := at_T27 HR2.out x22_2 p112 q112
             cases e112
             replace hx112_0 := (HB.out.cell (bLC_ w _ hx112_0)).trans hx112_0
             replace hx112_1 := (HB.out.cell (bLC_ w _ hx112_1)).trans hx112_1
             replace hx112_2 := (HB.out.cell (bLC_ w _ hx112_2)).trans hx112_2
             replace p112 := eq_true p112
             replace q112 := eq_true q112
             go_upto_region 7 with (first | ((with_reducible refine gate_dst (N := 9) rfl ?_); refine box_event ?hg (N := 9) ?hd (cs := #[.int .u8 0, .int .i64 0, .string (⟨#[]⟩ : ByteArray)]) (t := 27) ?hr ?_; (case hd => rfl); (case hg => rfl); (case hr => first | (go_simp; done) | (go_simp; rfl)); intro gb113 hg w12 hbox hb; have n0_ := Aside0.mk (below_step (by repeat (first | (with_reducible first | exact HB.out | apply bA_ | apply bN_ | apply b1_) | exact HB.out)) hb); have n1_ := Aside0.mk (hbox); have n2_ := Aside0.mk ((by rw [hg]; exact (below_size (by repeat (first | (with_reducible first | exact HB.out | apply bA_ | apply bN_ | apply b1_) | exact HB.out))) : w.heap.size ≤ gb113)); have n3_ := Aside0.mk ((by rw [hg]; exact (below_size (by repeat (first | (with_reducible first | exact HB.out | apply bA_ | apply bN_ | apply b1_) | exact HB.out))) : w.heap.size ≤ gb113)); clear HB; have HB := n0_; have BK113 := n1_; have GW113 := n2_; have GE113 := n3_; clear n0_ n1_ n2_ n3_; clear hb hbox hg; have hcz13_0 : w12.cell? ⟨gb113, 0, none⟩ = some (.int .u8 0) := (blk_cell BK113.out 0).trans rfl; have hcz13_1 : w12.cell? ⟨gb113, 1, none⟩ = some (.int .i64 0) := (blk_cell BK113.out 1).trans rfl; have hcz13_2 : w12.cell? ⟨gb113, 2, none⟩ = some (.string (⟨#[]⟩ : ByteArray)) := (blk_cell BK113.out 2).trans rfl; have hfz13_0 := blk_frozen BK113.out 0; have hfz13_1 := blk_frozen BK113.out 1; have hfz13_2 := blk_frozen BK113.out 2))
             (try simp only [Act.put, sTA_, sCZ_, sCS_])
             go_cut [43] (fun v43 wc => ∃ (kq : Nat) (x43_10 : Bool), v43 = .bool x43_10 ∧ Aside0 (bag_allowed.j2 kq a0 x7_2 l2 (l2.length : Int) x22_2 x43_10 ((rd_T27 l2 x22_2).f0) ((rd_T27 l2 x22_2).f1) ((rd_T27 l2 x22_2).f2) = some r) ∧ Aside0 (kq ≤ k2) ∧ Aside0 (wc.heap[gb113]? = some (.cells #[.int .u8 ((rd_T27 l2 x22_2).f0), .int .i64 ((rd_T27 l2 x22_2).f1), .string ((rd_T27 l2 x22_2).f2)] 27 (0, 0))) ∧ Aside0 (Below w.heap.size w wc))
             case first =>
              have H := HC11.out
              clear HC11
              replace H := Option.bind_eq_some_iff.mp H
              obtain ⟨t114, A140, H⟩ := H
              replace H : (if t114 = true then (if x7_2 = 0 then (bag_allowed.j2 k2 a0 x7_2 l2 (l2.length : Int) x22_2 false ((rd_T27 l2 x22_2).f0) ((rd_T27 l2 x22_2).f1) ((rd_T27 l2 x22_2).f2)) else (if ((rd_T27 l2 x22_2).f0) = 0 then (bag_allowed.j2 k2 a0 x7_2 l2 (l2.length : Int) x22_2 false ((rd_T27 l2 x22_2).f0) ((rd_T27 l2 x22_2).f1) ((rd_T27 l2 x22_2).f2)) else (bag_allowed.j2 k2 a0 x7_2 l2 (l2.length : Int) x22_2 (((rd_T27 l2 x22_2).f0) != x7_2) ((rd_T27 l2 x22_2).f0) ((rd_T27 l2 x22_2).f1) ((rd_T27 l2 x22_2).f2)))) else (bag_allowed.j2 k2 a0 x7_2 l2 (l2.length : Int) x22_2 true ((rd_T27 l2 x22_2).f0) ((rd_T27 l2 x22_2).f1) ((rd_T27 l2 x22_2).f2))) = some r := H
              have A14 := Aside0.mk A140
              clear A140
              by_cases c15 : t114 = true
              · subst c15
                have H1 : (if x7_2 = 0 then (bag_allowed.j2 k2 a0 x7_2 l2 (l2.length : Int) x22_2 false ((rd_T27 l2 x22_2).f0) ((rd_T27 l2 x22_2).f1) ((rd_T27 l2 x22_2).f2)) else (if ((rd_T27 l2 x22_2).f0) = 0 then (bag_allowed.j2 k2 a0 x7_2 l2 (l2.length : Int) x22_2 false ((rd_T27 l2 x22_2).f0) ((rd_T27 l2 x22_2).f1) ((rd_T27 l2 x22_2).f2)) else (bag_allowed.j2 k2 a0 x7_2 l2 (l2.length : Int) x22_2 (((rd_T27 l2 x22_2).f0) != x7_2) ((rd_T27 l2 x22_2).f0) ((rd_T27 l2 x22_2).f1) ((rd_T27 l2 x22_2).f2)))) = some r := by rw [if_pos rfl] at H; exact H
                clear H
                have H := H1
                clear H1
                by_cases c16 : x7_2 = 0
                · rw [if_pos c16] at H
                  have c16b0 : (x7_2 == 0) = true := beq_iff_eq.mpr c16
                  have c16b1 : (x7_2 != 0) = false := bne_eq_false_iff_eq.mpr c16
                  clear c16
                  (first | rw [c16b0] | (simp only [i64_w, i32_w]; rw [c16b0]) | skip)
                  have H' := Aside0.mk H
                  clear H
                  have hcz17_0 : w12.cell? ⟨gb113, 0, none⟩ = some (.int .u8 0) := (blk_cell BK113.out 0).trans rfl
                  have hcz17_1 : w12.cell? ⟨gb113, 1, none⟩ = some (.int .i64 0) := (blk_cell BK113.out 1).trans rfl
                  have hcz17_2 : w12.cell? ⟨gb113, 2, none⟩ = some (.string (⟨#[]⟩ : ByteArray)) := (blk_cell BK113.out 2).trans rfl
                  have hfz17_0 := blk_frozen BK113.out 0
                  have hfz17_1 := blk_frozen BK113.out 1
                  have hfz17_2 := blk_frozen BK113.out 2
                  go_wp2_with (first | ((with_reducible refine gate_callee (f := 40) rfl ?_); refine goesL_ (some 27) rfl rfl Tryd.func40 (by kernel_rfl) rfl #[.agg #[.int .u8 ((rd_T27 l2 x22_2).f0), .int .i64 ((rd_T27 l2 x22_2).f1), .string ((rd_T27 l2 x22_2).f2)]] rfl (by (try simp only [List.map_toArray, List.map_cons, List.map_nil]); first | done | rfl | (simp only [List.length_drop, List.length_take]; rfl)) ?_; (with_reducible refine (value_Valid.calls ((rd_T27 l2 x22_2).f0) ((rd_T27 l2 x22_2).f1) ((rd_T27 l2 x22_2).f2) true _ A14.out).mono ?_); rintro e w18 ⟨rfl, hb⟩; refine ⟨_, rfl, ?_⟩; have n0_ := Aside0.mk (blk_below (g := gb113) (o := .cells #[.int .u8 ((rd_T27 l2 x22_2).f0), .int .i64 ((rd_T27 l2 x22_2).f1), .string ((rd_T27 l2 x22_2).f2)] 27 (0, 0)) (by (with_reducible repeat (first | refine blk_drewN ?_ _ | refine blk_drew ?_ | refine blk_alloc ?_ _)); refine blk_put (cs := #[.int .u8 ((rd_T27 l2 x22_2).f0), .int .i64 ((rd_T27 l2 x22_2).f1), .string (⟨#[]⟩ : ByteArray)]) ?_ 2 _ rfl; (with_reducible repeat (first | refine blk_drewN ?_ _ | refine blk_drew ?_ | refine blk_alloc ?_ _)); refine blk_put (cs := #[.int .u8 ((rd_T27 l2 x22_2).f0), .int .i64 0, .string (⟨#[]⟩ : ByteArray)]) ?_ 1 _ rfl; (with_reducible repeat (first | refine blk_drewN ?_ _ | refine blk_drew ?_ | refine blk_alloc ?_ _)); refine blk_put (cs := #[.int .u8 0, .int .i64 0, .string (⟨#[]⟩ : ByteArray)]) ?_ 0 _ rfl; (with_reducible repeat (first | refine blk_drewN ?_ _ | refine blk_drew ?_ | refine blk_alloc ?_ _)); exact BK113.out) hb); have n1_ := Aside0.mk (below_step (by repeat (first | (with_reducible first | exact HB.out | apply bA_ | apply bN_ | apply b1_ | refine below_set ?_ GE113.out) | exact HB.out)) hb); clear BK113; clear HB; have BK113 := n0_; have HB := n1_; clear n0_ n1_; (try clear hb); (try clear hb2); (try clear hk); (try clear hi)))
                  go_meet
                  case rel => exact ⟨_, (false), (by first | rfl | (simp; done) | (simp [*]; done)), H', ⟨by have := HJ3.out; have := HK2.out; first | omega | exact Nat.le_refl _⟩, ⟨by (with_reducible repeat (first | refine blk_drewN ?_ _ | refine blk_drew ?_ | refine blk_alloc ?_ _)); exact BK113.out⟩, ⟨by repeat (first | (with_reducible first | exact HB.out | apply bA_ | apply bN_ | apply b1_ | refine below_set ?_ GE113.out) | exact HB.out)⟩⟩
                · rw [if_neg c16] at H
                  have c16b0 : (x7_2 == 0) = false := beq_eq_false_iff_ne.mpr c16
                  have c16b1 : (x7_2 != 0) = true := bne_iff_ne.mpr c16
                  (first | rw [c16b0] | (simp only [i64_w, i32_w]; rw [c16b0]) | skip)
                  by_cases c19 : ((rd_T27 l2 x22_2).f0) = 0
                  · rw [if_pos c19] at H
                    have c19b0 : (((rd_T27 l2 x22_2).f0) == 0) = true := beq_iff_eq.mpr c19
                    have c19b1 : (((rd_T27 l2 x22_2).f0) != 0) = false := bne_eq_false_iff_eq.mpr c19
                    clear c19
                    have H' := Aside0.mk H
                    clear H
                    have hcz20_0 : w12.cell? ⟨gb113, 0, none⟩ = some (.int .u8 0) := (blk_cell BK113.out 0).trans rfl
                    have hcz20_1 : w12.cell? ⟨gb113, 1, none⟩ = some (.int .i64 0) := (blk_cell BK113.out 1).trans rfl
                    have hcz20_2 : w12.cell? ⟨gb113, 2, none⟩ = some (.string (⟨#[]⟩ : ByteArray)) := (blk_cell BK113.out 2).trans rfl
                    have hfz20_0 := blk_frozen BK113.out 0
                    have hfz20_1 := blk_frozen BK113.out 1
                    have hfz20_2 := blk_frozen BK113.out 2
                    go_wp2_with (first | ((with_reducible refine gate_callee (f := 40) rfl ?_); refine goesL_ (some 27) rfl rfl Tryd.func40 (by kernel_rfl) rfl #[.agg #[.int .u8 ((rd_T27 l2 x22_2).f0), .int .i64 ((rd_T27 l2 x22_2).f1), .string ((rd_T27 l2 x22_2).f2)]] rfl (by (try simp only [List.map_toArray, List.map_cons, List.map_nil]); first | done | rfl | (simp only [List.length_drop, List.length_take]; rfl)) ?_; (with_reducible refine (value_Valid.calls ((rd_T27 l2 x22_2).f0) ((rd_T27 l2 x22_2).f1) ((rd_T27 l2 x22_2).f2) true _ A14.out).mono ?_); rintro e w21 ⟨rfl, hb⟩; refine ⟨_, rfl, ?_⟩; have n0_ := Aside0.mk (blk_below (g := gb113) (o := .cells #[.int .u8 ((rd_T27 l2 x22_2).f0), .int .i64 ((rd_T27 l2 x22_2).f1), .string ((rd_T27 l2 x22_2).f2)] 27 (0, 0)) (by (with_reducible repeat (first | refine blk_drewN ?_ _ | refine blk_drew ?_ | refine blk_alloc ?_ _)); refine blk_put (cs := #[.int .u8 ((rd_T27 l2 x22_2).f0), .int .i64 ((rd_T27 l2 x22_2).f1), .string (⟨#[]⟩ : ByteArray)]) ?_ 2 _ rfl; (with_reducible repeat (first | refine blk_drewN ?_ _ | refine blk_drew ?_ | refine blk_alloc ?_ _)); refine blk_put (cs := #[.int .u8 ((rd_T27 l2 x22_2).f0), .int .i64 0, .string (⟨#[]⟩ : ByteArray)]) ?_ 1 _ rfl; (with_reducible repeat (first | refine blk_drewN ?_ _ | refine blk_drew ?_ | refine blk_alloc ?_ _)); refine blk_put (cs := #[.int .u8 0, .int .i64 0, .string (⟨#[]⟩ : ByteArray)]) ?_ 0 _ rfl; (with_reducible repeat (first | refine blk_drewN ?_ _ | refine blk_drew ?_ | refine blk_alloc ?_ _)); exact BK113.out) hb); have n1_ := Aside0.mk (below_step (by repeat (first | (with_reducible first | exact HB.out | apply bA_ | apply bN_ | apply b1_ | refine below_set ?_ GE113.out) | exact HB.out)) hb); clear BK113; clear HB; have BK113 := n0_; have HB := n1_; clear n0_ n1_; (try clear hb); (try clear hb2); (try clear hk); (try clear hi); have hcz22_0 : w21.cell? ⟨gb113, 0, none⟩ = some (.int .u8 ((rd_T27 l2 x22_2).f0)) := (blk_cell BK113.out 0).trans rfl; have hcz22_1 : w21.cell? ⟨gb113, 1, none⟩ = some (.int .i64 ((rd_T27 l2 x22_2).f1)) := (blk_cell BK113.out 1).trans rfl; have hcz22_2 : w21.cell? ⟨gb113, 2, none⟩ = some (.string ((rd_T27 l2 x22_2).f2)) := (blk_cell BK113.out 2).trans rfl; have hfz22_0 := blk_frozen BK113.out 0; have hfz22_1 := blk_frozen BK113.out 1; have hfz22_2 := blk_frozen BK113.out 2))
                    go_meet
                    case rel => exact ⟨_, (false), (by first | rfl | (simp; done) | (simp [*]; done)), H', ⟨by have := HJ3.out; have := HK2.out; first | omega | exact Nat.le_refl _⟩, ⟨by (with_reducible repeat (first | refine blk_drewN ?_ _ | refine blk_drew ?_ | refine blk_alloc ?_ _)); exact BK113.out⟩, ⟨by repeat (first | (with_reducible first | exact HB.out | apply bA_ | apply bN_ | apply b1_ | refine below_set ?_ GE113.out) | exact HB.out)⟩⟩
                  · rw [if_neg c19] at H
                    have c19b0 : (((rd_T27 l2 x22_2).f0) == 0) = false := beq_eq_false_iff_ne.mpr c19
                    have c19b1 : (((rd_T27 l2 x22_2).f0) != 0) = true := bne_iff_ne.mpr c19
                    have H' := Aside0.mk H
                    clear H
                    have hcz23_0 : w12.cell? ⟨gb113, 0, none⟩ = some (.int .u8 0) := (blk_cell BK113.out 0).trans rfl
                    have hcz23_1 : w12.cell? ⟨gb113, 1, none⟩ = some (.int .i64 0) := (blk_cell BK113.out 1).trans rfl
                    have hcz23_2 : w12.cell? ⟨gb113, 2, none⟩ = some (.string (⟨#[]⟩ : ByteArray)) := (blk_cell BK113.out 2).trans rfl
                    have hfz23_0 := blk_frozen BK113.out 0
                    have hfz23_1 := blk_frozen BK113.out 1
                    have hfz23_2 := blk_frozen BK113.out 2
                    go_wp2_with (first | ((with_reducible refine gate_callee (f := 40) rfl ?_); refine goesL_ (some 27) rfl rfl Tryd.func40 (by kernel_rfl) rfl #[.agg #[.int .u8 ((rd_T27 l2 x22_2).f0), .int .i64 ((rd_T27 l2 x22_2).f1), .string ((rd_T27 l2 x22_2).f2)]] rfl (by (try simp only [List.map_toArray, List.map_cons, List.map_nil]); first | done | rfl | (simp only [List.length_drop, List.length_take]; rfl)) ?_; (with_reducible refine (value_Valid.calls ((rd_T27 l2 x22_2).f0) ((rd_T27 l2 x22_2).f1) ((rd_T27 l2 x22_2).f2) true _ A14.out).mono ?_); rintro e w24 ⟨rfl, hb⟩; refine ⟨_, rfl, ?_⟩; have n0_ := Aside0.mk (blk_below (g := gb113) (o := .cells #[.int .u8 ((rd_T27 l2 x22_2).f0), .int .i64 ((rd_T27 l2 x22_2).f1), .string ((rd_T27 l2 x22_2).f2)] 27 (0, 0)) (by (with_reducible repeat (first | refine blk_drewN ?_ _ | refine blk_drew ?_ | refine blk_alloc ?_ _)); refine blk_put (cs := #[.int .u8 ((rd_T27 l2 x22_2).f0), .int .i64 ((rd_T27 l2 x22_2).f1), .string (⟨#[]⟩ : ByteArray)]) ?_ 2 _ rfl; (with_reducible repeat (first | refine blk_drewN ?_ _ | refine blk_drew ?_ | refine blk_alloc ?_ _)); refine blk_put (cs := #[.int .u8 ((rd_T27 l2 x22_2).f0), .int .i64 0, .string (⟨#[]⟩ : ByteArray)]) ?_ 1 _ rfl; (with_reducible repeat (first | refine blk_drewN ?_ _ | refine blk_drew ?_ | refine blk_alloc ?_ _)); refine blk_put (cs := #[.int .u8 0, .int .i64 0, .string (⟨#[]⟩ : ByteArray)]) ?_ 0 _ rfl; (with_reducible repeat (first | refine blk_drewN ?_ _ | refine blk_drew ?_ | refine blk_alloc ?_ _)); exact BK113.out) hb); have n1_ := Aside0.mk (below_step (by repeat (first | (with_reducible first | exact HB.out | apply bA_ | apply bN_ | apply b1_ | refine below_set ?_ GE113.out) | exact HB.out)) hb); clear BK113; clear HB; have BK113 := n0_; have HB := n1_; clear n0_ n1_; (try clear hb); (try clear hb2); (try clear hk); (try clear hi); have hcz25_0 : w24.cell? ⟨gb113, 0, none⟩ = some (.int .u8 ((rd_T27 l2 x22_2).f0)) := (blk_cell BK113.out 0).trans rfl; have hcz25_1 : w24.cell? ⟨gb113, 1, none⟩ = some (.int .i64 ((rd_T27 l2 x22_2).f1)) := (blk_cell BK113.out 1).trans rfl; have hcz25_2 : w24.cell? ⟨gb113, 2, none⟩ = some (.string ((rd_T27 l2 x22_2).f2)) := (blk_cell BK113.out 2).trans rfl; have hfz25_0 := blk_frozen BK113.out 0; have hfz25_1 := blk_frozen BK113.out 1; have hfz25_2 := blk_frozen BK113.out 2))
                    go_meet
                    case rel => exact ⟨_, ((((rd_T27 l2 x22_2).f0) != x7_2)), (by first | rfl | (simp; done) | (simp [*]; done)), H', ⟨by have := HJ3.out; have := HK2.out; first | omega | exact Nat.le_refl _⟩, ⟨by (with_reducible repeat (first | refine blk_drewN ?_ _ | refine blk_drew ?_ | refine blk_alloc ?_ _)); exact BK113.out⟩, ⟨by repeat (first | (with_reducible first | exact HB.out | apply bA_ | apply bN_ | apply b1_ | refine below_set ?_ GE113.out) | exact HB.out)⟩⟩
              · replace c15 := Bool.eq_false_iff.mpr c15
                subst c15
                have H1 : (bag_allowed.j2 k2 a0 x7_2 l2 (l2.length : Int) x22_2 true ((rd_T27 l2 x22_2).f0) ((rd_T27 l2 x22_2).f1) ((rd_T27 l2 x22_2).f2)) = some r := by rw [if_neg (show ¬ (false = true) by decide)] at H; exact H
                clear H
                have H := H1
                clear H1
                have H' := Aside0.mk H
                clear H
                have hcz26_0 : w12.cell? ⟨gb113, 0, none⟩ = some (.int .u8 0) := (blk_cell BK113.out 0).trans rfl
                have hcz26_1 : w12.cell? ⟨gb113, 1, none⟩ = some (.int .i64 0) := (blk_cell BK113.out 1).trans rfl
                have hcz26_2 : w12.cell? ⟨gb113, 2, none⟩ = some (.string (⟨#[]⟩ : ByteArray)) := (blk_cell BK113.out 2).trans rfl
                have hfz26_0 := blk_frozen BK113.out 0
                have hfz26_1 := blk_frozen BK113.out 1
                have hfz26_2 := blk_frozen BK113.out 2
                go_wp2_with (first | ((with_reducible refine gate_callee (f := 40) rfl ?_); refine goesL_ (some 27) rfl rfl Tryd.func40 (by kernel_rfl) rfl #[.agg #[.int .u8 ((rd_T27 l2 x22_2).f0), .int .i64 ((rd_T27 l2 x22_2).f1), .string ((rd_T27 l2 x22_2).f2)]] rfl (by (try simp only [List.map_toArray, List.map_cons, List.map_nil]); first | done | rfl | (simp only [List.length_drop, List.length_take]; rfl)) ?_; (with_reducible refine (value_Valid.calls ((rd_T27 l2 x22_2).f0) ((rd_T27 l2 x22_2).f1) ((rd_T27 l2 x22_2).f2) false _ A14.out).mono ?_); rintro e w27 ⟨rfl, hb⟩; refine ⟨_, rfl, ?_⟩; have n0_ := Aside0.mk (blk_below (g := gb113) (o := .cells #[.int .u8 ((rd_T27 l2 x22_2).f0), .int .i64 ((rd_T27 l2 x22_2).f1), .string ((rd_T27 l2 x22_2).f2)] 27 (0, 0)) (by (with_reducible repeat (first | refine blk_drewN ?_ _ | refine blk_drew ?_ | refine blk_alloc ?_ _)); refine blk_put (cs := #[.int .u8 ((rd_T27 l2 x22_2).f0), .int .i64 ((rd_T27 l2 x22_2).f1), .string (⟨#[]⟩ : ByteArray)]) ?_ 2 _ rfl; (with_reducible repeat (first | refine blk_drewN ?_ _ | refine blk_drew ?_ | refine blk_alloc ?_ _)); refine blk_put (cs := #[.int .u8 ((rd_T27 l2 x22_2).f0), .int .i64 0, .string (⟨#[]⟩ : ByteArray)]) ?_ 1 _ rfl; (with_reducible repeat (first | refine blk_drewN ?_ _ | refine blk_drew ?_ | refine blk_alloc ?_ _)); refine blk_put (cs := #[.int .u8 0, .int .i64 0, .string (⟨#[]⟩ : ByteArray)]) ?_ 0 _ rfl; (with_reducible repeat (first | refine blk_drewN ?_ _ | refine blk_drew ?_ | refine blk_alloc ?_ _)); exact BK113.out) hb); have n1_ := Aside0.mk (below_step (by repeat (first | (with_reducible first | exact HB.out | apply bA_ | apply bN_ | apply b1_ | refine below_set ?_ GE113.out) | exact HB.out)) hb); clear BK113; clear HB; have BK113 := n0_; have HB := n1_; clear n0_ n1_; (try clear hb); (try clear hb2); (try clear hk); (try clear hi)))
                go_meet
                case rel => exact ⟨_, (true), (by first | rfl | (simp; done) | (simp [*]; done)), H', ⟨by have := HJ3.out; have := HK2.out; first | omega | exact Nat.le_refl _⟩, ⟨by (with_reducible repeat (first | refine blk_drewN ?_ _ | refine blk_drew ?_ | refine blk_alloc ?_ _)); exact BK113.out⟩, ⟨by repeat (first | (with_reducible first | exact HB.out | apply bA_ | apply bN_ | apply b1_ | refine below_set ?_ GE113.out) | exact HB.out)⟩⟩
             case rest =>
              clear HC11
              try clear c1
              try clear p1
              try clear q1
              try clear hx1
              try clear c2
              try clear p2
              try clear c4
              try clear c5
              try clear c5b0
              try clear c6
              try clear c6b0
              try clear c6b1
              try clear c7
              try clear c8
              try clear c8b0
              try clear c9
              try clear c9b0
              try clear c10
              try clear c10b0
              try clear p11
              try clear q11
              try clear hx11
              try clear c15
              try clear c16
              try clear c16b0
              try clear c16b1
              try clear c19
              try clear c19b0
              try clear c19b1
              try clear c27
              try clear hcz13_0
              try clear hcz13_1
              try clear hcz13_2
              try clear hcz17_0
              try clear hcz17_1
              try clear hcz17_2
              try clear hcz20_0
              try clear hcz20_1
              try clear hcz20_2
              try clear hcz22_0
              try clear hcz22_1
              try clear hcz22_2
              try clear hcz23_0
              try clear hcz23_1
              try clear hcz23_2
              try clear hcz25_0
              try clear hcz25_1
              try clear hcz25_2
              try clear hcz26_0
              try clear hcz26_1
              try clear hcz26_2
              try clear hfz13_0
              try clear hfz13_1
              try clear hfz13_2
              try clear hfz17_0
              try clear hfz17_1
              try clear hfz17_2
              try clear hfz20_0
              try clear hfz20_1
              try clear hfz20_2
              try clear hfz22_0
              try clear hfz22_1
              try clear hfz22_2
              try clear hfz23_0
              try clear hfz23_1
              try clear hfz23_2
              try clear hfz25_0
              try clear hfz25_1
              try clear hfz25_2
              try clear hfz26_0
              try clear hfz26_1
              try clear hfz26_2
              try clear hx112_0
              try clear hx112_1
              try clear hx112_2
              try clear p112
              try clear p2
              try clear q112
              obtain ⟨kq, x43_10, rfl, HA, HJ10, BK113, HB⟩ := hcut
              cases kq with
              | zero => exact absurd HA.out (by simp [bag_allowed.j2])
              | succ kj10 =>
               have H := HA.out
               clear HA
               simp only [bag_allowed.j2] at H
               by_cases c28 : x43_10 = true
               · subst c28
                 have H1 : (some false) = some r := by rw [if_pos rfl] at H; exact H
                 clear H
                 have H := H1
                 clear H1
                 obtain rfl := Option.some.inj H
                 go_wp2
                 go_ret
                 exact ⟨by first | rfl | (simp [*, errW_none, errW_some] <;> rfl), by repeat (first | (with_reducible first | exact HB.out | apply bA_ | apply bN_ | apply b1_ | refine below_set ?_ GE113.out) | exact HB.out)⟩
               · replace c28 := Bool.eq_false_iff.mpr c28
                 subst c28
                 have H1 : (if ((rd_T27 l2 x22_2).f0) = 0 then (bag_allowed.l0 kj10 a0 x7_2 l2 (l2.length : Int) (wrap64 (x22_2 + 1))) else (bag_allowed.l0 kj10 a0 ((rd_T27 l2 x22_2).f0) l2 (l2.length : Int) (wrap64 (x22_2 + 1)))) = some r := by rw [if_neg (show ¬ (false = true) by decide)] at H; exact H
                 clear H
                 have H := H1
                 clear H1
                 by_cases c29 : ((rd_T27 l2 x22_2).f0) = 0
                 · rw [if_pos c29] at H
                   have c29b0 : (((rd_T27 l2 x22_2).f0) == 0) = true := beq_iff_eq.mpr c29
                   have c29b1 : (((rd_T27 l2 x22_2).f0) != 0) = false := bne_eq_false_iff_eq.mpr c29
                   clear c29
                   have H' := Aside0.mk H
                   clear H
                   have hcz30_0 : wc.cell? ⟨gb113, 0, none⟩ = some (.int .u8 ((rd_T27 l2 x22_2).f0)) := (blk_cell BK113.out 0).trans rfl
                   have hcz30_1 : wc.cell? ⟨gb113, 1, none⟩ = some (.int .i64 ((rd_T27 l2 x22_2).f1)) := (blk_cell BK113.out 1).trans rfl
                   have hcz30_2 : wc.cell? ⟨gb113, 2, none⟩ = some (.string ((rd_T27 l2 x22_2).f2)) := (blk_cell BK113.out 2).trans rfl
                   have hfz30_0 := blk_frozen BK113.out 0
                   have hfz30_1 := blk_frozen BK113.out 1
                   have hfz30_2 := blk_frozen BK113.out 2
                   go_wp2
                   go_roundg kj10
                   case measure => have := HJ3.out; have := HK2.out; have := HJ10.out; omega
                   case rel => exact ⟨(x7_2), (wrap64 (x22_2 + 1)), (by first | rfl | (simp; done) | (simp [*]; done)), (by first | rfl | (simp; done) | (simp [*]; done)), H', ⟨by have := HJ3.out; have := HK2.out; have := HJ10.out; omega⟩, ⟨by repeat (first | (with_reducible first | exact HB.out | apply bA_ | apply bN_ | apply b1_ | refine below_set ?_ GE113.out) | exact HB.out)⟩⟩
                 · rw [if_neg c29] at H
                   have c29b0 : (((rd_T27 l2 x22_2).f0) == 0) = false := beq_eq_false_iff_ne.mpr c29
                   have c29b1 : (((rd_T27 l2 x22_2).f0) != 0) = true := bne_iff_ne.mpr c29
                   have H' := Aside0.mk H
                   clear H
                   have hcz31_0 : wc.cell? ⟨gb113, 0, none⟩ = some (.int .u8 ((rd_T27 l2 x22_2).f0)) := (blk_cell BK113.out 0).trans rfl
                   have hcz31_1 : wc.cell? ⟨gb113, 1, none⟩ = some (.int .i64 ((rd_T27 l2 x22_2).f1)) := (blk_cell BK113.out 1).trans rfl
                   have hcz31_2 : wc.cell? ⟨gb113, 2, none⟩ = some (.string ((rd_T27 l2 x22_2).f2)) := (blk_cell BK113.out 2).trans rfl
                   have hfz31_0 := blk_frozen BK113.out 0
                   have hfz31_1 := blk_frozen BK113.out 1
                   have hfz31_2 := blk_frozen BK113.out 2
                   go_wp2
                   go_roundg kj10
                   case measure => have := HJ3.out; have := HK2.out; have := HJ10.out; omega
                   case rel => exact ⟨(((rd_T27 l2 x22_2).f0)), (wrap64 (x22_2 + 1)), (by first | rfl | (simp; done) | (simp [*]; done)), (by first | rfl | (simp; done) | (simp [*]; done)), H', ⟨by have := HJ3.out; have := HK2.out; have := HJ10.out; omega⟩, ⟨by repeat (first | (with_reducible first | exact HB.out | apply bA_ | apply bN_ | apply b1_ | refine below_set ?_ GE113.out) | exact HB.out)⟩⟩
           · rw [if_neg c10] at H
             exact absurd H (by simp)
         · rw [if_neg c9] at H
           exact absurd H (by simp)
       · rw [if_neg c8] at H
         have c8b0 : decide (x22_2 < (l2.length : Int)) = false := dF_ c8
         clear c8
         by_cases c32 : x7_2 = 0
         · rw [if_pos c32] at H
           have c32b0 : (x7_2 == 0) = true := beq_iff_eq.mpr c32
           have c32b1 : (x7_2 != 0) = false := bne_eq_false_iff_eq.mpr c32
           clear c32
           obtain rfl := Option.some.inj H
           go_wp2
           go_ret
           exact ⟨by first | rfl | (simp [*, errW_none, errW_some] <;> rfl), by repeat (first | (with_reducible first | exact HB.out | apply bA_ | apply bN_ | apply b1_) | exact HB.out)⟩
         · rw [if_neg c32] at H
           have c32b0 : (x7_2 == 0) = false := beq_eq_false_iff_ne.mpr c32
           have c32b1 : (x7_2 != 0) = true := bne_iff_ne.mpr c32
           by_cases c33 : x7_2 = 1
           · rw [if_pos c33] at H
             have c33b0 : (x7_2 == 1) = true := beq_iff_eq.mpr c33
             have c33b1 : (x7_2 != 1) = false := bne_eq_false_iff_eq.mpr c33
             clear c33
             obtain rfl := Option.some.inj H
             go_wp2
             go_ret
             exact ⟨by first | rfl | (simp [*, errW_none, errW_some] <;> rfl), by repeat (first | (with_reducible first | exact HB.out | apply bA_ | apply bN_ | apply b1_) | exact HB.out)⟩
           · rw [if_neg c33] at H
             have c33b0 : (x7_2 == 1) = false := beq_eq_false_iff_ne.mpr c33
             have c33b1 : (x7_2 != 1) = true := bne_iff_ne.mpr c33
             by_cases c34 : a0 = 2
             · rw [if_pos c34] at H
               have c34b0 : (a0 == 2) = true := beq_iff_eq.mpr c34
               have c34b1 : (a0 != 2) = false := bne_eq_false_iff_eq.mpr c34
               clear c34
               obtain rfl := Option.some.inj H
               go_wp2
               go_ret
               exact ⟨by first | rfl | (simp [*, errW_none, errW_some] <;> rfl), by repeat (first | (with_reducible first | exact HB.out | apply bA_ | apply bN_ | apply b1_) | exact HB.out)⟩
             · rw [if_neg c34] at H
               have c34b0 : (a0 == 2) = false := beq_eq_false_iff_ne.mpr c34
               have c34b1 : (a0 != 2) = true := bne_iff_ne.mpr c34
               obtain rfl := Option.some.inj H
               go_wp2
               go_ret
               exact ⟨by first | rfl | (simp [*, errW_none, errW_some] <;> rfl), by repeat (first | (with_reducible first | exact HB.out | apply bA_ | apply bN_ | apply b1_) | exact HB.out)⟩
end Go.Proofs.YtecgkcgfeghhgaaDoor.PAll
set_option linter.unusedVariables false
set_option linter.unusedSimpArgs false
namespace Go.Proofs.YtecgkcgfeghhgaaDoor.PAll
open Go.RowKit Go.Proofs.YtecgkcgfeghhgaaDoorW.PrintWords Go.Proofs.YtecgkcgfeghhgaaDoorW.PrintLast Go.Proofs.YtecgkcgfeghhgaaDoorW.PrintMore
def cmpBy : List KeyT → List V → List V → Int
 | [], _, _ => 0
 | k :: ks, a, b => if compareV (rd_T27 a k.f0) (rd_T27 b k.f0) = 0 then cmpBy ks a b else if k.f1 = true then -compareV (rd_T27 a k.f0) (rd_T27 b k.f0) else compareV (rd_T27 a k.f0) (rd_T27 b k.f0)
theorem cmpI_bd (a b : Int) : -1 ≤ cmpI a b ∧ cmpI a b ≤ 1 := by unfold cmpI; split <;> (try split) <;> omega
theorem compareBytes_bd : ∀ a b : List UInt8, -1 ≤ Lib.compareBytes a b ∧ Lib.compareBytes a b ≤ 1
 | [], [] => by simp [Lib.compareBytes]
 | [], _ :: _ => by simp [Lib.compareBytes]
 | _ :: _, [] => by simp [Lib.compareBytes]
 | a :: x, b :: y => by
  have := compareBytes_bd x y
  simp only [Lib.compareBytes]
  split
  · omega
  · split <;> omega
theorem compareV_bd (a b : V) : -1 ≤ compareV a b ∧ compareV a b ≤ 1 := by
 unfold compareV
 have h1 := cmpI_bd a.f0 b.f0
 have h2 := cmpI_bd a.f1 b.f1
 have h3 := compareBytes_bd a.f2.data.toList b.f2.data.toList
 split
 · split
   · omega
   · split <;> omega
 · omega
def KeysIn (ks : List KeyT) (n : Nat) : Prop := ∀ k ∈ ks, 0 ≤ k.f0 ∧ k.f0 < (n : Int)
theorem order1_calls (A0 : Option Addr) (c0 : Nat) (l0 : List V) (A1 : Option Addr) (c1 : Nat) (l1 : List V) (kb : Nat) (AK : Option Addr) (cK : Nat) (ks : List KeyT) (w : World) (hr0 : Kd.C kV w A0 l0.length l0) (hr1 : Kd.C kV w A1 l1.length l1) (hcell : w.cell? ⟨kb, 0, none⟩ = some (.slice AK ks.length cK)) (hks : Kd.C kKey w AK ks.length ks) (hin0 : KeysIn ks l0.length) (hin1 : KeysIn ks l1.length) (hk : ∀ v ∈ l0, KindOk v) (hn : ks.length ≤ 1099511627776) :
 Calls Tryd.prog 58 #[.slice A0 l0.length c0, .slice A1 l1.length c1, .pointer (some ⟨kb, 0, none⟩)] w fun e w' => e = .returned (.int .i64 (cmpBy ks l0 l1)) ∧ Gr w w' := by
 have HR0 := Aside0.mk hr0
 have HR1 := Aside0.mk hr1
 have HKS := Aside0.mk hks
 have HI0 := Aside0.mk hin0
 have HI1 := Aside0.mk hin1
 have HK := Aside0.mk hk
 have HN := Aside0.mk hn
 clear hr0 hr1 hks hin0 hin1 hk hn
 go_enter Tryd.func58, Tryd.ntmps58
 go_wp2
 clear hcell
 go_loopg [11] ks.length (fun kq v11 W => ∃ x : Int, v11 = .int .i64 x ∧ Aside0 (0 ≤ x ∧ x ≤ ks.length ∧ (kq : Int) = ks.length - x) ∧ Aside0 (cmpBy ks l0 l1 = cmpBy (ks.drop x.toNat) l0 l1) ∧ Aside0 (Gr w W))
 case atStart => exact ⟨0, rfl, ⟨by omega⟩, ⟨rfl⟩, ⟨Gr.refl _⟩⟩
 case round =>
  obtain ⟨x, rfl, HX, HI, HB⟩ := hrel
  obtain ⟨hx0, hx1, hkq⟩ := HX.out
  by_cases hlt : x < (ks.length : Int)
  · have c1' : decide (x < (ks.length : Int)) = true := decide_eq_true hlt
    have c2 : decide (0 ≤ x) = true := decide_eq_true hx0
    obtain ⟨ad, e, hx_0, hx_1⟩ := at_T62 HKS.out x hx0 hlt
    cases e
    replace hx_0 := (HB.out.below.cell (World.block_lt_of_cell? w _ hx_0)).trans hx_0
    replace hx_1 := (HB.out.below.cell (World.block_lt_of_cell? w _ hx_1)).trans hx_1
    have hi : x.toNat < ks.length := by omega
    have hrd : rd_T62 ks x = ks[x.toNat] := by simp [rd_T62, List.getElem?_eq_getElem hi]
    have hI0 := HI0.out (rd_T62 ks x) (by rw [hrd]; exact List.getElem_mem hi)
    have hI1 := HI1.out (rd_T62 ks x) (by rw [hrd]; exact List.getElem_mem hi)
    rw [drop_cons ks x.toNat hi, ← hrd] at HI
    obtain ⟨y, hy⟩ : ∃ y, y = rd_T62 ks x := ⟨_, rfl⟩
    rw [← hy] at hx_0 hx_1 HI hI0 hI1
    obtain ⟨n, hn⟩ : ∃ n, n = y.f0 := ⟨_, rfl⟩
    obtain ⟨d, hd⟩ : ∃ d, d = y.f1 := ⟨_, rfl⟩
    rw [← hn] at hx_0 hI0 hI1
    rw [← hd] at hx_1
    have HD := Aside0.mk hd
    clear hd
    obtain ⟨hn0, hn1⟩ := hI0
    obtain ⟨_, hn2⟩ := hI1
    have HWR : Aside0 (wrap64 (x + 1) = x + 1) := ⟨by have := HN.out; unfold wrap64; omega⟩
    have HLT := Aside0.mk hlt
    have HKQ := Aside0.mk hkq
    have HNE := Aside0.mk hn
    have HHI := Aside0.mk hi
    clear hy hkq hrd hn
    clear hi
    have n1 : decide (0 ≤ n) = true := decide_eq_true hn0
    have n2 : decide (n < (l0.length : Int)) = true := decide_eq_true hn1
    have n3 : decide (n < (l1.length : Int)) = true := decide_eq_true hn2
    obtain ⟨adA, e, ha_0, ha_1, ha_2⟩ := at_T27 HR0.out n hn0 hn1
    cases e
    obtain ⟨adB, e, hb_0, hb_1, hb_2⟩ := at_T27 HR1.out n hn0 hn2
    cases e
    have hkv : KindOk (rd_T27 l0 n) := HK.out _ (by
     have : n.toNat < l0.length := by omega
     simp [rd_T27, List.getElem?_eq_getElem this])
    obtain ⟨va, hva⟩ : ∃ v, v = rd_T27 l0 n := ⟨_, rfl⟩
    obtain ⟨vb, hvb⟩ : ∃ v, v = rd_T27 l1 n := ⟨_, rfl⟩
    rw [← hva] at ha_0 ha_1 ha_2 hkv
    rw [← hvb] at hb_0 hb_1 hb_2
    have HKV := Aside0.mk hkv
    have HVA := Aside0.mk hva
    have HVB := Aside0.mk hvb
    clear hva hvb hkv
    have B2 := Aside0.mk (HB.out.alloc (.cells #[.int .i64 n, .bool d] 62))
    obtain ⟨W2, hW2⟩ : ∃ W2, W2 = wr.alloc (.cells #[.int .i64 n, .bool d] 62) := ⟨_, rfl⟩
    have D0 : W2.cell? ⟨wr.heap.size, 0, none⟩ = some (.int .i64 n) := by rw [hW2]; exact (blk_cell (heap_alloc_new _ _) 0).trans rfl
    have D1 : W2.cell? ⟨wr.heap.size, 1, none⟩ = some (.bool d) := by rw [hW2]; exact (blk_cell (heap_alloc_new _ _) 1).trans rfl
    rw [← hW2] at B2
    replace ha_0 := (B2.out.below.cell (World.block_lt_of_cell? w _ ha_0)).trans ha_0
    replace ha_1 := (B2.out.below.cell (World.block_lt_of_cell? w _ ha_1)).trans ha_1
    replace ha_2 := (B2.out.below.cell (World.block_lt_of_cell? w _ ha_2)).trans ha_2
    replace hb_0 := (B2.out.below.cell (World.block_lt_of_cell? w _ hb_0)).trans hb_0
    replace hb_1 := (B2.out.below.cell (World.block_lt_of_cell? w _ hb_1)).trans hb_1
    replace hb_2 := (B2.out.below.cell (World.block_lt_of_cell? w _ hb_2)).trans hb_2
    go_wp2_with fail
    rw [← hW2]
    have HW2 := Aside0.mk hW2
    clear hW2
    go_region_held3 (fun W' => W'.cell? ⟨wr.heap.size, 0, none⟩ = some (.int .i64 n) ∧ W'.cell? (adA.add (n.toNat * 3)) = some (.int .u8 va.f0) ∧ W'.cell? ⟨(adA.add (n.toNat * 3)).block, (adA.add (n.toNat * 3)).off + 1, none⟩ = some (.int .i64 va.f1) ∧ W'.cell? ⟨(adA.add (n.toNat * 3)).block, (adA.add (n.toNat * 3)).off + 2, none⟩ = some (.string va.f2) ∧ W'.cell? (adB.add (n.toNat * 3)) = some (.int .u8 vb.f0) ∧ W'.cell? ⟨(adB.add (n.toNat * 3)).block, (adB.add (n.toNat * 3)).off + 1, none⟩ = some (.int .i64 vb.f1) ∧ W'.cell? ⟨(adB.add (n.toNat * 3)).block, (adB.add (n.toNat * 3)).off + 2, none⟩ = some (.string vb.f2)) (go_keep) (first | (go_at_call 59; refine (compare_calls va vb HKV.out _).mono ?_; rintro e w1 ⟨rfl, hb1⟩; have r0 := cB_ (w := W2.drew) hb1.below D0; have r1 := cB_ (w := W2.drew) hb1.below ha_0; have r2 := cB_ (w := W2.drew) hb1.below ha_1; have r3 := cB_ (w := W2.drew) hb1.below ha_2; have r4 := cB_ (w := W2.drew) hb1.below hb_0; have r5 := cB_ (w := W2.drew) hb1.below hb_1; have r6 := cB_ (w := W2.drew) hb1.below hb_2; have r7 := cB_ (w := W2.drew) hb1.below D1; have HB1 := Aside0.mk (B2.out.drew.trans hb1); clear hb1))
    obtain ⟨c, hc⟩ : ∃ c, c = compareV va vb := ⟨_, rfl⟩
    obtain ⟨hc1, hc2⟩ := compareV_bd va vb
    rw [← hc]
    rw [← hc] at hc1 hc2
    have HIc : Aside0 (cmpBy ks l0 l1 = if c = 0 then cmpBy (ks.drop (x.toNat + 1)) l0 l1 else if d = true then -c else c) := ⟨by rw [HI.out]; simp only [cmpBy]; rw [← HNE.out, ← HVA.out, ← HVB.out, ← hc, ← HD.out]⟩
    clear hc r0 r1 r2 r3 r4 r5 r6
    by_cases h0 : c = 0
    · have z1 : (c == 0) = true := by simp [h0]
      have HI2 : Aside0 (cmpBy ks l0 l1 = cmpBy (ks.drop (x + 1).toNat) l0 l1) := ⟨by rw [HIc.out, if_pos h0, show (x + 1).toNat = x.toNat + 1 by omega]⟩
      clear h0
      go_wp2
      have hlt := HLT.out
      have hk := HKQ.out
      cases gk with
      | zero => omega
      | succ k1 =>
       go_roundg k1
       case measure => omega
       case rel => exact ⟨x + 1, by rw [HWR.out], ⟨by omega⟩, HI2, HB1⟩
    · have z1 : (c == 0) = false := by simpa using h0
      cases d with
      | true =>
       have H : Aside0 (cmpBy ks l0 l1 = -c) := ⟨by rw [HIc.out, if_neg h0, if_pos rfl]⟩
       clear h0
       go_wp2
       go_ret
       refine ⟨?_, HB1.out⟩
       rw [H.out]; rfl
      | false =>
       have H : Aside0 (cmpBy ks l0 l1 = c) := ⟨by rw [HIc.out, if_neg h0, if_neg (by simp)]⟩
       clear h0
       go_wp2
       go_ret
       refine ⟨?_, HB1.out⟩
       rw [H.out]; rfl
  · have c1' : decide (x < (ks.length : Int)) = false := decide_eq_false hlt
    go_wp2
    go_ret
    refine ⟨?_, HB.out⟩
    rw [HI.out, List.drop_eq_nil_of_le (by omega)]
    rfl
def cmpFull (ks : List KeyT) (a b : List V) : Int := if cmpBy ks a b = 0 then cmpRows a b else cmpBy ks a b
theorem arranged1_calls (A0 : Option Addr) (c0 : Nat) (l0 : List V) (A1 : Option Addr) (c1 : Nat) (l1 : List V) (bb kb : Nat) (AK : Option Addr) (cK : Nat) (ks : List KeyT) (w : World) (hr0 : Kd.C kV w A0 l0.length l0) (hr1 : Kd.C kV w A1 l1.length l1) (hby : w.cell? ⟨bb, 0, none⟩ = some (.func (.func 58) #[] #[.pointer (some ⟨kb, 0, none⟩)])) (hcell : w.cell? ⟨kb, 0, none⟩ = some (.slice AK ks.length cK)) (hks : Kd.C kKey w AK ks.length ks) (hin0 : KeysIn ks l0.length) (hin1 : KeysIn ks l1.length) (hk : ∀ v ∈ l0, KindOk v) (hn : ks.length ≤ 1099511627776) (hn0 : l0.length ≤ 1099511627776) (hn1 : l1.length ≤ 1099511627776) :
 Calls Tryd.prog 51 #[.slice A0 l0.length c0, .slice A1 l1.length c1, .pointer (some ⟨bb, 0, none⟩)] w fun e w' => e = .returned (.int .i64 (cmpFull ks l0 l1)) ∧ Gr w w' := by
 have H1 := Aside0.mk (order1_calls A0 c0 l0 A1 c1 l1 kb AK cK ks w hr0 hr1 hcell hks hin0 hin1 hk hn)
 have H2 : Aside0 (∀ w1, Gr w w1 → Calls Tryd.prog 52 #[.slice A0 l0.length c0, .slice A1 l1.length c1] w1 fun e w' => e = .returned (.int .i64 (cmpRows l0 l1)) ∧ Gr w1 w') := ⟨fun w1 hb => compareRows_calls A0 c0 l0 A1 c1 l1 w1 (Kd.C_below hr0 hb.below) (Kd.C_below hr1 hb.below) hk hn0 hn1⟩
 clear hr0 hr1 hcell hks hin0 hin1 hk hn hn0 hn1
 obtain ⟨c, hc⟩ : ∃ c, c = cmpBy ks l0 l1 := ⟨_, rfl⟩
 rw [← hc] at H1
 go_enter Tryd.func51, Tryd.ntmps51
 have HC := Aside0.mk hc
 clear hc
 go_wp2_with fail
 refine H1.out.mono ?_
 rintro e w1 ⟨rfl, hb1⟩
 have HB1 := Aside0.mk hb1
 clear hb1
 by_cases h0 : c = 0
 · have z1 : (c != 0) = false := by simp [h0]
   have H : Aside0 (cmpFull ks l0 l1 = cmpRows l0 l1) := ⟨by unfold cmpFull; rw [if_pos (by rw [← HC.out, h0])]⟩
   clear h0
   go_wp2_with fail
   refine (H2.out w1 HB1.out).mono ?_
   rintro e w2 ⟨rfl, hb2⟩
   have HB2 := Aside0.mk (HB1.out.trans hb2)
   clear hb2
   go_wp2
   go_ret
   refine ⟨?_, HB2.out⟩
   rw [H.out]; rfl
 · have z1 : (c != 0) = true := by simpa using h0
   have H : Aside0 (cmpFull ks l0 l1 = c) := ⟨by unfold cmpFull; rw [if_neg (by rw [← HC.out]; exact h0), HC.out]⟩
   clear h0
   go_wp2
   go_ret
   refine ⟨?_, HB1.out⟩
   rw [H.out]; rfl
structure Ord {α : Type} (c : α → α → Int) : Prop where
 flip : ∀ a b, c b a = -c a b
 trans : ∀ a b d, c a b ≤ 0 → c b d ≤ 0 → c a d ≤ 0
theorem Ord.zero {α : Type} : Ord (fun _ _ : α => (0 : Int)) := ⟨fun _ _ => rfl, fun _ _ _ _ _ => Int.le_refl _⟩
theorem Ord.pull {α β : Type} {c : α → α → Int} (h : Ord c) (f : β → α) : Ord (fun a b => c (f a) (f b)) := ⟨fun a b => h.flip _ _, fun a b d => h.trans _ _ _⟩
theorem Ord.neg {α : Type} {c : α → α → Int} (h : Ord c) : Ord (fun a b => -c a b) := ⟨fun a b => by have := h.flip a b; omega, fun a b d h1 h2 => by
 have e1 := h.flip a b
 have e2 := h.flip b d
 have e3 := h.flip a d
 have := h.trans d b a (by omega) (by omega)
 omega⟩
theorem Ord.lex {α κ : Type} {c1 : α → α → Int} {c2 : κ → α → α → Int} (h1 : Ord c1) (h2 : ∀ k, Ord (c2 k)) (f : α → κ) (hf : ∀ a b, c1 a b = 0 → f a = f b) : Ord (fun a b => if c1 a b = 0 then c2 (f a) a b else c1 a b) := by
 refine ⟨fun a b => ?_, fun a b d k1 k2 => ?_⟩
 · have e := h1.flip a b
   by_cases h : c1 a b = 0
   · rw [if_pos h, if_pos (by omega), ← hf a b h]
     exact (h2 _).flip a b
   · rw [if_neg h, if_neg (by omega)]
     exact e
 · have eab := h1.flip a b
   have ebd := h1.flip b d
   have ead := h1.flip a d
   have p1 : c1 a b ≤ 0 := by
    split at k1 <;> omega
   have p2 : c1 b d ≤ 0 := by
    split at k2 <;> omega
   have p3 := h1.trans a b d p1 p2
   show (if c1 a d = 0 then _ else _) ≤ 0
   by_cases h : c1 a d = 0
   · have q1 := h1.trans d a b (by omega) p1
     have q2 := h1.trans b d a p2 (by omega)
     have z1 : c1 a b = 0 := by omega
     have z2 : c1 b d = 0 := by omega
     rw [if_pos z1] at k1
     rw [if_pos z2, ← hf a b z1] at k2
     rw [if_pos h]
     exact (h2 _).trans a b d k1 k2
   · rw [if_neg h]
     exact p3
theorem cmpI_ord : Ord cmpI := ⟨fun a b => by unfold cmpI; repeat' split <;> omega, fun a b d => by unfold cmpI; repeat' split <;> omega⟩
theorem cmpI_zero {a b : Int} (h : cmpI a b = 0) : a = b := by unfold cmpI at h; split at h <;> (try split at h) <;> omega
theorem u8_tri (a b : UInt8) : a < b ∨ a = b ∨ b < a := by
 simp only [UInt8.lt_iff_toNat_lt, ← UInt8.toNat_inj]
 omega
theorem compareBytes_flip : ∀ a b : List UInt8, Lib.compareBytes b a = -Lib.compareBytes a b
 | [], [] => rfl
 | [], _ :: _ => rfl
 | _ :: _, [] => rfl
 | a :: x, b :: y => by
  have ih := compareBytes_flip x y
  simp only [Lib.compareBytes]
  rcases u8_tri a b with h | h | h
  · have h2 := UInt8.lt_asymm h
    simp [h, h2]
  · subst h
    simpa using ih
  · have h2 := UInt8.lt_asymm h
    simp [h, h2]
theorem compareBytes_trans : ∀ a b d : List UInt8, Lib.compareBytes a b ≤ 0 → Lib.compareBytes b d ≤ 0 → Lib.compareBytes a d ≤ 0
 | [], _, [] => fun _ _ => by simp [Lib.compareBytes]
 | [], _, _ :: _ => fun _ _ => by simp [Lib.compareBytes]
 | _ :: _, [], _ => fun h _ => by simp [Lib.compareBytes] at h
 | _ :: _, _ :: _, [] => fun _ h => by simp [Lib.compareBytes] at h
 | a :: x, b :: y, d :: z => fun h1 h2 => by
  have ih := compareBytes_trans x y z
  simp only [Lib.compareBytes] at h1 h2 ⊢
  simp only [UInt8.lt_iff_toNat_lt] at *
  repeat' split at h1
  all_goals repeat' split at h2
  all_goals repeat' split
  all_goals first | omega | (exact ih h1 h2)
theorem compareBytes_ord : Ord Lib.compareBytes := ⟨compareBytes_flip, compareBytes_trans⟩
theorem compareBytes_zero : ∀ {a b : List UInt8}, Lib.compareBytes a b = 0 → a = b
 | [], [], _ => rfl
 | [], _ :: _, h => by simp [Lib.compareBytes] at h
 | _ :: _, [], h => by simp [Lib.compareBytes] at h
 | a :: x, b :: y, h => by
  simp only [Lib.compareBytes] at h
  rcases u8_tri a b with h1 | h1 | h1
  · rw [if_pos h1] at h; omega
  · subst h1
    rw [if_neg (UInt8.lt_irrefl _), if_neg (UInt8.lt_irrefl _)] at h
    rw [compareBytes_zero h]
  · rw [if_neg (UInt8.lt_asymm h1), if_pos h1] at h; omega
theorem compareV_ord : Ord compareV := by
 have h := Ord.lex (c1 := fun a b : V => cmpI a.f0 b.f0) (c2 := fun (k : Int) (a b : V) => if k = 0 then 0 else if k = 2 then Lib.compareBytes a.f2.data.toList b.f2.data.toList else cmpI a.f1 b.f1) (cmpI_ord.pull _) (fun k => ?_) (fun a => a.f0) (fun a b h => cmpI_zero h)
 · exact h
 · by_cases h0 : k = 0
   · simp only [if_pos h0]; exact Ord.zero
   · by_cases h2 : k = 2
     · simp only [if_neg h0, if_pos h2]; exact compareBytes_ord.pull _
     · simp only [if_neg h0, if_neg h2]; exact cmpI_ord.pull _
theorem bytes_ext {a b : ByteArray} (h : a.data.toList = b.data.toList) : a = b := by
 cases a; cases b
 simpa using h
theorem noText_eq {s : ByteArray} (h : noText s = true) : s = ⟨#[]⟩ := by
 unfold noText at h
 rw [beq_iff_eq] at h
 have h2 : s.toList = s.data.toList := ByteArray.toList_eq s
 exact bytes_ext (by rw [← h2, h])
theorem valid_kind {v : V} (h : validV v = true) : KindOk v := by
 unfold validV at h
 unfold KindOk
 repeat' split at h
 all_goals first | omega | (simp at h)
theorem V_ext {a b : V} (h0 : a.f0 = b.f0) (h1 : a.f1 = b.f1) (h2 : a.f2 = b.f2) : a = b := by cases a; cases b; simp_all
theorem compareV_zero {a b : V} (ha : validV a = true) (hb : validV b = true) (h : compareV a b = 0) : a = b := by
 unfold compareV at h
 split at h
 · rename_i h0
   have h0 := cmpI_zero h0
   unfold validV at ha hb
   rw [← h0] at hb
   by_cases k0 : a.f0 = 0
   · rw [if_pos k0] at ha hb
     simp only [Bool.and_eq_true, beq_iff_eq] at ha hb
     exact V_ext h0 (by omega) (by rw [noText_eq ha.2, noText_eq hb.2])
   · rw [if_neg k0] at ha hb h
     by_cases k2 : a.f0 = 2
     · rw [if_neg (by omega), if_pos k2] at ha hb
       rw [if_pos k2] at h
       simp only [Bool.and_eq_true, beq_iff_eq] at ha hb
       exact V_ext h0 (by omega) (bytes_ext (compareBytes_zero h))
     · rw [if_neg k2] at h
       have h1 := cmpI_zero h
       refine V_ext h0 h1 ?_
       by_cases k1 : a.f0 = 1
       · rw [if_pos k1] at ha hb
         rw [noText_eq ha, noText_eq hb]
       · rw [if_neg k1, if_neg k2] at ha hb
         split at ha
         · rename_i k3
           rw [if_pos k3] at hb
           simp only [Bool.and_eq_true] at ha hb
           rw [noText_eq ha.1, noText_eq hb.1]
         · cases ha
 · omega
theorem cmpRows_flip : ∀ a b : List V, cmpRows b a = -cmpRows a b
 | [], [] => rfl
 | [], _ :: _ => rfl
 | _ :: _, [] => rfl
 | a :: x, b :: y => by
  have ih := cmpRows_flip x y
  have e := compareV_ord.flip a b
  simp only [cmpRows]
  by_cases h : compareV a b = 0
  · rw [if_pos h, if_pos (by omega)]; exact ih
  · rw [if_neg h, if_neg (by omega)]; exact e
theorem cmpRows_trans : ∀ a b d : List V, cmpRows a b ≤ 0 → cmpRows b d ≤ 0 → cmpRows a d ≤ 0
 | [], _, [] => fun _ _ => by simp [cmpRows]
 | [], _, _ :: _ => fun _ _ => by simp [cmpRows]
 | _ :: _, [], _ => fun h _ => by simp [cmpRows] at h
 | _ :: _, _ :: _, [] => fun _ h => by simp [cmpRows] at h
 | a :: x, b :: y, d :: z => fun k1 k2 => by
  have ih := cmpRows_trans x y z
  simp only [cmpRows] at k1 k2 ⊢
  have eab := compareV_ord.flip a b
  have ebd := compareV_ord.flip b d
  have ead := compareV_ord.flip a d
  have p1 : compareV a b ≤ 0 := by split at k1 <;> omega
  have p2 : compareV b d ≤ 0 := by split at k2 <;> omega
  have p3 := compareV_ord.trans a b d p1 p2
  by_cases h : compareV a d = 0
  · have q1 := compareV_ord.trans d a b (by omega) p1
    have q2 := compareV_ord.trans b d a p2 (by omega)
    rw [if_pos (by omega)] at k1 k2
    rw [if_pos h]
    exact ih k1 k2
  · rw [if_neg h]
    exact p3
theorem cmpRows_ord : Ord cmpRows := ⟨cmpRows_flip, cmpRows_trans⟩
theorem cmpRows_zero : ∀ {a b : List V}, (∀ v ∈ a, validV v = true) → (∀ v ∈ b, validV v = true) → cmpRows a b = 0 → a = b
 | [], [], _, _, _ => rfl
 | [], _ :: _, _, _, h => by simp [cmpRows] at h
 | _ :: _, [], _, _, h => by simp [cmpRows] at h
 | a :: x, b :: y, ha, hb, h => by
  simp only [cmpRows] at h
  split at h
  · rename_i h0
    rw [compareV_zero (ha a List.mem_cons_self) (hb b List.mem_cons_self) h0, cmpRows_zero (fun v hv => ha v (List.mem_cons_of_mem _ hv)) (fun v hv => hb v (List.mem_cons_of_mem _ hv)) h]
  · omega
theorem cmpBy_ord : ∀ ks : List KeyT, Ord (cmpBy ks)
 | [] => Ord.zero
 | k :: ks => by
  have ih := cmpBy_ord ks
  have h := Ord.lex (c1 := fun a b : List V => if k.f1 = true then -compareV (rd_T27 a k.f0) (rd_T27 b k.f0) else compareV (rd_T27 a k.f0) (rd_T27 b k.f0)) (c2 := fun (_ : Unit) => cmpBy ks) (by
   by_cases hk : k.f1 = true
   · simp only [if_pos hk]; exact (compareV_ord.pull (fun a => rd_T27 a k.f0)).neg
   · simp only [if_neg hk]; exact compareV_ord.pull (fun a => rd_T27 a k.f0)) (fun _ => ih) (fun _ => ()) (fun _ _ _ => rfl)
  have e : cmpBy (k :: ks) = fun a b => if (if k.f1 = true then -compareV (rd_T27 a k.f0) (rd_T27 b k.f0) else compareV (rd_T27 a k.f0) (rd_T27 b k.f0)) = 0 then cmpBy ks a b else (if k.f1 = true then -compareV (rd_T27 a k.f0) (rd_T27 b k.f0) else compareV (rd_T27 a k.f0) (rd_T27 b k.f0)) := by
   funext a b
   simp only [cmpBy]
   generalize compareV (rd_T27 a k.f0) (rd_T27 b k.f0) = c
   by_cases hk : k.f1 = true
   · simp only [if_pos hk]
     by_cases hc : c = 0
     · rw [if_pos hc, if_pos (by omega)]
     · rw [if_neg hc, if_neg (by omega)]
   · simp only [if_neg hk]
  rw [e]
  exact h
theorem cmpFull_ord (ks : List KeyT) : Ord (cmpFull ks) := Ord.lex (c2 := fun (_ : Unit) => cmpRows) (cmpBy_ord ks) (fun _ => cmpRows_ord) (fun _ => ()) (fun _ _ _ => rfl)
theorem cmpFull_zero {ks : List KeyT} {a b : List V} (ha : ∀ v ∈ a, validV v = true) (hb : ∀ v ∈ b, validV v = true) (h : cmpFull ks a b = 0) : a = b := by
 unfold cmpFull at h
 split at h
 · exact cmpRows_zero ha hb h
 · omega
def sortR (ks : List KeyT) (l : List (List V)) : List (List V) := l.mergeSort (fun a b => decide (cmpFull ks a b ≤ 0))
theorem sortR_perm (ks : List KeyT) (l : List (List V)) : (sortR ks l).Perm l := List.mergeSort_perm _ _
theorem sortR_pair (ks : List KeyT) (l : List (List V)) : (sortR ks l).Pairwise (fun a b => cmpFull ks a b ≤ 0) := by
 have h := List.pairwise_mergeSort (le := fun a b => decide (cmpFull ks a b ≤ 0)) (fun a b c h1 h2 => by
  simp only [decide_eq_true_eq] at h1 h2 ⊢
  exact (cmpFull_ord ks).trans a b c h1 h2) (fun a b => by
  have := (cmpFull_ord ks).flip a b
  simp only [Bool.or_eq_true, decide_eq_true_eq]
  omega) l
 exact h.imp (fun h => of_decide_eq_true h)
theorem sortR_unique {ks : List KeyT} {l r : List (List V)} (hv : ∀ row ∈ l, ∀ v ∈ row, validV v = true) (hp : r.Perm l) (hs : r.Pairwise (fun a b => cmpFull ks a b ≤ 0)) : r = sortR ks l := by
 refine List.Perm.eq_of_pairwise (le := fun a b => cmpFull ks a b ≤ 0) (fun a b ha hb h1 h2 => ?_) hs (sortR_pair ks l) (hp.trans (sortR_perm ks l).symm)
 have hfl := (cmpFull_ord ks).flip a b
 exact cmpFull_zero (ks := ks) (hv a (hp.mem_iff.1 ha)) (hv b ((sortR_perm ks l).mem_iff.1 hb)) (by omega)
theorem infoV : (Tryd.prog.info? 27).map (fun i => (i.zero, i.size, i.bytes)) = some (some (.agg #[(.int .u8 0), (.int .i64 0), (.string ⟨#[]⟩)]), 3, 32) := by kernel_rfl
theorem infoRow : (Tryd.prog.info? 58).map (fun i => (i.zero, i.size, i.bytes)) = some (some (.slice none 0 0), 1, 24) := by kernel_rfl
theorem R_empty {α : Type} (d : Kd α) (e : Nat) (w : World) : Kd.R d e (w.alloc (.cells #[] e)) w.heap.size (fun _ => True) (.slice (some ⟨w.heap.size, 0, none⟩) 0 0) [] :=
 ⟨fun _ _ => trivial, [], ⟨by simp, .inr ⟨w.heap.size, 0, #[], rfl, Nat.le_refl _, heap_alloc_new _ _, Nat.le_refl _, by decide, by simp, by simp⟩⟩, Reps.none _ _⟩
theorem clone_calls (A0 : Option Addr) (c0 : Nat) (l0 : List V) (w : World) (hr0 : Kd.C kV w A0 l0.length l0) (hn : l0.length ≤ 1099511627776) :
 Calls Tryd.prog 48 #[.slice A0 l0.length c0] w fun e w' => ∃ v : Value, e = .returned v ∧ Kd.R kV 27 w' w.heap.size (fun _ => True) v l0 ∧ Below w.heap.size w w' := by
 have qT : ∀ (w : World) (a : Option Addr) (n c n' c' : Nat), (binOp .eql 58 (.slice a n c) (.slice none n' c')).run Tryd.prog w = .ok (.bool a.isNone) w := fun w a n c n' c' => Lib.run_eql_slice_nil w _ _ a n c n' c' Tryd.underlying58
 have HR0 := Aside0.mk hr0
 have HN := Aside0.mk hn
 clear hr0 hn
 cases A0 with
 | none =>
  have hl : l0 = [] := by
   rcases Nat.eq_zero_or_pos l0.length with h | h
   · exact List.eq_nil_of_length_eq_zero h
   · obtain ⟨ad, h2, _⟩ := HR0.out.2.2 h
     cases h2
  have HL := Aside0.mk hl
  clear hl
  go_enter Tryd.func48, Tryd.ntmps48
  go_wp2
  go_ret
  refine ⟨_, rfl, ?_, Below.refl _ _⟩
  rw [HL.out]
  exact Kd.R_nil _ _ _ _ _
 | some ad =>
  go_enter Tryd.func48, Tryd.ntmps48
  have HO : Aside0 (Kd.R kV 27 (w.alloc (.cells #[] 27)) w.heap.size (fun _ => True) (.slice (some ⟨w.heap.size, 0, none⟩) 0 0) []) := ⟨R_empty kV 27 w⟩
  have HB := Aside0.mk ((Below.refl w.heap.size w).alloc (Nat.le_refl _) (.cells #[] 27))
  have HR1 := Aside0.mk (Kd.C_below HR0.out HB.out)
  go_wp2_with (at_builtin; refine Kd.R_append_rows kV (w0 := w) w.heap.size rfl (.tmp 5) (.tmp 6) 58 27 (.agg #[(.int .u8 0), (.int .i64 0), (.string ⟨#[]⟩)]) 32 rfl Tryd.underlying58 infoV rfl (by decide) (by decide) _ [] l0 (some ad) l0.length c0 (fun _ => True) (fun _ => False) rfl rfl HO.out HR1.out (fun x cs h => by obtain rfl := k27_open h; exact k27_mkM _ _ _ x) (fun _ h => h.elim) (fun _ _ => trivial) HB.out HB.out.size (by have := HN.out; simp; omega) ?_; intro v1 w1 hR hb hg hat; have HO1 := Aside0.mk hR; have HB1 := Aside0.mk hb; clear hR hb hg hat)
  obtain ⟨Av, cv, ev⟩ := Kd.R_slice HO1.out
  cases ev
  go_wp2
  go_ret
  exact ⟨_, rfl, HO1.out, HB1.out⟩
end Go.Proofs.YtecgkcgfeghhgaaDoor.PAll
set_option linter.unusedVariables false
set_option linter.unusedSimpArgs false
namespace Go.Proofs.YtecgkcgfeghhgaaDoor.PAll
open Go.RowKit Go.Proofs.YtecgkcgfeghhgaaDoorW.PrintWords Go.Proofs.YtecgkcgfeghhgaaDoorW.PrintLast Go.Proofs.YtecgkcgfeghhgaaDoorW.PrintMore
open Go.Shelf Go.Lib
structure RowGood (ks : List KeyT) (l : List V) : Prop where
 valid : ∀ v ∈ l, validV v = true
 keys : KeysIn ks l.length
 len : l.length ≤ 1099511627776
structure RowIn (W : World) (base g : Nat) (ks : List KeyT) where
 v : Value
 l : List V
 rep : Kd.R kV 27 W base (fun k => k ≠ g) v l
 good : RowGood ks l
theorem sortWorld_blk {α : Type} [Inhabited α] (enc : α → Value) (w : World) (blk off m : Nat) (dk : Array α) (os : Array Obj) (k : Nat) (h1 : k ≠ blk) (h2 : k < w.heap.size) : (sortWorld enc w blk off m dk os).heap[k]? = w.heap[k]? := by
 unfold sortWorld Sort.grow Sort.putRow Sort.mapBlock
 show ((Array.modify _ blk _) ++ os)[k]? = _
 rw [Array.getElem?_append_left (by simpa using h2), Array.getElem?_modify, if_neg (Ne.symm h1)]
 rfl
theorem sortWorld_below {α : Type} [Inhabited α] (enc : α → Value) (w : World) (base blk off m : Nat) (dk : Array α) (os : Array Obj) (hb : base ≤ blk) (hw : base ≤ w.heap.size) : Below base w (sortWorld enc w blk off m dk os) := by
 refine ⟨rfl, rfl, rfl, ?_, fun k hk => ?_⟩
 · unfold sortWorld
   rw [Sort.size_grow, Sort.size_putRow]
   exact Nat.le_add_right _ _
 · exact sortWorld_blk enc w blk off m dk os k (by omega) (by omega)
theorem R_rowsIn {ks : List KeyT} {W : World} {base g cap : Nat} {l : List (List V)} (hR : Kd.R kRow 58 W base (fun _ => True) (.slice (some ⟨g, 0, none⟩) l.length cap) l) (hG : ∀ row ∈ l, RowGood ks row) :
 ∃ d : List (RowIn W base g ks), d.map (·.l) = l ∧ W.ownsRow base 58 1 (.slice (some ⟨g, 0, none⟩) l.length cap) l.length (d.map (·.v)) := by
 obtain ⟨_, inner, ho, hr⟩ := hR
 have hil : inner.length = l.length := by have := hr.1; change inner.length = l.length * 1 at this; omega
 have key : ∀ (m : Nat), m ≤ l.length → ∃ d : List (RowIn W base g ks), d.map (·.l) = l.take m ∧ d.map (·.v) = inner.take m := by
  intro m
  induction m with
  | zero => exact fun _ => ⟨[], by simp, by simp⟩
  | succ m ih =>
   intro hm
   obtain ⟨d, h1, h2⟩ := ih (by omega)
   have hml : m < l.length := by omega
   have hp := hr.2 m l[m] (List.getElem?_eq_getElem hml)
   obtain ⟨v, hv, hR⟩ := hp
   have hv : inner[m]'(by omega) = v := by
    change (inner.drop (m * 1)).take 1 = [v] at hv
    rw [Nat.mul_one, List.drop_eq_getElem_cons (by omega), List.take_succ_cons, List.take_zero] at hv
    injection hv
   refine ⟨d ++ [⟨v, l[m], Kd.R_mono hR (fun k hk e => hk.2 (by rw [e]; rfl)), hG _ (List.getElem_mem hml)⟩], ?_, ?_⟩
   · rw [List.map_append, h1, take_snoc _ _ hml]; rfl
   · rw [List.map_append, h2, take_snoc _ _ (by omega), hv]; rfl
 obtain ⟨d, h1, h2⟩ := key l.length (Nat.le_refl _)
 rw [List.take_length] at h1
 rw [List.take_of_length_le (by omega)] at h2
 exact ⟨d, h1, by rw [h2]; exact ho⟩
theorem R_ofRowsIn {ks : List KeyT} {W w1 : World} {base g cap : Nat} {d : List (RowIn W base g ks)} (ho : w1.ownsRow base 58 1 (.slice (some ⟨g, 0, none⟩) d.length cap) d.length (d.map (·.v))) (hm : ∀ k, k ≠ g → k < W.heap.size → w1.heap[k]? = W.heap[k]?) :
 Kd.R kRow 58 w1 base (fun _ => True) (.slice (some ⟨g, 0, none⟩) (d.map (·.l)).length cap) (d.map (·.l)) := by
 refine ⟨fun _ _ => trivial, d.map (·.v), ?_, ?_, ?_⟩
 · rw [List.length_map]; exact ho
 · rw [List.length_map, List.length_map]; exact (Nat.mul_one _).symm
 · intro j p hj
   rw [List.getElem?_map] at hj
   obtain ⟨r, hr, rfl⟩ := Option.map_eq_some_iff.1 hj
   obtain ⟨hjl, hr⟩ := List.getElem?_eq_some_iff.1 hr
   refine ⟨r.v, ?_, ?_⟩
   · change ((d.map (·.v)).drop (j * 1)).take 1 = [r.v]
     rw [Nat.mul_one, List.drop_eq_getElem_cons (by simpa using hjl), List.take_succ_cons, List.take_zero]
     simp [hr]
   · exact Kd.R_mono (Kd.R_step r.rep hm) (fun k hk => ⟨trivial, fun e => hk (by injection e)⟩)
theorem take_putV {α : Type} [Inhabited α] (enc : α → Value) (cur : Array Value) (d : Array α) (h : d.size ≤ cur.size) : (Sort.putCells enc 0 d cur).toList.take d.size = d.toList.map enc := by
 apply List.ext_getElem?
 intro j
 by_cases hj : j < d.size
 · rw [List.getElem?_take_of_lt hj, Array.getElem?_toList]
   simp [Sort.putCells, hj, show j < cur.size by omega]
 · rw [List.getElem?_take_eq_none (by omega), List.getElem?_eq_none (by simp; omega)]
theorem sortFunc_calls (ks : List KeyT) (AK : Option Addr) (cK : Nat) (bb kb g cap : Nat) (l : List (List V)) (w W : World) (hR : Kd.R kRow 58 W w.heap.size (fun _ => True) (.slice (some ⟨g, 0, none⟩) l.length cap) l) (hB : Below w.heap.size w W)
 (hby : W.cell? ⟨bb, 0, none⟩ = some (.func (.func 58) #[] #[.pointer (some ⟨kb, 0, none⟩)])) (hcell : W.cell? ⟨kb, 0, none⟩ = some (.slice AK ks.length cK)) (hbb : bb ≠ g) (hkb : kb ≠ g) (hks : Kd.C kKey w AK ks.length ks) (hkn : ks.length ≤ 1099511627776)
 (hG : ∀ row ∈ l, RowGood ks row) (hn : l.length ≤ 1099511627776) (h0 : 0 < l.length) :
 Calls Tryd.prog 50 #[.slice (some ⟨g, 0, none⟩) l.length cap, .func (.func 51) #[] #[.pointer (some ⟨bb, 0, none⟩)]] W fun e w' => e = .returned (.tuple #[]) ∧ Kd.R kRow 58 w' w.heap.size (fun _ => True) (.slice (some ⟨g, 0, none⟩) l.length cap) (sortR ks l) ∧ Below w.heap.size w w' := by
 obtain ⟨dl, hd1, hd2⟩ := R_rowsIn (ks := ks) hR hG
 have hdl : dl.length = l.length := by rw [← hd1, List.length_map]
 haveI : Inhabited (RowIn W w.heap.size g ks) := ⟨dl[0]'(by omega)⟩
 have hg : w.heap.size ≤ g ∧ g < W.heap.size := hd2.lt g rfl
 have h1 : OneCell (fun r : RowIn W w.heap.size g ks => r.v) := fun r => by
  obtain ⟨A, c, e⟩ := Kd.R_slice r.rep
  show r.v.oneCell' = true
  rw [e]; rfl
 have hO : Sort.SWO (ltOf (fun x y : RowIn W w.heap.size g ks => cmpFull ks x.l y.l)) := by
  have H := cmpFull_ord ks
  refine ⟨fun x => ?_, fun x y z h1 h2 => ?_, fun x y z h1 h2 => ?_⟩
  · have := H.flip x.l x.l
    simp only [ltOf, decide_eq_false_iff_not]; omega
  · simp only [ltOf, decide_eq_true_eq] at h1 h2 ⊢
    have e1 := H.flip x.l y.l
    have e2 := H.flip y.l z.l
    have e3 := H.flip x.l z.l
    have t1 := H.trans x.l y.l z.l (by omega) (by omega)
    by_cases h : cmpFull ks x.l z.l = 0
    · have t2 := H.trans z.l x.l y.l (by omega) (by omega)
      omega
    · omega
  · simp only [ltOf, decide_eq_false_iff_not] at h1 h2 ⊢
    have e1 := H.flip x.l y.l
    have e2 := H.flip y.l z.l
    have e3 := H.flip x.l z.l
    have t1 := H.trans z.l y.l x.l (by omega) (by omega)
    omega
 have eg : ∀ args w, (callFunc 51 args).run Tryd.prog w = .ok (.enter 51 args) w := enters_of Tryd.func51 (by kernel_rfl) rfl
 have hH : Sort.Holds (fun r : RowIn W w.heap.size g ks => r.v) W g 0 dl.toArray := by
  intro j hj
  have hj : j < dl.length := by simpa using hj
  have h := own_at_of (enc := id) (d := (default : Value)) (xs := dl.map (·.v)) (by simpa [encs] using hd2) (j : Int) (by omega) (by omega)
  rw [Int.toNat_natCast] at h
  rw [Nat.zero_add]
  refine ⟨h.1.trans ?_, h.2⟩
  simp [rdOf, hj]
 have hcmp : CmpLays1 Tryd.prog 51 #[.pointer (some ⟨bb, 0, none⟩)] (fun r : RowIn W w.heap.size g ks => r.v) (fun x y => cmpFull ks x.l y.l) g 0 dl.toArray.size W := by
  intro m os dk hs x y
  have hbl := sortWorld_below (fun r : RowIn W w.heap.size g ks => r.v) W w.heap.size g 0 m dk os hg.1 hB.size
  have hbk := fun k h1 h2 => sortWorld_blk (fun r : RowIn W w.heap.size g ks => r.v) W g 0 m dk os k h1 h2
  obtain ⟨W3, hW3⟩ : ∃ W3, W3 = sortWorld (fun r : RowIn W w.heap.size g ks => r.v) W g 0 m dk os := ⟨_, rfl⟩
  rw [← hW3] at hbl hbk ⊢
  have hx := Kd.R_step (w1 := W3) x.rep hbk
  have hy := Kd.R_step (w1 := W3) y.rep hbk
  obtain ⟨Ax, cx, ex, _, hxc⟩ := Kd.R_reads hx
  obtain ⟨Ay, cy, ey, _, hyc⟩ := Kd.R_reads hy
  have hc1 : ∀ b, b ≠ g → ∀ u, W.cell? ⟨b, 0, none⟩ = some u → W3.cell? ⟨b, 0, none⟩ = some u := fun b hb u hu => by
   have hlt := World.block_lt_of_cell? W _ hu
   rw [← hu]
   simp only [World.cell?, hbk b hb hlt]
  have h := arranged1_calls Ax cx x.l Ay cy y.l bb kb AK cK ks W3 hxc hyc (hc1 bb hbb _ hby) (hc1 kb hkb _ hcell) (Kd.C_below hks (hB.trans hbl)) x.good.keys y.good.keys (fun v hv => valid_kind (x.good.valid v hv)) hkn x.good.len y.good.len
  show Calls _ _ #[x.v, y.v, .pointer (some ⟨bb, 0, none⟩)] _ _
  rw [ex, ey]
  refine h.mono ?_
  rintro e w' ⟨he, q, os', hw'⟩
  exact ⟨he, q, os', hw'⟩
 have hcon := Any.slices_SortFunc sortRows (fun r : RowIn W w.heap.size g ks => r.v) h1 (fun x y => cmpFull ks x.l y.l) hO 51 #[.pointer (some ⟨bb, 0, none⟩)] g 0 cap dl.toArray W eg hcmp hH hg.2 (by simp; omega)
 have hsz : dl.toArray.size = l.length := by simp [hdl]
 rw [hsz] at hcon
 change Calls Tryd.prog 50 _ _ _ at hcon
 refine hcon.mono ?_
 rintro e w' ⟨rfl, d', n, os, hp, hs, rfl⟩
 have hbl := sortWorld_below (fun r : RowIn W w.heap.size g ks => r.v) W w.heap.size g 0 n d' os hg.1 hB.size
 have hbk := fun k h1 h2 => sortWorld_blk (fun r : RowIn W w.heap.size g ks => r.v) W g 0 n d' os k h1 h2
 refine ⟨rfl, ?_, hB.trans hbl⟩
 obtain ⟨hp1, _, hp2⟩ := hp
 have hd's : d'.size = l.length := by rw [hp1, hsz]
 have hperm : d'.toList.Perm dl := by
  rw [show l.length = d'.size from hd's.symm] at hp2
  rw [show dl.toArray.extract 0 d'.size = dl.toArray by rw [hp1]; exact Array.extract_size, Array.extract_size] at hp2
  simpa using hp2
 have hpl : (d'.toList.map (·.l)).Perm l := by rw [← hd1]; exact hperm.map _
 have hres : d'.toList.map (·.l) = sortR ks l := by
  refine sortR_unique (fun row hrow => (hG row hrow).valid) hpl ?_
  rw [List.pairwise_map, List.pairwise_iff_getElem]
  intro i j hi hj hij
  have h := hs i j (Nat.zero_le _) hij (by rw [← hd's]; simpa using hj)
  simp only [ltOf, decide_eq_false_iff_not] at h
  have hi : i < d'.size := by simpa using hi
  have hj : j < d'.size := by simpa using hj
  rw [getElem!_pos d' i hi, getElem!_pos d' j hj] at h
  have e := (cmpFull_ord ks).flip d'[i].l d'[j].l
  simp only [Array.getElem_toList]
  omega
 rw [← hres]
 have hl2 : l.length = (d'.toList.map (·.l)).length := by simp [hd's]
 have ho : (sortWorld (fun r : RowIn W w.heap.size g ks => r.v) W g 0 n d' os).ownsRow w.heap.size 58 1 (.slice (some ⟨g, 0, none⟩) d'.toList.length cap) d'.toList.length (d'.toList.map (·.v)) := by
  rcases hd2.2 with ⟨h, _⟩ | ⟨g', cap', cur, he, hb1, hblk, hc1, hc2, hc3, hc4⟩
  · cases h
  · injection he with he1 he2 he3
    injection he1 with he1
    injection he1 with he1
    subst he1 he3
    refine ⟨by simp, .inr ⟨g, cap, Sort.putCells (fun r : RowIn W w.heap.size g ks => r.v) 0 d' cur, rfl, hb1, ?_, ?_, hc2, ?_, ?_⟩⟩
    · unfold sortWorld Sort.grow Sort.putRow Sort.mapBlock
      show ((Array.modify _ g _) ++ os)[g]? = _
      rw [Array.getElem?_append_left (by simpa using hg.2), Array.getElem?_modify, if_pos rfl]
      change Option.map _ (W.heap[g]?) = _
      rw [hblk]
      rfl
    · simp [hd's]; omega
    · simp [Sort.putCells, hc3]
    · rw [Nat.mul_one, Array.length_toList]
      exact take_putV _ cur d' (by omega)
 have hfin := R_ofRowsIn ho hbk
 rw [hl2]
 exact hfin
theorem sortFunc_all (ks : List KeyT) (AK : Option Addr) (cK : Nat) (bb kb g cap : Nat) (l : List (List V)) (w W : World) (hR : Kd.R kRow 58 W w.heap.size (fun _ => True) (.slice (some ⟨g, 0, none⟩) l.length cap) l) (hB : Below w.heap.size w W)
 (hby : W.cell? ⟨bb, 0, none⟩ = some (.func (.func 58) #[] #[.pointer (some ⟨kb, 0, none⟩)])) (hcell : W.cell? ⟨kb, 0, none⟩ = some (.slice AK ks.length cK)) (hbb : bb ≠ g) (hkb : kb ≠ g) (hks : Kd.C kKey w AK ks.length ks) (hkn : ks.length ≤ 1099511627776)
 (hG : ∀ row ∈ l, RowGood ks row) (hn : l.length ≤ 1099511627776) :
 Calls Tryd.prog 50 #[.slice (some ⟨g, 0, none⟩) l.length cap, .func (.func 51) #[] #[.pointer (some ⟨bb, 0, none⟩)]] W fun e w' => e = .returned (.tuple #[]) ∧ Kd.R kRow 58 w' w.heap.size (fun _ => True) (.slice (some ⟨g, 0, none⟩) l.length cap) (sortR ks l) ∧ Below w.heap.size w w' := by
 cases l with
 | cons r rs => exact sortFunc_calls ks AK cK bb kb g cap (r :: rs) w W hR hB hby hcell hbb hkb hks hkn hG hn (by simp)
 | nil =>
  haveI : Inhabited Value := ⟨.bool true⟩
  have h := AnyF.slices_SortFunc_none { sortRows with } (some ⟨g, 0, none⟩) cap (.func (.func 51) #[] #[.pointer (some ⟨bb, 0, none⟩)]) W
  change Calls Tryd.prog 50 _ _ _ at h
  refine h.mono ?_
  rintro e w' ⟨rfl, rfl⟩
  have e0 : sortR ks [] = [] := by simp [sortR]
  rw [e0]
  exact ⟨rfl, hR, hB⟩
end Go.Proofs.YtecgkcgfeghhgaaDoor.PAll
