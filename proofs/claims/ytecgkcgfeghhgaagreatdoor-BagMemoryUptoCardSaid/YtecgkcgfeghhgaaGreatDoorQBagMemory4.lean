/- What the last of these texts proves is told there. Joined by a program of this session out of its texts. -/
import Derived.Test.YtecgkcgfeghhgaaGreatDoorQBagMemory3
import Derived.Below
import Derived.Deep.Draws
import Derived.Deep.AppendLies
import Derived.Maps.AppendAt
import Derived.OwnWalk
import Derived.Laws.BytesArg
import Derived.Laws.MakeOwn
import Derived.Laws.OwnMore
import Derived.Deep.OwnRows
import Derived.Tactics
import Derived.Lib.ConvBytes
import Derived.Laws.Slices
import Derived.WalkKit
import Derived.KernelRfl
import Derived.RowKit3
import Derived.Deep.LoopGhost
import Derived.Deep.QuietTactic
import Derived.BigQuiet
import Derived.WideLaws
import Derived.Deep.DeepCutAuto
import Derived.Deep.CutBlock
import Derived.Deep.RegionHeld3
import Derived.Laws.Rows
import Derived.Lib.AppendStr
import Derived.ArgAppend
import Derived.Laws.IdiomCopy
import Derived.RowKit
import Derived.OrdersHeld
import Derived.Laws.BitsLemmas
import Derived.Laws.StructEq
import Derived.Shelf.Strings.BuilderK
import Derived.Shelf.Spec.SlicesGrow
import Derived.Shelf.SlGeneric
import Derived.Ground.Names8Prog
import Derived.Shelf.SlSortCmp.NoneTotal
import Derived.Ground.SlsfProg
import Derived.Ground.NamesProg
import Derived.Shelf.Spec.BitsCarry
import Derived.Ground.Names7Prog
import Derived.Shelf.Strings.Builder1
import Derived.Shelf.Small.Bits
import Derived.Shelf.Small.Strs
import Derived.Shelf.Strings.BuilderF
import Derived.Shelf.Strconv.Itoa0
import Derived.Shelf.Strconv.Itoa1
import Derived.Shelf.LaysM
import Derived.Shelf.Strconv.Itoa2
import Derived.Shelf.Strconv.Itoa3
import Derived.Shelf.Strconv.Itoa4
import Derived.Shelf.Strings.BuilderCap
import Derived.Maps.OwnOps
import Derived.ChangeArms
import Derived.Deep.Slices
import Derived.Deep.Strs
import Derived.Lib.ItoaLen
import Derived.BigRegion
import Derived.RegionTactic
import Derived.Sort.Statements
import Derived.WalkSpells
import Derived.WalkMore
import Derived.Lib.ItoaNum
import Derived.Lib.BitFns
import Derived.Handy
set_option maxHeartbeats 8000000
set_option maxRecDepth 100000
set_option linter.unusedVariables false
set_option linter.unusedSimpArgs false
namespace Go.Proofs.YtecgkcgfeghhgaaGreatDoor.PAll
open Go.RowKit Go.Proofs.YtecgkcgfeghhgaaGreatDoorW.PrintWords Go.Proofs.YtecgkcgfeghhgaaGreatDoorW.PrintLast Go.Proofs.YtecgkcgfeghhgaaGreatDoorW.PrintMore
def GroupsPost (w : World) (cols : List Int) (l : List (List V)) (e : Ending) (w' : World) : Prop :=
 ∃ (v : Value) (m : Nat) (kv : List (ByteArray × LV)), e = .returned (.tuple #[v, .map (some m)]) ∧ kRow.R 53 w' w.heap.size (fun _ => True) v (keysR cols l) ∧ KV.Is w' m (fun p : LV => p.1) kv ∧
  (∀ s p, KV.get kv s = some p → ∃ A c, p.1 = .slice A p.2.length c ∧ p.2.length ≤ c ∧ kRow.C w' A p.2.length p.2) ∧ (∀ s, ((KV.get kv s).map (·.2)).getD [] = listR cols l s) ∧ Below w.heap.size w w'
open Classical in
theorem groups_calls (A0 : Option Addr) (c0 : Nat) (l0 : List (List V)) (A1 : Option Addr) (c1 : Nat) (l1 : List Int) (w : World) (hT : LaidT w) (hr0 : Kd.C kRow w A0 l0.length l0) (hr1 : Kd.C (Kd.int .i64) w A1 l1.length l1) (hn0 : l0.length ≤ 1099511627776) (hn1 : l1.length ≤ 1099511627776) (hne : l1 ≠ [])
 (hin : ∀ row ∈ l0, ∀ n ∈ l1, 0 ≤ n ∧ n < (row.length : Int)) (hkey : ∀ row ∈ l0, RowOk (keyOf l1 row) ∧ ∀ v ∈ keyOf l1 row, validV v = true) :
 Calls Tryz.prog 64 #[.slice A0 l0.length c0, .slice A1 l1.length c1] w fun e w' => GroupsPost w l1 l0 e w' := by
 have hmm : ∀ (w : World), (Instr.makeMap 87 none).run Tryz.prog w = .ok (.map (some w.heap.size)) (w.alloc (.map #[] 0)) := fun _ => by kernel_rfl
 have hz : ((l1.length : Int) == 0) = false := by
  have : l1.length ≠ 0 := fun e => hne (List.eq_nil_of_length_eq_zero e)
  simp; omega
 have HT := Aside0.mk hT
 have HR0 := Aside0.mk hr0
 have HR1 := Aside0.mk hr1
 have HN0 := Aside0.mk hn0
 have HN1 := Aside0.mk hn1
 have HNE := Aside0.mk hne
 have HIN := Aside0.mk hin
 have HKEY := Aside0.mk hkey
 clear hT hr0 hr1 hn0 hn1 hne hin hkey
 go_enter Tryz.func64, Tryz.ntmps64
 go_wp2
 clear hmm hz
 have B0 := Aside0.mk ((Below.refl w.heap.size w).alloc (Nat.le_refl _) (.map #[] 0))
 have M0 : Aside0 (LM w (w.alloc (.map #[] 0)) w.heap.size []) := ⟨⟨KV.Is.made w _, fun s p hp => by simp [KV.get] at hp, fun s t p q hp => by simp [KV.get] at hp⟩⟩
 go_loopg [24, 4] l0.length (fun kq v24 v4 W => ∃ (x : Int) (kv : List (ByteArray × LV)) (keys : List (List V)) (seen : List ByteArray), v24 = .int .i64 x ∧ Aside0 (0 ≤ x ∧ x ≤ l0.length ∧ (kq : Int) = l0.length - x) ∧ Aside0 (LM w W w.heap.size kv) ∧ Aside0 (kRow.R 53 W w.heap.size (KOk w kv) v4 keys) ∧ Aside0 (keys ++ distR seen ((l0.drop x.toNat).map (keyOf l1)) = distR [] (l0.map (keyOf l1)) ∧ keys.length ≤ x ∧ (∀ s, (KV.get kv s).isSome = decide (s ∈ seen)) ∧ (∀ s, ((KV.get kv s).map (·.2)).getD [] = listR l1 (l0.take x.toNat) s) ∧ ∀ s p, KV.get kv s = some p → (p.2.length : Int) ≤ x) ∧ Aside0 (Below w.heap.size w W))
 case atStart => exact ⟨0, [], [], [], rfl, ⟨by omega⟩, M0, ⟨Kd.R_nil _ _ _ _ _⟩, ⟨by simp, by simp, fun s => by simp [KV.get], fun s => by simp [KV.get, listR], fun s p hp => by simp [KV.get] at hp⟩, B0⟩
 case round =>
  clear M0 B0
  obtain ⟨x, kv, keys, seen, rfl, HX, HM, HO, HD, HB⟩ := hrel
  obtain ⟨hx0, hx1, hkq⟩ := HX.out
  by_cases hlt : x < (l0.length : Int)
  · have c1' : decide (x < (l0.length : Int)) = true := decide_eq_true hlt
    have c2 : decide (0 ≤ x) = true := decide_eq_true hx0
    obtain ⟨ad, Ar, cr, e, hx_0, hlc, hrow⟩ := at_L4 HR0.out x hx0 hlt
    cases e
    replace hx_0 := (HB.out.cell (World.block_lt_of_cell? w _ hx_0)).trans hx_0
    have hi : x.toNat < l0.length := by omega
    have hrd : rd_L4 l0 x = l0[x.toNat] := by simp [rd_L4, List.getElem?_eq_getElem hi]
    have hin := HIN.out (rd_L4 l0 x) (by rw [hrd]; exact List.getElem_mem hi)
    have hky := HKEY.out (rd_L4 l0 x) (by rw [hrd]; exact List.getElem_mem hi)
    have hdd := HD.out.1
    rw [drop_cons l0 x.toNat hi, ← hrd, List.map_cons] at hdd
    have htk : l0.take (x + 1).toNat = l0.take x.toNat ++ [rd_L4 l0 x] := by
     rw [show (x + 1).toNat = x.toNat + 1 by omega, take_snoc _ _ hi, hrd]
    obtain ⟨row, hrw⟩ : ∃ row, row = rd_L4 l0 x := ⟨_, rfl⟩
    rw [← hrw] at hx_0 hlc hrow hin hky hdd htk
    have HROW := Aside0.mk hrow
    have HLC := Aside0.mk hlc
    have HINR := Aside0.mk hin
    have HKY := Aside0.mk hky
    have HDD := Aside0.mk hdd
    have HTK := Aside0.mk htk
    have HLT := Aside0.mk hlt
    have HKQ := Aside0.mk hkq
    have HX0 := Aside0.mk hx0
    have HWR : Aside0 (wrap64 (x + 1) = x + 1) := ⟨by have := HN0.out; unfold wrap64; omega⟩
    clear hlc hrow hrd hrw hkq hi hin hky hdd htk
    go_wp2
    obtain ⟨wO, hwO⟩ : ∃ wO, wO = wr := ⟨_, rfl⟩
    subst hwO
    obtain ⟨gO, hgO⟩ : ∃ gO, gO = gk := ⟨_, rfl⟩
    subst hgO
    go_loopg [30, 8] l1.length (fun kq v30 v8 W => ∃ y : Int, v30 = .int .i64 y ∧ Aside0 (0 ≤ y ∧ y ≤ l1.length ∧ (kq : Int) = l1.length - y) ∧ Aside0 (kV.R 36 W wO.heap.size (fun _ => True) v8 ((l1.take y.toNat).map (fun n => rd_T36 row n))) ∧ Aside0 (Below wO.heap.size wO W))
    case atStart => exact ⟨0, rfl, ⟨by omega⟩, ⟨by simpa using Kd.R_nil _ _ _ _ _⟩, ⟨Below.refl _ _⟩⟩
    case round =>
     obtain ⟨y, rfl, HY, HK, HBI⟩ := hrel
     obtain ⟨hy0, hy1, hkq⟩ := HY.out
     by_cases hly : y < (l1.length : Int)
     · have c1 : decide (y < (l1.length : Int)) = true := decide_eq_true hly
       have c2 : decide (0 ≤ y) = true := decide_eq_true hy0
       obtain ⟨ad1, e, hy_0⟩ := Kd.at_int HR1.out y hy0 hly
       cases e
       have hbw : Below w.heap.size w wr := HB.out.trans (HBI.out.mono HB.out.size)
       replace hy_0 := (hbw.cell (World.block_lt_of_cell? w _ hy_0)).trans hy_0
       have hj : y.toNat < l1.length := by omega
       have hrd : rd l1 y = l1[y.toNat] := by simp [rd, List.getElem?_eq_getElem hj]
       obtain ⟨hn0, hn1⟩ := HINR.out (rd l1 y) (by rw [hrd]; exact List.getElem_mem hj)
       have htk2 : (l1.take (y + 1).toNat).map (fun n => rd_T36 row n) = (l1.take y.toNat).map (fun n => rd_T36 row n) ++ [rd_T36 row (rd l1 y)] := by
        rw [show (y + 1).toNat = y.toNat + 1 by omega, take_snoc _ _ hj, List.map_append, hrd]; rfl
       obtain ⟨n, hn⟩ : ∃ n, n = rd l1 y := ⟨_, rfl⟩
       rw [← hn] at hy_0 hn0 hn1 htk2
       have d1 : decide (0 ≤ n) = true := decide_eq_true hn0
       have d2 : decide (n < (row.length : Int)) = true := decide_eq_true hn1
       obtain ⟨adA, e, ha_0, ha_1, ha_2⟩ := at_T36 HROW.out n hn0 hn1
       cases e
       replace ha_0 := (hbw.cell (World.block_lt_of_cell? w _ ha_0)).trans ha_0
       replace ha_1 := (hbw.cell (World.block_lt_of_cell? w _ ha_1)).trans ha_1
       replace ha_2 := (hbw.cell (World.block_lt_of_cell? w _ ha_2)).trans ha_2
       obtain ⟨v, hv⟩ : ∃ v, v = rd_T36 row n := ⟨_, rfl⟩
       rw [← hv] at ha_0 ha_1 ha_2 htk2
       have HTK2 := Aside0.mk htk2
       have HLY := Aside0.mk hly
       have HKQ2 := Aside0.mk hkq
       have HY0 := Aside0.mk hy0
       have HWY : Aside0 (wrap64 (y + 1) = y + 1) := ⟨by have := HN1.out; unfold wrap64; omega⟩
       have HLEN : Aside0 ((((l1.take y.toNat).map (fun n => rd_T36 row n)).length + 1) * 32 ≤ 140737488355328) := ⟨by
        rw [List.length_map, List.length_take]
        have := HN1.out
        omega⟩
       clear htk2 hkq hv hn hrd hj hbw hy1
       go_wp2_with (at_builtin; refine Kd.R_append kV (w0 := wO) wO.heap.size rfl (.tmp 34) (.tmp 39) 53 36 (.agg #[(.int .u8 0), (.int .i64 0), (.string ⟨#[]⟩)]) 32 rfl Tryz.underlying53 infoV rfl (by decide) (by decide) _ _ v [.int .u8 v.f0, .int .i64 v.f1, .string v.f2] (fun _ => True) (fun _ => False) rfl rfl (k36_mkM _ _ _ v) (fun _ h => h.elim) (fun _ _ => trivial) HK.out HBI.out HBI.out.size HLEN.out ?_; intro v6 w6 hR4 hb4 hg4 hat4; have HO4 := Aside0.mk hR4; have HB4 := Aside0.mk hb4; clear hR4 hb4 hg4 hat4)
       have hk := HKQ2.out
       have hly := HLY.out
       have hy0 := HY0.out
       cases gk with
       | zero => omega
       | succ k1 =>
        go_roundg k1
        case measure => omega
        case rel => exact ⟨y + 1, by rw [HWY.out], ⟨by omega⟩, ⟨by rw [HTK2.out]; exact HO4.out⟩, HB4⟩
     · have c1 : decide (y < (l1.length : Int)) = false := decide_eq_false hly
       have hkk : (l1.take y.toNat).map (fun n => rd_T36 row n) = keyOf l1 row := by
        rw [List.take_of_length_le (by omega)]; rfl
       rw [hkk] at HK
       clear hkk HY hy0 hy1 hkq hly
       obtain ⟨key, hkey⟩ : ∃ key, key = keyOf l1 row := ⟨_, rfl⟩
       rw [← hkey] at HK HKY HDD
       have HKE := Aside0.mk hkey
       clear hkey
       obtain ⟨Ak, ck, ek, hlk, hCk⟩ := Kd.R_reads HK.out
       subst ek
       have HCK := Aside0.mk hCk
       have HLK := Aside0.mk hlk
       clear hCk hlk
       have HBB := Aside0.mk (HB.out.trans (HBI.out.mono HB.out.size))
       go_wp2_with fail
       refine (name_calls Ak ck key wr (HT.out.below HBB.out) HCK.out HLK.out HKY.out.1.1 HKY.out.1.2.1 HKY.out.1.2.2).mono ?_
       rintro e wN ⟨rfl, hbn⟩
       have hON : Below wO.heap.size wO wN := HBI.out.trans (hbn.mono HBI.out.size)
       have HSZ := Aside0.mk hON.size
       have HMN := Aside0.mk (HM.out.below hON)
       have HON := Aside0.mk (Kd.R_below HO.out hON)
       have HKN := Aside0.mk (Kd.R_mono (Kd.R_lower (Kd.R_bound (Kd.R_below HK.out hbn)) HB.out.size) (ok' := fun k => wO.heap.size ≤ k) (fun k hk => hk.2.1))
       have HBN := Aside0.mk (HBB.out.trans (hbn.mono HBB.out.size))
       have HFR : Aside0 (∀ k, wO.heap.size ≤ k → KOk w kv k ∧ some k ≠ u4.ownBlock) := ⟨fun k hk => ⟨⟨fun e => by have := HM.out.is.lt; omega, fun s p hp e => by have := Kd.R_lt (HM.out.own s p hp) k e; omega⟩, fun e => by have := Kd.R_lt HO.out k e.symm; omega⟩⟩
       have HKL : Aside0 ((keys.length + 1) * 24 ≤ 140737488355328) := ⟨by have := HD.out.2.1; have := HLT.out; have := HN0.out; omega⟩
       clear hbn hON
       by_cases hz : nameOf key ∈ seen
       · obtain ⟨p, hp⟩ : ∃ p, KV.get kv (nameOf key) = some p := Option.isSome_iff_exists.1 (by rw [HD.out.2.2.1]; exact decide_eq_true hz)
         obtain ⟨v0, r0⟩ := p
         have HGT := Aside0.mk hp
         have HZ := Aside0.mk hz
         have HRO := Aside0.mk (HMN.out.own _ _ hp)
         have HLE : Aside0 ((r0.length : Int) ≤ x) := ⟨HD.out.2.2.2.2 _ _ hp⟩
         have HL2 : Aside0 ((r0.length + 1) * 24 ≤ 140737488355328) := ⟨by have := HLE.out; have := HLT.out; have := HN0.out; omega⟩
         clear hz hp
         go_wp2_with (first
          | (at_lookup; refine KV.law_lookup_ok _ rfl _ _ 87 rfl 9 22 Tryz.underlying9 Tryz.underlying87 (.slice none 0 0) (zeroRows _) w.heap.size (fun p : LV => p.1) kv rfl HMN.out.is (nameOf key) rfl v0 (by rw [HGT.out]; rfl) true (by rw [HGT.out]; rfl) ?_)
          | (at_lookup; refine KV.law_lookup _ rfl _ _ 87 rfl 9 22 Tryz.underlying9 Tryz.underlying87 (.slice none 0 0) (zeroRows _) w.heap.size (fun p : LV => p.1) kv rfl HMN.out.is (nameOf key) rfl v0 (by rw [HGT.out]; rfl) ?_)
          | (at_builtin; refine Kd.R_append (relK w).kd (w0 := w) w.heap.size rfl (.tmp 60) (.tmp 62) 22 53 (.slice none 0 0) 24 rfl Tryz.underlying22 infoRow rfl (Nat.le_refl 1) (by decide) _ r0 row [.slice Ar row.length cr] (fun k => k ≠ w.heap.size) (fun _ => False) rfl rfl ⟨Ar, cr, rfl, HLC.out, HROW.out⟩ (fun _ h => h.elim) (fun k hk e => by have := HMN.out.is.lt; omega) HRO.out HBN.out HBN.out.size HL2.out ?_; intro v7 w7 hR7 hb7 hg7 hat7; have HR7 := Aside0.mk hR7; have HB7 := Aside0.mk hb7; have HG7 := Aside0.mk hg7; have HA7 := Aside0.mk hat7; have HI7 := Aside0.mk (HMN.out.is.grown hg7 (fun e => HRO.out.1 _ e.symm rfl)); clear hR7 hb7 hg7 hat7)
          | (at_mapUpdate; refine KV.law_update _ rfl _ _ _ 87 rfl 9 22 Tryz.underlying9 Tryz.underlying87 w.heap.size (fun p : LV => p.1) kv rfl HI7.out (nameOf key) rfl (v7, r0 ++ [row]) rfl ?_; intro w8 hM8 hg8; have HM8 := Aside0.mk hM8; have HG8 := Aside0.mk hg8; clear hM8 hg8))
         have hlt := HLT.out
         have hk := HKQ.out
         have hx0 := HX0.out
         have hd := HD.out
         cases gO with
         | zero => omega
         | succ k1 =>
          go_roundg k1
          case measure => omega
          case rel =>
           refine ⟨x + 1, KV.put kv (nameOf key) (v7, r0 ++ [row]), keys, seen, by rw [HWR.out], ⟨by omega⟩, ⟨HMN.out.put (.inl HGT.out) HR7.out HG7.out HA7.out HM8.out HG8.out⟩, ⟨KR_put HON.out (.inl HGT.out) HG7.out HA7.out HG8.out⟩, ⟨?_, by omega, ?_, ?_, ?_⟩, ⟨HB7.out.grown HG8.out HB7.out.size (fun k hk => by cases hk; exact Nat.le_refl _)⟩⟩
           · have hdd := HDD.out
             rw [distR, if_pos HZ.out] at hdd
             rw [show (x + 1).toNat = x.toNat + 1 by omega]
             simpa using hdd
           · intro s
             by_cases hs : s = nameOf key
             · subst hs; rw [KV.get_put_same]; simp [HZ.out]
             · rw [KV.get_put_other _ hs, hd.2.2.1]; try simp [hs]
           · rw [HTK.out, HKE.out]
             exact list_put hd.2.2.2.1 (by rw [← HKE.out, HGT.out]; rfl)
           · exact len_put hd.2.2.2.2 _ _ (by have := HLE.out; simp; omega)
       · have hgn : KV.get kv (nameOf key) = none := by
          have := HD.out.2.2.1 (nameOf key)
          rw [decide_eq_false hz] at this
          exact Option.isNone_iff_eq_none.1 (by simpa using this)
         have HGT := Aside0.mk hgn
         have HZ := Aside0.mk hz
         clear hz hgn
         go_wp2_with (first
          | (at_lookup; refine KV.law_lookup_ok _ rfl _ _ 87 rfl 9 22 Tryz.underlying9 Tryz.underlying87 (.slice none 0 0) (zeroRows _) w.heap.size (fun p : LV => p.1) kv rfl HMN.out.is (nameOf key) rfl (.slice none 0 0) (by rw [HGT.out]; rfl) false (by rw [HGT.out]; rfl) ?_)
          | (at_lookup; refine KV.law_lookup _ rfl _ _ 87 rfl 9 22 Tryz.underlying9 Tryz.underlying87 (.slice none 0 0) (zeroRows _) w.heap.size (fun p : LV => p.1) kv rfl HM5.out.is (nameOf key) rfl (.slice none 0 0) (by rw [HGT.out]; rfl) ?_)
          | (at_builtin; refine Kd.R_append kRow (w0 := w) w.heap.size rfl (.tmp 52) (.tmp 54) 22 53 (.slice none 0 0) 24 rfl Tryz.underlying22 infoRow rfl (Nat.le_refl 1) (by decide) _ keys key [.slice Ak key.length ck] (KOk w kv) (fun k => wO.heap.size ≤ k) rfl rfl ⟨_, rfl, HKN.out⟩ HFR.out (fun k hk => (HFR.out k (Nat.le_trans HSZ.out hk)).1) HON.out HBN.out HBN.out.size HKL.out ?_; intro v5 w5 hR5 hb5 hg5 hat5; have HR5 := Aside0.mk hR5; have HB5 := Aside0.mk hb5; have HM5 := Aside0.mk (HMN.out.grown hg5 (fun e => (HON.out.1 _ e.symm).1 rfl) (fun s p hp k hk e => (HON.out.1 k e.symm).2 s p hp hk)); clear hR5 hb5 hg5 hat5)
          | (at_builtin; refine Kd.R_append (relK w).kd (w0 := w) w.heap.size rfl (.tmp 60) (.tmp 62) 22 53 (.slice none 0 0) 24 rfl Tryz.underlying22 infoRow rfl (Nat.le_refl 1) (by decide) _ [] row [.slice Ar row.length cr] (fun k => k ≠ w.heap.size) (fun _ => False) rfl rfl ⟨Ar, cr, rfl, HLC.out, HROW.out⟩ (fun _ h => h.elim) (fun k hk e => by have := HM5.out.is.lt; omega) (Kd.R_nil _ _ _ _ _) HB5.out HB5.out.size (by decide) ?_; intro v7 w7 hR7 hb7 hg7 hat7; have HR7 := Aside0.mk hR7; have HB7 := Aside0.mk hb7; have HG7 := Aside0.mk hg7; have HA7 := Aside0.mk hat7; have HI7 := Aside0.mk (HM5.out.is.grown hg7 (fun e => by cases e)); clear hR7 hb7 hg7 hat7)
          | (at_mapUpdate; refine KV.law_update _ rfl _ _ _ 87 rfl 9 22 Tryz.underlying9 Tryz.underlying87 w.heap.size (fun p : LV => p.1) kv rfl HI7.out (nameOf key) rfl (v7, [] ++ [row]) rfl ?_; intro w8 hM8 hg8; have HM8 := Aside0.mk hM8; have HG8 := Aside0.mk hg8; clear hM8 hg8))
         have hlt := HLT.out
         have hk := HKQ.out
         have hx0 := HX0.out
         have hd := HD.out
         cases gO with
         | zero => omega
         | succ k1 =>
          go_roundg k1
          case measure => omega
          case rel =>
           refine ⟨x + 1, KV.put kv (nameOf key) (v7, [] ++ [row]), keys ++ [key], nameOf key :: seen, by rw [HWR.out], ⟨by omega⟩, ⟨HM5.out.put (v0 := .slice none 0 0) (r0 := []) (.inr ⟨HGT.out, rfl⟩) HR7.out HG7.out HA7.out HM8.out HG8.out⟩, ⟨KR_put (v0 := .slice none 0 0) (r0 := []) HR5.out (.inr ⟨HGT.out, rfl⟩) HG7.out HA7.out HG8.out⟩, ⟨?_, by simp; omega, ?_, ?_, ?_⟩, ⟨HB7.out.grown HG8.out HB7.out.size (fun k hk => by cases hk; exact Nat.le_refl _)⟩⟩
           · have hdd := HDD.out
             rw [distR, if_neg HZ.out] at hdd
             rw [show (x + 1).toNat = x.toNat + 1 by omega]
             simpa using hdd
           · intro s
             by_cases hs : s = nameOf key
             · subst hs; rw [KV.get_put_same]; simp
             · rw [KV.get_put_other _ hs, hd.2.2.1]; try simp [hs]
           · rw [HTK.out, HKE.out]
             exact list_put hd.2.2.2.1 (by rw [← HKE.out, HGT.out]; rfl)
           · exact len_put hd.2.2.2.2 _ _ (by simp; omega)
  · have c1' : decide (x < (l0.length : Int)) = false := decide_eq_false hlt
    have hd := HD.out
    have hks : keys = distR [] (l0.map (keyOf l1)) := by
     have := hd.1
     rw [List.drop_eq_nil_of_le (by omega), List.map_nil, distR, List.append_nil] at this
     exact this
    subst hks
    have HLS : Aside0 (∀ s, ((KV.get kv s).map (·.2)).getD [] = listR l1 l0 s) := ⟨fun s => by
     have := hd.2.2.2.1 s
     rw [List.take_of_length_le (by omega)] at this
     exact this⟩
    have hin : ∀ row ∈ distR [] (l0.map (keyOf l1)), RowOk row ∧ ∀ v ∈ row, validV v = true := fun row hrow => by
     obtain ⟨r, hr, rfl⟩ := List.mem_map.1 (distR_mem _ _ _ hrow)
     exact HKEY.out r hr
    have HGD : Aside0 (∀ row ∈ distR [] (l0.map (keyOf l1)), RowGood [] row) := ⟨fun row hrow => ⟨(hin row hrow).2, (by intro k hk; cases hk), (hin row hrow).1.2.2⟩⟩
    have HLN : Aside0 ((distR [] (l0.map (keyOf l1))).length ≤ 1099511627776) := ⟨by
     have h1 := distR_len (l0.map (keyOf l1)) []
     rw [List.length_map] at h1
     exact Nat.le_trans h1 HN0.out⟩
    obtain ⟨ds, hds⟩ : ∃ ds, ds = distR [] (l0.map (keyOf l1)) := ⟨_, rfl⟩
    rw [← hds] at HLN HGD HO
    have HDS := Aside0.mk hds
    clear HX HD hd hx0 hx1 hlt hkq hds hin
    obtain ⟨Av, cv, ev, hlc, hC⟩ := Kd.R_reads HO.out
    subst ev
    have HC := Aside0.mk hC
    clear hC hlc
    go_wp2_with fail
    refine (arranged_calls Av cv ds none 0 [] wr HC.out (Kd.C_nil _ _) HGD.out HLN.out (by simp)).mono ?_
    rintro e w2 ⟨v2, rfl, hR2, hb2⟩
    have HR2 := Aside0.mk (Kd.R_lower hR2 HB.out.size)
    have HB2 := Aside0.mk (HB.out.trans (hb2.mono HB.out.size))
    have HM2 := Aside0.mk (HM.out.below hb2)
    clear hR2 hb2
    go_wp2
    go_ret2
    refine ⟨v2, w.heap.size, kv, rfl, ?_, HM2.out.is, fun s p hp => ?_, HLS.out, HB2.out⟩
    · unfold keysR
      rw [if_neg HNE.out, ← HDS.out]
      exact HR2.out
    · obtain ⟨A, c, he, hl, hc⟩ := Kd.R_reads (HM2.out.own s p hp)
      exact ⟨A, c, he, hl, relK_C hc HB2.out⟩
open Classical in
theorem groups_nil (A0 : Option Addr) (c0 : Nat) (l0 : List (List V)) (A1 : Option Addr) (c1 : Nat) (w : World) (hr0 : Kd.C kRow w A0 l0.length l0) (hc0 : l0.length ≤ c0) :
 Calls Tryz.prog 64 #[.slice A0 l0.length c0, .slice A1 0 c1] w fun e w' => GroupsPost w [] l0 e w' := by
 have hmm : ∀ (w : World), (Instr.makeMap 87 none).run Tryz.prog w = .ok (.map (some w.heap.size)) (w.alloc (.map #[] 0)) := fun _ => by kernel_rfl
 have HR0 := Aside0.mk hr0
 have HC0 := Aside0.mk hc0
 clear hr0 hc0
 have M0 := Aside0.mk (KV.Is.made w (fun p : LV => p.1))
 have HB0 := Aside0.mk ((Below.refl w.heap.size w).alloc (Nat.le_refl _) (.map #[] 0))
 go_enter Tryz.func64, Tryz.ntmps64
 go_wp2_with (at_mapUpdate; refine KV.law_update _ rfl _ _ _ 87 rfl 9 22 Tryz.underlying9 Tryz.underlying87 w.heap.size (fun p : LV => p.1) [] rfl M0.out (⟨#[]⟩ : ByteArray) rfl ((.slice A0 l0.length c0, l0) : LV) rfl ?_; intro w8 hM8 hg8; have HM8 := Aside0.mk hM8; have HB8 := Aside0.mk (HB0.out.grown hg8 HB0.out.size (fun k hk => by cases hk; exact Nat.le_refl _)); clear hM8 hg8)
 go_ret2
 have hB9 : Below w.heap.size w (w8.alloc (.cells #[.slice none 0 0] 53)) := HB8.out.alloc HB8.out.size _
 refine ⟨_, w.heap.size, _, rfl, ?_, HM8.out.below ((Below.refl _ w8).alloc (Nat.le_refl _) _), fun s p hp => ?_, fun s => ?_, hB9⟩
 · unfold keysR
   rw [if_pos rfl]
   have h := World.ownsRow_lit (base := w.heap.size) (e := 53) (size := 1) w8 #[.slice none 0 0] 1 HB8.out.size (by decide) (by decide)
   refine ⟨fun _ _ => trivial, [.slice none 0 0], h, rfl, fun j p hj => ?_⟩
   cases j with
   | succ j => simp at hj
   | zero =>
    obtain rfl : [] = p := by simpa using hj
    exact ⟨_, rfl, Kd.R_nil _ _ _ _ _⟩
 · simp only [KV.put, KV.get] at hp
   split at hp
   · obtain rfl := Option.some.inj hp
     exact ⟨A0, c0, rfl, HC0.out, Kd.C_below HR0.out hB9⟩
   · cases hp
 · simp only [KV.put, KV.get]
   unfold listR
   have e0 : ∀ r : List V, nameOf (keyOf [] r) = (⟨#[]⟩ : ByteArray) := fun r => rfl
   by_cases hs : (⟨#[]⟩ : ByteArray) = s
   · subst hs
     rw [if_pos rfl]
     exact (List.filter_eq_self.2 (fun r _ => decide_eq_true (e0 r))).symm
   · rw [if_neg hs]
     exact (List.filter_eq_nil_iff.2 (fun r _ => by rw [decide_eq_true_eq, e0]; exact hs)).symm
theorem groups_all (A0 : Option Addr) (c0 : Nat) (l0 : List (List V)) (A1 : Option Addr) (c1 : Nat) (l1 : List Int) (w : World) (hT : LaidT w) (hr0 : Kd.C kRow w A0 l0.length l0) (hc0 : l0.length ≤ c0) (hr1 : Kd.C (Kd.int .i64) w A1 l1.length l1) (hn0 : l0.length ≤ 1099511627776) (hn1 : l1.length ≤ 1099511627776)
 (hin : ∀ row ∈ l0, ∀ n ∈ l1, 0 ≤ n ∧ n < (row.length : Int)) (hkey : ∀ row ∈ l0, RowOk (keyOf l1 row) ∧ ∀ v ∈ keyOf l1 row, validV v = true) :
 Calls Tryz.prog 64 #[.slice A0 l0.length c0, .slice A1 l1.length c1] w fun e w' => GroupsPost w l1 l0 e w' := by
 cases l1 with
 | nil => exact groups_nil A0 c0 l0 A1 c1 w hr0 hc0
 | cons n ns => exact groups_calls A0 c0 l0 A1 c1 (n :: ns) w hT hr0 hr1 hn0 hn1 (by simp) hin hkey
theorem out_far {W : World} {b q : Nat} (hne : q ≠ b) (x0 x1 x2 x3 : Value) (j : Nat) : ((((W.setCell ⟨b, 0, none⟩ x0).setCell ⟨b, 1, none⟩ x1).setCell ⟨b, 2, none⟩ x2).setCell ⟨b, 3, none⟩ x3).cell? ⟨q, j, none⟩ = W.cell? ⟨q, j, none⟩ := by
 have h : ((((W.setCell ⟨b, 0, none⟩ x0).setCell ⟨b, 1, none⟩ x1).setCell ⟨b, 2, none⟩ x2).setCell ⟨b, 3, none⟩ x3).heap[q]? = W.heap[q]? :=
  (Below.heap_setCell _ _ _ q hne).trans ((Below.heap_setCell _ _ _ q hne).trans ((Below.heap_setCell _ _ _ q hne).trans (Below.heap_setCell _ _ _ q hne)))
 simp only [World.cell?, h]
theorem out_belowB {w W : World} {q : Nat} (h : Below w.heap.size w W) (hq : w.heap.size ≤ q) (x0 x1 x2 x3 : Value) : Below w.heap.size w ((((W.setCell ⟨q, 0, none⟩ x0).setCell ⟨q, 1, none⟩ x1).setCell ⟨q, 2, none⟩ x2).setCell ⟨q, 3, none⟩ x3) :=
 (((h.setCell hq _).setCell hq _).setCell hq _).setCell hq _
theorem cells3 {W W1 : World} {b : Nat} {u0 u1 u2 : Value} (hb : Below W.heap.size W W1) (h : W.cell? ⟨b, 0, none⟩ = some u0 ∧ W.cell? ⟨b, 1, none⟩ = some u1 ∧ W.cell? ⟨b, 2, none⟩ = some u2) : W1.cell? ⟨b, 0, none⟩ = some u0 ∧ W1.cell? ⟨b, 1, none⟩ = some u1 ∧ W1.cell? ⟨b, 2, none⟩ = some u2 :=
 ⟨cB_ hb h.1, cB_ hb h.2.1, cB_ hb h.2.2⟩
theorem far3 {W : World} {b q : Nat} {u0 u1 u2 x0 x1 x2 x3 : Value} (hne : q ≠ b) (h : W.cell? ⟨q, 0, none⟩ = some u0 ∧ W.cell? ⟨q, 1, none⟩ = some u1 ∧ W.cell? ⟨q, 2, none⟩ = some u2) :
 ((((W.setCell ⟨b, 0, none⟩ x0).setCell ⟨b, 1, none⟩ x1).setCell ⟨b, 2, none⟩ x2).setCell ⟨b, 3, none⟩ x3).cell? ⟨q, 0, none⟩ = some u0 ∧ ((((W.setCell ⟨b, 0, none⟩ x0).setCell ⟨b, 1, none⟩ x1).setCell ⟨b, 2, none⟩ x2).setCell ⟨b, 3, none⟩ x3).cell? ⟨q, 1, none⟩ = some u1 ∧ ((((W.setCell ⟨b, 0, none⟩ x0).setCell ⟨b, 1, none⟩ x1).setCell ⟨b, 2, none⟩ x2).setCell ⟨b, 3, none⟩ x3).cell? ⟨q, 2, none⟩ = some u2 :=
 ⟨(out_far hne _ _ _ _ 0).trans h.1, (out_far hne _ _ _ _ 1).trans h.2.1, (out_far hne _ _ _ _ 2).trans h.2.2⟩
theorem out2_cells {W : World} {q : Nat} {t : TypeId} {a b : Value} (h : W.heap[q]? = some (.cells #[a, b] t (0, 0))) (x0 x1 : Value) : ((W.setCell ⟨q, 0, none⟩ x0).setCell ⟨q, 1, none⟩ x1).heap[q]? = some (.cells #[x0, x1] t (0, 0)) :=
 blk_put (cs := #[x0, b]) (blk_put (cs := #[a, b]) h 0 _ rfl) 1 _ rfl
theorem out2_below {w W : World} {q : Nat} (h : Below w.heap.size w W) (hq : w.heap.size ≤ q) (x0 x1 : Value) : Below w.heap.size w ((W.setCell ⟨q, 0, none⟩ x0).setCell ⟨q, 1, none⟩ x1) := (h.setCell hq _).setCell hq _
theorem group_goodS (A0 : Option Addr) (c0 : Nat) (l0 : List (List V)) (A1 : Option Addr) (c1 : Nat) (l1 : List Int) (A2 : Option Addr) (c2 : Nat) (l2 : List AggT) (w : World) (hr0 : Kd.C kRow w A0 l0.length l0) (hc0 : l0.length ≤ c0) (hr1 : Kd.C (Kd.int .i64) w A1 l1.length l1) (hr2 : Kd.C kAgg w A2 l2.length l2) (hT : LaidT w) (hok : GroupOk l0 l1 l2) (hg : groupableB l0 l1 l2 = true) (grs : List (List V)) (ger : Int) (hG : groupG l0 l1 l2 = (grs, ger)) :
 Calls Tryz.prog 25 #[.slice A0 l0.length c0, .slice A1 l1.length c1, .slice A2 l2.length c2] w fun e w' => ∃ v0_ : Value, e = .returned (.agg #[v0_, .int .i64 ger]) ∧ Kd.S kRow 53 w' w.heap.size (fun _ => True) v0_ grs ∧ Below w.heap.size w w' := by
 obtain ⟨hv, hin, hag⟩ := groupable_parts hg
 have HGG : Aside0 (rowsOf l1 l0 l2 (keysR l1 l0) [] = (grs, ger)) := ⟨by rw [← hG]; unfold groupG; rw [if_pos hg]⟩
 have HAG := Aside0.mk hag
 clear hag hg hG
 obtain ⟨k, hk⟩ := (valid_ev l0 hok.rows.v).rounds
 rw [hv] at hk
 have HK := Aside0.mk hk
 have HV := Aside0.mk hv
 have HIN := Aside0.mk hin
 have HOK := Aside0.mk hok
 have HT := Aside0.mk hT
 have HR0 := Aside0.mk hr0
 have HC0 := Aside0.mk hc0
 have HR1 := Aside0.mk hr1
 have HR2 := Aside0.mk hr2
 clear hk hv hin hok hT hr0 hc0 hr1 hr2
 go_enter Tryz.func25, Tryz.ntmps25
 go_wp2_with (first
  | ((with_reducible refine gate_dst (N := 6) rfl ?_); refine box_event ?hg (N := 6) ?hd (cs := #[.slice none 0 0, .int .i64 0]) (t := 45) ?hr ?_; (case hd => rfl); (case hg => rfl); (case hr => first | (go_simp; done) | (go_simp; rfl)); intro q hq W hN hb1; have HB1 := Aside0.mk hb1; have HQ := Aside0.mk hq; have HN0 := Aside0.mk hN; clear hb1 hq hN)
  | ((with_reducible refine gate_dst (N := 7) rfl ?_); refine box_event ?hg (N := 7) ?hd (cs := #[.slice none 0 0, .int .i64 0]) (t := 45) ?hr ?_; (case hd => rfl); (case hg => rfl); (case hr => first | (go_simp; done) | (go_simp; rfl)); intro q2 hq2 W2 hN2 hb2; have HN1 := Aside0.mk ((hb2.block q (blk_lt HN0.out)).trans HN0.out); have HB2 := Aside0.mk (HB1.out.trans (hb2.mono HB1.out.size)); have HQ2 := Aside0.mk hq2; have HN2 := Aside0.mk hN2; have X0 : W2.cell? ⟨q2, 0, none⟩ = some (.slice none 0 0) := (blk_cell hN2 0).trans rfl; have X1 : W2.cell? ⟨q2, 1, none⟩ = some (.int .i64 0) := (blk_cell hN2 1).trans rfl; have X2 : ∀ j, W2.frozen? ⟨q2, j, none⟩ = false := (fun j => by simp [World.frozen?, hN2]); clear hb2 hq2 hN2))
 have hB3 : Below w.heap.size w ((W2.setCell ⟨q2, 0, none⟩ (.slice none 0 0)).setCell ⟨q2, 1, none⟩ (.int .i64 1)) := out2_below HB2.out (by rw [HQ2.out]; exact HB1.out.size) _ _
 have hq12 : q ≠ q2 := fun e => by have := blk_lt HN0.out; have := HQ2.out; omega
 have hN3 : ((W2.setCell ⟨q2, 0, none⟩ (.slice none 0 0)).setCell ⟨q2, 1, none⟩ (.int .i64 1)).heap[q]? = some (.cells #[.slice none 0 0, .int .i64 0] 45 (0, 0)) := (Below.heap_setCell _ _ _ q hq12).trans ((Below.heap_setCell _ _ _ q hq12).trans HN1.out)
 have HB3 := Aside0.mk hB3
 have HN3 := Aside0.mk hN3
 clear hB3 hq12 hN3 X0 X1 X2 HN1 HN2 HB2 HN0
 refine (bag_Valid.calls k _ _ l0 true _ (Kd.C_below HR0.out HB3.out) HC0.out HK.out).mono ?_
 rintro e w3 ⟨rfl, hb3⟩
 have HN4 := Aside0.mk ((hb3.block q (blk_lt HN3.out)).trans HN3.out)
 have HB4 := Aside0.mk (HB3.out.trans (hb3.mono HB3.out.size))
 have HQW : Aside0 (w.heap.size ≤ q) := ⟨Nat.le_of_eq HQ.out.symm⟩
 clear hb3 HN3 HB3 HB1 HQ2 HQ
 go_wp2
 go_loopg [29] l1.length (fun kq v29 W => ∃ x : Int, v29 = .int .i64 x ∧ Aside0 (0 ≤ x ∧ x ≤ l1.length ∧ (kq : Int) = l1.length - x) ∧ Aside0 (W.heap[q]? = some (.cells #[.slice none 0 0, .int .i64 0] 45 (0, 0))) ∧ Aside0 (Below w.heap.size w W))
 case atStart => exact ⟨0, rfl, ⟨by omega⟩, HN4, HB4⟩
 case round =>
  clear HN4 HB4
  obtain ⟨x, rfl, HX, HN, HB⟩ := hrel
  obtain ⟨hx0, hx1, hkq⟩ := HX.out
  by_cases hlt : x < (l1.length : Int)
  · have d1 : decide (x < (l1.length : Int)) = true := decide_eq_true hlt
    have d2 : decide (0 ≤ x) = true := decide_eq_true hx0
    obtain ⟨ad, e, hx_0⟩ := Kd.at_int HR1.out x hx0 hlt
    cases e
    replace hx_0 := (HB.out.cell (World.block_lt_of_cell? w _ hx_0)).trans hx_0
    have hj : x.toNat < l1.length := by omega
    have hrd : rd l1 x = l1[x.toNat] := by simp [rd, List.getElem?_eq_getElem hj]
    have hh := HIN.out (rd l1 x) (by rw [hrd]; exact List.getElem_mem hj)
    obtain ⟨n, hn⟩ : ∃ n, n = rd l1 x := ⟨_, rfl⟩
    rw [← hn] at hx_0 hh
    have HH := Aside0.mk hh
    have HLT := Aside0.mk hlt
    have HKQ := Aside0.mk hkq
    have HX0 := Aside0.mk hx0
    have HWR : Aside0 (wrap64 (x + 1) = x + 1) := ⟨by have := HOK.out.cn; unfold wrap64; omega⟩
    clear hn hrd hj hh hkq
    go_wp2_with fail
    refine (bag_has.calls A0 c0 l0 n true wr (Kd.C_below HR0.out HB.out) HC0.out (by rw [has_eq, HH.out])).mono ?_
    rintro e w5 ⟨rfl, ⟨nd, rfl⟩⟩
    go_wp2
    have hlt := HLT.out
    have hk := HKQ.out
    have hx0 := HX0.out
    cases gk with
    | zero => omega
    | succ k1 =>
     go_roundg k1
     case measure => omega
     case rel => exact ⟨x + 1, by rw [HWR.out], ⟨by omega⟩, HN, ⟨bN_ HB.out nd⟩⟩
  · have d1 : decide (x < (l1.length : Int)) = false := decide_eq_false hlt
    clear HX hx0 hx1 hkq hlt
    go_wp2
    go_loopg [41] l2.length (fun kq v41 W => ∃ x : Int, v41 = .int .i64 x ∧ Aside0 (0 ≤ x ∧ x ≤ l2.length ∧ (kq : Int) = l2.length - x) ∧ Aside0 (W.heap[q]? = some (.cells #[.slice none 0 0, .int .i64 0] 45 (0, 0))) ∧ Aside0 (Below w.heap.size w W))
    case atStart => exact ⟨0, rfl, ⟨by omega⟩, HN, HB⟩
    case round =>
     clear HN HB
     obtain ⟨x, rfl, HX, HN, HB⟩ := hrel
     obtain ⟨hx0, hx1, hkq⟩ := HX.out
     by_cases hlt : x < (l2.length : Int)
     · have d1 : decide (x < (l2.length : Int)) = true := decide_eq_true hlt
       have d2 : decide (0 ≤ x) = true := decide_eq_true hx0
       obtain ⟨ad, e, hx_0, hx_1, hx_2⟩ := at_T55 HR2.out x hx0 hlt
       cases e
       replace hx_0 := (HB.out.cell (World.block_lt_of_cell? w _ hx_0)).trans hx_0
       replace hx_1 := (HB.out.cell (World.block_lt_of_cell? w _ hx_1)).trans hx_1
       replace hx_2 := (HB.out.cell (World.block_lt_of_cell? w _ hx_2)).trans hx_2
       have hj : x.toNat < l2.length := by omega
       have hrd : rd_T55 l2 x = l2[x.toNat] := by simp [rd_T55, List.getElem?_eq_getElem hj]
       have hao := HAG.out (rd_T55 l2 x) (by rw [hrd]; exact List.getElem_mem hj)
       have hfn := HOK.out.fn (rd_T55 l2 x) (by rw [hrd]; exact List.getElem_mem hj)
       have hvals := HOK.out.vals (rd_T55 l2 x) (by rw [hrd]; exact List.getElem_mem hj)
       obtain ⟨a, ha⟩ : ∃ a, a = rd_T55 l2 x := ⟨_, rfl⟩
       rw [← ha] at hx_0 hx_1 hx_2 hao hfn hvals
       obtain ⟨f0, f1, f2⟩ := a
       dsimp only at hx_0 hx_1 hx_2
       have HLT := Aside0.mk hlt
       have HKQ := Aside0.mk hkq
       have HX0 := Aside0.mk hx0
       have HWR : Aside0 (wrap64 (x + 1) = x + 1) := ⟨by have := HOK.out.an; unfold wrap64; omega⟩
       clear hrd hj hkq ha
       by_cases h0 : f0 = 0
       · have h12 : f1 = 0 ∧ f2 = false := by
          unfold aggOkB at hao
          rw [if_pos h0] at hao
          exact of_decide_eq_true hao
         obtain ⟨rfl, rfl⟩ := h12
         subst h0
         clear hao hfn hvals
         go_wp2
         have hlt := HLT.out
         have hk := HKQ.out
         have hx0 := HX0.out
         cases gk with
         | zero => omega
         | succ k1 =>
          go_roundg k1
          case measure => omega
          case rel => exact ⟨x + 1, by rw [HWR.out], ⟨by omega⟩, ⟨(Below.heap_alloc wr _ q (blk_lt HN.out)).trans HN.out⟩, ⟨HB.out.alloc HB.out.size _⟩⟩
       · unfold aggOkB at hao
         rw [if_neg h0, Bool.and_eq_true] at hao
         have HHE : Aside0 (bag_has.f l0 f1 = some true) := ⟨by rw [has_eq]; exact congrArg some hao.1⟩
         obtain ⟨kc, hkc⟩ := (columnOf_ev l0 f1 (by
          have h1 := hao.1
          unfold hasB at h1
          cases hl : l0 with
          | nil => rw [hl] at h1; exact (of_decide_eq_true h1).1
          | cons r rs => rw [hl] at h1; exact (of_decide_eq_true h1).1) HOK.out.rows.2).rounds
         obtain ⟨ka, hka⟩ := (allowed_ev f0 f2 (columnR l0 f1) (fun v hv => by
          obtain ⟨row, hrow, rfl⟩ := List.mem_map.1 hv
          exact (hvals row hrow).1 _ (by simp)) (by rw [columnR, List.length_map]; exact HOK.out.rows.2)).rounds
         rw [hao.2] at hka
         have HKC2 := Aside0.mk hkc
         have HKA := Aside0.mk hka
         have z1 : (f0 == 0) = false := by simp [h0]
         have z2 : decide (f0 = 0) = false := decide_eq_false h0
         clear hkc hka hao hfn hvals h0
         obtain ⟨W5, hW5⟩ : ∃ W5, W5 = wr.alloc (.cells #[.int .u8 f0, .int .i64 f1, .bool f2] 55) := ⟨_, rfl⟩
         have HD5 : Aside0 (W5.cell? ⟨wr.heap.size, 0, none⟩ = some (.int .u8 f0) ∧ W5.cell? ⟨wr.heap.size, 1, none⟩ = some (.int .i64 f1) ∧ W5.cell? ⟨wr.heap.size, 2, none⟩ = some (.bool f2)) := ⟨by
          rw [hW5]
          exact ⟨(blk_cell (heap_alloc_new _ _) 0).trans rfl, (blk_cell (heap_alloc_new _ _) 1).trans rfl, (blk_cell (heap_alloc_new _ _) 2).trans rfl⟩⟩
         have HB5 : Aside0 (Below wr.heap.size wr W5) := ⟨by rw [hW5]; exact (Below.refl _ wr).alloc (Nat.le_refl _) _⟩
         have HE5 : Aside0 (W5.drew.cell? ⟨wr.heap.size, 0, none⟩ = some (.int .u8 f0) ∧ W5.drew.cell? ⟨wr.heap.size, 1, none⟩ = some (.int .i64 f1) ∧ W5.drew.cell? ⟨wr.heap.size, 2, none⟩ = some (.bool f2)) := ⟨HD5.out⟩
         have HC5 : Aside0 (∀ W', Below W5.heap.size W5 W' → kRow.C W' A0 l0.length l0) := ⟨fun W' hb => Kd.C_below HR0.out (HB.out.trans ((HB5.out.trans (hb.mono HB5.out.size)).mono HB.out.size))⟩
         have HBE : Aside0 (Below W5.heap.size W5 W5.drew) := ⟨(Below.refl _ W5).drew⟩
         go_wp2_with fail
         rw [← hW5]
         have HW5 := Aside0.mk hW5
         clear hW5
         go_region_held3 (fun W' => (W'.cell? ⟨wr.heap.size, 0, none⟩ = some (.int .u8 f0) ∧ W'.cell? ⟨wr.heap.size, 1, none⟩ = some (.int .i64 f1) ∧ W'.cell? ⟨wr.heap.size, 2, none⟩ = some (.bool f2))) (first | (with_reducible exact HD5.out) | (with_reducible exact HE5.out) | (with_reducible exact HS6.out) | (with_reducible exact HS7.out) | (with_reducible exact HS8.out)) (first
          | (go_at_call 62; (with_reducible refine (bag_has.calls A0 c0 l0 f1 true W5.drew (HC5.out _ HBE.out) HC0.out HHE.out).mono ?_); rintro e w6 ⟨rfl, ⟨nd, hd6⟩⟩; have HB6 : Aside0 (Below W5.heap.size W5 w6) := ⟨by rw [hd6]; exact bN_ HBE.out nd⟩; have HS6 : Aside0 (w6.cell? ⟨wr.heap.size, 0, none⟩ = some (.int .u8 f0) ∧ w6.cell? ⟨wr.heap.size, 1, none⟩ = some (.int .i64 f1) ∧ w6.cell? ⟨wr.heap.size, 2, none⟩ = some (.bool f2)) := ⟨cells3 HB6.out HD5.out⟩; clear hd6)
          | (go_at_call 63; (with_reducible refine (bag_columnOf.calls kc A0 c0 l0 f1 (columnR l0 f1) w6 (HC5.out _ HB6.out) HC0.out HKC2.out).mono ?_); rintro e w7 ⟨vc, rfl, hRc, hb7⟩; obtain ⟨Ac, cc, ec, hcc, hCc⟩ := Kd.R_reads hRc; subst ec; have hb57 : Below W5.heap.size W5 w7 := HB6.out.trans (hb7.mono HB6.out.size); have HS7 : Aside0 (w7.cell? ⟨wr.heap.size, 0, none⟩ = some (.int .u8 f0) ∧ w7.cell? ⟨wr.heap.size, 1, none⟩ = some (.int .i64 f1) ∧ w7.cell? ⟨wr.heap.size, 2, none⟩ = some (.bool f2)) := ⟨cells3 hb57 HD5.out⟩; have HCC := Aside0.mk hCc; have HCN := Aside0.mk hcc; have HB7 := Aside0.mk hb57; clear hb57 hRc hb7 hcc hCc)
          | (go_at_call 56; (with_reducible refine (bag_allowed.calls ka f0 f2 Ac cc (columnR l0 f1) true w7 HCC.out HCN.out HKA.out).mono ?_); rintro e w8 ⟨rfl, hb8⟩; have hb58 : Below W5.heap.size W5 w8 := HB7.out.trans (hb8.mono HB7.out.size); have HS8 : Aside0 (w8.cell? ⟨wr.heap.size, 0, none⟩ = some (.int .u8 f0) ∧ w8.cell? ⟨wr.heap.size, 1, none⟩ = some (.int .i64 f1) ∧ w8.cell? ⟨wr.heap.size, 2, none⟩ = some (.bool f2)) := ⟨cells3 hb58 HD5.out⟩; have HB8 := Aside0.mk hb58; clear hb58 hb8))
         go_wp2
         have hlt := HLT.out
         have hk := HKQ.out
         have hx0 := HX0.out
         have HBR := Aside0.mk (HB5.out.trans (HB8.out.mono HB5.out.size))
         cases gk with
         | zero => omega
         | succ k1 =>
          go_roundg k1
          case measure => omega
          case rel => exact ⟨x + 1, by rw [HWR.out], ⟨by omega⟩, ⟨(HBR.out.block q (blk_lt HN.out)).trans HN.out⟩, ⟨HB.out.trans (HBR.out.mono HB.out.size)⟩⟩
     · have d1 : decide (x < (l2.length : Int)) = false := decide_eq_false hlt
       clear HX hx0 hx1 hkq hlt
       have hlen : ∀ row ∈ l0, ∀ n ∈ l1, 0 ≤ n ∧ n < (row.length : Int) := fun row hrow n hn => by
        have h1 := HIN.out n hn
        cases hl : l0 with
        | nil => rw [hl] at hrow; cases hrow
        | cons r rs =>
         rw [hl] at h1 hrow
         have h2 := validB_len (hl ▸ HV.out) row hrow
         have := of_decide_eq_true h1
         omega
       have hval : ∀ row ∈ l0, ∀ v ∈ keyOf l1 row, validV v = true := fun row hrow v hv => by
        obtain ⟨n, hn, rfl⟩ := List.mem_map.1 hv
        have h1 := hlen row hrow n hn
        have h2 : n.toNat < row.length := by omega
        have : rd_T36 row n = row[n.toNat] := by simp [rd_T36, List.getElem?_eq_getElem h2]
        rw [this]
        exact validB_valid HV.out row hrow _ (List.getElem_mem h2)
       have HGC := Aside0.mk (groups_all A0 c0 l0 A1 c1 l1 wr (HT.out.below HB.out) (Kd.C_below HR0.out HB.out) HC0.out (Kd.C_below HR1.out HB.out) HOK.out.rows.2 HOK.out.cn hlen (fun row hrow => ⟨HOK.out.keys row hrow, hval row hrow⟩))
       clear hlen hval
       go_wp2_with fail
       refine HGC.out.mono ?_
       rintro e wK ⟨vk, m, kv, rfl, hRk, hIs, hCk, hLk, hbK⟩
       have HRK := Aside0.mk hRk
       have HIS := Aside0.mk hIs
       have HCL : Aside0 (∀ s, ∃ A c, ((KV.get kv s).map (fun p : LV => p.1)).getD (.slice none 0 0) = .slice A (listR l1 l0 s).length c ∧ (listR l1 l0 s).length ≤ c ∧ kRow.C wK A (listR l1 l0 s).length (listR l1 l0 s)) := ⟨fun s => by
        rw [← hLk s]
        cases hg : KV.get kv s with
        | none => exact ⟨none, 0, rfl, Nat.le_refl _, Kd.C_nil _ _⟩
        | some p =>
         obtain ⟨A, c, h1, h2, h3⟩ := hCk s p hg
         exact ⟨A, c, h1, h2, h3⟩⟩
       have HNK := Aside0.mk ((hbK.block q (blk_lt HN.out)).trans HN.out)
       have HBK := Aside0.mk (HB.out.trans (hbK.mono HB.out.size))
       clear hRk hIs hCk hLk hbK HGC HN HB
       obtain ⟨Ak, ck, ek, hlk, hKC⟩ := Kd.R_reads HRK.out
       subst ek
       have HKC := Aside0.mk hKC
       clear hlk hKC HRK
       obtain ⟨keys, hkeys⟩ : ∃ keys, keys = keysR l1 l0 := ⟨_, rfl⟩
       have HKO := Aside0.mk HOK.out.keyn
       have HKN := Aside0.mk HOK.out.keysn
       rw [← hkeys] at HKC HKO HKN HGG
       rw [← hkeys]
       have HKS := Aside0.mk hkeys
       clear hkeys
       go_wp2
       go_loopg [91, 14] keys.length (fun kq v91 v14 W => ∃ x : Int, v91 = .int .i64 x ∧ Aside0 (0 ≤ x ∧ x ≤ keys.length ∧ (kq : Int) = keys.length - x) ∧ Aside0 (∃ acc : List (List V), kRow.S 53 W wK.heap.size (fun _ => True) v14 acc ∧ rowsOf l1 l0 l2 (keys.drop x.toNat) acc = (grs, ger) ∧ acc.length ≤ x.toNat) ∧ Aside0 (Below wK.heap.size wK W))
       case atStart => exact ⟨0, rfl, ⟨by omega⟩, ⟨[], Kd.S_nil _ _ _ _ _, by simpa using HGG.out, Nat.le_refl _⟩, ⟨Below.refl _ _⟩⟩
       case round =>
        clear HGG
        obtain ⟨x, rfl, HX, HE, HB⟩ := hrel
        obtain ⟨acc, hO, hacc, hal⟩ := HE.out
        have HO := Aside0.mk hO
        have HACC := Aside0.mk hacc
        have HAL := Aside0.mk hal
        clear HE hO hacc hal
        obtain ⟨hx0, hx1, hkq⟩ := HX.out
        by_cases hlt : x < (keys.length : Int)
        · have d1 : decide (x < (keys.length : Int)) = true := decide_eq_true hlt
          have d2 : decide (0 ≤ x) = true := decide_eq_true hx0
          obtain ⟨ad, Ar, cr, e, hx_0, hlc, hrow⟩ := at_L4 HKC.out x hx0 hlt
          cases e
          replace hx_0 := (HB.out.cell (World.block_lt_of_cell? wK _ hx_0)).trans hx_0
          have hi : x.toNat < keys.length := by omega
          have hrd : rd_L4 keys x = keys[x.toNat] := by simp [rd_L4, List.getElem?_eq_getElem hi]
          have hky := HKO.out (rd_L4 keys x) (by rw [hrd]; exact List.getElem_mem hi)
          have htk : keys.drop x.toNat = rd_L4 keys x :: keys.drop (x + 1).toNat := by
           rw [drop_cons _ _ hi, hrd, show (x + 1).toNat = x.toNat + 1 by omega]
          obtain ⟨key, hkey⟩ : ∃ key, key = rd_L4 keys x := ⟨_, rfl⟩
          rw [← hkey] at hx_0 hlc hrow hky htk
          have HROW := Aside0.mk hrow
          have HLC := Aside0.mk hlc
          have HKY := Aside0.mk hky
          rw [htk] at HACC
          have HLT := Aside0.mk hlt
          have HKQ := Aside0.mk hkq
          have HX0 := Aside0.mk hx0
          have HWR : Aside0 (wrap64 (x + 1) = x + 1) := ⟨by have := HKN.out; unfold wrap64; omega⟩
          clear hrow hlc hky htk hkey hrd hi hkq
          have HBW := Aside0.mk (HBK.out.trans (HB.out.mono HBK.out.size))
          go_wp2_with fail
          refine (name_calls Ar cr key wr (HT.out.below HBW.out) (Kd.C_below HROW.out HB.out) HLC.out HKY.out.1 HKY.out.2.1 HKY.out.2.2).mono ?_
          rintro e wN ⟨rfl, hbn⟩
          obtain ⟨wO, hwO⟩ : ∃ wO, wO = wr := ⟨_, rfl⟩
          subst hwO
          obtain ⟨gO, hgO⟩ : ∃ gO, gO = gk := ⟨_, rfl⟩
          subst hgO
          have HBN := Aside0.mk hbn
          have HISN := Aside0.mk (HIS.out.below (HB.out.trans (hbn.mono HB.out.size)))
          obtain ⟨Al, cl, hul, hlc2, hcl2⟩ := HCL.out (nameOf key)
          obtain ⟨ls, hls⟩ : ∃ ls, ls = listR l1 l0 (nameOf key) := ⟨_, rfl⟩
          rw [← hls] at hul hlc2 hcl2
          have HUL := Aside0.mk hul
          have HLC2 := Aside0.mk hlc2
          have HCL2 := Aside0.mk hcl2
          have HLS := Aside0.mk hls
          have HKEYN : Aside0 (kV.C wN Ar key.length key) := ⟨Kd.C_below HROW.out (HB.out.trans (hbn.mono HB.out.size))⟩
          clear hul hlc2 hcl2 hls hbn
          have HE0 : Aside0 (Kd.R kV 36 (wN.alloc (.cells #[] 36)) wN.heap.size (fun _ => True) (.slice (some ⟨wN.heap.size, 0, none⟩) 0 0) []) := ⟨R_empty kV 36 wN⟩
          have HE1 := Aside0.mk ((Below.refl wN.heap.size wN).alloc (Nat.le_refl _) (.cells #[] 36))
          go_wp2_with (first
           | (at_lookup; refine KV.law_lookup _ rfl _ _ 87 rfl 9 22 Tryz.underlying9 Tryz.underlying87 (.slice none 0 0) (zeroRows _) m (fun p : LV => p.1) kv rfl HISN.out (nameOf key) rfl (.slice Al ls.length cl) HUL.out ?_)
           | (at_builtin; refine Kd.R_append_rows kV (w0 := wN) wN.heap.size rfl (.tmp 99) (.tmp 100) 53 36 (.agg #[(.int .u8 0), (.int .i64 0), (.string ⟨#[]⟩)]) 32 rfl Tryz.underlying53 infoV rfl (by decide) (by decide) _ [] key Ar key.length cr (fun _ => True) (fun _ => False) rfl rfl HE0.out (Kd.C_below HKEYN.out HE1.out) (fun x cs h => by obtain rfl := k36_open h; exact k36_mkM _ _ _ x) (fun _ h => h.elim) (fun _ _ => trivial) HE1.out HE1.out.size (by have := HKY.out.2.2; simp; omega) ?_; intro v1 w1 hR hb hg hat; have HK1 := Aside0.mk hR; have HBI := Aside0.mk hb; clear hR hb hg hat))
          have HLSUB : Aside0 (∀ row ∈ ls, row ∈ l0) := ⟨fun row hrow => by
           rw [HLS.out] at hrow
           exact (List.mem_filter.1 hrow).1⟩
          have HLLEN : Aside0 (ls.length ≤ l0.length) := ⟨by rw [HLS.out]; exact List.length_filter_le _ _⟩
          have HACC2 : Aside0 ((if (rowOf ls l2 key).2 = 0 then rowsOf l1 l0 l2 (keys.drop (x + 1).toNat) (acc ++ [(rowOf ls l2 key).1]) else ([], (rowOf ls l2 key).2)) = (grs, ger)) := ⟨by
           have := HACC.out
           simp only [rowsOf] at this
           rw [← HLS.out] at this
           exact this⟩
          clear HACC
          have HBO : Aside0 (Below wK.heap.size wK wN) := ⟨HB.out.trans (HBN.out.mono HB.out.size)⟩
          go_loopg [104, 18] l2.length (fun kq v104 v18 W => ∃ y : Int, v104 = .int .i64 y ∧ Aside0 (0 ≤ y ∧ y ≤ l2.length ∧ (kq : Int) = l2.length - y) ∧ Aside0 (∃ r : List V, kV.R 36 W wN.heap.size (fun _ => True) v18 r ∧ rowOf ls (l2.drop y.toNat) r = rowOf ls l2 key ∧ (r.length : Int) = key.length + y) ∧ Aside0 (Below wN.heap.size wN W))
          case atStart => exact ⟨0, rfl, ⟨by omega⟩, ⟨key, by simpa using HK1.out, rfl, by omega⟩, HBI⟩
          case round =>
           clear HK1 HBI
           obtain ⟨y, rfl, HY, HE, HBI⟩ := hrel
           obtain ⟨r, hR, hro, hrl⟩ := HE.out
           have HKR := Aside0.mk hR
           have HRO := Aside0.mk hro
           have HRL := Aside0.mk hrl
           clear HE hR hro hrl
           obtain ⟨hy0, hy1, hkq⟩ := HY.out
           by_cases hly : y < (l2.length : Int)
           · have d1 : decide (y < (l2.length : Int)) = true := decide_eq_true hly
             have d2 : decide (0 ≤ y) = true := decide_eq_true hy0
             have hbww : Below w.heap.size w wr := HBK.out.trans ((HBO.out.trans (HBI.out.mono HBO.out.size)).mono HBK.out.size)
             obtain ⟨ad2, e, hx_0, hx_1, hx_2⟩ := at_T55 HR2.out y hy0 hly
             cases e
             replace hx_0 := (hbww.cell (World.block_lt_of_cell? w _ hx_0)).trans hx_0
             replace hx_1 := (hbww.cell (World.block_lt_of_cell? w _ hx_1)).trans hx_1
             replace hx_2 := (hbww.cell (World.block_lt_of_cell? w _ hx_2)).trans hx_2
             have hj : y.toNat < l2.length := by omega
             have hrd : rd_T55 l2 y = l2[y.toNat] := by simp [rd_T55, List.getElem?_eq_getElem hj]
             have hmem : rd_T55 l2 y ∈ l2 := by rw [hrd]; exact List.getElem_mem hj
             have hdr : l2.drop y.toNat = rd_T55 l2 y :: l2.drop (y + 1).toNat := by
              rw [drop_cons _ _ hj, hrd, show (y + 1).toNat = y.toNat + 1 by omega]
             have hag := agg_ok HOK.out HV.out hmem HLSUB.out HLLEN.out
             have hcol := aggOk_col (HAG.out _ hmem)
             obtain ⟨a, ha⟩ : ∃ a, a = rd_T55 l2 y := ⟨_, rfl⟩
             rw [← ha] at hx_0 hx_1 hx_2 hag hcol hdr
             obtain ⟨⟨r0, r1, r2, r3⟩, hr⟩ : ∃ R, aggR a.f0 a.f2 (columnR ls a.f1) = R := ⟨_, rfl⟩
             have hro := HRO.out
             rw [hdr, rowOf_snoc hr] at hro
             rw [hr] at hag
             obtain ⟨f0, f1, f2⟩ := a
             dsimp only at hx_0 hx_1 hx_2 hag hcol
             have HAGG := Aside0.mk hag
             have HRO2 := Aside0.mk hro
             obtain ⟨kc, hkc⟩ := (columnOf_ev ls f1 hcol (Nat.le_trans HLLEN.out HOK.out.rows.2)).rounds
             have HKC2 := Aside0.mk hkc
             clear hkc hag hro hr ha hdr hmem hcol HRO
             have HLY := Aside0.mk hly
             have HKQ2 := Aside0.mk hkq
             have HY0 := Aside0.mk hy0
             have HWY : Aside0 (wrap64 (y + 1) = y + 1) := ⟨by have := HOK.out.an; unfold wrap64; omega⟩
             have HBWW := Aside0.mk hbww
             clear hrd hj hkq hbww
             obtain ⟨W5, hW5⟩ : ∃ W5, W5 = wr.alloc (.cells #[.int .u8 f0, .int .i64 f1, .bool f2] 55) := ⟨_, rfl⟩
             have D0 : W5.cell? ⟨wr.heap.size, 0, none⟩ = some (.int .u8 f0) := by rw [hW5]; exact (blk_cell (heap_alloc_new _ _) 0).trans rfl
             have D1 : W5.cell? ⟨wr.heap.size, 1, none⟩ = some (.int .i64 f1) := by rw [hW5]; exact (blk_cell (heap_alloc_new _ _) 1).trans rfl
             have D2 : W5.cell? ⟨wr.heap.size, 2, none⟩ = some (.bool f2) := by rw [hW5]; exact (blk_cell (heap_alloc_new _ _) 2).trans rfl
             have HB5 : Aside0 (Below wr.heap.size wr W5) := ⟨by rw [hW5]; exact (Below.refl _ wr).alloc (Nat.le_refl _) _⟩
             have HLEN : Aside0 ((r.length + 1) * 32 ≤ 140737488355328) := ⟨by
              have h1 := HKY.out.2.2
              have h2 := HOK.out.an
              have h3 := HLY.out
              have h4 := HRL.out
              omega⟩
             have HS5 : Aside0 (W5.heap.size = wr.heap.size + 1) := ⟨by rw [hW5]; simp⟩
             have HNE5 : Aside0 (wr.heap.size ≠ W5.heap.size) := ⟨by have := HS5.out; omega⟩
             have HD5 : Aside0 (W5.cell? ⟨wr.heap.size, 0, none⟩ = some (.int .u8 f0) ∧ W5.cell? ⟨wr.heap.size, 1, none⟩ = some (.int .i64 f1) ∧ W5.cell? ⟨wr.heap.size, 2, none⟩ = some (.bool f2)) := ⟨⟨D0, D1, D2⟩⟩
             have HE5 : Aside0 (W5.drew.cell? ⟨wr.heap.size, 0, none⟩ = some (.int .u8 f0) ∧ W5.drew.cell? ⟨wr.heap.size, 1, none⟩ = some (.int .i64 f1) ∧ W5.drew.cell? ⟨wr.heap.size, 2, none⟩ = some (.bool f2)) := ⟨⟨D0, D1, D2⟩⟩
             have HE6 : Aside0 (∀ o, ((W5.alloc o).cell? ⟨wr.heap.size, 0, none⟩ = some (.int .u8 f0) ∧ (W5.alloc o).cell? ⟨wr.heap.size, 1, none⟩ = some (.int .i64 f1) ∧ (W5.alloc o).cell? ⟨wr.heap.size, 2, none⟩ = some (.bool f2))) := ⟨fun o => cells3 ((Below.refl _ W5).alloc (Nat.le_refl _) o) HD5.out⟩
             have HE7 : Aside0 (∀ o, ((W5.alloc o).drew.cell? ⟨wr.heap.size, 0, none⟩ = some (.int .u8 f0) ∧ (W5.alloc o).drew.cell? ⟨wr.heap.size, 1, none⟩ = some (.int .i64 f1) ∧ (W5.alloc o).drew.cell? ⟨wr.heap.size, 2, none⟩ = some (.bool f2))) := ⟨fun o => HE6.out o⟩
             clear D0 D1 D2
             have HX5 : Aside0 ((W5.alloc (.cells #[.int .u8 0, .int .i64 0, .string ⟨#[]⟩, .int .i64 0] 38)).drew.heap[W5.heap.size]? = some (.cells #[.int .u8 0, .int .i64 0, .string ⟨#[]⟩, .int .i64 0] 38 (0, 0)) ∧ W5.heap.size < (W5.alloc (.cells #[.int .u8 0, .int .i64 0, .string ⟨#[]⟩, .int .i64 0] 38)).drew.heap.size) := ⟨heap_alloc_new W5 _, blk_lt (heap_alloc_new W5 (.cells #[.int .u8 0, .int .i64 0, .string ⟨#[]⟩, .int .i64 0] 38))⟩
             have HBEL : Aside0 (Below W5.heap.size W5 (W5.alloc (.cells #[.int .u8 0, .int .i64 0, .string ⟨#[]⟩, .int .i64 0] 38)).drew) := ⟨((Below.refl _ W5).alloc (Nat.le_refl _) _).drew⟩
             have HBE : Aside0 (Below W5.heap.size W5 W5.drew) := ⟨(Below.refl _ W5).drew⟩
             have HLIST : Aside0 (∀ W', Below W5.heap.size W5 W' → kRow.C W' Al ls.length ls) := ⟨fun W' hb => Kd.C_below HCL2.out (HBO.out.trans ((HBI.out.trans ((HB5.out.trans (hb.mono HB5.out.size)).mono HBI.out.size)).mono HBO.out.size))⟩
             have HT5 : Aside0 (∀ W', Below W5.heap.size W5 W' → LaidT W') := ⟨fun W' hb => HT.out.below (HBWW.out.trans ((HB5.out.trans (hb.mono HB5.out.size)).mono HBWW.out.size))⟩
             go_wp2_with fail
             rw [← hW5]
             have HW5 := Aside0.mk hW5
             clear hW5
             go_region_held3 (fun W' => (W'.cell? ⟨wr.heap.size, 0, none⟩ = some (.int .u8 f0) ∧ W'.cell? ⟨wr.heap.size, 1, none⟩ = some (.int .i64 f1) ∧ W'.cell? ⟨wr.heap.size, 2, none⟩ = some (.bool f2))) (first | (with_reducible exact HD5.out) | (with_reducible exact HE5.out) | (with_reducible exact HE7.out _) | (with_reducible exact HE6.out _) | (with_reducible exact HR7.out) | (with_reducible exact HR7a.out _) | (with_reducible exact HS8.out) | (with_reducible exact HS8a.out _) | (with_reducible exact far3 HNE7.out HS8.out) | (with_reducible exact far3 HNE5.out HS8.out)) (first
              | (go_at_call 63; (with_reducible refine (bag_columnOf.calls kc Al cl ls f1 (columnR ls f1) W5.drew (HLIST.out _ HBE.out) HLC2.out HKC2.out).mono ?_); rintro e w7 ⟨vc, rfl, hRc, hb7⟩; obtain ⟨Ac, cc, ec, hcc, hCc⟩ := Kd.R_reads hRc; subst ec; have hb57 : Below W5.heap.size W5 w7 := (HBE.out).trans (hb7.mono (HBE.out).size); have HR7 : Aside0 (w7.cell? ⟨wr.heap.size, 0, none⟩ = some (.int .u8 f0) ∧ w7.cell? ⟨wr.heap.size, 1, none⟩ = some (.int .i64 f1) ∧ w7.cell? ⟨wr.heap.size, 2, none⟩ = some (.bool f2)) := ⟨cells3 hb57 HD5.out⟩; have HR7a : Aside0 (∀ o, ((w7.alloc o).cell? ⟨wr.heap.size, 0, none⟩ = some (.int .u8 f0) ∧ (w7.alloc o).cell? ⟨wr.heap.size, 1, none⟩ = some (.int .i64 f1) ∧ (w7.alloc o).cell? ⟨wr.heap.size, 2, none⟩ = some (.bool f2))) := ⟨fun o => cells3 ((Below.refl _ w7).alloc (Nat.le_refl _) o) HR7.out⟩; have HCC := Aside0.mk hCc; have HCN := Aside0.mk hcc; have HB7 := Aside0.mk hb57; have HNE7 : Aside0 (wr.heap.size ≠ w7.heap.size) := ⟨by have := HB7.out.size; have := HS5.out; omega⟩; clear hb57 hRc hb7 hcc hCc)
              | (go_at_call 63; (with_reducible refine (bag_columnOf.calls kc Al cl ls f1 (columnR ls f1) (W5.alloc (.cells #[.int .u8 0, .int .i64 0, .string ⟨#[]⟩, .int .i64 0] 38)).drew (HLIST.out _ HBEL.out) HLC2.out HKC2.out).mono ?_); rintro e w7 ⟨vc, rfl, hRc, hb7⟩; obtain ⟨Ac, cc, ec, hcc, hCc⟩ := Kd.R_reads hRc; subst ec; have hb57 : Below W5.heap.size W5 w7 := (HBEL.out).trans (hb7.mono (HBEL.out).size); have HR7 : Aside0 (w7.cell? ⟨wr.heap.size, 0, none⟩ = some (.int .u8 f0) ∧ w7.cell? ⟨wr.heap.size, 1, none⟩ = some (.int .i64 f1) ∧ w7.cell? ⟨wr.heap.size, 2, none⟩ = some (.bool f2)) := ⟨cells3 hb57 HD5.out⟩; have HR7a : Aside0 (∀ o, ((w7.alloc o).cell? ⟨wr.heap.size, 0, none⟩ = some (.int .u8 f0) ∧ (w7.alloc o).cell? ⟨wr.heap.size, 1, none⟩ = some (.int .i64 f1) ∧ (w7.alloc o).cell? ⟨wr.heap.size, 2, none⟩ = some (.bool f2))) := ⟨fun o => cells3 ((Below.refl _ w7).alloc (Nat.le_refl _) o) HR7.out⟩; have HCC := Aside0.mk hCc; have HCN := Aside0.mk hcc; have HX7 := Aside0.mk ((hb7.block W5.heap.size HX5.out.2).trans HX5.out.1); have HB7 := Aside0.mk hb57; have HNE7 : Aside0 (wr.heap.size ≠ w7.heap.size) := ⟨by have := HB7.out.size; have := HS5.out; omega⟩; clear hb57 hRc hb7 hcc hCc)
              | (go_at_call 21; have hx7 := HX7.out; (with_reducible refine (bag_Aggregate.calls f0 f2 Ac cc (columnR ls f1) r0 r1 r2 r3 w7 HCC.out HCN.out (HT5.out w7 HB7.out) HAGG.out).mono ?_); rintro e w8 ⟨rfl, hb8⟩; have hb78 : Below w7.heap.size w7 w8 := hb8; have HS8 : Aside0 (w8.cell? ⟨wr.heap.size, 0, none⟩ = some (.int .u8 f0) ∧ w8.cell? ⟨wr.heap.size, 1, none⟩ = some (.int .i64 f1) ∧ w8.cell? ⟨wr.heap.size, 2, none⟩ = some (.bool f2)) := ⟨cells3 hb78 HR7.out⟩; have HS8a : Aside0 (∀ o, ((w8.alloc o).cell? ⟨wr.heap.size, 0, none⟩ = some (.int .u8 f0) ∧ (w8.alloc o).cell? ⟨wr.heap.size, 1, none⟩ = some (.int .i64 f1) ∧ (w8.alloc o).cell? ⟨wr.heap.size, 2, none⟩ = some (.bool f2))) := ⟨fun o => cells3 ((Below.refl _ w8).alloc (Nat.le_refl _) o) HS8.out⟩; have HB8 := Aside0.mk (HB7.out.trans (hb78.mono HB7.out.size)); have hX8 := (hb8.block W5.heap.size (blk_lt hx7)).trans hx7; have x0 : w8.cell? ⟨W5.heap.size, 0, none⟩ = some (.int .u8 0) := (blk_cell hX8 0).trans rfl; have x1 : w8.cell? ⟨W5.heap.size, 1, none⟩ = some (.int .i64 0) := (blk_cell hX8 1).trans rfl; have x2 : w8.cell? ⟨W5.heap.size, 2, none⟩ = some (.string ⟨#[]⟩) := (blk_cell hX8 2).trans rfl; have x3 : w8.cell? ⟨W5.heap.size, 3, none⟩ = some (.int .i64 0) := (blk_cell hX8 3).trans rfl; have xf : ∀ j, w8.frozen? ⟨W5.heap.size, j, none⟩ = false := (fun j => by simp [World.frozen?, hX8]); have HX8 := Aside0.mk hX8; clear hX8; clear hb8 hb78 hx7)
              | (go_at_call 21; have hb9 : Below w7.heap.size w7 (w7.alloc (.cells #[.int .u8 0, .int .i64 0, .string ⟨#[]⟩, .int .i64 0] 38)) := (Below.refl _ w7).alloc (Nat.le_refl _) _; have hbx : Below W5.heap.size W5 (w7.alloc (.cells #[.int .u8 0, .int .i64 0, .string ⟨#[]⟩, .int .i64 0] 38)) := HB7.out.trans (hb9.mono HB7.out.size); (with_reducible refine (bag_Aggregate.calls f0 f2 Ac cc (columnR ls f1) r0 r1 r2 r3 (w7.alloc (.cells #[.int .u8 0, .int .i64 0, .string ⟨#[]⟩, .int .i64 0] 38)) (Kd.C_below HCC.out hb9) HCN.out (HT5.out _ hbx) HAGG.out).mono ?_); rintro e w8 ⟨rfl, hb8⟩; have hb78 : Below w7.heap.size w7 w8 := hb9.trans (hb8.mono hb9.size); have HS8 : Aside0 (w8.cell? ⟨wr.heap.size, 0, none⟩ = some (.int .u8 f0) ∧ w8.cell? ⟨wr.heap.size, 1, none⟩ = some (.int .i64 f1) ∧ w8.cell? ⟨wr.heap.size, 2, none⟩ = some (.bool f2)) := ⟨cells3 hb78 HR7.out⟩; have HS8a : Aside0 (∀ o, ((w8.alloc o).cell? ⟨wr.heap.size, 0, none⟩ = some (.int .u8 f0) ∧ (w8.alloc o).cell? ⟨wr.heap.size, 1, none⟩ = some (.int .i64 f1) ∧ (w8.alloc o).cell? ⟨wr.heap.size, 2, none⟩ = some (.bool f2))) := ⟨fun o => cells3 ((Below.refl _ w8).alloc (Nat.le_refl _) o) HS8.out⟩; have hX8 := (hb8.block w7.heap.size (blk_lt (heap_alloc_new w7 _))).trans (heap_alloc_new w7 _); have x0 : w8.cell? ⟨w7.heap.size, 0, none⟩ = some (.int .u8 0) := (blk_cell hX8 0).trans rfl; have x1 : w8.cell? ⟨w7.heap.size, 1, none⟩ = some (.int .i64 0) := (blk_cell hX8 1).trans rfl; have x2 : w8.cell? ⟨w7.heap.size, 2, none⟩ = some (.string ⟨#[]⟩) := (blk_cell hX8 2).trans rfl; have x3 : w8.cell? ⟨w7.heap.size, 3, none⟩ = some (.int .i64 0) := (blk_cell hX8 3).trans rfl; have xf : ∀ j, w8.frozen? ⟨w7.heap.size, j, none⟩ = false := (fun j => by simp [World.frozen?, hX8]); have HX8 := Aside0.mk hX8; clear hX8; have HB8 := Aside0.mk (HB7.out.trans (hb78.mono HB7.out.size)); clear hb8 hb9 hb78 hbx)
              | (go_at_call 21; (with_reducible refine (bag_Aggregate.calls f0 f2 Ac cc (columnR ls f1) r0 r1 r2 r3 w7 HCC.out HCN.out (HT5.out w7 HB7.out) HAGG.out).mono ?_); rintro e w8 ⟨rfl, hb8⟩; have hb78 : Below w7.heap.size w7 w8 := hb8; have HS8 : Aside0 (w8.cell? ⟨wr.heap.size, 0, none⟩ = some (.int .u8 f0) ∧ w8.cell? ⟨wr.heap.size, 1, none⟩ = some (.int .i64 f1) ∧ w8.cell? ⟨wr.heap.size, 2, none⟩ = some (.bool f2)) := ⟨cells3 hb78 HR7.out⟩; have HS8a : Aside0 (∀ o, ((w8.alloc o).cell? ⟨wr.heap.size, 0, none⟩ = some (.int .u8 f0) ∧ (w8.alloc o).cell? ⟨wr.heap.size, 1, none⟩ = some (.int .i64 f1) ∧ (w8.alloc o).cell? ⟨wr.heap.size, 2, none⟩ = some (.bool f2))) := ⟨fun o => cells3 ((Below.refl _ w8).alloc (Nat.le_refl _) o) HS8.out⟩; have HB8 := Aside0.mk (HB7.out.trans (hb78.mono HB7.out.size)); clear hb8 hb78))
             · obtain ⟨W9, hW9⟩ : ∃ W9, W9 = (w8.alloc (.cells #[.int .u8 r0, .int .i64 r1, .string r2, .int .i64 r3] 38)) := ⟨_, rfl⟩
               rw [← hW9]
               have hO9 : W9.heap[w8.heap.size]? = some (.cells #[.int .u8 r0, .int .i64 r1, .string r2, .int .i64 r3] 38 (0, 0)) := by rw [hW9]; exact heap_alloc_new _ _
               have HB9 : Aside0 (Below wr.heap.size wr W9) := ⟨by rw [hW9]; exact (HB5.out.trans (HB8.out.mono HB5.out.size)).alloc (HB5.out.trans (HB8.out.mono HB5.out.size)).size _⟩
               have o0 : W9.cell? ⟨w8.heap.size, 0, none⟩ = some (.int .u8 r0) := (blk_cell hO9 0).trans rfl
               have o1 : W9.cell? ⟨w8.heap.size, 1, none⟩ = some (.int .i64 r1) := (blk_cell hO9 1).trans rfl
               have o2 : W9.cell? ⟨w8.heap.size, 2, none⟩ = some (.string r2) := (blk_cell hO9 2).trans rfl
               have o3 : W9.cell? ⟨w8.heap.size, 3, none⟩ = some (.int .i64 r3) := (blk_cell hO9 3).trans rfl
               clear hO9 hW9
               try clear x0 x1 x2 x3 xf
               have HK9 := Aside0.mk (Kd.R_below HKR.out HB9.out)
               have HI9 := Aside0.mk (HBI.out.trans (HB9.out.mono HBI.out.size))
               by_cases hr3 : r3 = 0
               · subst hr3
                 go_wp2_with (at_builtin; refine Kd.R_append kV (w0 := wN) wN.heap.size rfl (.tmp 123) (.tmp 126) 53 36 (.agg #[(.int .u8 0), (.int .i64 0), (.string ⟨#[]⟩)]) 32 rfl Tryz.underlying53 infoV rfl (by decide) (by decide) _ _ (⟨r0, r1, r2⟩ : V) [.int .u8 r0, .int .i64 r1, .string r2] (fun _ => True) (fun _ => False) rfl rfl (k36_mkM _ _ _ (⟨r0, r1, r2⟩ : V)) (fun _ h => h.elim) (fun _ _ => trivial) HK9.out HI9.out HI9.out.size HLEN.out ?_; intro v6 w6 hR4 hb4 hg4 hat4; have HO4 := Aside0.mk hR4; have HB4 := Aside0.mk hb4; clear hR4 hb4 hg4 hat4)
                 have hk := HKQ2.out
                 have hly := HLY.out
                 have hy0 := HY0.out
                 cases gk with
                 | zero => omega
                 | succ k1 =>
                  go_roundg k1
                  case measure => omega
                  case rel => exact ⟨y + 1, by rw [HWY.out], ⟨by omega⟩, ⟨_, HO4.out, by have h := HRO2.out; rw [if_pos trivial] at h; exact h, by have h := HRL.out; rw [List.length_append]; simp only [List.length_cons, List.length_nil]; omega⟩, HB4⟩
               · obtain ⟨hgr, hge⟩ : grs = [] ∧ r3 = ger := by
                  have h := HRO2.out
                  rw [if_neg hr3] at h
                  have h2 := HACC2.out
                  rw [← h, if_neg hr3] at h2
                  simp only [Prod.mk.injEq] at h2
                  exact ⟨h2.1.symm, h2.2⟩
                 subst hgr
                 have z3 : (r3 != 0) = true := by simp [hr3]
                 have z4 : decide (r3 = 0) = false := decide_eq_false hr3
                 have hbq : Below wK.heap.size wK W9 := HBO.out.trans ((HBI.out.trans (HB9.out.mono HBI.out.size)).mono HBO.out.size)
                 have HN9 := Aside0.mk ((hbq.block q (blk_lt HNK.out)).trans HNK.out)
                 have HBZ := Aside0.mk (HBK.out.trans (hbq.mono HBK.out.size))
                 have y0 : W9.cell? ⟨q, 0, none⟩ = some (.slice none 0 0) := (blk_cell HN9.out 0).trans rfl
                 have y1 : W9.cell? ⟨q, 1, none⟩ = some (.int .i64 0) := (blk_cell HN9.out 1).trans rfl
                 have yf : ∀ j, W9.frozen? ⟨q, j, none⟩ = false := fun j => by have := HN9.out; simp [World.frozen?, this]
                 clear hbq hr3
                 have HGE := Aside0.mk hge
                 clear hge
                 go_wp2
                 refine bodyPost_ret (results_cell_row rfl _ _ q 45 _ (0, 0) _ rfl (out2_cells HN9.out _ _) Tryz.underlying45 rfl (by kernel_rfl)) rfl ?_
                 exact ⟨_, by rw [HGE.out], Kd.S_nil _ _ _ _ _, out2_below HBZ.out HQW.out _ _⟩
             · obtain ⟨W9, hW9⟩ : ∃ W9, W9 = ((((w8.setCell ⟨w7.heap.size, 0, none⟩ (.int .u8 r0)).setCell ⟨w7.heap.size, 1, none⟩ (.int .i64 r1)).setCell ⟨w7.heap.size, 2, none⟩ (.string r2)).setCell ⟨w7.heap.size, 3, none⟩ (.int .i64 r3)) := ⟨_, rfl⟩
               rw [← hW9]
               have hO9 : W9.heap[w7.heap.size]? = some (.cells #[.int .u8 r0, .int .i64 r1, .string r2, .int .i64 r3] 38 (0, 0)) := by rw [hW9]; exact out_cells HX8.out _ _ _ _
               have HB9 : Aside0 (Below wr.heap.size wr W9) := ⟨by rw [hW9]; exact out_belowB (HB5.out.trans (HB8.out.mono HB5.out.size)) (Nat.le_trans HB5.out.size HB7.out.size) _ _ _ _⟩
               have o0 : W9.cell? ⟨w7.heap.size, 0, none⟩ = some (.int .u8 r0) := (blk_cell hO9 0).trans rfl
               have o1 : W9.cell? ⟨w7.heap.size, 1, none⟩ = some (.int .i64 r1) := (blk_cell hO9 1).trans rfl
               have o2 : W9.cell? ⟨w7.heap.size, 2, none⟩ = some (.string r2) := (blk_cell hO9 2).trans rfl
               have o3 : W9.cell? ⟨w7.heap.size, 3, none⟩ = some (.int .i64 r3) := (blk_cell hO9 3).trans rfl
               clear hO9 hW9
               try clear x0 x1 x2 x3 xf
               have HK9 := Aside0.mk (Kd.R_below HKR.out HB9.out)
               have HI9 := Aside0.mk (HBI.out.trans (HB9.out.mono HBI.out.size))
               by_cases hr3 : r3 = 0
               · subst hr3
                 go_wp2_with (at_builtin; refine Kd.R_append kV (w0 := wN) wN.heap.size rfl (.tmp 123) (.tmp 126) 53 36 (.agg #[(.int .u8 0), (.int .i64 0), (.string ⟨#[]⟩)]) 32 rfl Tryz.underlying53 infoV rfl (by decide) (by decide) _ _ (⟨r0, r1, r2⟩ : V) [.int .u8 r0, .int .i64 r1, .string r2] (fun _ => True) (fun _ => False) rfl rfl (k36_mkM _ _ _ (⟨r0, r1, r2⟩ : V)) (fun _ h => h.elim) (fun _ _ => trivial) HK9.out HI9.out HI9.out.size HLEN.out ?_; intro v6 w6 hR4 hb4 hg4 hat4; have HO4 := Aside0.mk hR4; have HB4 := Aside0.mk hb4; clear hR4 hb4 hg4 hat4)
                 have hk := HKQ2.out
                 have hly := HLY.out
                 have hy0 := HY0.out
                 cases gk with
                 | zero => omega
                 | succ k1 =>
                  go_roundg k1
                  case measure => omega
                  case rel => exact ⟨y + 1, by rw [HWY.out], ⟨by omega⟩, ⟨_, HO4.out, by have h := HRO2.out; rw [if_pos trivial] at h; exact h, by have h := HRL.out; rw [List.length_append]; simp only [List.length_cons, List.length_nil]; omega⟩, HB4⟩
               · obtain ⟨hgr, hge⟩ : grs = [] ∧ r3 = ger := by
                  have h := HRO2.out
                  rw [if_neg hr3] at h
                  have h2 := HACC2.out
                  rw [← h, if_neg hr3] at h2
                  simp only [Prod.mk.injEq] at h2
                  exact ⟨h2.1.symm, h2.2⟩
                 subst hgr
                 have z3 : (r3 != 0) = true := by simp [hr3]
                 have z4 : decide (r3 = 0) = false := decide_eq_false hr3
                 have hbq : Below wK.heap.size wK W9 := HBO.out.trans ((HBI.out.trans (HB9.out.mono HBI.out.size)).mono HBO.out.size)
                 have HN9 := Aside0.mk ((hbq.block q (blk_lt HNK.out)).trans HNK.out)
                 have HBZ := Aside0.mk (HBK.out.trans (hbq.mono HBK.out.size))
                 have y0 : W9.cell? ⟨q, 0, none⟩ = some (.slice none 0 0) := (blk_cell HN9.out 0).trans rfl
                 have y1 : W9.cell? ⟨q, 1, none⟩ = some (.int .i64 0) := (blk_cell HN9.out 1).trans rfl
                 have yf : ∀ j, W9.frozen? ⟨q, j, none⟩ = false := fun j => by have := HN9.out; simp [World.frozen?, this]
                 clear hbq hr3
                 have HGE := Aside0.mk hge
                 clear hge
                 go_wp2
                 refine bodyPost_ret (results_cell_row rfl _ _ q 45 _ (0, 0) _ rfl (out2_cells HN9.out _ _) Tryz.underlying45 rfl (by kernel_rfl)) rfl ?_
                 exact ⟨_, by rw [HGE.out], Kd.S_nil _ _ _ _ _, out2_below HBZ.out HQW.out _ _⟩
             · obtain ⟨W9, hW9⟩ : ∃ W9, W9 = ((((w8.setCell ⟨W5.heap.size, 0, none⟩ (.int .u8 r0)).setCell ⟨W5.heap.size, 1, none⟩ (.int .i64 r1)).setCell ⟨W5.heap.size, 2, none⟩ (.string r2)).setCell ⟨W5.heap.size, 3, none⟩ (.int .i64 r3)) := ⟨_, rfl⟩
               rw [← hW9]
               have hO9 : W9.heap[W5.heap.size]? = some (.cells #[.int .u8 r0, .int .i64 r1, .string r2, .int .i64 r3] 38 (0, 0)) := by rw [hW9]; exact out_cells HX8.out _ _ _ _
               have HB9 : Aside0 (Below wr.heap.size wr W9) := ⟨by rw [hW9]; exact out_belowB (HB5.out.trans (HB8.out.mono HB5.out.size)) HB5.out.size _ _ _ _⟩
               have o0 : W9.cell? ⟨W5.heap.size, 0, none⟩ = some (.int .u8 r0) := (blk_cell hO9 0).trans rfl
               have o1 : W9.cell? ⟨W5.heap.size, 1, none⟩ = some (.int .i64 r1) := (blk_cell hO9 1).trans rfl
               have o2 : W9.cell? ⟨W5.heap.size, 2, none⟩ = some (.string r2) := (blk_cell hO9 2).trans rfl
               have o3 : W9.cell? ⟨W5.heap.size, 3, none⟩ = some (.int .i64 r3) := (blk_cell hO9 3).trans rfl
               clear hO9 hW9
               try clear x0 x1 x2 x3 xf
               have HK9 := Aside0.mk (Kd.R_below HKR.out HB9.out)
               have HI9 := Aside0.mk (HBI.out.trans (HB9.out.mono HBI.out.size))
               by_cases hr3 : r3 = 0
               · subst hr3
                 go_wp2_with (at_builtin; refine Kd.R_append kV (w0 := wN) wN.heap.size rfl (.tmp 123) (.tmp 126) 53 36 (.agg #[(.int .u8 0), (.int .i64 0), (.string ⟨#[]⟩)]) 32 rfl Tryz.underlying53 infoV rfl (by decide) (by decide) _ _ (⟨r0, r1, r2⟩ : V) [.int .u8 r0, .int .i64 r1, .string r2] (fun _ => True) (fun _ => False) rfl rfl (k36_mkM _ _ _ (⟨r0, r1, r2⟩ : V)) (fun _ h => h.elim) (fun _ _ => trivial) HK9.out HI9.out HI9.out.size HLEN.out ?_; intro v6 w6 hR4 hb4 hg4 hat4; have HO4 := Aside0.mk hR4; have HB4 := Aside0.mk hb4; clear hR4 hb4 hg4 hat4)
                 have hk := HKQ2.out
                 have hly := HLY.out
                 have hy0 := HY0.out
                 cases gk with
                 | zero => omega
                 | succ k1 =>
                  go_roundg k1
                  case measure => omega
                  case rel => exact ⟨y + 1, by rw [HWY.out], ⟨by omega⟩, ⟨_, HO4.out, by have h := HRO2.out; rw [if_pos trivial] at h; exact h, by have h := HRL.out; rw [List.length_append]; simp only [List.length_cons, List.length_nil]; omega⟩, HB4⟩
               · obtain ⟨hgr, hge⟩ : grs = [] ∧ r3 = ger := by
                  have h := HRO2.out
                  rw [if_neg hr3] at h
                  have h2 := HACC2.out
                  rw [← h, if_neg hr3] at h2
                  simp only [Prod.mk.injEq] at h2
                  exact ⟨h2.1.symm, h2.2⟩
                 subst hgr
                 have z3 : (r3 != 0) = true := by simp [hr3]
                 have z4 : decide (r3 = 0) = false := decide_eq_false hr3
                 have hbq : Below wK.heap.size wK W9 := HBO.out.trans ((HBI.out.trans (HB9.out.mono HBI.out.size)).mono HBO.out.size)
                 have HN9 := Aside0.mk ((hbq.block q (blk_lt HNK.out)).trans HNK.out)
                 have HBZ := Aside0.mk (HBK.out.trans (hbq.mono HBK.out.size))
                 have y0 : W9.cell? ⟨q, 0, none⟩ = some (.slice none 0 0) := (blk_cell HN9.out 0).trans rfl
                 have y1 : W9.cell? ⟨q, 1, none⟩ = some (.int .i64 0) := (blk_cell HN9.out 1).trans rfl
                 have yf : ∀ j, W9.frozen? ⟨q, j, none⟩ = false := fun j => by have := HN9.out; simp [World.frozen?, this]
                 clear hbq hr3
                 have HGE := Aside0.mk hge
                 clear hge
                 go_wp2
                 refine bodyPost_ret (results_cell_row rfl _ _ q 45 _ (0, 0) _ rfl (out2_cells HN9.out _ _) Tryz.underlying45 rfl (by kernel_rfl)) rfl ?_
                 exact ⟨_, by rw [HGE.out], Kd.S_nil _ _ _ _ _, out2_below HBZ.out HQW.out _ _⟩
           · have d1 : decide (y < (l2.length : Int)) = false := decide_eq_false hly
             have HNX : Aside0 (rowsOf l1 l0 l2 (keys.drop (x + 1).toNat) (acc ++ [r]) = (grs, ger)) := ⟨by
              have h := HRO.out
              rw [List.drop_of_length_le (by omega)] at h
              have h2 := HACC2.out
              rw [← h] at h2
              exact h2⟩
             clear HY hy0 hy1 hkq hly HRO HACC2
             obtain ⟨Ag, cg, eg, _⟩ := Kd.R_reads HKR.out
             subst eg
             have hNW : Below wN.heap.size wN wr := HBI.out
             have HBOK := Aside0.mk (HBO.out.trans (hNW.mono HBO.out.size))
             have HO9 := Aside0.mk (Kd.S_mono (Kd.S_below (Kd.S_old HO.out HBN.out) hNW) (ok' := fun k => True ∧ ¬ wN.heap.size ≤ k) (fun k hk => ⟨trivial, by have h1 := hk.2; have h2 := HBN.out.size; omega⟩))
             have HM9 := Aside0.mk (Kd.R_mono (Kd.R_lower (Kd.R_bound HKR.out) HBO.out.size) (ok' := fun k => wN.heap.size ≤ k) (fun k hk => hk.2.1))
             have HFR : Aside0 (∀ k, wN.heap.size ≤ k → True ∧ some k ≠ u14.ownBlock) := ⟨fun k hk => ⟨trivial, fun e => by have h1 := Kd.S_lt HO.out k e.symm; have h2 := HBN.out.size; omega⟩⟩
             have HLEN2 : Aside0 ((acc.length + 1) * 24 ≤ 140737488355328) := ⟨by
              have := HKN.out
              have := HAL.out
              have := HLT.out
              omega⟩
             clear hNW
             go_wp2_with (at_builtin; refine Kd.S_append kRow (w0 := wK) wK.heap.size rfl (.tmp 129) (.tmp 131) 22 53 (.slice none 0 0) 24 rfl Tryz.underlying22 infoRow rfl (Nat.le_refl 1) (by decide) _ _ r [.slice Ag r.length cg] (fun _ => True) (fun k => wN.heap.size ≤ k) rfl rfl ⟨_, rfl, HM9.out⟩ HFR.out (fun _ _ => trivial) HO9.out HBOK.out HBOK.out.size HLEN2.out ?_; intro v6 w6 hR4 hb4 hg4 hat4; have HO4 := Aside0.mk hR4; have HB4 := Aside0.mk hb4; clear hR4 hb4 hg4 hat4)
             have hk := HKQ.out
             have hlt := HLT.out
             have hx0 := HX0.out
             cases gO with
             | zero => omega
             | succ k1 =>
              go_roundg k1
              case measure => omega
              case rel => exact ⟨x + 1, by rw [HWR.out], ⟨by omega⟩, ⟨_, HO4.out, HNX.out, by have h1 := HAL.out; have h2 := HX0.out; rw [List.length_append]; simp only [List.length_cons, List.length_nil]; omega⟩, HB4⟩
        · have d1 : decide (x < (keys.length : Int)) = false := decide_eq_false hlt
          obtain ⟨hf1, hf2⟩ : acc = grs ∧ 0 = ger := by
           have h := HACC.out
           rw [List.drop_of_length_le (by omega)] at h
           simpa [rowsOf] using h
          subst hf1
          subst hf2
          have HN9 := Aside0.mk ((HB.out.block q (blk_lt HNK.out)).trans HNK.out)
          have HB9 := Aside0.mk (HBK.out.trans (HB.out.mono HBK.out.size))
          have HKS2 := Aside0.mk HBK.out.size
          clear hx0 hx1 hkq hlt HX HACC HAL
          have y0 : wr.cell? ⟨q, 0, none⟩ = some (.slice none 0 0) := (blk_cell HN9.out 0).trans rfl
          have y1 : wr.cell? ⟨q, 1, none⟩ = some (.int .i64 0) := (blk_cell HN9.out 1).trans rfl
          have yf : ∀ j, wr.frozen? ⟨q, j, none⟩ = false := fun j => by have := HN9.out; simp [World.frozen?, this]
          obtain ⟨Ag, cg, eg, _⟩ := Kd.S_reads HO.out
          subst eg
          go_wp2
          refine bodyPost_ret (results_cell_row rfl _ _ q 45 _ (0, 0) _ rfl (out2_cells HN9.out _ _) Tryz.underlying45 rfl (by kernel_rfl)) rfl ?_
          refine ⟨_, rfl, ?_, out2_below HB9.out HQW.out _ _⟩
          have hqk := blk_lt HNK.out
          have h1 := Kd.S_mono (Kd.S_bound HO.out) (ok' := fun k => wK.heap.size ≤ k) (fun k hk => hk.2.1)
          have h2 := Kd.S_far (p := ⟨q, 0, none⟩) h1 (fun k hk e => by
           have e : k = q := e
           omega) (Value.slice Ag acc.length cg)
          have h3 := Kd.S_far (p := ⟨q, 1, none⟩) h2 (fun k hk e => by
           have e : k = q := e
           omega) (Value.int .i64 0)
          exact Kd.S_mono (Kd.S_lower h3 HKS2.out) (fun _ _ => trivial)
theorem group_bad (A0 : Option Addr) (c0 : Nat) (l0 : List (List V)) (A1 : Option Addr) (c1 : Nat) (l1 : List Int) (A2 : Option Addr) (c2 m2 : Nat) (w : World) (hr0 : Kd.C kRow w A0 l0.length l0) (hc0 : l0.length ≤ c0) (hr1 : Kd.C (Kd.int .i64) w A1 l1.length l1) (hok : RowsV l0) (hcn : l1.length ≤ 1099511627776) (hbad : validB l0 = false ∨ ∃ n ∈ l1, hasB l0 n = false) :
 Calls Tryz.prog 25 #[.slice A0 l0.length c0, .slice A1 l1.length c1, .slice A2 m2 c2] w fun e w' => e = .returned (.agg #[.slice none 0 0, .int .i64 1]) ∧ Below w.heap.size w w' := by
 obtain ⟨k, hk⟩ := (valid_ev l0 hok).rounds
 have HK := Aside0.mk hk
 have HCN := Aside0.mk hcn
 have HBAD := Aside0.mk hbad
 have HR0 := Aside0.mk hr0
 have HC0 := Aside0.mk hc0
 have HR1 := Aside0.mk hr1
 clear hk hbad hok hr0 hc0 hr1 hcn
 go_enter Tryz.func25, Tryz.ntmps25
 go_wp2_with (first
  | ((with_reducible refine gate_dst (N := 6) rfl ?_); refine box_event ?hg (N := 6) ?hd (cs := #[.slice none 0 0, .int .i64 0]) (t := 45) ?hr ?_; (case hd => rfl); (case hg => rfl); (case hr => first | (go_simp; done) | (go_simp; rfl)); intro q hq W hN hb1; have HB1 := Aside0.mk hb1; have HQ := Aside0.mk hq; have HN0 := Aside0.mk hN; clear hb1 hq hN)
  | ((with_reducible refine gate_dst (N := 7) rfl ?_); refine box_event ?hg (N := 7) ?hd (cs := #[.slice none 0 0, .int .i64 0]) (t := 45) ?hr ?_; (case hd => rfl); (case hg => rfl); (case hr => first | (go_simp; done) | (go_simp; rfl)); intro q2 hq2 W2 hN2 hb2; have HN1 := Aside0.mk ((hb2.block q (blk_lt HN0.out)).trans HN0.out); have HB2 := Aside0.mk (HB1.out.trans (hb2.mono HB1.out.size)); have HQ2 := Aside0.mk hq2; have HN2 := Aside0.mk hN2; have X0 : W2.cell? ⟨q2, 0, none⟩ = some (.slice none 0 0) := (blk_cell hN2 0).trans rfl; have X1 : W2.cell? ⟨q2, 1, none⟩ = some (.int .i64 0) := (blk_cell hN2 1).trans rfl; have X2 : ∀ j, W2.frozen? ⟨q2, j, none⟩ = false := (fun j => by simp [World.frozen?, hN2]); clear hb2 hq2 hN2))
 have hB3 : Below w.heap.size w ((W2.setCell ⟨q2, 0, none⟩ (.slice none 0 0)).setCell ⟨q2, 1, none⟩ (.int .i64 1)) := out2_below HB2.out (by rw [HQ2.out]; exact HB1.out.size) _ _
 have hq12 : q ≠ q2 := fun e => by have := blk_lt HN0.out; have := HQ2.out; omega
 have hN3 : ((W2.setCell ⟨q2, 0, none⟩ (.slice none 0 0)).setCell ⟨q2, 1, none⟩ (.int .i64 1)).heap[q]? = some (.cells #[.slice none 0 0, .int .i64 0] 45 (0, 0)) := (Below.heap_setCell _ _ _ q hq12).trans ((Below.heap_setCell _ _ _ q hq12).trans HN1.out)
 have HB3 := Aside0.mk hB3
 have HN3 := Aside0.mk hN3
 have HM3 := Aside0.mk (out2_cells HN2.out (.slice none 0 0) (.int .i64 1))
 have HQ2W : Aside0 (w.heap.size ≤ q2) := ⟨by rw [HQ2.out]; exact HB1.out.size⟩
 clear hB3 hq12 hN3 X0 X1 X2 HN1 HN2 HB2 HN0
 refine (bag_Valid.calls k _ _ l0 (validB l0) _ (Kd.C_below HR0.out HB3.out) HC0.out HK.out).mono ?_
 rintro e w3 ⟨rfl, hb3⟩
 have HN4 := Aside0.mk ((hb3.block q (blk_lt HN3.out)).trans HN3.out)
 have HM4 := Aside0.mk ((hb3.block q2 (blk_lt HM3.out)).trans HM3.out)
 have HB4 := Aside0.mk (HB3.out.trans (hb3.mono HB3.out.size))
 have HQW : Aside0 (w.heap.size ≤ q) := ⟨Nat.le_of_eq HQ.out.symm⟩
 clear hb3 HN3 HM3 HB3 HB1 HQ2 HQ
 cases hvb : validB l0 with
 | false =>
  have y0 : w3.cell? ⟨q, 0, none⟩ = some (.slice none 0 0) := (blk_cell HN4.out 0).trans rfl
  have y1 : w3.cell? ⟨q, 1, none⟩ = some (.int .i64 0) := (blk_cell HN4.out 1).trans rfl
  have yf : ∀ j, w3.frozen? ⟨q, j, none⟩ = false := fun j => by have := HN4.out; simp [World.frozen?, this]
  have z0 : w3.cell? ⟨q2, 0, none⟩ = some (.slice none 0 0) := (blk_cell HM4.out 0).trans rfl
  have z1 : w3.cell? ⟨q2, 1, none⟩ = some (.int .i64 1) := (blk_cell HM4.out 1).trans rfl
  go_wp2
  refine bodyPost_ret (results_cell_row rfl _ _ q 45 _ (0, 0) _ rfl (out2_cells HN4.out _ _) Tryz.underlying45 rfl (by kernel_rfl)) rfl ?_
  exact ⟨rfl, out2_below HB4.out HQW.out _ _⟩
 | true =>
  have HEX : Aside0 (∃ n ∈ l1, hasB l0 n = false) := ⟨HBAD.out.resolve_left (by rw [hvb]; simp)⟩
  clear HBAD hvb HK
  go_wp2
  go_loopg [29] l1.length (fun kq v29 W => ∃ x : Int, v29 = .int .i64 x ∧ Aside0 (0 ≤ x ∧ x ≤ l1.length ∧ (kq : Int) = l1.length - x) ∧ Aside0 (∃ n ∈ l1.drop x.toNat, hasB l0 n = false) ∧ Aside0 (W.heap[q]? = some (.cells #[.slice none 0 0, .int .i64 0] 45 (0, 0))) ∧ Aside0 (W.heap[q2]? = some (.cells #[.slice none 0 0, .int .i64 1] 45 (0, 0))) ∧ Aside0 (Below w.heap.size w W))
  case atStart => exact ⟨0, rfl, ⟨by omega⟩, HEX, HN4, HM4, HB4⟩
  case round =>
   clear HN4 HM4 HB4 HEX
   obtain ⟨x, rfl, HX, HEX, HN, HM, HB⟩ := hrel
   obtain ⟨hx0, hx1, hkq⟩ := HX.out
   have hlt : x < (l1.length : Int) := by
    obtain ⟨n, hn, _⟩ := HEX.out
    have := List.length_pos_of_mem hn
    rw [List.length_drop] at this
    omega
   have d1 : decide (x < (l1.length : Int)) = true := decide_eq_true hlt
   have d2 : decide (0 ≤ x) = true := decide_eq_true hx0
   obtain ⟨ad, e, hx_0⟩ := Kd.at_int HR1.out x hx0 hlt
   cases e
   replace hx_0 := (HB.out.cell (World.block_lt_of_cell? w _ hx_0)).trans hx_0
   have hj : x.toNat < l1.length := by omega
   have hrd : rd l1 x = l1[x.toNat] := by simp [rd, List.getElem?_eq_getElem hj]
   have hnext : hasB l0 (rd l1 x) = true → ∃ n ∈ l1.drop (x + 1).toNat, hasB l0 n = false := fun h => by
    obtain ⟨n, hn, hf⟩ := HEX.out
    rw [drop_cons l1 x.toNat hj] at hn
    rcases List.mem_cons.1 hn with rfl | hn
    · rw [← hrd, h] at hf; cases hf
    · exact ⟨n, by rw [show (x + 1).toNat = x.toNat + 1 by omega]; exact hn, hf⟩
   obtain ⟨n, hn⟩ : ∃ n, n = rd l1 x := ⟨_, rfl⟩
   rw [← hn] at hx_0 hnext
   have HH := Aside0.mk hnext
   have HLT := Aside0.mk hlt
   have HKQ := Aside0.mk hkq
   have HX0 := Aside0.mk hx0
   have HWR : Aside0 (wrap64 (x + 1) = x + 1) := ⟨by have := HCN.out; unfold wrap64; omega⟩
   clear hn hrd hj hnext hkq
   go_wp2_with fail
   refine (bag_has.calls A0 c0 l0 n (hasB l0 n) wr (Kd.C_below HR0.out HB.out) HC0.out (has_eq _ _)).mono ?_
   rintro e w5 ⟨rfl, ⟨nd, rfl⟩⟩
   cases hhb : hasB l0 n with
   | true =>
    have HEX2 := Aside0.mk (HH.out hhb)
    clear HH hhb
    go_wp2
    have hlt := HLT.out
    have hk := HKQ.out
    have hx0 := HX0.out
    cases gk with
    | zero => omega
    | succ k1 =>
     go_roundg k1
     case measure => omega
     case rel => exact ⟨x + 1, by rw [HWR.out], ⟨by omega⟩, HEX2, HN, HM, ⟨bN_ HB.out nd⟩⟩
   | false =>
    clear HH hhb
    have HN5 : Aside0 ((wr.drewN nd).heap[q]? = some (.cells #[.slice none 0 0, .int .i64 0] 45 (0, 0))) := HN
    have HM5 : Aside0 ((wr.drewN nd).heap[q2]? = some (.cells #[.slice none 0 0, .int .i64 1] 45 (0, 0))) := HM
    have HB5 : Aside0 (Below w.heap.size w (wr.drewN nd)) := ⟨bN_ HB.out nd⟩
    obtain ⟨w5, hw5⟩ : ∃ w5, w5 = wr.drewN nd := ⟨_, rfl⟩
    rw [← hw5] at HN5 HM5 HB5 ⊢
    have y0 : w5.cell? ⟨q, 0, none⟩ = some (.slice none 0 0) := (blk_cell HN5.out 0).trans rfl
    have y1 : w5.cell? ⟨q, 1, none⟩ = some (.int .i64 0) := (blk_cell HN5.out 1).trans rfl
    have yf : ∀ j, w5.frozen? ⟨q, j, none⟩ = false := fun j => by have := HN5.out; simp [World.frozen?, this]
    have z0 : w5.cell? ⟨q2, 0, none⟩ = some (.slice none 0 0) := (blk_cell HM5.out 0).trans rfl
    have z1 : w5.cell? ⟨q2, 1, none⟩ = some (.int .i64 1) := (blk_cell HM5.out 1).trans rfl
    clear hw5
    go_wp2
    refine bodyPost_ret (results_cell_row rfl _ _ q 45 _ (0, 0) _ rfl (out2_cells HN5.out _ _) Tryz.underlying45 rfl (by kernel_rfl)) rfl ?_
    exact ⟨rfl, out2_below HB5.out HQW.out _ _⟩
theorem group_bad2 (A0 : Option Addr) (c0 : Nat) (l0 : List (List V)) (A1 : Option Addr) (c1 : Nat) (l1 : List Int) (A2 : Option Addr) (c2 : Nat) (l2 : List AggT) (w : World) (hr0 : Kd.C kRow w A0 l0.length l0) (hc0 : l0.length ≤ c0) (hr1 : Kd.C (Kd.int .i64) w A1 l1.length l1) (hr2 : Kd.C kAgg w A2 l2.length l2) (hok : GroupOk l0 l1 l2) (hv : validB l0 = true) (hin : ∀ n ∈ l1, hasB l0 n = true) (hbad : ∃ a ∈ l2, aggOkB l0 a = false) :
 Calls Tryz.prog 25 #[.slice A0 l0.length c0, .slice A1 l1.length c1, .slice A2 l2.length c2] w fun e w' => e = .returned (.agg #[.slice none 0 0, .int .i64 1]) ∧ Below w.heap.size w w' := by
 obtain ⟨k, hk⟩ := (valid_ev l0 hok.rows.v).rounds
 rw [hv] at hk
 have HK := Aside0.mk hk
 have HIN := Aside0.mk hin
 have HOK := Aside0.mk hok
 have HEX := Aside0.mk hbad
 have HR0 := Aside0.mk hr0
 have HC0 := Aside0.mk hc0
 have HR1 := Aside0.mk hr1
 have HR2 := Aside0.mk hr2
 clear hk hv hin hok hbad hr0 hc0 hr1 hr2
 go_enter Tryz.func25, Tryz.ntmps25
 go_wp2_with (first
  | ((with_reducible refine gate_dst (N := 6) rfl ?_); refine box_event ?hg (N := 6) ?hd (cs := #[.slice none 0 0, .int .i64 0]) (t := 45) ?hr ?_; (case hd => rfl); (case hg => rfl); (case hr => first | (go_simp; done) | (go_simp; rfl)); intro q hq W hN hb1; have HB1 := Aside0.mk hb1; have HQ := Aside0.mk hq; have HN0 := Aside0.mk hN; clear hb1 hq hN)
  | ((with_reducible refine gate_dst (N := 7) rfl ?_); refine box_event ?hg (N := 7) ?hd (cs := #[.slice none 0 0, .int .i64 0]) (t := 45) ?hr ?_; (case hd => rfl); (case hg => rfl); (case hr => first | (go_simp; done) | (go_simp; rfl)); intro q2 hq2 W2 hN2 hb2; have HN1 := Aside0.mk ((hb2.block q (blk_lt HN0.out)).trans HN0.out); have HB2 := Aside0.mk (HB1.out.trans (hb2.mono HB1.out.size)); have HQ2 := Aside0.mk hq2; have HN2 := Aside0.mk hN2; have X0 : W2.cell? ⟨q2, 0, none⟩ = some (.slice none 0 0) := (blk_cell hN2 0).trans rfl; have X1 : W2.cell? ⟨q2, 1, none⟩ = some (.int .i64 0) := (blk_cell hN2 1).trans rfl; have X2 : ∀ j, W2.frozen? ⟨q2, j, none⟩ = false := (fun j => by simp [World.frozen?, hN2]); clear hb2 hq2 hN2))
 have hB3 : Below w.heap.size w ((W2.setCell ⟨q2, 0, none⟩ (.slice none 0 0)).setCell ⟨q2, 1, none⟩ (.int .i64 1)) := out2_below HB2.out (by rw [HQ2.out]; exact HB1.out.size) _ _
 have hq12 : q ≠ q2 := fun e => by have := blk_lt HN0.out; have := HQ2.out; omega
 have hN3 : ((W2.setCell ⟨q2, 0, none⟩ (.slice none 0 0)).setCell ⟨q2, 1, none⟩ (.int .i64 1)).heap[q]? = some (.cells #[.slice none 0 0, .int .i64 0] 45 (0, 0)) := (Below.heap_setCell _ _ _ q hq12).trans ((Below.heap_setCell _ _ _ q hq12).trans HN1.out)
 have HB3 := Aside0.mk hB3
 have HN3 := Aside0.mk hN3
 have HM3 := Aside0.mk (out2_cells HN2.out (.slice none 0 0) (.int .i64 1))
 have HQ2W : Aside0 (w.heap.size ≤ q2) := ⟨by rw [HQ2.out]; exact HB1.out.size⟩
 clear hB3 hq12 hN3 X0 X1 X2 HN1 HN2 HB2 HN0
 refine (bag_Valid.calls k _ _ l0 true _ (Kd.C_below HR0.out HB3.out) HC0.out HK.out).mono ?_
 rintro e w3 ⟨rfl, hb3⟩
 have HN4 := Aside0.mk ((hb3.block q (blk_lt HN3.out)).trans HN3.out)
 have HM4 := Aside0.mk ((hb3.block q2 (blk_lt HM3.out)).trans HM3.out)
 have HB4 := Aside0.mk (HB3.out.trans (hb3.mono HB3.out.size))
 have HQW : Aside0 (w.heap.size ≤ q) := ⟨Nat.le_of_eq HQ.out.symm⟩
 clear hb3 HN3 HM3 HB3 HB1 HQ2 HQ
 go_wp2
 go_loopg [29] l1.length (fun kq v29 W => ∃ x : Int, v29 = .int .i64 x ∧ Aside0 (0 ≤ x ∧ x ≤ l1.length ∧ (kq : Int) = l1.length - x) ∧ Aside0 (W.heap[q]? = some (.cells #[.slice none 0 0, .int .i64 0] 45 (0, 0))) ∧ Aside0 (W.heap[q2]? = some (.cells #[.slice none 0 0, .int .i64 1] 45 (0, 0))) ∧ Aside0 (Below w.heap.size w W))
 case atStart => exact ⟨0, rfl, ⟨by omega⟩, HN4, HM4, HB4⟩
 case round =>
  clear HN4 HM4 HB4
  obtain ⟨x, rfl, HX, HN, HM, HB⟩ := hrel
  obtain ⟨hx0, hx1, hkq⟩ := HX.out
  by_cases hlt : x < (l1.length : Int)
  · have d1 : decide (x < (l1.length : Int)) = true := decide_eq_true hlt
    have d2 : decide (0 ≤ x) = true := decide_eq_true hx0
    obtain ⟨ad, e, hx_0⟩ := Kd.at_int HR1.out x hx0 hlt
    cases e
    replace hx_0 := (HB.out.cell (World.block_lt_of_cell? w _ hx_0)).trans hx_0
    have hj : x.toNat < l1.length := by omega
    have hrd : rd l1 x = l1[x.toNat] := by simp [rd, List.getElem?_eq_getElem hj]
    have hh := HIN.out (rd l1 x) (by rw [hrd]; exact List.getElem_mem hj)
    obtain ⟨n, hn⟩ : ∃ n, n = rd l1 x := ⟨_, rfl⟩
    rw [← hn] at hx_0 hh
    have HH := Aside0.mk hh
    have HLT := Aside0.mk hlt
    have HKQ := Aside0.mk hkq
    have HX0 := Aside0.mk hx0
    have HWR : Aside0 (wrap64 (x + 1) = x + 1) := ⟨by have := HOK.out.cn; unfold wrap64; omega⟩
    clear hn hrd hj hh hkq
    go_wp2_with fail
    refine (bag_has.calls A0 c0 l0 n true wr (Kd.C_below HR0.out HB.out) HC0.out (by rw [has_eq, HH.out])).mono ?_
    rintro e w5 ⟨rfl, ⟨nd, rfl⟩⟩
    go_wp2
    have hlt := HLT.out
    have hk := HKQ.out
    have hx0 := HX0.out
    cases gk with
    | zero => omega
    | succ k1 =>
     go_roundg k1
     case measure => omega
     case rel => exact ⟨x + 1, by rw [HWR.out], ⟨by omega⟩, HN, HM, ⟨bN_ HB.out nd⟩⟩
  · have d1 : decide (x < (l1.length : Int)) = false := decide_eq_false hlt
    clear HX hx0 hx1 hkq hlt
    go_wp2
    go_loopg [41] l2.length (fun kq v41 W => ∃ x : Int, v41 = .int .i64 x ∧ Aside0 (0 ≤ x ∧ x ≤ l2.length ∧ (kq : Int) = l2.length - x) ∧ Aside0 (∃ a ∈ l2.drop x.toNat, aggOkB l0 a = false) ∧ Aside0 (W.heap[q]? = some (.cells #[.slice none 0 0, .int .i64 0] 45 (0, 0))) ∧ Aside0 (W.heap[q2]? = some (.cells #[.slice none 0 0, .int .i64 1] 45 (0, 0))) ∧ Aside0 (Below w.heap.size w W))
    case atStart => exact ⟨0, rfl, ⟨by omega⟩, HEX, HN, HM, HB⟩
    case round =>
     clear HN HM HB HEX
     obtain ⟨x, rfl, HX, HEX, HN, HM, HB⟩ := hrel
     obtain ⟨hx0, hx1, hkq⟩ := HX.out
     have hlt : x < (l2.length : Int) := by
      obtain ⟨n, hn, _⟩ := HEX.out
      have := List.length_pos_of_mem hn
      rw [List.length_drop] at this
      omega
     have d1 : decide (x < (l2.length : Int)) = true := decide_eq_true hlt
     have d2 : decide (0 ≤ x) = true := decide_eq_true hx0
     obtain ⟨ad, e, hx_0, hx_1, hx_2⟩ := at_T55 HR2.out x hx0 hlt
     cases e
     replace hx_0 := (HB.out.cell (World.block_lt_of_cell? w _ hx_0)).trans hx_0
     replace hx_1 := (HB.out.cell (World.block_lt_of_cell? w _ hx_1)).trans hx_1
     replace hx_2 := (HB.out.cell (World.block_lt_of_cell? w _ hx_2)).trans hx_2
     have hj : x.toNat < l2.length := by omega
     have hrd : rd_T55 l2 x = l2[x.toNat] := by simp [rd_T55, List.getElem?_eq_getElem hj]
     have hvals := HOK.out.vals (rd_T55 l2 x) (by rw [hrd]; exact List.getElem_mem hj)
     have hnext : aggOkB l0 (rd_T55 l2 x) = true → ∃ a ∈ l2.drop (x + 1).toNat, aggOkB l0 a = false := fun h => by
      obtain ⟨n, hn, hf⟩ := HEX.out
      rw [drop_cons l2 x.toNat hj] at hn
      rcases List.mem_cons.1 hn with rfl | hn
      · rw [← hrd, h] at hf; cases hf
      · exact ⟨n, by rw [show (x + 1).toNat = x.toNat + 1 by omega]; exact hn, hf⟩
     obtain ⟨a, ha⟩ : ∃ a, a = rd_T55 l2 x := ⟨_, rfl⟩
     rw [← ha] at hx_0 hx_1 hx_2 hnext hvals
     obtain ⟨f0, f1, f2⟩ := a
     dsimp only at hx_0 hx_1 hx_2
     have HNEXT := Aside0.mk hnext
     have HLT := Aside0.mk hlt
     have HKQ := Aside0.mk hkq
     have HX0 := Aside0.mk hx0
     have HWR : Aside0 (wrap64 (x + 1) = x + 1) := ⟨by have := HOK.out.an; unfold wrap64; omega⟩
     clear hrd hj hkq ha hnext
     obtain ⟨W5, hW5⟩ : ∃ W5, W5 = wr.alloc (.cells #[.int .u8 f0, .int .i64 f1, .bool f2] 55) := ⟨_, rfl⟩
     have hD5 : (W5.cell? ⟨wr.heap.size, 0, none⟩ = some (.int .u8 f0) ∧ W5.cell? ⟨wr.heap.size, 1, none⟩ = some (.int .i64 f1) ∧ W5.cell? ⟨wr.heap.size, 2, none⟩ = some (.bool f2)) := by
      rw [hW5]
      exact ⟨(blk_cell (heap_alloc_new _ _) 0).trans rfl, (blk_cell (heap_alloc_new _ _) 1).trans rfl, (blk_cell (heap_alloc_new _ _) 2).trans rfl⟩
     have HD5 := Aside0.mk hD5
     have HB5 : Aside0 (Below wr.heap.size wr W5) := ⟨by rw [hW5]; exact (Below.refl _ wr).alloc (Nat.le_refl _) _⟩
     have HN5 : Aside0 (∀ W', Below W5.heap.size W5 W' → W'.heap[q]? = some (.cells #[.slice none 0 0, .int .i64 0] 45 (0, 0))) := ⟨fun W' hb => ((HB5.out.trans (hb.mono HB5.out.size)).block q (blk_lt HN.out)).trans HN.out⟩
     have HM5 : Aside0 (∀ W', Below W5.heap.size W5 W' → W'.heap[q2]? = some (.cells #[.slice none 0 0, .int .i64 1] 45 (0, 0))) := ⟨fun W' hb => ((HB5.out.trans (hb.mono HB5.out.size)).block q2 (blk_lt HM.out)).trans HM.out⟩
     have HW5B : Aside0 (∀ W', Below W5.heap.size W5 W' → Below w.heap.size w W') := ⟨fun W' hb => HB.out.trans ((HB5.out.trans (hb.mono HB5.out.size)).mono HB.out.size)⟩
     clear HN HM hD5
     by_cases h0 : f0 = 0
     · subst h0
       have HW5 := Aside0.mk hW5
       by_cases h12 : f1 = 0 ∧ f2 = false
       · obtain ⟨rfl, rfl⟩ := h12
         have HEX2 := Aside0.mk (HNEXT.out rfl)
         clear HNEXT hvals hW5
         go_wp2
         rw [← HW5.out]
         have hlt := HLT.out
         have hk := HKQ.out
         have hx0 := HX0.out
         cases gk with
         | zero => omega
         | succ k1 =>
          go_roundg k1
          case measure => omega
          case rel => exact ⟨x + 1, by rw [HWR.out], ⟨by omega⟩, HEX2, ⟨HN5.out _ (Below.refl _ _)⟩, ⟨HM5.out _ (Below.refl _ _)⟩, ⟨HW5B.out _ (Below.refl _ _)⟩⟩
       · clear HNEXT hvals
         have HN9 := Aside0.mk (HN5.out _ (Below.refl _ _))
         have HM9 := Aside0.mk (HM5.out _ (Below.refl _ _))
         have HB9 := Aside0.mk (HW5B.out _ (Below.refl _ _))
         by_cases h1 : f1 = 0
         · subst h1
           obtain rfl : f2 = true := by
            cases f2 with
            | true => rfl
            | false => exact absurd ⟨rfl, rfl⟩ h12
           clear h12 HW5
           subst hW5
           have y0 : (wr.alloc (.cells #[.int .u8 0, .int .i64 0, .bool true] 55)).cell? ⟨q, 0, none⟩ = some (.slice none 0 0) := (blk_cell HN9.out 0).trans rfl
           have y1 : (wr.alloc (.cells #[.int .u8 0, .int .i64 0, .bool true] 55)).cell? ⟨q, 1, none⟩ = some (.int .i64 0) := (blk_cell HN9.out 1).trans rfl
           have yf : ∀ j, (wr.alloc (.cells #[.int .u8 0, .int .i64 0, .bool true] 55)).frozen? ⟨q, j, none⟩ = false := fun j => by have := HN9.out; simp [World.frozen?, this]
           have z0 : (wr.alloc (.cells #[.int .u8 0, .int .i64 0, .bool true] 55)).cell? ⟨q2, 0, none⟩ = some (.slice none 0 0) := (blk_cell HM9.out 0).trans rfl
           have z1 : (wr.alloc (.cells #[.int .u8 0, .int .i64 0, .bool true] 55)).cell? ⟨q2, 1, none⟩ = some (.int .i64 1) := (blk_cell HM9.out 1).trans rfl
           go_wp2
           refine bodyPost_ret (results_cell_row rfl _ _ q 45 _ (0, 0) _ rfl (out2_cells HN9.out _ _) Tryz.underlying45 rfl (by kernel_rfl)) rfl ?_
           exact ⟨rfl, out2_below HB9.out HQW.out _ _⟩
         · have z3 : (f1 != 0) = true := by simp [h1]
           have z4 : decide (f1 = 0) = false := decide_eq_false h1
           clear h12 HW5
           subst hW5
           have y0 : (wr.alloc (.cells #[.int .u8 0, .int .i64 f1, .bool f2] 55)).cell? ⟨q, 0, none⟩ = some (.slice none 0 0) := (blk_cell HN9.out 0).trans rfl
           have y1 : (wr.alloc (.cells #[.int .u8 0, .int .i64 f1, .bool f2] 55)).cell? ⟨q, 1, none⟩ = some (.int .i64 0) := (blk_cell HN9.out 1).trans rfl
           have yf : ∀ j, (wr.alloc (.cells #[.int .u8 0, .int .i64 f1, .bool f2] 55)).frozen? ⟨q, j, none⟩ = false := fun j => by have := HN9.out; simp [World.frozen?, this]
           have z0 : (wr.alloc (.cells #[.int .u8 0, .int .i64 f1, .bool f2] 55)).cell? ⟨q2, 0, none⟩ = some (.slice none 0 0) := (blk_cell HM9.out 0).trans rfl
           have z1 : (wr.alloc (.cells #[.int .u8 0, .int .i64 f1, .bool f2] 55)).cell? ⟨q2, 1, none⟩ = some (.int .i64 1) := (blk_cell HM9.out 1).trans rfl
           go_wp2
           refine bodyPost_ret (results_cell_row rfl _ _ q 45 _ (0, 0) _ rfl (out2_cells HN9.out _ _) Tryz.underlying45 rfl (by kernel_rfl)) rfl ?_
           exact ⟨rfl, out2_below HB9.out HQW.out _ _⟩
     · have z1 : (f0 == 0) = false := by simp [h0]
       have z2 : decide (f0 = 0) = false := decide_eq_false h0
       have HE5 : Aside0 (W5.drew.cell? ⟨wr.heap.size, 0, none⟩ = some (.int .u8 f0) ∧ W5.drew.cell? ⟨wr.heap.size, 1, none⟩ = some (.int .i64 f1) ∧ W5.drew.cell? ⟨wr.heap.size, 2, none⟩ = some (.bool f2)) := ⟨HD5.out⟩
       have HC5 : Aside0 (∀ W', Below W5.heap.size W5 W' → kRow.C W' A0 l0.length l0) := ⟨fun W' hb => Kd.C_below HR0.out (HW5B.out W' hb)⟩
       have HBE : Aside0 (Below W5.heap.size W5 W5.drew) := ⟨(Below.refl _ W5).drew⟩
       cases hhas : hasB l0 f1 with
       | false =>
        have HHE : Aside0 (bag_has.f l0 f1 = some false) := ⟨by rw [has_eq]; exact congrArg some hhas⟩
        clear hhas HNEXT hvals h0
        go_wp2_with fail
        rw [← hW5]
        clear hW5
        refine wp_region_held_drew (S := (fun W' => (W'.cell? ⟨wr.heap.size, 0, none⟩ = some (.int .u8 f0) ∧ W'.cell? ⟨wr.heap.size, 1, none⟩ = some (.int .i64 f1) ∧ W'.cell? ⟨wr.heap.size, 2, none⟩ = some (.bool f2)))) (by kernel_rfl) HE5.out (fun hHeld => ?_)
        refine wpAnyH_take (i := 0) (oi := ⟨some 64, _, _, _, _, _⟩) (v := ?_) rfl (by kernel_rfl) (by kernel_rfl) (by kernel_rfl) (fun _ _ _ h => h) (Or.inl ⟨by rfl, ?_⟩) (by assumption) ?_
        rotate_left
        · intro w' hSw
          try dsimp only at hSw
          go_simp
          try with_reducible rfl
        try simp only [Act.put, sTA_, sCZ_, sCS_]
        refine wpAnyH_take (i := 1) (oi := ⟨some 65, _, _, _, _, _⟩) (v := ?_) rfl (by kernel_rfl) (by kernel_rfl) (by kernel_rfl) (fun _ _ _ h => h) (Or.inl ⟨by rfl, ?_⟩) (by assumption) ?_
        rotate_left
        · intro w' hSw
          try dsimp only at hSw
          go_simp
          try with_reducible rfl
        try simp only [Act.put, sTA_, sCZ_, sCS_]
        refine wpAnyH_take (i := 2) (oi := ⟨some 66, _, _, _, _, _⟩) (v := ?_) rfl (by kernel_rfl) (by kernel_rfl) (by kernel_rfl) (fun _ _ _ h => h) (Or.inl ⟨by rfl, ?_⟩) (by assumption) ?_
        rotate_left
        · intro w' hSw
          try dsimp only at hSw
          go_simp
          try with_reducible rfl
        try simp only [Act.put, sTA_, sCZ_, sCS_]
        refine wpAnyH_ready (rs := [3]) (by kernel_rfl) (by simp) ?_
        refine AllReadyH.cons (o := ⟨some 67, _, _, _, _, _⟩) rfl (fun K hK => ?_) AllReadyH.nil
        go_simp
        (go_at_call 62; (with_reducible refine (bag_has.calls A0 c0 l0 f1 false W5.drew (HC5.out _ HBE.out) HC0.out HHE.out).mono ?_); rintro e w6 ⟨rfl, ⟨nd, hd6⟩⟩; have HB6 : Aside0 (Below W5.heap.size W5 w6) := ⟨by rw [hd6]; exact bN_ HBE.out nd⟩; have HS6 : Aside0 (w6.cell? ⟨wr.heap.size, 0, none⟩ = some (.int .u8 f0) ∧ w6.cell? ⟨wr.heap.size, 1, none⟩ = some (.int .i64 f1) ∧ w6.cell? ⟨wr.heap.size, 2, none⟩ = some (.bool f2)) := ⟨cells3 HB6.out HD5.out⟩; clear hd6)
        refine hK.out _ _ HS6.out (fun hHeld => ?_)
        clear hK K
        try simp only [Act.put, sTA_, sCZ_, sCS_]
        refine wpAnyH_take (i := 4) (oi := ⟨some 68, _, _, _, _, _⟩) (v := ?_) rfl (by kernel_rfl) (by kernel_rfl) (by kernel_rfl) (fun _ _ _ h => h) (Or.inl ⟨by rfl, ?_⟩) (by assumption) ?_
        rotate_left
        · intro w' hSw
          try dsimp only at hSw
          go_simp
          try with_reducible rfl
        try simp only [Act.put, sTA_, sCZ_, sCS_]
        refine wpAnyH_take (i := 5) (oi := ⟨some 69, _, _, _, _, _⟩) (v := ?_) rfl (by kernel_rfl) (by kernel_rfl) (by kernel_rfl) (fun _ _ _ h => h) (Or.inl ⟨by rfl, ?_⟩) (by assumption) ?_
        rotate_left
        · intro w' hSw
          try dsimp only at hSw
          go_simp
          try with_reducible rfl
        try simp only [Act.put, sTA_, sCZ_, sCS_]
        refine wpAnyH_take (i := 6) (oi := ⟨some 70, _, _, _, _, _⟩) (v := undef) rfl (by kernel_rfl) (by kernel_rfl) (by kernel_rfl) (fun _ _ _ h => h) (Or.inr ⟨by rfl, rfl⟩) (by assumption) ?_
        try simp only [Act.put, sTA_, sCZ_, sCS_]
        refine wpAnyH_take (i := 7) (oi := ⟨some 71, _, _, _, _, _⟩) (v := undef) rfl (by kernel_rfl) (by kernel_rfl) (by kernel_rfl) (fun _ _ _ h => h) (Or.inr ⟨by rfl, rfl⟩) (by assumption) ?_
        try simp only [Act.put, sTA_, sCZ_, sCS_]
        refine wpAnyH_take (i := 8) (oi := ⟨some 72, _, _, _, _, _⟩) (v := undef) rfl (by kernel_rfl) (by kernel_rfl) (by kernel_rfl) (fun _ _ _ h => h) (Or.inr ⟨by rfl, rfl⟩) (by assumption) ?_
        try simp only [Act.put, sTA_, sCZ_, sCS_]
        refine wpAnyH_take (i := 9) (oi := ⟨some 73, _, _, _, _, _⟩) (v := undef) rfl (by kernel_rfl) (by kernel_rfl) (by kernel_rfl) (fun _ _ _ h => h) (Or.inr ⟨by rfl, rfl⟩) (by assumption) ?_
        try simp only [Act.put, sTA_, sCZ_, sCS_]
        refine wpAnyH_take (i := 10) (oi := ⟨some 74, _, _, _, _, _⟩) (v := undef) rfl (by kernel_rfl) (by kernel_rfl) (by kernel_rfl) (fun _ _ _ h => h) (Or.inr ⟨by rfl, rfl⟩) (by assumption) ?_
        try simp only [Act.put, sTA_, sCZ_, sCS_]
        refine wpAnyH_take (i := 11) (oi := ⟨some 75, _, _, _, _, _⟩) (v := undef) rfl (by kernel_rfl) (by kernel_rfl) (by kernel_rfl) (fun _ _ _ h => h) (Or.inr ⟨by rfl, rfl⟩) (by assumption) ?_
        try simp only [Act.put, sTA_, sCZ_, sCS_]
        refine wpAnyH_take (i := 12) (oi := ⟨some 76, _, _, _, _, _⟩) (v := undef) rfl (by kernel_rfl) (by kernel_rfl) (by kernel_rfl) (fun _ _ _ h => h) (Or.inr ⟨by rfl, rfl⟩) (by assumption) ?_
        try simp only [Act.put, sTA_, sCZ_, sCS_]
        refine wpAnyH_take (i := 13) (oi := ⟨some 77, _, _, _, _, _⟩) (v := undef) rfl (by kernel_rfl) (by kernel_rfl) (by kernel_rfl) (fun _ _ _ h => h) (Or.inr ⟨by rfl, rfl⟩) (by assumption) ?_
        try simp only [Act.put, sTA_, sCZ_, sCS_]
        refine wpAnyH_take (i := 14) (oi := ⟨some 78, _, _, _, _, _⟩) (v := undef) rfl (by kernel_rfl) (by kernel_rfl) (by kernel_rfl) (fun _ _ _ h => h) (Or.inr ⟨by rfl, rfl⟩) (by assumption) ?_
        try simp only [Act.put, sTA_, sCZ_, sCS_]
        refine wpAnyH_take (i := 15) (oi := ⟨some 79, _, _, _, _, _⟩) (v := undef) rfl (by kernel_rfl) (by kernel_rfl) (by kernel_rfl) (fun _ _ _ h => h) (Or.inr ⟨by rfl, rfl⟩) (by assumption) ?_
        try simp only [Act.put, sTA_, sCZ_, sCS_]
        refine wpAnyH_take (i := 16) (oi := ⟨some 80, _, _, _, _, _⟩) (v := ?_) rfl (by kernel_rfl) (by kernel_rfl) (by kernel_rfl) (fun _ _ _ h => h) (Or.inl ⟨by rfl, ?_⟩) (by assumption) ?_
        rotate_left
        · intro w' hSw
          try dsimp only at hSw
          go_simp
          try with_reducible rfl
        try simp only [Act.put, sTA_, sCZ_, sCS_]
        refine wpAnyH_take (i := 17) (oi := ⟨some 63, _, _, _, _, _⟩) (v := ?_) rfl (by kernel_rfl) (by kernel_rfl) (by kernel_rfl) (fun _ _ _ h => h) (Or.inl ⟨by rfl, ?_⟩) (by assumption) ?_
        rotate_left
        · intro w' hSw
          try dsimp only at hSw
          go_simp
          try with_reducible rfl
        try simp only [Act.put, sTA_, sCZ_, sCS_]
        refine wpAnyH_done (by kernel_rfl) ?_ _
        have HN9 := Aside0.mk (HN5.out _ HB6.out)
        have HM9 := Aside0.mk (HM5.out _ HB6.out)
        have HB9 := Aside0.mk (HW5B.out _ HB6.out)
        have y0 : w6.cell? ⟨q, 0, none⟩ = some (.slice none 0 0) := (blk_cell HN9.out 0).trans rfl
        have y1 : w6.cell? ⟨q, 1, none⟩ = some (.int .i64 0) := (blk_cell HN9.out 1).trans rfl
        have yf : ∀ j, w6.frozen? ⟨q, j, none⟩ = false := fun j => by have := HN9.out; simp [World.frozen?, this]
        have z0 : w6.cell? ⟨q2, 0, none⟩ = some (.slice none 0 0) := (blk_cell HM9.out 0).trans rfl
        have z1 : w6.cell? ⟨q2, 1, none⟩ = some (.int .i64 1) := (blk_cell HM9.out 1).trans rfl
        go_wp2
        refine bodyPost_ret (results_cell_row rfl _ _ q 45 _ (0, 0) _ rfl (out2_cells HN9.out _ _) Tryz.underlying45 rfl (by kernel_rfl)) rfl ?_
        exact ⟨rfl, out2_below HB9.out HQW.out _ _⟩
       | true =>
        have HHE : Aside0 (bag_has.f l0 f1 = some true) := ⟨by rw [has_eq]; exact congrArg some hhas⟩
        obtain ⟨kc, hkc⟩ := (columnOf_ev l0 f1 (by
         have h1 := hhas
         unfold hasB at h1
         cases hl : l0 with
         | nil => rw [hl] at h1; exact (of_decide_eq_true h1).1
         | cons r rs => rw [hl] at h1; exact (of_decide_eq_true h1).1) HOK.out.rows.2).rounds
        obtain ⟨ka, hka⟩ := (allowed_ev f0 f2 (columnR l0 f1) (fun v hv => by
         obtain ⟨row, hrow, rfl⟩ := List.mem_map.1 hv
         exact (hvals row hrow).1 _ (by simp)) (by rw [columnR, List.length_map]; exact HOK.out.rows.2)).rounds
        have HKC2 := Aside0.mk hkc
        cases hall : allowedB f0 f2 (columnR l0 f1) with
        | false =>
         rw [hall] at hka
         have HKA := Aside0.mk hka
         clear hkc hka hall hhas hvals h0 HNEXT
         go_wp2_with fail
         rw [← hW5]
         clear hW5
         go_region_held3 (fun W' => (W'.cell? ⟨wr.heap.size, 0, none⟩ = some (.int .u8 f0) ∧ W'.cell? ⟨wr.heap.size, 1, none⟩ = some (.int .i64 f1) ∧ W'.cell? ⟨wr.heap.size, 2, none⟩ = some (.bool f2))) (first | (with_reducible exact HD5.out) | (with_reducible exact HE5.out) | (with_reducible exact HS6.out) | (with_reducible exact HS7.out) | (with_reducible exact HS8.out)) (first
          | (go_at_call 62; (with_reducible refine (bag_has.calls A0 c0 l0 f1 true W5.drew (HC5.out _ HBE.out) HC0.out HHE.out).mono ?_); rintro e w6 ⟨rfl, ⟨nd, hd6⟩⟩; have HB6 : Aside0 (Below W5.heap.size W5 w6) := ⟨by rw [hd6]; exact bN_ HBE.out nd⟩; have HS6 : Aside0 (w6.cell? ⟨wr.heap.size, 0, none⟩ = some (.int .u8 f0) ∧ w6.cell? ⟨wr.heap.size, 1, none⟩ = some (.int .i64 f1) ∧ w6.cell? ⟨wr.heap.size, 2, none⟩ = some (.bool f2)) := ⟨cells3 HB6.out HD5.out⟩; clear hd6)
          | (go_at_call 63; (with_reducible refine (bag_columnOf.calls kc A0 c0 l0 f1 (columnR l0 f1) w6 (HC5.out _ HB6.out) HC0.out HKC2.out).mono ?_); rintro e w7 ⟨vc, rfl, hRc, hb7⟩; obtain ⟨Ac, cc, ec, hcc, hCc⟩ := Kd.R_reads hRc; subst ec; have hb57 : Below W5.heap.size W5 w7 := HB6.out.trans (hb7.mono HB6.out.size); have HS7 : Aside0 (w7.cell? ⟨wr.heap.size, 0, none⟩ = some (.int .u8 f0) ∧ w7.cell? ⟨wr.heap.size, 1, none⟩ = some (.int .i64 f1) ∧ w7.cell? ⟨wr.heap.size, 2, none⟩ = some (.bool f2)) := ⟨cells3 hb57 HD5.out⟩; have HCC := Aside0.mk hCc; have HCN := Aside0.mk hcc; have HB7 := Aside0.mk hb57; clear hb57 hRc hb7 hcc hCc)
          | (go_at_call 56; (with_reducible refine (bag_allowed.calls ka f0 f2 Ac cc (columnR l0 f1) false w7 HCC.out HCN.out HKA.out).mono ?_); rintro e w8 ⟨rfl, hb8⟩; have hb58 : Below W5.heap.size W5 w8 := HB7.out.trans (hb8.mono HB7.out.size); have HS8 : Aside0 (w8.cell? ⟨wr.heap.size, 0, none⟩ = some (.int .u8 f0) ∧ w8.cell? ⟨wr.heap.size, 1, none⟩ = some (.int .i64 f1) ∧ w8.cell? ⟨wr.heap.size, 2, none⟩ = some (.bool f2)) := ⟨cells3 hb58 HD5.out⟩; have HB8 := Aside0.mk hb58; clear hb58 hb8))
         have HN9 := Aside0.mk (HN5.out _ HB8.out)
         have HM9 := Aside0.mk (HM5.out _ HB8.out)
         have HB9 := Aside0.mk (HW5B.out _ HB8.out)
         have y0 : w8.cell? ⟨q, 0, none⟩ = some (.slice none 0 0) := (blk_cell HN9.out 0).trans rfl
         have y1 : w8.cell? ⟨q, 1, none⟩ = some (.int .i64 0) := (blk_cell HN9.out 1).trans rfl
         have yf : ∀ j, w8.frozen? ⟨q, j, none⟩ = false := fun j => by have := HN9.out; simp [World.frozen?, this]
         have z0 : w8.cell? ⟨q2, 0, none⟩ = some (.slice none 0 0) := (blk_cell HM9.out 0).trans rfl
         have z1 : w8.cell? ⟨q2, 1, none⟩ = some (.int .i64 1) := (blk_cell HM9.out 1).trans rfl
         go_wp2
         refine bodyPost_ret (results_cell_row rfl _ _ q 45 _ (0, 0) _ rfl (out2_cells HN9.out _ _) Tryz.underlying45 rfl (by kernel_rfl)) rfl ?_
         exact ⟨rfl, out2_below HB9.out HQW.out _ _⟩
        | true =>
         rw [hall] at hka
         have HKA := Aside0.mk hka
         have HEX2 := Aside0.mk (HNEXT.out (by
          unfold aggOkB
          rw [if_neg h0]
          show (hasB l0 f1 && allowedB f0 f2 (columnR l0 f1)) = true
          rw [hhas, hall]; rfl))
         clear hkc hka hall hhas hvals h0 HNEXT
         go_wp2_with fail
         rw [← hW5]
         clear hW5
         go_region_held3 (fun W' => (W'.cell? ⟨wr.heap.size, 0, none⟩ = some (.int .u8 f0) ∧ W'.cell? ⟨wr.heap.size, 1, none⟩ = some (.int .i64 f1) ∧ W'.cell? ⟨wr.heap.size, 2, none⟩ = some (.bool f2))) (first | (with_reducible exact HD5.out) | (with_reducible exact HE5.out) | (with_reducible exact HS6.out) | (with_reducible exact HS7.out) | (with_reducible exact HS8.out)) (first
          | (go_at_call 62; (with_reducible refine (bag_has.calls A0 c0 l0 f1 true W5.drew (HC5.out _ HBE.out) HC0.out HHE.out).mono ?_); rintro e w6 ⟨rfl, ⟨nd, hd6⟩⟩; have HB6 : Aside0 (Below W5.heap.size W5 w6) := ⟨by rw [hd6]; exact bN_ HBE.out nd⟩; have HS6 : Aside0 (w6.cell? ⟨wr.heap.size, 0, none⟩ = some (.int .u8 f0) ∧ w6.cell? ⟨wr.heap.size, 1, none⟩ = some (.int .i64 f1) ∧ w6.cell? ⟨wr.heap.size, 2, none⟩ = some (.bool f2)) := ⟨cells3 HB6.out HD5.out⟩; clear hd6)
          | (go_at_call 63; (with_reducible refine (bag_columnOf.calls kc A0 c0 l0 f1 (columnR l0 f1) w6 (HC5.out _ HB6.out) HC0.out HKC2.out).mono ?_); rintro e w7 ⟨vc, rfl, hRc, hb7⟩; obtain ⟨Ac, cc, ec, hcc, hCc⟩ := Kd.R_reads hRc; subst ec; have hb57 : Below W5.heap.size W5 w7 := HB6.out.trans (hb7.mono HB6.out.size); have HS7 : Aside0 (w7.cell? ⟨wr.heap.size, 0, none⟩ = some (.int .u8 f0) ∧ w7.cell? ⟨wr.heap.size, 1, none⟩ = some (.int .i64 f1) ∧ w7.cell? ⟨wr.heap.size, 2, none⟩ = some (.bool f2)) := ⟨cells3 hb57 HD5.out⟩; have HCC := Aside0.mk hCc; have HCN := Aside0.mk hcc; have HB7 := Aside0.mk hb57; clear hb57 hRc hb7 hcc hCc)
          | (go_at_call 56; (with_reducible refine (bag_allowed.calls ka f0 f2 Ac cc (columnR l0 f1) true w7 HCC.out HCN.out HKA.out).mono ?_); rintro e w8 ⟨rfl, hb8⟩; have hb58 : Below W5.heap.size W5 w8 := HB7.out.trans (hb8.mono HB7.out.size); have HS8 : Aside0 (w8.cell? ⟨wr.heap.size, 0, none⟩ = some (.int .u8 f0) ∧ w8.cell? ⟨wr.heap.size, 1, none⟩ = some (.int .i64 f1) ∧ w8.cell? ⟨wr.heap.size, 2, none⟩ = some (.bool f2)) := ⟨cells3 hb58 HD5.out⟩; have HB8 := Aside0.mk hb58; clear hb58 hb8))
         go_wp2
         have hlt := HLT.out
         have hk := HKQ.out
         have hx0 := HX0.out
         cases gk with
         | zero => omega
         | succ k1 =>
          go_roundg k1
          case measure => omega
          case rel => exact ⟨x + 1, by rw [HWR.out], ⟨by omega⟩, HEX2, ⟨HN5.out _ HB8.out⟩, ⟨HM5.out _ HB8.out⟩, ⟨HW5B.out _ HB8.out⟩⟩
open Classical in
noncomputable def bag_Group.f (l0 : List (List V)) (l1 : List Int) (l2 : List AggT) : Option (List (List V) × Int) := if GroupOk l0 l1 l2 then some (groupG l0 l1 l2) else none
theorem group_good (A0 : Option Addr) (c0 : Nat) (l0 : List (List V)) (A1 : Option Addr) (c1 : Nat) (l1 : List Int) (A2 : Option Addr) (c2 : Nat) (l2 : List AggT) (w : World) (hr0 : Kd.C kRow w A0 l0.length l0) (hc0 : l0.length ≤ c0) (hr1 : Kd.C (Kd.int .i64) w A1 l1.length l1) (hr2 : Kd.C kAgg w A2 l2.length l2) (hT : LaidT w) (hok : GroupOk l0 l1 l2) (hg : groupableB l0 l1 l2 = true) (grs : List (List V)) (ger : Int) (hG : groupG l0 l1 l2 = (grs, ger)) :
 Calls Tryz.prog 25 #[.slice A0 l0.length c0, .slice A1 l1.length c1, .slice A2 l2.length c2] w fun e w' => ∃ v0_ : Value, e = .returned (.agg #[v0_, .int .i64 ger]) ∧ Kd.V kRow 53 w' w.heap.size (fun k_ => (w.heap.size ≤ k_)) v0_ grs ∧ Below w.heap.size w w' := by
 refine (group_goodS A0 c0 l0 A1 c1 l1 A2 c2 l2 w hr0 hc0 hr1 hr2 hT hok hg grs ger hG).mono ?_
 rintro e w' ⟨v, rfl, hS, hB⟩
 exact ⟨v, rfl, S_V hS, hB⟩
theorem bag_Group.callsS (A0 : Option Addr) (c0 : Nat) (l0 : List (List V)) (A1 : Option Addr) (c1 : Nat) (l1 : List Int) (A2 : Option Addr) (c2 : Nat) (l2 : List AggT) (r1 : List (List V)) (r2 : Int) (w : World) (hr0 : Kd.C kRow w A0 l0.length l0) (hc0 : l0.length ≤ c0) (hr1 : Kd.C (Kd.int .i64) w A1 l1.length l1) (hc1 : l1.length ≤ c1) (hr2 : Kd.C kAgg w A2 l2.length l2) (hc2 : l2.length ≤ c2) (hT : LaidT w) (h : bag_Group.f l0 l1 l2 = some (r1, r2)) :
 Calls Tryz.prog 25 #[.slice A0 l0.length c0, .slice A1 l1.length c1, .slice A2 l2.length c2] w fun e w' => ∃ v0_ : Value, e = .returned (.agg #[v0_, .int .i64 r2]) ∧ Kd.S kRow 53 w' w.heap.size (fun _ => True) v0_ r1 ∧ Below w.heap.size w w' := by
 unfold bag_Group.f at h
 split at h
 case isFalse => cases h
 rename_i hok
 have h := Option.some.inj h
 by_cases hg : groupableB l0 l1 l2 = true
 · exact group_goodS A0 c0 l0 A1 c1 l1 A2 c2 l2 w hr0 hc0 hr1 hr2 hT hok hg r1 r2 h
 · unfold groupG at h
   rw [if_neg hg] at h
   simp only [Prod.mk.injEq] at h
   obtain ⟨rfl, rfl⟩ := h
   by_cases hb : validB l0 = false ∨ ∃ n ∈ l1, hasB l0 n = false
   · refine (group_bad A0 c0 l0 A1 c1 l1 A2 c2 l2.length w hr0 hc0 hr1 hok.rows.v hok.cn hb).mono ?_
     rintro e w' ⟨rfl, hb'⟩
     exact ⟨_, rfl, Kd.S_nil _ _ _ _ _, hb'⟩
   · have hv : validB l0 = true := by
      cases hq : validB l0 with
      | true => rfl
      | false => exact absurd (.inl hq) hb
     have hin : ∀ n ∈ l1, hasB l0 n = true := fun n hn => by
      cases hq : hasB l0 n with
      | true => rfl
      | false => exact absurd (.inr ⟨n, hn, hq⟩) hb
     have hex : ∃ a ∈ l2, aggOkB l0 a = false := by
      refine Classical.byContradiction (fun hne => hg ?_)
      unfold groupableB
      simp only [Bool.and_eq_true, List.all_eq_true]
      refine ⟨⟨hv, hin⟩, fun a ha => ?_⟩
      cases hq : aggOkB l0 a with
      | true => rfl
      | false => exact absurd ⟨a, ha, hq⟩ hne
     refine (group_bad2 A0 c0 l0 A1 c1 l1 A2 c2 l2 w hr0 hc0 hr1 hr2 hok hv hin hex).mono ?_
     rintro e w' ⟨rfl, hb'⟩
     exact ⟨_, rfl, Kd.S_nil _ _ _ _ _, hb'⟩
end Go.Proofs.YtecgkcgfeghhgaaGreatDoor.PAll
namespace Go.Proofs.YtecgkcgfeghhgaaGreatDoor.PAll
open Go.RowKit Go.Proofs.YtecgkcgfeghhgaaGreatDoorW.PrintWords Go.Proofs.YtecgkcgfeghhgaaGreatDoorW.PrintLast Go.Proofs.YtecgkcgfeghhgaaGreatDoorW.PrintMore
attribute [local go_sem] max2_int min2_int max_two min_two max_three min_three max_four min_four
set_option linter.unusedVariables false
set_option linter.unusedSimpArgs false
def r1_Int.f (a0 : Int) : Option (Int × Int × ByteArray) := some (1, a0, (⟨#[]⟩ : ByteArray))
theorem r1_Int.calls (a0 : Int) (r1 : Int) (r2 : Int) (r3 : ByteArray) (w : World) (h : r1_Int.f a0 = some (r1, r2, r3)) :
 Calls Tryz.prog 43 #[.int .i64 a0] w fun e w' => e = .returned (.agg #[.int .u8 r1, .int .i64 r2, .string r3]) ∧ Below w.heap.size w w' := by
 have hu36 := Tryz.underlying36
 have HB := Aside0.mk (Below.refl w.heap.size w)
 have H : (some (1, a0, (⟨#[]⟩ : ByteArray))) = some (r1, r2, r3) := h
 clear h
 simp only [Option.some.injEq, Prod.mk.injEq] at H
 obtain ⟨rfl, rfl, rfl⟩ := H
 go_enter Tryz.func43, Tryz.ntmps43
 go_wp2_with (first | ((with_reducible refine gate_dst (N := 2) rfl ?_); refine box_event ?hg (N := 2) ?hd (cs := #[.int .u8 0, .int .i64 0, .string (⟨#[]⟩ : ByteArray)]) (t := 36) ?hr ?_; (case hd => rfl); (case hg => rfl); (case hr => first | (go_simp; done) | (go_simp; rfl)); intro gb124 hg w2 hbox hb; have n0_ := Aside0.mk (below_step (by repeat (first | (with_reducible first | exact HB.out | apply bA_ | apply bN_ | apply b1_) | exact HB.out)) hb); have n1_ := Aside0.mk (hbox); have n2_ := Aside0.mk ((by rw [hg]; exact (below_size (by repeat (first | (with_reducible first | exact HB.out | apply bA_ | apply bN_ | apply b1_) | exact HB.out))) : w.heap.size ≤ gb124)); have n3_ := Aside0.mk ((by rw [hg]; exact (below_size (by repeat (first | (with_reducible first | exact HB.out | apply bA_ | apply bN_ | apply b1_) | exact HB.out))) : w.heap.size ≤ gb124)); clear HB; have HB := n0_; have BK124 := n1_; have GW124 := n2_; have GE124 := n3_; clear n0_ n1_ n2_ n3_; clear hb hbox hg; have hcz3_0 : w2.cell? ⟨gb124, 0, none⟩ = some (.int .u8 0) := (blk_cell BK124.out 0).trans rfl; have hcz3_1 : w2.cell? ⟨gb124, 1, none⟩ = some (.int .i64 0) := (blk_cell BK124.out 1).trans rfl; have hcz3_2 : w2.cell? ⟨gb124, 2, none⟩ = some (.string (⟨#[]⟩ : ByteArray)) := (blk_cell BK124.out 2).trans rfl; have hfz3_0 := blk_frozen BK124.out 0; have hfz3_1 := blk_frozen BK124.out 1; have hfz3_2 := blk_frozen BK124.out 2))
 refine bodyPost_ret (results_cell_row rfl _ _ gb124 36 #[.int .u8 1, .int .i64 a0, .string (⟨#[]⟩ : ByteArray)] (0, 0) _ rfl (by (with_reducible repeat (first | refine blk_drewN ?_ _ | refine blk_drew ?_ | refine blk_alloc ?_ _)); refine blk_put (cs := #[.int .u8 1, .int .i64 a0, .string (⟨#[]⟩ : ByteArray)]) ?_ 2 _ rfl; (with_reducible repeat (first | refine blk_drewN ?_ _ | refine blk_drew ?_ | refine blk_alloc ?_ _)); refine blk_put (cs := #[.int .u8 1, .int .i64 0, .string (⟨#[]⟩ : ByteArray)]) ?_ 1 _ rfl; (with_reducible repeat (first | refine blk_drewN ?_ _ | refine blk_drew ?_ | refine blk_alloc ?_ _)); refine blk_put (cs := #[.int .u8 0, .int .i64 0, .string (⟨#[]⟩ : ByteArray)]) ?_ 0 _ rfl; (with_reducible repeat (first | refine blk_drewN ?_ _ | refine blk_drew ?_ | refine blk_alloc ?_ _)); exact BK124.out) Tryz.underlying36 rfl (by kernel_rfl)) rfl ?_
 exact ⟨by first | rfl | (simp [*, errW_none, errW_some] <;> rfl), by repeat (first | (with_reducible first | exact HB.out | apply bA_ | apply bN_ | apply b1_ | refine below_set ?_ GE124.out) | exact HB.out)⟩
mutual
def w6_marked.l0 : Nat → List (List (S36)) → Int → Option (Bool)
 | 0, _, _ => none
 | k + 1, x0, x3 => if x3 < (x0.length : Int) then (w6_marked.l1 k x0 x3 0) else (some true)
def w6_marked.l1 : Nat → List (List (S36)) → Int → Int → Option (Bool)
 | 0, _, _, _ => none
 | k + 1, x0, x3, x4 => if 0 ≤ x3 then (if x3 < (x0.length : Int) then (if (wrap64 (x4 + 1)) < ((rd_L4 x0 x3).length : Int) then (if 0 ≤ x4 then (if x4 < ((rd_L4 x0 x3).length : Int) then ((r1_Int.f (wrap64 ((wrap64 (1000 * x3)) + x4))).bind fun bt479 => ((r1_Same.f ((rd_T36 (rd_L4 x0 x3) x4).f0) ((rd_T36 (rd_L4 x0 x3) x4).f1) ((rd_T36 (rd_L4 x0 x3) x4).f2) bt479.1 bt479.2.1 bt479.2.2).bind fun t482 => (if t482 = true then (w6_marked.l1 k x0 x3 (wrap64 (x4 + 1))) else (some false)))) else (none)) else (none)) else (w6_marked.l0 k x0 (wrap64 (x3 + 1)))) else (none)) else (none)
end
def w6_marked.f (k : Nat) (l0 : List (List (S36))) : Option (Bool) := w6_marked.l0 k l0 0
def w6_marked.T7 : Bool × List (List Nat × List Nat) := (true, [([], []), ([], []), ([0, 1], [0, 1]), ([2], [2]), ([], []), ([3, 4], [3, 4]), ([5], [5]), ([], []), ([7], [7]), ([], []), ([8, 9], [8, 9]), ([10], [10]), ([6, 11, 11], [6, 11]), ([12], [12])])
def w6_marked.B7 : List Nat := [0, 0, 3, 7, 0, 31, 63, 0, 128, 0, 896, 1920, 4095, 8191]
theorem w6_marked.tab7 : rtab .any (opsOf Tryz.f39 7) = w6_marked.T7 := by kernel_rfl
theorem w6_marked.bits7 : waitsOk w6_marked.T7.2 w6_marked.B7 = true := by kernel_rfl
theorem w6_marked.calls (k : Nat) (A0 : Option Addr) (c0 : Nat) (l0 : List (List (S36))) (r : Bool) (w : World) (hr0 : Kd.C (Kd.slice 36 k36) w A0 l0.length l0) (hc0 : l0.length ≤ c0) (h : w6_marked.f k l0 = some r) :
 Calls Tryz.prog 39 #[.slice A0 l0.length c0] w fun e w' => e = .returned (.bool r) ∧ Below w.heap.size w w' := by
 have hu36 := Tryz.underlying36
 have HR0 := Aside0.mk hr0
 have HC0 := Aside0.mk hc0
 clear hr0 hc0
 have HB := Aside0.mk (Below.refl w.heap.size w)
 have H : (w6_marked.l0 k l0 0) = some r := h
 clear h
 have H' := Aside0.mk H
 clear H
 go_enter Tryz.func39, Tryz.ntmps39
 go_wp2
 go_loopg [3] k (fun kq v3 w' => ∃ (x3_1 : Int), v3 = .int .i64 x3_1 ∧ Aside0 (w6_marked.l0 kq l0 x3_1 = some r) ∧ Aside0 (kq ≤ k) ∧ Aside0 (Below w.heap.size w w'))
 case atStart => exact ⟨(0), (by first | rfl | (simp; done) | (simp [*]; done)), H', ⟨Nat.le_refl _⟩, ⟨by repeat (first | (with_reducible first | exact HB.out | apply bA_ | apply bN_ | apply b1_) | exact HB.out)⟩⟩
 case round =>
  clear H'
  obtain ⟨x3_1, rfl, HA, HK1, HB⟩ := hrel
  cases gk with
  | zero => exact absurd HA.out (by simp [w6_marked.l0])
  | succ k1 =>
   have H := HA.out
   clear HA
   simp only [w6_marked.l0] at H
   by_cases c2 : x3_1 < (l0.length : Int)
   · rw [if_pos c2] at H
     have c2b0 : decide (x3_1 < (l0.length : Int)) = true := dT_ c2
     clear c2
     have H' := Aside0.mk H
     clear H
     go_wp2
     go_loopg [4] k1 (fun kq v4 w' => ∃ (x4_2 : Int), v4 = .int .i64 x4_2 ∧ Aside0 (w6_marked.l1 kq l0 x3_1 x4_2 = some r) ∧ Aside0 (kq ≤ k1) ∧ Aside0 (Below w.heap.size w w'))
     case atStart => exact ⟨(0), (by first | rfl | (simp; done) | (simp [*]; done)), H', ⟨Nat.le_refl _⟩, ⟨by repeat (first | (with_reducible first | exact HB.out | apply bA_ | apply bN_ | apply b1_) | exact HB.out)⟩⟩
     case round =>
      clear H'
      try clear c2
      try clear c2b0
      try clear p2
      obtain ⟨x4_2, rfl, HA, HK2, HB⟩ := hrel
      cases gk with
      | zero => exact absurd HA.out (by simp [w6_marked.l1])
      | succ k2 =>
       have H := HA.out
       clear HA
       simp only [w6_marked.l1] at H
       by_cases c3 : 0 ≤ x3_1
       · rw [if_pos c3] at H
         have c3b0 : decide (0 ≤ x3_1) = true := dT_ c3
         clear c3
         by_cases c4 : x3_1 < (l0.length : Int)
         · rw [if_pos c4] at H
           have c4b0 : decide (x3_1 < (l0.length : Int)) = true := dT_ c4
           clear c4
           by_cases c5 : (wrap64 (x4_2 + 1)) < ((rd_L4 l0 x3_1).length : Int)
           · rw [if_pos c5] at H
             have c5b0 : decide ((wrap64 (x4_2 + 1)) < ((rd_L4 l0 x3_1).length : Int)) = true := dT_ c5
             clear c5
             by_cases c6 : 0 ≤ x4_2
             · rw [if_pos c6] at H
               have c6b0 : decide (0 ≤ x4_2) = true := dT_ c6
               clear c6
               by_cases c7 : x4_2 < ((rd_L4 l0 x3_1).length : Int)
               · rw [if_pos c7] at H
                 have c7b0 : decide (x4_2 < ((rd_L4 l0 x3_1).length : Int)) = true := dT_ c7
                 clear c7
                 replace H := Option.bind_eq_some_iff.mp H
                 obtain ⟨⟨t479, t480, t481⟩, A80, H⟩ := H
                 replace H : ((r1_Same.f ((rd_T36 (rd_L4 l0 x3_1) x4_2).f0) ((rd_T36 (rd_L4 l0 x3_1) x4_2).f1) ((rd_T36 (rd_L4 l0 x3_1) x4_2).f2) t479 t480 t481).bind fun t482 => (if t482 = true then (w6_marked.l1 k2 l0 x3_1 (wrap64 (x4_2 + 1))) else (some false))) = some r := H
                 have A8 := Aside0.mk A80
                 clear A80
                 replace H := Option.bind_eq_some_iff.mp H
                 obtain ⟨t482, A90, H⟩ := H
                 replace H : (if t482 = true then (w6_marked.l1 k2 l0 x3_1 (wrap64 (x4_2 + 1))) else (some false)) = some r := H
                 have A9 := Aside0.mk A90
                 clear A90
                 by_cases c10 : t482 = true
                 · subst c10
                   have H1 : (w6_marked.l1 k2 l0 x3_1 (wrap64 (x4_2 + 1))) = some r := by rw [if_pos rfl] at H; exact H
                   clear H
                   have H := H1
                   clear H1
                   have H' := Aside0.mk H
                   clear H
                   have p476 : 0 ≤ (x3_1 : Int) := oT_ (by assumption)
                   have q476 : x3_1 < (l0.length : Int) := oT_ (by assumption)
                   obtain ⟨ad476, A476_0, c476_0, e476, hx476_0, hl476_0, hi476_0⟩ := at_L4 HR0.out x3_1 p476 q476
                   cases e476
                   replace hx476_0 := (HB.out.cell (bLC_ w _ hx476_0)).trans hx476_0
                   have HR476_0 := Aside0.mk hi476_0
                   have HC476_0 := Aside0.mk hl476_0
                   clear hi476_0 hl476_0
                   replace p476 := eq_true p476
                   replace q476 := eq_true q476
                   try go_wp2
                   have n0_ := Aside0.mk (b1_ HB.out)
                   clear HB
                   have HB := n0_
                   clear n0_
                   have p477 : 0 ≤ (x3_1 : Int) := oT_ (by assumption)
                   have q477 : x3_1 < (l0.length : Int) := oT_ (by assumption)
                   obtain ⟨ad477, A477_0, c477_0, e477, hx477_0, hl477_0, hi477_0⟩ := at_L4 HR0.out x3_1 p477 q477
                   have hw477_0 := hx477_0
                   obtain rfl : ad476 = ad477 := (by injection e477)
                   replace hx477_0 := (HB.out.cell (bLC_ w _ hx477_0)).trans hx477_0
                   have HR477_0 := Aside0.mk hi477_0
                   have HC477_0 := Aside0.mk hl477_0
                   clear hi477_0 hl477_0
                   replace p477 := eq_true p477
                   replace q477 := eq_true q477
                   have p478 : 0 ≤ (x4_2 : Int) := oT_ (by assumption)
                   have q478 : x4_2 < ((rd_L4 l0 x3_1).length : Int) := oT_ (by assumption)
                   obtain ⟨ad478, e478, hx478_0, hx478_1, hx478_2⟩ := at_T36 HR477_0.out x4_2 p478 q478
                   have hw478_2 := hx478_2
                   have hw478_1 := hx478_1
                   have hw478_0 := hx478_0
                   cases e478
                   replace hx478_0 := (HB.out.cell (bLC_ w _ hx478_0)).trans hx478_0
                   replace hx478_1 := (HB.out.cell (bLC_ w _ hx478_1)).trans hx478_1
                   replace hx478_2 := (HB.out.cell (bLC_ w _ hx478_2)).trans hx478_2
                   replace p478 := eq_true p478
                   replace q478 := eq_true q478
                   refine start_ (n := 14) (S := fun w' => w'.cell? (ad476.add (x3_1).toNat) = some (.slice (some ad478) (rd_L4 l0 x3_1).length c477_0) ∧ w'.cell? (ad478.add ((x4_2).toNat * 3)) = some (.int .u8 ((rd_T36 (rd_L4 l0 x3_1) x4_2).f0)) ∧ w'.cell? ⟨(ad478.add ((x4_2).toNat * 3)).block, (ad478.add ((x4_2).toNat * 3)).off + 1, none⟩ = some (.int .i64 ((rd_T36 (rd_L4 l0 x3_1) x4_2).f1)) ∧ w'.cell? ⟨(ad478.add ((x4_2).toNat * 3)).block, (ad478.add ((x4_2).toNat * 3)).off + 2, none⟩ = some (.string ((rd_T36 (rd_L4 l0 x3_1) x4_2).f2))) (ds := []) #[X_,X_,X_,X_,X_,X_,X_,X_,X_,X_,X_,X_,X_,X_] (by kernel_rfl) rfl rfl ⟨((HB.out.cell (bLC_ w _ hw477_0)).trans hw477_0), ((HB.out.cell (bLC_ w _ hw478_0)).trans hw478_0), ((HB.out.cell (bLC_ w _ hw478_1)).trans hw478_1), ((HB.out.cell (bLC_ w _ hw478_2)).trans hw478_2)⟩ (fun hHeld => ?_); refine with_tabW w6_marked.tab7 w6_marked.bits7 (fun HT_ HW_ => ?_)
                   generalize wr.drew = w11 at HB HR477_0 hx477_0 hx478_0 hx478_1 hx478_2 hHeld ⊢
                   refine pure_ (i := 0) (N := some 21) (v := ?_) (a' := ?_) #[Y_,X_,X_,X_,X_,X_,X_,X_,X_,X_,X_,X_,X_,X_] rfl rfl (any_of HT_.out (by kernel_rfl)) (fun _ _ _ h => h) (Or.inl ⟨by rfl, ?_⟩) ?_ ?_
                   rotate_left
                   · intro w'
                     go_simp
                     with_reducible rfl
                   rotate_left
                   · simp only [Act.put, sTA_, sCZ_, sCS_, i64_w, i32_w]
                     rfl
                   refine pure_ (i := 1) (N := some 22) (v := ?_) (a' := ?_) #[Y_,Y_,X_,X_,X_,X_,X_,X_,X_,X_,X_,X_,X_,X_] rfl rfl (any_of HT_.out (by kernel_rfl)) (fun _ _ _ h => h) (Or.inl ⟨by rfl, ?_⟩) ?_ ?_
                   rotate_left
                   · intro w'
                     go_simp
                     with_reducible rfl
                   rotate_left
                   · simp only [Act.put, sTA_, sCZ_, sCS_, i64_w, i32_w]
                     rfl
                   refine pure_ (i := 2) (N := some 23) (v := ?_) (a' := ?_) #[Y_,Y_,Y_,X_,X_,X_,X_,X_,X_,X_,X_,X_,X_,X_] rfl rfl (any_of HT_.out (by kernel_rfl)) (fun _ _ _ h => h) (Or.inl ⟨by rfl, ?_⟩) ?_ ?_
                   rotate_left
                   · intro w'
                     go_simp
                     with_reducible rfl
                   rotate_left
                   · simp only [Act.put, sTA_, sCZ_, sCS_, i64_w, i32_w]
                     rfl
                   refine pure_ (i := 4) (N := some 25) (v := ?_) (a' := ?_) #[Y_,Y_,Y_,X_,Y_,X_,X_,X_,X_,X_,X_,X_,X_,X_] rfl rfl (any_of HT_.out (by kernel_rfl)) (fun _ _ _ h => h) (Or.inl ⟨by rfl, ?_⟩) ?_ ?_
                   rotate_left
                   · intro w'
                     go_simp
                     with_reducible rfl
                   rotate_left
                   · simp only [Act.put, sTA_, sCZ_, sCS_, i64_w, i32_w]
                     rfl
                   refine pure_ (i := 7) (N := some 28) (v := ?_) (a' := ?_) #[Y_,Y_,Y_,X_,Y_,X_,X_,Y_,X_,X_,X_,X_,X_,X_] rfl rfl (any_of HT_.out (by kernel_rfl)) (fun _ _ _ h => h) (Or.inl ⟨by rfl, ?_⟩) ?_ ?_
                   rotate_left
                   · intro w'
                     go_simp
                     with_reducible rfl
                   rotate_left
                   · simp only [Act.put, sTA_, sCZ_, sCS_, i64_w, i32_w]
                     rfl
                   refine pure_ (i := 8) (N := some 29) (v := ?_) (a' := ?_) #[Y_,Y_,Y_,X_,Y_,X_,X_,Y_,Y_,X_,X_,X_,X_,X_] rfl rfl (any_of HT_.out (by kernel_rfl)) (fun _ _ _ h => h) (Or.inl ⟨by rfl, ?_⟩) ?_ ?_
                   rotate_left
                   · intro w'
                     go_simp
                     with_reducible rfl
                   rotate_left
                   · simp only [Act.put, sTA_, sCZ_, sCS_, i64_w, i32_w]
                     rfl
                   refine pure_ (i := 9) (N := some 30) (v := ?_) (a' := ?_) #[Y_,Y_,Y_,X_,Y_,X_,X_,Y_,Y_,Y_,X_,X_,X_,X_] rfl rfl (any_of HT_.out (by kernel_rfl)) (fun _ _ _ h => h) (Or.inl ⟨by rfl, ?_⟩) ?_ ?_
                   rotate_left
                   · intro w'
                     go_simp
                     with_reducible rfl
                   rotate_left
                   · simp only [Act.put, sTA_, sCZ_, sCS_, i64_w, i32_w]
                     rfl
                   refine pure_ (i := 10) (N := some 31) (v := ?_) (a' := ?_) #[Y_,Y_,Y_,X_,Y_,X_,X_,Y_,Y_,Y_,Y_,X_,X_,X_] rfl rfl (any_of HT_.out (by kernel_rfl)) (fun _ _ _ h => h) (Or.inl ⟨by rfl, ?_⟩) ?_ ?_
                   rotate_left
                   · intro w'
                     go_simp
                     with_reducible rfl
                   rotate_left
                   · simp only [Act.put, sTA_, sCZ_, sCS_, i64_w, i32_w]
                     rfl
                   refine take_ (i := 3) (N := some 24) (v := ?_) (a' := ?_) #[Y_,Y_,Y_,Y_,Y_,X_,X_,Y_,Y_,Y_,Y_,X_,X_,X_] rfl rfl (take_ofW HT_.out HW_.out (by kernel_rfl)) (fun _ _ _ h => h) (Or.inl ⟨by rfl, ?_⟩) hHeld ?_ ?_
                   rotate_left
                   · rintro w' ⟨s0, s1, s2, s3⟩
                     go_simp
                     with_reducible rfl
                   rotate_left
                   · simp only [Act.put, sTA_, sCZ_, sCS_, i64_w, i32_w]
                     rfl
                   refine pure_ (i := 5) (N := some 26) (v := ?_) (a' := ?_) #[Y_,Y_,Y_,Y_,Y_,Y_,X_,Y_,Y_,Y_,Y_,X_,X_,X_] rfl rfl (any_of HT_.out (by kernel_rfl)) (fun _ _ _ h => h) (Or.inl ⟨by rfl, ?_⟩) ?_ ?_
                   rotate_left
                   · intro w'
                     go_simp
                     with_reducible rfl
                   rotate_left
                   · simp only [Act.put, sTA_, sCZ_, sCS_, i64_w, i32_w]
                     rfl
                   refine take_ (i := 6) (N := some 27) (v := ?_) (a' := ?_) #[Y_,Y_,Y_,Y_,Y_,Y_,Y_,Y_,Y_,Y_,Y_,X_,X_,X_] rfl rfl (take_ofW HT_.out HW_.out (by kernel_rfl)) (fun _ _ _ h => h) (Or.inl ⟨by rfl, ?_⟩) hHeld ?_ ?_
                   rotate_left
                   · rintro w' ⟨s0, s1, s2, s3⟩
                     go_simp
                     with_reducible rfl
                   rotate_left
                   · simp only [Act.put, sTA_, sCZ_, sCS_, i64_w, i32_w]
                     rfl
                   refine one_ (i := 11) (N := some 32) #[Y_,Y_,Y_,Y_,Y_,Y_,Y_,Y_,Y_,Y_,Y_,Y_,X_,X_] rfl rfl (one_of HT_.out (by kernel_rfl)) (by decide) (fun K hK => ?_)
                   refine goes_ Tryz.func43 (by kernel_rfl) rfl #[.int .i64 (wrap64 ((wrap64 (1000 * x3_1)) + x4_2))] (by rfl) rfl rfl (by (try simp only [List.map_toArray, List.map_cons, List.map_nil]); first | done | rfl | (simp only [List.length_drop, List.length_take]; rfl)) ?_
                   with_reducible refine (r1_Int.calls (wrap64 ((wrap64 (1000 * x3_1)) + x4_2)) t479 t480 t481 _ A8.out).mono ?_
                   rintro e w12 ⟨rfl, hb⟩
                   refine ⟨_, rfl, ?_⟩
                   have n0_ := Aside0.mk (below_step (by repeat (first | (with_reducible first | exact HB.out | apply bA_ | apply bN_ | apply b1_) | exact HB.out)) hb)
                   clear HB
                   have HB := n0_
                   clear n0_
                   (try clear hb)
                   (try clear hb2)
                   (try clear hk)
                   (try clear hi)
                   refine hK.out _ _ ⟨((HB.out.cell (bLC_ w _ hw477_0)).trans hw477_0), ((HB.out.cell (bLC_ w _ hw478_0)).trans hw478_0), ((HB.out.cell (bLC_ w _ hw478_1)).trans hw478_1), ((HB.out.cell (bLC_ w _ hw478_2)).trans hw478_2)⟩ (fun hHeld => ?_)
                   clear hK K
                   refine norm_ (a' := ?_) ?_ ?_
                   rotate_left
                   · show Act.put _ (some 32) _ = _
                     simp only [Act.put, sTA_, sCZ_, sCS_, i64_w, i32_w]
                     rfl
                   refine one_ (i := 12) (N := some 33) #[Y_,Y_,Y_,Y_,Y_,Y_,Y_,Y_,Y_,Y_,Y_,Y_,Y_,X_] rfl rfl (one_of HT_.out (by kernel_rfl)) (by decide) (fun K hK => ?_)
                   refine goes_ Tryz.func22 (by kernel_rfl) rfl #[.agg #[.int .u8 ((rd_T36 (rd_L4 l0 x3_1) x4_2).f0), .int .i64 ((rd_T36 (rd_L4 l0 x3_1) x4_2).f1), .string ((rd_T36 (rd_L4 l0 x3_1) x4_2).f2)], .agg #[.int .u8 t479, .int .i64 t480, .string t481]] (by rfl) rfl rfl (by (try simp only [List.map_toArray, List.map_cons, List.map_nil]); first | done | rfl | (simp only [List.length_drop, List.length_take]; rfl)) ?_
                   with_reducible refine (r1_Same.calls ((rd_T36 (rd_L4 l0 x3_1) x4_2).f0) ((rd_T36 (rd_L4 l0 x3_1) x4_2).f1) ((rd_T36 (rd_L4 l0 x3_1) x4_2).f2) t479 t480 t481 true _ A9.out).mono ?_
                   rintro e w13 ⟨rfl, hb⟩
                   refine ⟨_, rfl, ?_⟩
                   have n0_ := Aside0.mk (below_step (by repeat (first | (with_reducible first | exact HB.out | apply bA_ | apply bN_ | apply b1_) | exact HB.out)) hb)
                   clear HB
                   have HB := n0_
                   clear n0_
                   (try clear hb)
                   (try clear hb2)
                   (try clear hk)
                   (try clear hi)
                   refine hK.out _ _ ⟨((HB.out.cell (bLC_ w _ hw477_0)).trans hw477_0), ((HB.out.cell (bLC_ w _ hw478_0)).trans hw478_0), ((HB.out.cell (bLC_ w _ hw478_1)).trans hw478_1), ((HB.out.cell (bLC_ w _ hw478_2)).trans hw478_2)⟩ (fun hHeld => ?_)
                   clear hK K
                   refine norm_ (a' := ?_) ?_ ?_
                   rotate_left
                   · show Act.put _ (some 33) _ = _
                     simp only [Act.put, sTA_, sCZ_, sCS_, i64_w, i32_w]
                     rfl
                   refine pure_ (i := 13) (N := some 34) (v := ?_) (a' := ?_) #[Y_,Y_,Y_,Y_,Y_,Y_,Y_,Y_,Y_,Y_,Y_,Y_,Y_,Y_] rfl rfl (any_of HT_.out (by kernel_rfl)) (fun _ _ _ h => h) (Or.inl ⟨by rfl, ?_⟩) ?_ ?_
                   rotate_left
                   · intro w'
                     go_simp
                     with_reducible rfl
                   rotate_left
                   · simp only [Act.put, sTA_, sCZ_, sCS_, i64_w, i32_w]
                     rfl
                   refine done_ (done_of HT_.out (by kernel_rfl)) ?_
                   try go_wp2
                   go_roundg k2
                   case measure => have := HK1.out; have := HK2.out; omega
                   case rel => exact ⟨(wrap64 (x4_2 + 1)), (by first | rfl | (simp; done) | (simp [*]; done)), H', ⟨by have := HK1.out; have := HK2.out; omega⟩, ⟨by repeat (first | (with_reducible first | exact HB.out | apply bA_ | apply bN_ | apply b1_) | exact HB.out)⟩⟩
                 · replace c10 := Bool.eq_false_iff.mpr c10
                   subst c10
                   have H1 : (some false) = some r := by rw [if_neg (show ¬ (false = true) by decide)] at H; exact H
                   clear H
                   have H := H1
                   clear H1
                   obtain rfl := Option.some.inj H
                   have p476 : 0 ≤ (x3_1 : Int) := oT_ (by assumption)
                   have q476 : x3_1 < (l0.length : Int) := oT_ (by assumption)
                   obtain ⟨ad476, A476_0, c476_0, e476, hx476_0, hl476_0, hi476_0⟩ := at_L4 HR0.out x3_1 p476 q476
                   cases e476
                   replace hx476_0 := (HB.out.cell (bLC_ w _ hx476_0)).trans hx476_0
                   have HR476_0 := Aside0.mk hi476_0
                   have HC476_0 := Aside0.mk hl476_0
                   clear hi476_0 hl476_0
                   replace p476 := eq_true p476
                   replace q476 := eq_true q476
                   try go_wp2
                   have n0_ := Aside0.mk (b1_ HB.out)
                   clear HB
                   have HB := n0_
                   clear n0_
                   have p477 : 0 ≤ (x3_1 : Int) := oT_ (by assumption)
                   have q477 : x3_1 < (l0.length : Int) := oT_ (by assumption)
                   obtain ⟨ad477, A477_0, c477_0, e477, hx477_0, hl477_0, hi477_0⟩ := at_L4 HR0.out x3_1 p477 q477
                   have hw477_0 := hx477_0
                   obtain rfl : ad476 = ad477 := (by injection e477)
                   replace hx477_0 := (HB.out.cell (bLC_ w _ hx477_0)).trans hx477_0
                   have HR477_0 := Aside0.mk hi477_0
                   have HC477_0 := Aside0.mk hl477_0
                   clear hi477_0 hl477_0
                   replace p477 := eq_true p477
                   replace q477 := eq_true q477
                   have p478 : 0 ≤ (x4_2 : Int) := oT_ (by assumption)
                   have q478 : x4_2 < ((rd_L4 l0 x3_1).length : Int) := oT_ (by assumption)
                   obtain ⟨ad478, e478, hx478_0, hx478_1, hx478_2⟩ := at_T36 HR477_0.out x4_2 p478 q478
                   have hw478_2 := hx478_2
                   have hw478_1 := hx478_1
                   have hw478_0 := hx478_0
                   cases e478
                   replace hx478_0 := (HB.out.cell (bLC_ w _ hx478_0)).trans hx478_0
                   replace hx478_1 := (HB.out.cell (bLC_ w _ hx478_1)).trans hx478_1
                   replace hx478_2 := (HB.out.cell (bLC_ w _ hx478_2)).trans hx478_2
                   replace p478 := eq_true p478
                   replace q478 := eq_true q478
                   refine start_ (n := 14) (S := fun w' => w'.cell? (ad476.add (x3_1).toNat) = some (.slice (some ad478) (rd_L4 l0 x3_1).length c477_0) ∧ w'.cell? (ad478.add ((x4_2).toNat * 3)) = some (.int .u8 ((rd_T36 (rd_L4 l0 x3_1) x4_2).f0)) ∧ w'.cell? ⟨(ad478.add ((x4_2).toNat * 3)).block, (ad478.add ((x4_2).toNat * 3)).off + 1, none⟩ = some (.int .i64 ((rd_T36 (rd_L4 l0 x3_1) x4_2).f1)) ∧ w'.cell? ⟨(ad478.add ((x4_2).toNat * 3)).block, (ad478.add ((x4_2).toNat * 3)).off + 2, none⟩ = some (.string ((rd_T36 (rd_L4 l0 x3_1) x4_2).f2))) (ds := []) #[X_,X_,X_,X_,X_,X_,X_,X_,X_,X_,X_,X_,X_,X_] (by kernel_rfl) rfl rfl ⟨((HB.out.cell (bLC_ w _ hw477_0)).trans hw477_0), ((HB.out.cell (bLC_ w _ hw478_0)).trans hw478_0), ((HB.out.cell (bLC_ w _ hw478_1)).trans hw478_1), ((HB.out.cell (bLC_ w _ hw478_2)).trans hw478_2)⟩ (fun hHeld => ?_); refine with_tabW w6_marked.tab7 w6_marked.bits7 (fun HT_ HW_ => ?_)
                   generalize wr.drew = w14 at HB HR477_0 hx477_0 hx478_0 hx478_1 hx478_2 hHeld ⊢
                   refine pure_ (i := 0) (N := some 21) (v := ?_) (a' := ?_) #[Y_,X_,X_,X_,X_,X_,X_,X_,X_,X_,X_,X_,X_,X_] rfl rfl (any_of HT_.out (by kernel_rfl)) (fun _ _ _ h => h) (Or.inl ⟨by rfl, ?_⟩) ?_ ?_
                   rotate_left
                   · intro w'
                     go_simp
                     with_reducible rfl
                   rotate_left
                   · simp only [Act.put, sTA_, sCZ_, sCS_, i64_w, i32_w]
                     rfl
                   refine pure_ (i := 1) (N := some 22) (v := ?_) (a' := ?_) #[Y_,Y_,X_,X_,X_,X_,X_,X_,X_,X_,X_,X_,X_,X_] rfl rfl (any_of HT_.out (by kernel_rfl)) (fun _ _ _ h => h) (Or.inl ⟨by rfl, ?_⟩) ?_ ?_
                   rotate_left
                   · intro w'
                     go_simp
                     with_reducible rfl
                   rotate_left
                   · simp only [Act.put, sTA_, sCZ_, sCS_, i64_w, i32_w]
                     rfl
                   refine pure_ (i := 2) (N := some 23) (v := ?_) (a' := ?_) #[Y_,Y_,Y_,X_,X_,X_,X_,X_,X_,X_,X_,X_,X_,X_] rfl rfl (any_of HT_.out (by kernel_rfl)) (fun _ _ _ h => h) (Or.inl ⟨by rfl, ?_⟩) ?_ ?_
                   rotate_left
                   · intro w'
                     go_simp
                     with_reducible rfl
                   rotate_left
                   · simp only [Act.put, sTA_, sCZ_, sCS_, i64_w, i32_w]
                     rfl
                   refine pure_ (i := 4) (N := some 25) (v := ?_) (a' := ?_) #[Y_,Y_,Y_,X_,Y_,X_,X_,X_,X_,X_,X_,X_,X_,X_] rfl rfl (any_of HT_.out (by kernel_rfl)) (fun _ _ _ h => h) (Or.inl ⟨by rfl, ?_⟩) ?_ ?_
                   rotate_left
                   · intro w'
                     go_simp
                     with_reducible rfl
                   rotate_left
                   · simp only [Act.put, sTA_, sCZ_, sCS_, i64_w, i32_w]
                     rfl
                   refine pure_ (i := 7) (N := some 28) (v := ?_) (a' := ?_) #[Y_,Y_,Y_,X_,Y_,X_,X_,Y_,X_,X_,X_,X_,X_,X_] rfl rfl (any_of HT_.out (by kernel_rfl)) (fun _ _ _ h => h) (Or.inl ⟨by rfl, ?_⟩) ?_ ?_
                   rotate_left
                   · intro w'
                     go_simp
                     with_reducible rfl
                   rotate_left
                   · simp only [Act.put, sTA_, sCZ_, sCS_, i64_w, i32_w]
                     rfl
                   refine pure_ (i := 8) (N := some 29) (v := ?_) (a' := ?_) #[Y_,Y_,Y_,X_,Y_,X_,X_,Y_,Y_,X_,X_,X_,X_,X_] rfl rfl (any_of HT_.out (by kernel_rfl)) (fun _ _ _ h => h) (Or.inl ⟨by rfl, ?_⟩) ?_ ?_
                   rotate_left
                   · intro w'
                     go_simp
                     with_reducible rfl
                   rotate_left
                   · simp only [Act.put, sTA_, sCZ_, sCS_, i64_w, i32_w]
                     rfl
                   refine pure_ (i := 9) (N := some 30) (v := ?_) (a' := ?_) #[Y_,Y_,Y_,X_,Y_,X_,X_,Y_,Y_,Y_,X_,X_,X_,X_] rfl rfl (any_of HT_.out (by kernel_rfl)) (fun _ _ _ h => h) (Or.inl ⟨by rfl, ?_⟩) ?_ ?_
                   rotate_left
                   · intro w'
                     go_simp
                     with_reducible rfl
                   rotate_left
                   · simp only [Act.put, sTA_, sCZ_, sCS_, i64_w, i32_w]
                     rfl
                   refine pure_ (i := 10) (N := some 31) (v := ?_) (a' := ?_) #[Y_,Y_,Y_,X_,Y_,X_,X_,Y_,Y_,Y_,Y_,X_,X_,X_] rfl rfl (any_of HT_.out (by kernel_rfl)) (fun _ _ _ h => h) (Or.inl ⟨by rfl, ?_⟩) ?_ ?_
                   rotate_left
                   · intro w'
                     go_simp
                     with_reducible rfl
                   rotate_left
                   · simp only [Act.put, sTA_, sCZ_, sCS_, i64_w, i32_w]
                     rfl
                   refine take_ (i := 3) (N := some 24) (v := ?_) (a' := ?_) #[Y_,Y_,Y_,Y_,Y_,X_,X_,Y_,Y_,Y_,Y_,X_,X_,X_] rfl rfl (take_ofW HT_.out HW_.out (by kernel_rfl)) (fun _ _ _ h => h) (Or.inl ⟨by rfl, ?_⟩) hHeld ?_ ?_
                   rotate_left
                   · rintro w' ⟨s0, s1, s2, s3⟩
                     go_simp
                     with_reducible rfl
                   rotate_left
                   · simp only [Act.put, sTA_, sCZ_, sCS_, i64_w, i32_w]
                     rfl
                   refine pure_ (i := 5) (N := some 26) (v := ?_) (a' := ?_) #[Y_,Y_,Y_,Y_,Y_,Y_,X_,Y_,Y_,Y_,Y_,X_,X_,X_] rfl rfl (any_of HT_.out (by kernel_rfl)) (fun _ _ _ h => h) (Or.inl ⟨by rfl, ?_⟩) ?_ ?_
                   rotate_left
                   · intro w'
                     go_simp
                     with_reducible rfl
                   rotate_left
                   · simp only [Act.put, sTA_, sCZ_, sCS_, i64_w, i32_w]
                     rfl
                   refine take_ (i := 6) (N := some 27) (v := ?_) (a' := ?_) #[Y_,Y_,Y_,Y_,Y_,Y_,Y_,Y_,Y_,Y_,Y_,X_,X_,X_] rfl rfl (take_ofW HT_.out HW_.out (by kernel_rfl)) (fun _ _ _ h => h) (Or.inl ⟨by rfl, ?_⟩) hHeld ?_ ?_
                   rotate_left
                   · rintro w' ⟨s0, s1, s2, s3⟩
                     go_simp
                     with_reducible rfl
                   rotate_left
                   · simp only [Act.put, sTA_, sCZ_, sCS_, i64_w, i32_w]
                     rfl
                   refine one_ (i := 11) (N := some 32) #[Y_,Y_,Y_,Y_,Y_,Y_,Y_,Y_,Y_,Y_,Y_,Y_,X_,X_] rfl rfl (one_of HT_.out (by kernel_rfl)) (by decide) (fun K hK => ?_)
                   refine goes_ Tryz.func43 (by kernel_rfl) rfl #[.int .i64 (wrap64 ((wrap64 (1000 * x3_1)) + x4_2))] (by rfl) rfl rfl (by (try simp only [List.map_toArray, List.map_cons, List.map_nil]); first | done | rfl | (simp only [List.length_drop, List.length_take]; rfl)) ?_
                   with_reducible refine (r1_Int.calls (wrap64 ((wrap64 (1000 * x3_1)) + x4_2)) t479 t480 t481 _ A8.out).mono ?_
                   rintro e w15 ⟨rfl, hb⟩
                   refine ⟨_, rfl, ?_⟩
                   have n0_ := Aside0.mk (below_step (by repeat (first | (with_reducible first | exact HB.out | apply bA_ | apply bN_ | apply b1_) | exact HB.out)) hb)
                   clear HB
                   have HB := n0_
                   clear n0_
                   (try clear hb)
                   (try clear hb2)
                   (try clear hk)
                   (try clear hi)
                   refine hK.out _ _ ⟨((HB.out.cell (bLC_ w _ hw477_0)).trans hw477_0), ((HB.out.cell (bLC_ w _ hw478_0)).trans hw478_0), ((HB.out.cell (bLC_ w _ hw478_1)).trans hw478_1), ((HB.out.cell (bLC_ w _ hw478_2)).trans hw478_2)⟩ (fun hHeld => ?_)
                   clear hK K
                   refine norm_ (a' := ?_) ?_ ?_
                   rotate_left
                   · show Act.put _ (some 32) _ = _
                     simp only [Act.put, sTA_, sCZ_, sCS_, i64_w, i32_w]
                     rfl
                   refine one_ (i := 12) (N := some 33) #[Y_,Y_,Y_,Y_,Y_,Y_,Y_,Y_,Y_,Y_,Y_,Y_,Y_,X_] rfl rfl (one_of HT_.out (by kernel_rfl)) (by decide) (fun K hK => ?_)
                   refine goes_ Tryz.func22 (by kernel_rfl) rfl #[.agg #[.int .u8 ((rd_T36 (rd_L4 l0 x3_1) x4_2).f0), .int .i64 ((rd_T36 (rd_L4 l0 x3_1) x4_2).f1), .string ((rd_T36 (rd_L4 l0 x3_1) x4_2).f2)], .agg #[.int .u8 t479, .int .i64 t480, .string t481]] (by rfl) rfl rfl (by (try simp only [List.map_toArray, List.map_cons, List.map_nil]); first | done | rfl | (simp only [List.length_drop, List.length_take]; rfl)) ?_
                   with_reducible refine (r1_Same.calls ((rd_T36 (rd_L4 l0 x3_1) x4_2).f0) ((rd_T36 (rd_L4 l0 x3_1) x4_2).f1) ((rd_T36 (rd_L4 l0 x3_1) x4_2).f2) t479 t480 t481 false _ A9.out).mono ?_
                   rintro e w16 ⟨rfl, hb⟩
                   refine ⟨_, rfl, ?_⟩
                   have n0_ := Aside0.mk (below_step (by repeat (first | (with_reducible first | exact HB.out | apply bA_ | apply bN_ | apply b1_) | exact HB.out)) hb)
                   clear HB
                   have HB := n0_
                   clear n0_
                   (try clear hb)
                   (try clear hb2)
                   (try clear hk)
                   (try clear hi)
                   refine hK.out _ _ ⟨((HB.out.cell (bLC_ w _ hw477_0)).trans hw477_0), ((HB.out.cell (bLC_ w _ hw478_0)).trans hw478_0), ((HB.out.cell (bLC_ w _ hw478_1)).trans hw478_1), ((HB.out.cell (bLC_ w _ hw478_2)).trans hw478_2)⟩ (fun hHeld => ?_)
                   clear hK K
                   refine norm_ (a' := ?_) ?_ ?_
                   rotate_left
                   · show Act.put _ (some 33) _ = _
                     simp only [Act.put, sTA_, sCZ_, sCS_, i64_w, i32_w]
                     rfl
                   refine pure_ (i := 13) (N := some 34) (v := ?_) (a' := ?_) #[Y_,Y_,Y_,Y_,Y_,Y_,Y_,Y_,Y_,Y_,Y_,Y_,Y_,Y_] rfl rfl (any_of HT_.out (by kernel_rfl)) (fun _ _ _ h => h) (Or.inl ⟨by rfl, ?_⟩) ?_ ?_
                   rotate_left
                   · intro w'
                     go_simp
                     with_reducible rfl
                   rotate_left
                   · simp only [Act.put, sTA_, sCZ_, sCS_, i64_w, i32_w]
                     rfl
                   refine done_ (done_of HT_.out (by kernel_rfl)) ?_
                   try go_wp2
                   go_ret
                   exact ⟨by first | rfl | (simp [*, errW_none, errW_some] <;> rfl), by repeat (first | (with_reducible first | exact HB.out | apply bA_ | apply bN_ | apply b1_) | exact HB.out)⟩
               · rw [if_neg c7] at H
                 exact absurd H (by simp)
             · rw [if_neg c6] at H
               exact absurd H (by simp)
           · rw [if_neg c5] at H
             have c5b0 : decide ((wrap64 (x4_2 + 1)) < ((rd_L4 l0 x3_1).length : Int)) = false := dF_ c5
             clear c5
             have H' := Aside0.mk H
             clear H
             have p476 : 0 ≤ (x3_1 : Int) := oT_ (by assumption)
             have q476 : x3_1 < (l0.length : Int) := oT_ (by assumption)
             obtain ⟨ad476, A476_0, c476_0, e476, hx476_0, hl476_0, hi476_0⟩ := at_L4 HR0.out x3_1 p476 q476
             cases e476
             replace hx476_0 := (HB.out.cell (bLC_ w _ hx476_0)).trans hx476_0
             have HR476_0 := Aside0.mk hi476_0
             have HC476_0 := Aside0.mk hl476_0
             clear hi476_0 hl476_0
             replace p476 := eq_true p476
             replace q476 := eq_true q476
             go_wp2
             go_roundg k2
             case measure => have := HK1.out; have := HK2.out; omega
             case rel => exact ⟨(wrap64 (x3_1 + 1)), (by first | rfl | (simp; done) | (simp [*]; done)), H', ⟨by have := HK1.out; have := HK2.out; omega⟩, ⟨by repeat (first | (with_reducible first | exact HB.out | apply bA_ | apply bN_ | apply b1_) | exact HB.out)⟩⟩
         · rw [if_neg c4] at H
           exact absurd H (by simp)
       · rw [if_neg c3] at H
         exact absurd H (by simp)
   · rw [if_neg c2] at H
     have c2b0 : decide (x3_1 < (l0.length : Int)) = false := dF_ c2
     clear c2
     obtain rfl := Option.some.inj H
     go_wp2
     go_ret
     exact ⟨by first | rfl | (simp [*, errW_none, errW_some] <;> rfl), by repeat (first | (with_reducible first | exact HB.out | apply bA_ | apply bN_ | apply b1_) | exact HB.out)⟩
end Go.Proofs.YtecgkcgfeghhgaaGreatDoor.PAll
set_option linter.unusedVariables false
set_option linter.unusedSimpArgs false
namespace Go.Proofs.YtecgkcgfeghhgaaGreatDoor.PAll
open Go.RowKit Go.Proofs.YtecgkcgfeghhgaaGreatDoorW.PrintWords Go.Proofs.YtecgkcgfeghhgaaGreatDoorW.PrintLast Go.Proofs.YtecgkcgfeghhgaaGreatDoorW.PrintMore
def mkV (i j : Int) : V := ⟨1, wrap64 (wrap64 (1000 * i) + j), ⟨#[]⟩⟩
def mkRow (i : Int) (y : Nat) (r : List V) : List V := (List.range y).map (fun j => mkV i (j : Nat)) ++ r.drop y
theorem mkRow_zero (i : Int) (r : List V) : mkRow i 0 r = r := by simp [mkRow]
theorem mkRow_len (i : Int) (y : Nat) (r : List V) (h : y ≤ r.length) : (mkRow i y r).length = r.length := by simp [mkRow]; omega
theorem mkRow_set (i : Int) (y : Nat) (r : List V) (h : y < r.length) : (mkRow i y r).set y (mkV i (y : Nat)) = mkRow i (y + 1) r := by
 unfold mkRow
 have e : r.drop y = r[y] :: r.drop (y + 1) := List.drop_eq_getElem_cons h
 rw [e, List.set_append_right _ _ (by simp), List.length_map, List.length_range, Nat.sub_self, List.set_cons_zero, List.range_succ, List.map_append, List.append_assoc]
 rfl
theorem three_of {ci : List Value} (h : ci.length = 3) : ∃ u0 u1 u2, ci = [u0, u1, u2] := by
 match ci, h with
 | [a, b, c], _ => exact ⟨a, b, c, rfl⟩
theorem set3_far {W : World} {gi o0 o1 o2 g j : Nat} {a b c u : Value} (hne : gi ≠ g) (h : W.cell? ⟨g, j, none⟩ = some u) : (((W.setCell ⟨gi, o0, none⟩ a).setCell ⟨gi, o1, none⟩ b).setCell ⟨gi, o2, none⟩ c).cell? ⟨g, j, none⟩ = some u := by
 have hh : (((W.setCell ⟨gi, o0, none⟩ a).setCell ⟨gi, o1, none⟩ b).setCell ⟨gi, o2, none⟩ c).heap[g]? = W.heap[g]? :=
  (Below.heap_setCell _ _ _ g (Ne.symm hne)).trans ((Below.heap_setCell _ _ _ g (Ne.symm hne)).trans (Below.heap_setCell _ _ _ g (Ne.symm hne)))
 rw [← h]
 simp only [World.cell?, hh]
theorem grown_below {W W1 W2 : World} {row : Option Nat} (hb : Below W.heap.size W W1) (hg : W1.grownBy W2 row) : W.grownBy W2 row :=
 World.grownBy.trans (below_grownBy hb) hg
theorem grown_cell {W W2 : World} {row : Option Nat} {g j : Nat} {u : Value} (hg : W.grownBy W2 row) (hlt : g < W.heap.size) (hne : ∀ k, row = some k → k ≠ g) (h : W.cell? ⟨g, j, none⟩ = some u) : W2.cell? ⟨g, j, none⟩ = some u := by
 have hh := hg.block g hlt (fun e => hne g e.symm rfl)
 rw [← h]
 simp only [World.cell?, hh]
theorem grown_frozen {W W2 : World} {row : Option Nat} {g j e : Nat} (hg : W.grownBy W2 row) (hlt : g < W.heap.size) (hne : ∀ k, row = some k → k ≠ g) (h : ∃ cells, W.heap[g]? = some (.cells cells e (0, 0))) : W2.frozen? ⟨g, j, none⟩ = false := by
 obtain ⟨cells, h⟩ := h
 have hh := (hg.block g hlt (fun e => hne g e.symm rfl)).trans h
 simp [World.frozen?, hh]
structure Kept (lo hi : Nat) (w w' : World) : Prop where
 low : Below lo w w'
 mid : ∀ k, hi ≤ k → k < w.heap.size → w'.heap[k]? = w.heap[k]?
theorem Kept.refl (lo hi : Nat) (w : World) : Kept lo hi w w := ⟨Below.refl _ _, fun _ _ _ => rfl⟩
theorem Kept.below {lo hi : Nat} {w W W1 : World} (h : Kept lo hi w W) (hlo : lo ≤ W.heap.size) (hb : Below W.heap.size W W1) : Kept lo hi w W1 :=
 ⟨h.low.trans (hb.mono hlo), fun k h1 h2 => (hb.block k (by have := h.low.size; omega)).trans (h.mid k h1 h2)⟩
theorem Kept.grown {lo hi : Nat} {w W W1 : World} (h : Kept lo hi w W) (hlo : lo ≤ W.heap.size) {row : Option Nat} (hg : W.grownBy W1 row) (hr : ∀ k, row = some k → lo ≤ k ∧ (k < hi ∨ w.heap.size ≤ k)) : Kept lo hi w W1 :=
 ⟨h.low.grown hg hlo (fun k hk => (hr k hk).1), fun k h1 h2 => (hg.block k (by have := h.low.size; omega) (fun e => by have := (hr k e.symm).2; omega)).trans (h.mid k h1 h2)⟩
theorem mark_calls (A0 : Option Addr) (c0 : Nat) (l0 : List (List V)) (lo hi : Nat) (w : World) (hS : Kd.S kRow 53 w lo (fun k => k < hi) (.slice A0 l0.length c0) l0) (hlo : lo ≤ w.heap.size) (hn : l0.length ≤ 1099511627776) (hrow : ∀ r ∈ l0, r.length ≤ 1099511627776) :
 Calls Tryz.prog 38 #[.slice A0 l0.length c0] w fun e w' => e = .returned (.tuple #[]) ∧ (∃ out, Kd.S kRow 53 w' lo (fun k => k < hi ∨ w.heap.size ≤ k) (.slice A0 l0.length c0) out ∧ ∀ i : Nat, out[i]? = (l0[i]?).map (fun r => mkRow (i : Nat) r.length r ++ [⟨1, -1, ⟨#[]⟩⟩])) ∧ Kept lo hi w w' := by
 have HS := Aside0.mk (Kd.S_mono (ok' := fun k => k < hi ∨ w.heap.size ≤ k) hS (fun k hk => .inl hk))
 have HLO := Aside0.mk hlo
 have HN := Aside0.mk hn
 have HR := Aside0.mk hrow
 clear hS hlo hn hrow
 go_enter Tryz.func38, Tryz.ntmps38
 go_wp2
 go_loopg [2] l0.length (fun kq v2 W => ∃ x : Int, v2 = .int .i64 x ∧ Aside0 (0 ≤ x ∧ x ≤ l0.length ∧ (kq : Int) = l0.length - x) ∧ Aside0 (∃ cur, Kd.S kRow 53 W lo (fun k => k < hi ∨ w.heap.size ≤ k) (.slice A0 l0.length c0) cur ∧ ∀ i : Nat, cur[i]? = if (i : Int) < x then (l0[i]?).map (fun r => mkRow (i : Nat) r.length r) else l0[i]?) ∧ Aside0 (Kept lo hi w W))
 case atStart => exact ⟨0, rfl, ⟨by omega⟩, ⟨l0, HS.out, fun i => by rw [if_neg (by omega)]⟩, ⟨Kept.refl _ _ _⟩⟩
 case round =>
  clear HS
  obtain ⟨x, rfl, HX, HE, HK⟩ := hrel
  obtain ⟨cur, hcS, hcur⟩ := HE.out
  have HS := Aside0.mk hcS
  have HCUR := Aside0.mk hcur
  have HCL : Aside0 (cur.length = l0.length) := ⟨((Kd.S_reads' hcS).1).symm⟩
  clear HE hcS hcur
  obtain ⟨hx0, hx1, hkq⟩ := HX.out
  by_cases hlt : x < (l0.length : Int)
  · have d1 : decide (x < (l0.length : Int)) = true := decide_eq_true hlt
    have d2 : decide (0 ≤ x) = true := decide_eq_true hx0
    have hi0 : x.toNat < l0.length := by omega
    obtain ⟨row, hrw⟩ : ∃ row, row = l0[x.toNat] := ⟨_, rfl⟩
    have HRW : Aside0 (cur[x.toNat]? = some row ∧ row ∈ l0 ∧ l0[x.toNat]? = some row) := ⟨by
     have h1 : l0[x.toNat]? = some row := by rw [hrw]; exact List.getElem?_eq_getElem hi0
     exact ⟨by rw [HCUR.out, if_neg (by omega)]; exact h1, List.mem_of_getElem? h1, h1⟩⟩
    have HRL := Aside0.mk (HR.out row HRW.out.2.1)
    obtain ⟨ad, hA⟩ : ∃ ad, A0 = some ad := by
     obtain ⟨ad, _, _, e, _⟩ := at_L4 (Kd.S_reads' HS.out).2.2 x hx0 (by rw [HCL.out]; exact hlt)
     exact ⟨ad, e⟩
    subst hA
    obtain ⟨g, hg⟩ := Kd.R_head (Kd.S_R HS.out)
    subst hg
    have HI0 := Aside0.mk hi0
    have HLT := Aside0.mk hlt
    have HKQ := Aside0.mk hkq
    have HX0 := Aside0.mk hx0
    have HWR : Aside0 (wrap64 (x + 1) = x + 1) := ⟨by have := HN.out; unfold wrap64; omega⟩
    obtain ⟨gO, hgO⟩ : ∃ gO, gO = gk := ⟨_, rfl⟩
    subst hgO
    have HKQO := HKQ
    clear hrw hkq hi0 hx1
    go_wp2
    go_loopg [3] row.length (fun kq v3 W => ∃ y : Int, v3 = .int .i64 y ∧ Aside0 (0 ≤ y ∧ y ≤ row.length ∧ (kq : Int) = row.length - y) ∧ Aside0 (Kd.S kRow 53 W lo (fun k => k < hi ∨ w.heap.size ≤ k) (.slice (some ⟨g, 0, none⟩) l0.length c0) (cur.set x.toNat (mkRow x y.toNat row))) ∧ Aside0 (Kept lo hi w W))
    case atStart =>
     refine ⟨0, rfl, ⟨by omega⟩, ⟨?_⟩, HK⟩
     have e : cur.set x.toNat row = cur := by
      refine List.ext_getElem? fun i => ?_
      rw [List.getElem?_set]
      split
      · rename_i h
        subst h
        rw [if_pos (by rw [HCL.out]; exact HI0.out)]
        exact HRW.out.1.symm
      · rfl
     rw [show (0 : Int).toNat = 0 from rfl, mkRow_zero, e]
     exact HS.out
    case round =>
     clear HS HK HX HKQ
     obtain ⟨y, rfl, HY, HSI, HKI⟩ := hrel
     obtain ⟨hy0, hy1, hykq⟩ := HY.out
     have hml : (mkRow x y.toNat row).length = row.length := mkRow_len _ _ _ (by omega)
     obtain ⟨oki, cc, hcl, hM, hcc, _, hoki, hH⟩ := Kd.S_elem HSI.out ([] : List V) x HX0.out HLT.out
     have hgd : (cur.set x.toNat (mkRow x y.toNat row)).getD x.toNat [] = mkRow x y.toNat row := by
      rw [List.getD_eq_getElem?_getD, List.getElem?_set_self (by rw [HCL.out]; exact HI0.out)]
      rfl
     rw [hgd] at hM
     obtain ⟨vv, rfl, hRv⟩ := hM
     obtain ⟨Av, cv, ev⟩ := Kd.R_slice hRv
     subst ev
     rw [hml] at hRv hcc hH
     have hx_0 : wr.cell? ⟨g, x.toNat, none⟩ = some (.slice Av row.length cv) := by
      have h := hcc 0 _ rfl
      change wr.cell? ⟨g, x.toNat * 1 + 0, none⟩ = _ at h
      rwa [Nat.mul_one, Nat.add_zero] at h
     have HRV := Aside0.mk hRv
     have HH := Aside0.mk hH
     have HML := Aside0.mk hml
     clear hcl hcc hgd hRv hH hml
     by_cases hly : y < (row.length : Int)
     · have d3 : decide (y < (row.length : Int)) = true := decide_eq_true hly
       have d4 : decide (0 ≤ y) = true := decide_eq_true hy0
       obtain ⟨gi, cvi, ev, hgb, hgs, cells, hcells⟩ := Kd.R_form HRV.out (by rw [HML.out]; omega)
       rw [HML.out] at ev
       injection ev with ev1 ev2 ev3
       subst ev1 ev3
       obtain ⟨ci, hcil, _, hcic, hcif⟩ := Kd.R_elem HRV.out (⟨0, 0, ⟨#[]⟩⟩ : V) y hy0 hly
       obtain ⟨u0, u1, u2, rfl⟩ : ∃ u0 u1 u2, ci = [u0, u1, u2] := three_of hcil
       have HCI : Aside0 (wr.cell? ⟨gi, y.toNat * 3, none⟩ = some u0 ∧ wr.cell? ⟨gi, y.toNat * 3 + 1, none⟩ = some u1 ∧ wr.cell? ⟨gi, y.toNat * 3 + 2, none⟩ = some u2) := ⟨hcic 0 _ rfl, hcic 1 _ rfl, hcic 2 _ rfl⟩
       have HCF : Aside0 (∀ W, Below wr.heap.size wr W → ∀ j, W.frozen? ⟨gi, j, none⟩ = false) := ⟨fun W hb j => by
        have h := (hb.block gi hgs).trans hcells
        simp [World.frozen?, h]⟩
       have HNE := Aside0.mk (hoki gi (HRV.out.1 gi rfl))
       have HGB := Aside0.mk hgb
       have HGS := Aside0.mk hgs
       have HLY := Aside0.mk hly
       have HKQ2 := Aside0.mk hykq
       have HY0 := Aside0.mk hy0
       have HWY : Aside0 (wrap64 (y + 1) = y + 1) := ⟨by have := HRL.out; unfold wrap64; omega⟩
       have HBE : Aside0 (Below wr.heap.size wr wr.drew) := ⟨(Below.refl _ wr).drew⟩
       obtain ⟨m1, hm1⟩ : ∃ m1, IntKind.i64.wrap (1000 * x) = m1 := ⟨_, rfl⟩
       obtain ⟨m2, hm2⟩ : ∃ m2, IntKind.i64.wrap (m1 + y) = m2 := ⟨_, rfl⟩
       have HMV : Aside0 (mkV x y = ⟨1, m2, ⟨#[]⟩⟩) := ⟨by rw [← hm2, ← hm1]; simp only [i64_w]; rfl⟩
       clear hcil hcic hcif hgb hgs hykq hy1 hoki hcells
       have HR5 : Aside0 (wr.drew.cell? ⟨g, x.toNat, none⟩ = some (.slice (some ⟨gi, 0, none⟩) row.length cv)) := ⟨hx_0⟩
       go_wp2_with fail
       go_region_held3 (fun W' => W'.cell? ⟨g, x.toNat, none⟩ = some (.slice (some ⟨gi, 0, none⟩) row.length cv)) (first | (with_reducible exact HR5.out) | (with_reducible exact HR6.out) | (with_reducible exact set3_far HNE.out.2 HR6.out)) (first
        | (go_at_call 43; (with_reducible refine (r1_Int.calls m2 _ _ _ wr.drew rfl).mono ?_); rintro e w6 ⟨rfl, hb6⟩; have HB6 := Aside0.mk (HBE.out.trans (hb6.mono HBE.out.size)); have HR6 := Aside0.mk (cB_ HB6.out hx_0); have E0 := cB_ HB6.out HCI.out.1; have E1 := cB_ HB6.out HCI.out.2.1; have E2 := cB_ HB6.out HCI.out.2.2; have EF := HCF.out w6 HB6.out; clear hb6))
       have HRV6 := Kd.R_below HRV.out HB6.out
       obtain ⟨c6, hc6l, _, hc6c, _⟩ := Kd.R_elem HRV6 (⟨0, 0, ⟨#[]⟩⟩ : V) y HY0.out HLY.out
       obtain ⟨a0, a1, a2, rfl⟩ := three_of hc6l
       obtain ⟨h7, g7⟩ := Kd.R_seg (j := 0) (seg := [.int .u8 1, .int .i64 m2, .string ⟨#[]⟩]) (x' := (⟨1, m2, ⟨#[]⟩⟩ : V)) (okp := fun _ => False) HRV6 y HY0.out HLY.out hc6l hc6c (Nat.le_refl 3) (k36_mkM _ _ _ (⟨1, m2, ⟨#[]⟩⟩ : V)) (fun _ h => h.elim)
       have h8 := Kd.H_back (Kd.H_grown (Kd.H_below HH.out HB6.out) g7 (fun k hk => by injection hk with hk; subst hk; exact HRV.out.1 gi rfl)) (okp := oki) ⟨_, rfl, h7⟩ (fun _ h => h)
       have e8 : (cur.set x.toNat (mkRow x y.toNat row)).set x.toNat ((mkRow x y.toNat row).set y.toNat ⟨1, m2, ⟨#[]⟩⟩) = cur.set x.toNat (mkRow x (y + 1).toNat row) := by
        have h1 := HY0.out
        have h2 := HLY.out
        rw [List.set_set, ← HMV.out, show (y + 1).toNat = y.toNat + 1 by omega, ← mkRow_set x y.toNat row (by omega), show ((y.toNat : Nat) : Int) = y by omega]
       rw [e8] at h8
       have h9 := (HKI.out.below (Nat.le_trans HLO.out HKI.out.low.size) HB6.out).grown (Nat.le_trans HLO.out (Nat.le_trans HKI.out.low.size HB6.out.size)) g7 (fun k hk => by injection hk with hk; subst hk; exact ⟨HGB.out, HNE.out.1⟩)
       have e7 : w6.setCells gi (y.toNat * kV.sz + 0) [.int .u8 1, .int .i64 m2, .string ⟨#[]⟩] = ((w6.setCell ⟨gi, y.toNat * 3, none⟩ (.int .u8 1)).setCell ⟨gi, y.toNat * 3 + 1, none⟩ (.int .i64 m2)).setCell ⟨gi, y.toNat * 3 + 2, none⟩ (.string ⟨#[]⟩) := rfl
       rw [e7] at h8 h9
       have H8 := Aside0.mk h8
       have H9 := Aside0.mk h9
       clear h7 g7 h8 h9 e8 e7 hc6l hc6c HRV6 E0 E1 E2 EF
       go_wp2
       have hlt := HLY.out
       have hk := HKQ2.out
       cases gk with
       | zero => omega
       | succ k1 =>
        go_roundg k1
        case measure => omega
        case rel => exact ⟨y + 1, by rw [HWY.out], ⟨by have := HY0.out; omega⟩, H8, H9⟩
     · have d3 : decide (y < (row.length : Int)) = false := decide_eq_false hly
       have hye : y.toNat = row.length := by omega
       have HS2 : Aside0 (Kd.S kRow 53 wr lo (fun k => k < hi ∨ w.heap.size ≤ k) (.slice (some ⟨g, 0, none⟩) l0.length c0) (cur.set x.toNat (mkRow x row.length row))) := ⟨by rw [← hye]; exact HSI.out⟩
       have HF2 : Aside0 (∀ i : Nat, (cur.set x.toNat (mkRow x row.length row))[i]? = if (i : Int) < x + 1 then (l0[i]?).map (fun r => mkRow (i : Nat) r.length r) else l0[i]?) := ⟨fun i => by
        have h0 := HX0.out
        rw [List.getElem?_set]
        by_cases hi : x.toNat = i
        · subst hi
          rw [if_pos rfl, if_pos (by rw [HCL.out]; exact HI0.out), if_pos (by omega), HRW.out.2.2]
          show some _ = some (mkRow ((x.toNat : Nat) : Int) row.length row)
          rw [show ((x.toNat : Nat) : Int) = x by omega]
        · rw [if_neg hi, HCUR.out]
          by_cases h1 : (i : Int) < x
          · rw [if_pos h1, if_pos (by omega)]
          · rw [if_neg h1, if_neg (by omega)]⟩
       clear HY hy0 hy1 hykq hly hye HSI HH HRV hoki
       go_wp2
       have hlt := HLT.out
       have hk := HKQO.out
       have hx0 := HX0.out
       cases gO with
       | zero => omega
       | succ k1 =>
        go_roundg k1
        case measure => omega
        case rel => exact ⟨x + 1, by rw [HWR.out], ⟨by omega⟩, ⟨_, HS2.out, HF2.out⟩, HKI⟩
  · have d1 : decide (x < (l0.length : Int)) = false := decide_eq_false hlt
    have HCUR2 : Aside0 (∀ i : Nat, cur[i]? = (l0[i]?).map (fun r => mkRow (i : Nat) r.length r)) := ⟨fun i => by
     rw [HCUR.out]
     by_cases h : (i : Int) < x
     · rw [if_pos h]
     · rw [if_neg h, List.getElem?_eq_none (by omega)]
       rfl⟩
    clear HX HCUR hx0 hx1 hkq hlt
    go_wp2
    go_loopg [4] l0.length (fun kq v4 W => ∃ x : Int, v4 = .int .i64 x ∧ Aside0 (0 ≤ x ∧ x ≤ l0.length ∧ (kq : Int) = l0.length - x) ∧ Aside0 (∃ cur2, Kd.S kRow 53 W lo (fun k => k < hi ∨ w.heap.size ≤ k) (.slice A0 l0.length c0) cur2 ∧ ∀ i : Nat, cur2[i]? = if (i : Int) < x then (cur[i]?).map (fun r => r ++ [⟨1, -1, ⟨#[]⟩⟩]) else cur[i]?) ∧ Aside0 (Kept lo hi w W))
    case atStart => exact ⟨0, rfl, ⟨by omega⟩, ⟨cur, HS.out, fun i => by rw [if_neg (by omega)]⟩, HK⟩
    case round =>
     clear HS HK
     obtain ⟨x, rfl, HX, HE, HK⟩ := hrel
     obtain ⟨cur2, hcS, hcur⟩ := HE.out
     have HS := Aside0.mk hcS
     have HCUR := Aside0.mk hcur
     have HCL2 : Aside0 (cur2.length = l0.length) := ⟨((Kd.S_reads' hcS).1).symm⟩
     clear HE hcS hcur
     obtain ⟨hx0, hx1, hkq⟩ := HX.out
     by_cases hlt : x < (l0.length : Int)
     · have d1 : decide (x < (l0.length : Int)) = true := decide_eq_true hlt
       have d2 : decide (0 ≤ x) = true := decide_eq_true hx0
       have hi0 : x.toNat < cur2.length := by rw [HCL2.out]; omega
       obtain ⟨row, hrw⟩ : ∃ row, row = cur2[x.toNat] := ⟨_, rfl⟩
       have HRW : Aside0 (cur2[x.toNat]? = some row ∧ cur[x.toNat]? = some row) := ⟨by
        have h1 : cur2[x.toNat]? = some row := by rw [hrw]; exact List.getElem?_eq_getElem hi0
        refine ⟨h1, ?_⟩
        have h2 := HCUR.out x.toNat
        rw [if_neg (by omega), h1] at h2
        exact h2.symm⟩
       have HRL : Aside0 (row.length ≤ 1099511627776) := ⟨by
        have h1 := HRW.out.2
        rw [HCUR2.out] at h1
        obtain ⟨r, h2, rfl⟩ := Option.map_eq_some_iff.1 h1
        rw [mkRow_len _ _ _ (Nat.le_refl _)]
        exact HR.out r (List.mem_of_getElem? h2)⟩
       obtain ⟨ad, hA⟩ : ∃ ad, A0 = some ad := by
        obtain ⟨ad, _, _, e, _⟩ := at_L4 (Kd.S_reads' HS.out).2.2 x hx0 (by rw [HCL2.out]; exact hlt)
        exact ⟨ad, e⟩
       subst hA
       obtain ⟨g, hg⟩ := Kd.R_head (Kd.S_R HS.out)
       subst hg
       obtain ⟨oki, cc, hcl, hM, hcc, hcf, hoki, hH⟩ := Kd.S_elem HS.out ([] : List V) x hx0 hlt
       have hgd : cur2.getD x.toNat [] = row := by
        rw [List.getD_eq_getElem?_getD, HRW.out.1]
        rfl
       rw [hgd] at hM
       obtain ⟨vv, rfl, hRv⟩ := hM
       obtain ⟨Av, cv, ev⟩ := Kd.R_slice hRv
       subst ev
       have hx_0 : wr.cell? ⟨g, x.toNat, none⟩ = some (.slice Av row.length cv) := by
        have h := hcc 0 _ rfl
        change wr.cell? ⟨g, x.toNat * 1 + 0, none⟩ = _ at h
        rwa [Nat.mul_one, Nat.add_zero] at h
       have HRV := Aside0.mk hRv
       have HH := Aside0.mk hH
       have HOKI := Aside0.mk hoki
       have HI0 := Aside0.mk hi0
       have HLT := Aside0.mk hlt
       have HKQ := Aside0.mk hkq
       have HX0 := Aside0.mk hx0
       have HWR : Aside0 (wrap64 (x + 1) = x + 1) := ⟨by have := HN.out; unfold wrap64; omega⟩
       have HBE : Aside0 (Below wr.heap.size wr wr.drew) := ⟨(Below.refl _ wr).drew⟩
       have hx_1 : wr.drew.cell? ⟨g, x.toNat, none⟩ = some (.slice Av row.length cv) := hx_0
       have HGF : Aside0 (g < wr.heap.size ∧ ∃ cells, wr.heap[g]? = some (.cells cells 53 (0, 0))) := ⟨Kd.S_lt HS.out g rfl, Kd.S_typed HS.out g rfl⟩
       have HLEN : Aside0 ((row.length + 1) * 32 ≤ 140737488355328) := ⟨by have := HRL.out; omega⟩
       have HKL : Aside0 (lo ≤ wr.heap.size) := ⟨Nat.le_trans HLO.out HK.out.low.size⟩
       clear hrw hkq hi0 hx1 hcl hcc hcf hgd hRv hH hoki
       go_wp2_with fail
       go_region_law (first
        | (go_simp; (with_reducible refine (r1_Int.calls (-1) _ _ _ wr.drew rfl).mono ?_); rintro e w6 ⟨rfl, hb6⟩; have HB6 := Aside0.mk (HBE.out.trans (hb6.mono HBE.out.size)); have hx_6 := (cB_ HB6.out hx_0); have hx_7 := cB_ ((Below.refl _ w6).alloc (Nat.le_refl _) (.cells #[.int .u8 1, .int .i64 (-1), .string ⟨#[]⟩] 36)) hx_6; have HR6 := Aside0.mk (Kd.R_mono (Kd.R_below HRV.out HB6.out) (ok' := fun k => oki k ∨ w6.heap.size ≤ k) (fun k hk => .inl hk)); clear hb6)
        | (refine Kd.R_append_step kV (w0 := w6) lo (by simp [Region.wanted]) (.tmp 42) (.tmp 44) 53 36 (.agg #[(.int .u8 0), (.int .i64 0), (.string ⟨#[]⟩)]) 32 rfl Tryz.underlying53 infoV rfl (by decide) (by decide) _ row (⟨1, -1, ⟨#[]⟩⟩ : V) [.int .u8 1, .int .i64 (-1), .string ⟨#[]⟩] (fun k => oki k ∨ w6.heap.size ≤ k) (fun _ => False) rfl rfl (k36_mkM _ _ _ (⟨1, -1, ⟨#[]⟩⟩ : V)) (fun _ h => h.elim) (fun _ h => .inr h) HR6.out (Below.refl _ _) (Nat.le_trans HKL.out HB6.out.size) HLEN.out ?_; intro v7 w7 hR7 hb7 hg7 hat7; obtain ⟨A7, c7, e7⟩ := Kd.R_slice hR7; subst e7; have hg67 : wr.grownBy w7 (Value.slice Av row.length cv).ownBlock := grown_below HB6.out hg7; have hgn : ∀ k, (Value.slice Av row.length cv).ownBlock = some k → k ≠ g := (fun k hk => (HOKI.out k (HRV.out.1 k hk)).2); have hx_8 : w7.cell? ⟨g, x.toNat, none⟩ = some (.slice Av row.length cv) := grown_cell hg67 HGF.out.1 hgn hx_0; have hx_9 : w7.frozen? ⟨g, x.toNat, none⟩ = false := grown_frozen hg67 HGF.out.1 hgn HGF.out.2; have HR7 := Aside0.mk hR7; have HG7 := Aside0.mk hg67; have HAT := Aside0.mk hat7; clear hR7 hb7 hg7 hat7 hg67 hgn))
       all_goals
        have h1 := Kd.H_grown (Kd.H_widen HH.out) HG7.out (fun k hk => .inl (HRV.out.1 k hk))
        obtain ⟨h2, g2⟩ := Kd.H_seg (j := 0) (seg := [Value.slice A7 (row ++ [(⟨1, -1, ⟨#[]⟩⟩ : V)]).length c7]) h1 HX0.out HLT.out (Nat.le_refl 1) (by intro q hq; rw [List.mem_singleton] at hq; subst hq; rfl)
        have e3 : w7.setCells g (x.toNat * kRow.sz + 0) [Value.slice A7 (row ++ [(⟨1, -1, ⟨#[]⟩⟩ : V)]).length c7] = w7.setCell ⟨g, x.toNat, none⟩ (Value.slice A7 (row ++ [(⟨1, -1, ⟨#[]⟩⟩ : V)]).length c7) := by
         change w7.setCells g (x.toNat * 1 + 0) _ = _
         rw [Nat.mul_one, Nat.add_zero]
         rfl
        have hs6 : w.heap.size ≤ w6.heap.size ∧ g < w6.heap.size := ⟨Nat.le_trans HK.out.low.size HB6.out.size, Nat.lt_of_lt_of_le HGF.out.1 HB6.out.size⟩
        have h3 := Kd.R_far (p := ⟨g, x.toNat, none⟩) HR7.out (fun k hk e => by
         have e : k = g := e
         subst e
         rcases hk with hk | hk
         · exact (HOKI.out _ hk).2 rfl
         · omega) (Value.slice A7 (row ++ [(⟨1, -1, ⟨#[]⟩⟩ : V)]).length c7)
        have hgok := (Kd.S_R HS.out).1 g rfl
        have hgb := Kd.S_base HS.out g rfl
        have h4 := (HK.out.grown HKL.out HG7.out (fun k hk => ⟨Kd.R_base HRV.out k hk, (HOKI.out k (HRV.out.1 k hk)).1⟩)).grown (Nat.le_trans HKL.out HG7.out.size) g2 (fun k hk => by injection hk with hk; subst hk; exact ⟨hgb, hgok⟩)
        rw [e3] at h2 h4
        have h5 := Kd.H_back h2 (okp := fun k => oki k ∨ w6.heap.size ≤ k) ⟨_, rfl, h3⟩ (fun k hk => by
         rcases hk with hk | hk
         · exact .inl hk
         · exact .inr ⟨.inr (Nat.le_trans hs6.1 hk), Nat.le_trans HB6.out.size hk⟩)
        have ell : (row ++ [(⟨1, -1, ⟨#[]⟩⟩ : V)]).length = row.length + 1 := by simp
        rw [ell] at h4 h5
        have H5 := Aside0.mk h5
        have H4 := Aside0.mk h4
        clear h1 h2 g2 e3 hs6 h3 hgok hgb h4 h5 ell hx_0 hx_1 hx_6 hx_7 hx_8 hx_9
        have HF5 : Aside0 (∀ i : Nat, (cur2.set x.toNat (row ++ [⟨1, -1, ⟨#[]⟩⟩]))[i]? = if (i : Int) < x + 1 then (cur[i]?).map (fun r => r ++ [⟨1, -1, ⟨#[]⟩⟩]) else cur[i]?) := ⟨fun i => by
         have h0 := HX0.out
         rw [List.getElem?_set]
         by_cases hi : x.toNat = i
         · subst hi
           rw [if_pos rfl, if_pos HI0.out, if_pos (by omega), HRW.out.2]
           rfl
         · rw [if_neg hi, HCUR.out]
           by_cases h1 : (i : Int) < x
           · rw [if_pos h1, if_pos (by omega)]
           · rw [if_neg h1, if_neg (by omega)]⟩
        go_wp2
        have hlt := HLT.out
        have hk := HKQ.out
        have hx0 := HX0.out
        cases gk with
        | zero => omega
        | succ k1 =>
         go_roundg k1
         case measure => omega
         case rel => exact ⟨x + 1, by rw [HWR.out], ⟨by omega⟩, ⟨_, H5.out, HF5.out⟩, H4⟩
     · have d1 : decide (x < (l0.length : Int)) = false := decide_eq_false hlt
       have HOUT : Aside0 (∀ i : Nat, cur2[i]? = (l0[i]?).map (fun r => mkRow (i : Nat) r.length r ++ [⟨1, -1, ⟨#[]⟩⟩])) := ⟨fun i => by
        rw [HCUR.out, HCUR2.out]
        by_cases h : (i : Int) < x
        · rw [if_pos h, Option.map_map]; rfl
        · rw [if_neg h, List.getElem?_eq_none (by omega)]
          rfl⟩
       clear HX HCUR HCUR2 hx0 hx1 hkq hlt
       go_wp2
       go_end0
       exact ⟨rfl, ⟨cur2, HS.out, HOUT.out⟩, HK.out⟩
theorem same_mk (i j : Int) : r1_Same.f (mkV i j).f0 (mkV i j).f1 (mkV i j).f2 1 (wrap64 (wrap64 (1000 * i) + j)) ⟨#[]⟩ = some true := by
 classical
 have h := sameV_eq (mkV i j) (mkV i j)
 rw [decide_eq_true rfl] at h
 exact h
theorem marked_l1 (out : List (List V)) (i : Nat) (hi : i < out.length) (hn : out.length ≤ 1099511627776) (hr : out[i].length ≤ 1099511627777) (hm : ∀ j (h : j < out[i].length), j + 1 < out[i].length → out[i][j] = mkV (i : Nat) (j : Nat)) (hx : Ev (fun k => w6_marked.l0 k out ((i + 1 : Nat) : Int)) true) : ∀ (d j : Nat), j + 1 + d = out[i].length → Ev (fun k => w6_marked.l1 k out (i : Int) (j : Int)) true := by
 intro d
 induction d with
 | zero =>
  intro j hj
  refine Ev.step (f := fun k => w6_marked.l0 k out ((i + 1 : Nat) : Int)) (fun k => ?_) hx
  simp only [w6_marked.l1]
  rw [if_pos (by omega), if_pos (by omega), rdL_at hi, w64 _ (by omega) (by omega), if_neg (by omega), w64 _ (by omega) (by omega)]
  rfl
 | succ d ih =>
  intro j hj
  refine Ev.step (f := fun k => w6_marked.l1 k out (i : Int) ((j + 1 : Nat) : Int)) (fun k => ?_) (ih (j + 1) (by omega))
  have hjl : j < out[i].length := by omega
  simp only [w6_marked.l1]
  rw [if_pos (by omega), if_pos (by omega), rdL_at hi, w64 (j : Int) (by omega) (by omega), if_pos (by omega), if_pos (by omega), if_pos (by omega), rdV_at hjl, hm j hjl (by omega)]
  show ((some (1, wrap64 (wrap64 (1000 * (i : Int)) + (j : Int)), (⟨#[]⟩ : ByteArray))).bind fun bt => (r1_Same.f (mkV (i : Nat) (j : Nat)).f0 (mkV (i : Nat) (j : Nat)).f1 (mkV (i : Nat) (j : Nat)).f2 bt.1 bt.2.1 bt.2.2).bind _) = _
  rw [Option.bind_some, same_mk, Option.bind_some, if_pos rfl]
  rfl
theorem marked_l0 (out : List (List V)) (hn : out.length ≤ 1099511627776) (hr : ∀ r ∈ out, 0 < r.length ∧ r.length ≤ 1099511627777) (hm : ∀ i (hi : i < out.length) j (h : j < out[i].length), j + 1 < out[i].length → out[i][j] = mkV (i : Nat) (j : Nat)) : ∀ (d i : Nat), i + d = out.length → Ev (fun k => w6_marked.l0 k out (i : Int)) true := by
 intro d
 induction d with
 | zero =>
  intro i hi
  refine Ev.step (f := fun _ => some true) (fun k => ?_) (Ev.now _)
  simp only [w6_marked.l0]
  rw [if_neg (by omega)]
 | succ d ih =>
  intro i hi
  have h1 : i < out.length := by omega
  have h2 := hr _ (List.getElem_mem h1)
  refine Ev.step (f := fun k => w6_marked.l1 k out (i : Int) ((0 : Nat) : Int)) (fun k => ?_) (marked_l1 out i h1 hn h2.2 (hm i h1) (ih (i + 1) (by omega)) (out[i].length - 1) 0 (by omega))
  simp only [w6_marked.l0]
  rw [if_pos (by omega)]
  rfl
theorem marked_ev (out : List (List V)) (hn : out.length ≤ 1099511627776) (hr : ∀ r ∈ out, 0 < r.length ∧ r.length ≤ 1099511627777) (hm : ∀ i (hi : i < out.length) j (h : j < out[i].length), j + 1 < out[i].length → out[i][j] = mkV (i : Nat) (j : Nat)) : Ev (fun k => w6_marked.f k out) true :=
 marked_l0 out hn hr hm out.length 0 (by omega)
theorem marked_mark (l out : List (List V)) (hn : l.length ≤ 1099511627776) (hr : ∀ r ∈ l, r.length ≤ 1099511627776) (ho : ∀ i : Nat, out[i]? = (l[i]?).map (fun r => mkRow (i : Nat) r.length r ++ [⟨1, -1, ⟨#[]⟩⟩])) : out.length = l.length ∧ Ev (fun k => w6_marked.f k out) true := by
 have hl : out.length = l.length := by
  rcases Nat.lt_trichotomy out.length l.length with h | h | h
  · have h1 := ho out.length
    rw [List.getElem?_eq_none (Nat.le_refl _), List.getElem?_eq_getElem h] at h1
    cases h1
  · exact h
  · have h1 := ho l.length
    rw [List.getElem?_eq_none (l := l) (Nat.le_refl _), List.getElem?_eq_getElem h] at h1
    cases h1
 have key : ∀ i (hi : i < out.length), ∃ r, r ∈ l ∧ out[i] = mkRow (i : Nat) r.length r ++ [⟨1, -1, ⟨#[]⟩⟩] := fun i hi => by
  have h1 := ho i
  rw [List.getElem?_eq_getElem hi, List.getElem?_eq_getElem (by omega)] at h1
  exact ⟨_, List.getElem_mem _, Option.some.inj h1⟩
 refine ⟨hl, marked_ev out (by omega) (fun r hrm => ?_) (fun i hi j hj hj1 => ?_)⟩
 · obtain ⟨i, hi, rfl⟩ := List.getElem_of_mem hrm
   obtain ⟨r, h1, h2⟩ := key i hi
   have := hr r h1
   rw [h2, List.length_append, mkRow_len _ _ _ (Nat.le_refl _)]
   simp
   omega
 · obtain ⟨r, h1, h2⟩ := key i hi
   have hlen : out[i].length = r.length + 1 := by rw [h2, List.length_append, mkRow_len _ _ _ (Nat.le_refl _)]; rfl
   have hjr : j < r.length := by omega
   have h3 : out[i][j]? = some (mkV (i : Nat) (j : Nat)) := by
    rw [h2, List.getElem?_append_left (by rw [mkRow_len _ _ _ (Nat.le_refl _)]; exact hjr)]
    unfold mkRow
    rw [List.getElem?_append_left (by simpa using hjr), List.getElem?_map, List.getElem?_range hjr]
    rfl
   rw [List.getElem?_eq_getElem hj] at h3
   exact Option.some.inj h3
theorem cnt_append (a b : List ByteArray) (s : ByteArray) : cnt (a ++ b) s = cnt a s + cnt b s := by
 unfold cnt; rw [List.countP_append]; omega
theorem cnt_cons (t : ByteArray) (l : List ByteArray) (s : ByteArray) : cnt (t :: l) s = cnt l s + (if t = s then 1 else 0) := by
 unfold cnt
 rw [List.countP_cons]
 by_cases h : t = s <;> simp [h]
theorem cnt_mem {a : List ByteArray} {t : ByteArray} (h : 1 ≤ cnt a t) : t ∈ a := by
 induction a with
 | nil => simp [cnt_nil] at h
 | cons u r ih =>
  rw [cnt_cons] at h
  by_cases e : u = t
  · subst e; exact List.mem_cons_self
  · simp [e] at h
    exact List.mem_cons_of_mem _ (ih h)
theorem cnt_sub (b : List ByteArray) : ∀ a : List ByteArray, (∀ s, cnt b s ≤ cnt a s) → b.length ≤ a.length ∧ (b.length = a.length → ∀ s, cnt a s = cnt b s) := by
 induction b with
 | nil =>
  intro a _
  refine ⟨by simp, fun h s => ?_⟩
  have : a = [] := List.eq_nil_of_length_eq_zero h.symm
  rw [this]
 | cons t b ih =>
  intro a h
  have h1 : 1 ≤ cnt a t := by
   have h2 := h t
   rw [cnt_cons] at h2
   have := cnt_nonneg b t
   simp at h2
   omega
  obtain ⟨p, q, rfl⟩ := List.append_of_mem (cnt_mem h1)
  have key : ∀ s, cnt (p ++ t :: q) s = cnt (p ++ q) s + (if t = s then 1 else 0) := fun s => by
   rw [cnt_append, cnt_append, cnt_cons]; omega
  obtain ⟨i1, i2⟩ := ih (p ++ q) (fun s => by
   have h2 := h s
   rw [key, cnt_cons] at h2
   omega)
  refine ⟨by simp at i1 ⊢; omega, fun hl s => ?_⟩
  rw [key, cnt_cons, i2 (by simp at hl ⊢; omega) s]
open Classical in
noncomputable def sameB (l0 l1 : List (List V)) : Bool := decide (l0.length = l1.length ∧ ∀ s, cnt (l0.map nameOf) s = cnt (l1.map nameOf) s)
open Classical in
theorem sameB_true {l0 l1 : List (List V)} (h : l0.length = l1.length ∧ ∀ s, cnt (l0.map nameOf) s = cnt (l1.map nameOf) s) : sameB l0 l1 = true := by
 exact decide_eq_true h
open Classical in
theorem sameB_false {l0 l1 : List (List V)} (h : ¬ (l0.length = l1.length ∧ ∀ s, cnt (l0.map nameOf) s = cnt (l1.map nameOf) s)) : sameB l0 l1 = false := by
 exact decide_eq_false h
open Classical in
noncomputable def bag_Same.f (l0 l1 : List (List V)) : Option Bool := if RowsOk l0 ∧ RowsOk l1 then some (sameB l0 l1) else none
theorem same_calls (A0 : Option Addr) (c0 : Nat) (l0 : List (List V)) (A1 : Option Addr) (c1 : Nat) (l1 : List (List V)) (w : World) (hr0 : Kd.C kRow w A0 l0.length l0) (hc0 : l0.length ≤ c0) (hr1 : Kd.C kRow w A1 l1.length l1) (hc1 : l1.length ≤ c1) (hT : LaidT w) (hok0 : RowsOk l0) (hok1 : RowsOk l1) :
 Calls Tryz.prog 15 #[.slice A0 l0.length c0, .slice A1 l1.length c1] w fun e w' => e = .returned (.bool (sameB l0 l1)) ∧ Below w.heap.size w w' := by
 have HT := Aside0.mk hT
 have HR0 := Aside0.mk hr0
 have HR1 := Aside0.mk hr1
 have HC0 := Aside0.mk hc0
 have HOK0 := Aside0.mk hok0
 have HOK := Aside0.mk hok1
 clear hT hr0 hc0 hok0 hok1 hr1 hc1
 by_cases hlen : l0.length = l1.length
 · have hne : ((l0.length : Int) != (l1.length : Int)) = false := by simp [hlen]
   have HLEN := Aside0.mk hlen
   clear hlen
   go_enter Tryz.func15, Tryz.ntmps15
   go_wp2_with fail
   refine (tally_calls _ _ l0 w HT.out HR0.out HC0.out HOK0.out).mono ?_
   rintro e w1 ⟨b, rfl, hb0, hcm, hbel⟩
   have HB0 := Aside0.mk hb0
   have M0 : Aside0 (CMap w1 b (fun s => cnt (l0.map nameOf) s - cnt ((l1.take (0 : Int).toNat).map nameOf) s)) := ⟨by simpa [cnt_nil] using hcm⟩
   have B0 := Aside0.mk hbel
   clear hb0 hcm hbel
   go_wp2
   go_loopg [18] l1.length (fun kq v18 W => ∃ x : Int, v18 = .int .i64 x ∧ Aside0 (0 ≤ x ∧ x ≤ l1.length ∧ (kq : Int) = l1.length - x) ∧ Aside0 (CMap W b (fun s => cnt (l0.map nameOf) s - cnt ((l1.take x.toNat).map nameOf) s)) ∧ Aside0 (∀ s, cnt ((l1.take x.toNat).map nameOf) s ≤ cnt (l0.map nameOf) s) ∧ Aside0 (Below w.heap.size w W))
   case atStart => exact ⟨0, rfl, ⟨by omega⟩, M0, ⟨fun s => by simp [cnt_nil, cnt_nonneg]⟩, B0⟩
   case round =>
    clear M0 B0
    obtain ⟨x, rfl, HX, HM, HLE, HB⟩ := hrel
    obtain ⟨hx0, hx1, hkq⟩ := HX.out
    by_cases hlt : x < (l1.length : Int)
    · have c1 : decide (x < (l1.length : Int)) = true := decide_eq_true hlt
      have c2 : decide (0 ≤ x) = true := decide_eq_true hx0
      obtain ⟨ad, A2, c1', e, hx_0, hl_0, hi_0⟩ := at_L4 HR1.out x hx0 hlt
      cases e
      replace hx_0 := (HB.out.cell (World.block_lt_of_cell? w _ hx_0)).trans hx_0
      have hi : x.toNat < l1.length := by omega
      have hrd : rd_L4 l1 x = l1[x.toNat] := by simp [rd_L4, List.getElem?_eq_getElem hi]
      have hok := HOK.out.1 (rd_L4 l1 x) (by rw [hrd]; exact List.getElem_mem hi)
      have hst : (l1.take (x + 1).toNat).map nameOf = (l1.take x.toNat).map nameOf ++ [nameOf (rd_L4 l1 x)] := by
       rw [show (x + 1).toNat = x.toNat + 1 by omega, take_snoc _ _ hi, List.map_append, hrd]; rfl
      have hall : l1.map nameOf = (l1.take (x + 1).toNat).map nameOf ++ (l1.drop (x + 1).toNat).map nameOf := by rw [← List.map_append, List.take_append_drop]
      obtain ⟨r, hr⟩ : ∃ r, r = rd_L4 l1 x := ⟨_, rfl⟩
      rw [← hr] at hx_0 hl_0 hi_0 hok hst
      have HI0 := Aside0.mk hi_0
      have HL0 := Aside0.mk hl_0
      have HOK1 := Aside0.mk hok
      have HST := Aside0.mk hst
      have HALL := Aside0.mk hall
      have HLT := Aside0.mk hlt
      have HWR : Aside0 (wrap64 (x + 1) = x + 1) := ⟨by have := HOK.out.2; unfold wrap64; omega⟩
      clear hi_0 hl_0 hok hst hrd hr hkq hi hall
      go_wp2_with fail
      refine (name_calls _ _ r wr (HT.out.below HB.out) (Kd.C_below HI0.out HB.out) HL0.out HOK1.out.1 HOK1.out.2.1 HOK1.out.2.2).mono ?_
      rintro e w1 ⟨rfl, hb1⟩
      have HM1 := Aside0.mk (HM.out.below hb1)
      have HB1 := Aside0.mk (HB.out.trans (hb1.mono HB.out.size))
      clear hb1
      obtain ⟨kv, hkv⟩ := HM1.out
      have HKV := Aside0.mk hkv
      obtain ⟨c, hcc⟩ : ∃ c, c = cnt (l0.map nameOf) (nameOf r) - cnt ((l1.take x.toNat).map nameOf) (nameOf r) := ⟨_, rfl⟩
      have hc : Aside0 ((KV.get kv (nameOf r)).getD 0 = c) := ⟨by rw [hcc]; exact hkv.2 _⟩
      have hc0 : 0 ≤ c := by have := HLE.out (nameOf r); omega
      have hc1 : c ≤ 1099511627776 := by
       have h1 := cnt_le (l0.map nameOf) (nameOf r)
       have h2 := HOK0.out.2
       have h3 := cnt_nonneg ((l1.take x.toNat).map nameOf) (nameOf r)
       rw [List.length_map] at h1
       omega
      have HCC := Aside0.mk hcc
      clear hcc hkv HM1 HM
      by_cases hz : c = 0
      · have hzb : (c == 0) = true := by simp [hz]
        have HZ := Aside0.mk hz
        clear hz
        go_wp2_with (at_lookup; refine KV.law_lookup _ rfl _ _ 66 rfl 9 3 Tryz.underlying9 Tryz.underlying66 (.int .i64 0) (zeroInt _) b (Value.int .i64) kv rfl HKV.out.1 (nameOf r) rfl (.int .i64 c) (get_int hc.out) ?_)
        go_ret
        refine ⟨?_, HB1.out⟩
        have : sameB l0 l1 = false := by
         apply sameB_false
         rintro ⟨_, h⟩
         have h1 := h (nameOf r)
         rw [HALL.out, HST.out, cnt_append, cnt_snoc] at h1
         have h2 := cnt_nonneg ((l1.drop (x + 1).toNat).map nameOf) (nameOf r)
         have h3 := HCC.out
         have h4 := HZ.out
         rw [if_pos rfl] at h1
         omega
        rw [this]
        rfl
      · have hzb : (c == 0) = false := by simp [hz]
        have HZ := Aside0.mk hz
        clear hz
        go_wp2_with (first
         | (at_lookup; refine KV.law_lookup _ rfl _ _ 66 rfl 9 3 Tryz.underlying9 Tryz.underlying66 (.int .i64 0) (zeroInt _) b (Value.int .i64) kv rfl HKV.out.1 (nameOf r) rfl (.int .i64 c) (get_int hc.out) ?_)
         | (at_mapUpdate; refine KV.law_update _ rfl _ _ _ 66 rfl 9 3 Tryz.underlying9 Tryz.underlying66 b (Value.int .i64) kv rfl HKV.out.1 (nameOf r) rfl (c - 1) rfl ?_; intro w2 hM2 hg2; have HM2 := Aside0.mk hM2; have HG2 := Aside0.mk hg2; clear hM2 hg2))
        have hlt := HLT.out
        have hk := HX.out.2.2
        have hz := HZ.out
        cases gk with
        | zero => omega
        | succ k1 =>
         go_roundg k1
         case measure => omega
         case rel =>
          refine ⟨x + 1, by rw [HWR.out], ⟨by omega⟩, ⟨?_⟩, ⟨fun s => ?_⟩, ⟨HB1.out.grown HG2.out HB1.out.size (fun k hk => by cases hk; exact HB0.out)⟩⟩
          · have h3 := CMap.put HKV.out.2 HM2.out
            have h4 : (fun t => if t = nameOf r then c - 1 else cnt (l0.map nameOf) t - cnt ((l1.take x.toNat).map nameOf) t) = fun s => cnt (l0.map nameOf) s - cnt ((l1.take (x + 1).toNat).map nameOf) s := by
             funext t
             rw [HST.out, cnt_snoc, HCC.out]
             by_cases h : t = nameOf r
             · subst h; simp; omega
             · have : ¬ nameOf r = t := fun e => h e.symm
               simp [h, this]
            rw [h4] at h3
            exact h3
          · rw [HST.out, cnt_snoc]
            have h1 := HLE.out s
            by_cases h : nameOf r = s
            · subst h
              have := HCC.out
              rw [if_pos rfl]; omega
            · rw [if_neg h]; omega
    · have c1 : decide (x < (l1.length : Int)) = false := decide_eq_false hlt
      go_wp2
      go_ret
      refine ⟨?_, HB.out⟩
      have ht : l1.take x.toNat = l1 := List.take_of_length_le (by omega)
      have hle := HLE.out
      rw [ht] at hle
      have : sameB l0 l1 = true := by
       exact sameB_true ⟨HLEN.out, (cnt_sub _ _ hle).2 (by simp [HLEN.out])⟩
      rw [this]
      rfl
 · have hne : ((l0.length : Int) != (l1.length : Int)) = true := by simp; omega
   have HLEN := Aside0.mk hlen
   clear hlen
   go_enter Tryz.func15, Tryz.ntmps15
   go_wp2
   go_ret
   refine ⟨?_, Below.refl _ _⟩
   have : sameB l0 l1 = false := by
    apply sameB_false
    rintro ⟨h, _⟩
    exact HLEN.out h
   rw [this]
   rfl
theorem bag_Same.calls (A0 : Option Addr) (c0 : Nat) (l0 : List (List V)) (A1 : Option Addr) (c1 : Nat) (l1 : List (List V)) (r : Bool) (w : World) (hr0 : Kd.C kRow w A0 l0.length l0) (hc0 : l0.length ≤ c0) (hr1 : Kd.C kRow w A1 l1.length l1) (hc1 : l1.length ≤ c1) (hT : LaidT w) (h : bag_Same.f l0 l1 = some r) :
 Calls Tryz.prog 15 #[.slice A0 l0.length c0, .slice A1 l1.length c1] w fun e w' => e = .returned (.bool r) ∧ Below w.heap.size w w' := by
 unfold bag_Same.f at h
 split at h
 · rename_i hk
   injection h with h
   subst h
   exact same_calls _ _ l0 _ _ l1 w hr0 hc0 hr1 hc1 hT hk.1 hk.2
 · cases h
end Go.Proofs.YtecgkcgfeghhgaaGreatDoor.PAll
set_option linter.unusedVariables false
set_option linter.unusedSimpArgs false
namespace Go.Proofs.YtecgkcgfeghhgaaGreatDoor.PAll
open Go.RowKit Go.Proofs.YtecgkcgfeghhgaaGreatDoorW.PrintWords Go.Proofs.YtecgkcgfeghhgaaGreatDoorW.PrintLast Go.Proofs.YtecgkcgfeghhgaaGreatDoorW.PrintMore
attribute [local go_sem] max2_int min2_int max_two min_two
def fitsB (l : List (List V)) (ks : List KeyT) : Bool := validB l && keysB l ks
theorem fits_good {l : List (List V)} {ks : List KeyT} (hv : RowsV l) (h : fitsB l ks = true) : ∀ row ∈ l, RowGood ks row := by
 unfold fitsB at h
 rw [Bool.and_eq_true] at h
 obtain ⟨h1, h2⟩ := h
 intro row hrow
 refine ⟨validB_valid h1 row hrow, fun k hk => ?_, (hv.1 row hrow).2⟩
 have hk2 : hasB l k.f0 = true := List.all_eq_true.1 h2 k hk
 cases l with
 | nil => cases hrow
 | cons r rs =>
  have hl := validB_len h1 row hrow
  have := of_decide_eq_true hk2
  omega
def cutR (l : List (List V)) (a n : Int) : List (List V) := (l.drop a.toNat).take n.toNat
theorem cutR_eq (l : List (List V)) (a n f g : Int) (h0 : 0 ≤ a) (h1 : 0 ≤ n) (hf : (if (l.length : Int) < a then (l.length : Int) else a) = f) (hg : (if (l.length : Int) - f < n then (l.length : Int) - f else n) = g) : (l.take (f + g).toNat).drop f.toNat = cutR l a n := by
 unfold cutR
 rw [List.drop_take]
 by_cases c : (l.length : Int) < a
 · rw [if_pos c] at hf
   subst hf
   rw [List.drop_eq_nil_of_le (by omega), List.drop_eq_nil_of_le (by omega)]
   simp
 · rw [if_neg c] at hf
   subst hf
   by_cases c2 : (l.length : Int) - a < n
   · rw [if_pos c2] at hg
     rw [List.take_of_length_le (by rw [List.length_drop]; omega), List.take_of_length_le (by rw [List.length_drop]; omega)]
   · rw [if_neg c2] at hg
     subst hg
     congr 1
     omega
open Classical in
noncomputable def bag_Cut.f (l0 : List (List V)) (l1 : List KeyT) (a2 a3 : Int) : Option (List (List V) × Int) := if RowsV l0 ∧ l1.length ≤ 1099511627776 ∧ a2 ≤ 9223372036854775807 ∧ a3 ≤ 9223372036854775807 then some (if fitsB l0 l1 = true ∧ 0 ≤ a2 ∧ 0 ≤ a3 then (cutR (sortR l1 l0) a2 a3, 0) else ([], 1)) else none
theorem bag_Cut.callsS (A0 : Option Addr) (c0 : Nat) (l0 : List (List V)) (A1 : Option Addr) (c1 : Nat) (l1 : List KeyT) (a2 a3 : Int) (r1 : List (List V)) (r2 : Int) (w : World) (hr0 : Kd.C kRow w A0 l0.length l0) (hc0 : l0.length ≤ c0) (hr1 : Kd.C kKey w A1 l1.length l1) (hc1 : l1.length ≤ c1) (h : bag_Cut.f l0 l1 a2 a3 = some (r1, r2)) :
 Calls Tryz.prog 18 #[.slice A0 l0.length c0, .slice A1 l1.length c1, .int .i64 a2, .int .i64 a3] w fun e w' => ∃ v0_ : Value, e = .returned (.tuple #[v0_, .int .i64 r2]) ∧ Kd.S kRow 53 w' w.heap.size (fun _ => True) v0_ r1 ∧ Below w.heap.size w w' := by
 unfold bag_Cut.f at h
 split at h
 case isFalse => cases h
 rename_i hv
 obtain ⟨hv, hk, h2, h3⟩ := hv
 have H := Aside0.mk (Option.some.inj h)
 have HV := Aside0.mk hv
 have HKN := Aside0.mk hk
 have H2 := Aside0.mk h2
 have H3 := Aside0.mk h3
 have HF := Aside0.mk (fits_calls A0 c0 l0 A1 c1 l1 w hr0 hc0 hr1 hc1 hv hk)
 have HR0 := Aside0.mk hr0
 have HR1 := Aside0.mk hr1
 clear h hv hk h2 h3 hr0 hr1 hc0 hc1
 change Aside0 (Calls _ _ _ _ fun e w' => e = .returned (.bool (fitsB l0 l1)) ∧ Below w.heap.size w w') at HF
 have bad : ∀ (P : Prop) [Decidable P], ¬ P → Aside0 ((if P then (cutR (sortR l1 l0) a2 a3, 0) else ([], 1)) = (r1, r2)) → r1 = [] ∧ r2 = 1 := fun P _ hP hh => by
  have := hh.out
  rw [if_neg hP] at this
  obtain ⟨e1, e2⟩ := Prod.mk.inj this
  exact ⟨e1.symm, e2.symm⟩
 cases hq : fitsB l0 l1 with
 | false =>
  have HN := Aside0.mk (bad _ (by rw [hq]; simp) H)
  rw [hq] at HF
  clear hq bad H
  go_enter Tryz.func18, Tryz.ntmps18
  go_wp2_with fail
  refine HF.out.mono ?_
  rintro e w1 ⟨rfl, hb1⟩
  have HB := Aside0.mk hb1
  clear hb1
  go_wp2
  go_ret2
  refine ⟨.slice none 0 0, by rw [HN.out.2]; rfl, ?_, HB.out⟩
  rw [HN.out.1]
  exact Kd.S_nil _ _ _ _ _
 | true =>
  rw [hq] at HF
  by_cases hn2 : a2 < 0
  · have HN := Aside0.mk (bad _ (by omega) H)
    have d2 : decide (a2 < 0) = true := decide_eq_true hn2
    clear hq bad H hn2
    go_enter Tryz.func18, Tryz.ntmps18
    go_wp2_with fail
    refine HF.out.mono ?_
    rintro e w1 ⟨rfl, hb1⟩
    have HB := Aside0.mk hb1
    clear hb1
    go_wp2
    go_ret2
    refine ⟨.slice none 0 0, by rw [HN.out.2]; rfl, ?_, HB.out⟩
    rw [HN.out.1]
    exact Kd.S_nil _ _ _ _ _
  · have d2 : decide (a2 < 0) = false := decide_eq_false hn2
    by_cases hn3 : a3 < 0
    · have HN := Aside0.mk (bad _ (by omega) H)
      have d3 : decide (a3 < 0) = true := decide_eq_true hn3
      clear hq bad H hn2 hn3
      go_enter Tryz.func18, Tryz.ntmps18
      go_wp2_with fail
      refine HF.out.mono ?_
      rintro e w1 ⟨rfl, hb1⟩
      have HB := Aside0.mk hb1
      clear hb1
      go_wp2
      go_ret2
      refine ⟨.slice none 0 0, by rw [HN.out.2]; rfl, ?_, HB.out⟩
      rw [HN.out.1]
      exact Kd.S_nil _ _ _ _ _
    · have d3 : decide (a3 < 0) = false := decide_eq_false hn3
      have hgood : Aside0 (r1 = cutR (sortR l1 l0) a2 a3 ∧ r2 = 0) := ⟨by
       have := H.out
       rw [if_pos ⟨hq, by omega, by omega⟩] at this
       obtain ⟨e1, e2⟩ := Prod.mk.inj this
       exact ⟨e1.symm, e2.symm⟩⟩
      have HG := Aside0.mk (fits_good HV.out hq)
      have HLR : Aside0 ((sortR l1 l0).length ≤ 1099511627776) := ⟨by rw [(sortR_perm l1 l0).length_eq]; exact HV.out.2⟩
      have HN2 := Aside0.mk hn2
      have HN3 := Aside0.mk hn3
      have HA := Aside0.mk (fun w1 (hb : Below w.heap.size w w1) => arrangedS_calls A0 c0 l0 A1 c1 l1 w1 (Kd.C_below HR0.out hb) (Kd.C_below HR1.out hb) HG.out HV.out.2 HKN.out)
      obtain ⟨rs, hrs⟩ : ∃ rs, rs = sortR l1 l0 := ⟨_, rfl⟩
      rw [← hrs] at hgood HLR
      simp only [← hrs] at HA
      obtain ⟨f, hf⟩ : ∃ f, (if (rs.length : Int) < a2 then (rs.length : Int) else a2) = f := ⟨_, rfl⟩
      obtain ⟨g, hg⟩ : ∃ g, (if (rs.length : Int) - f < a3 then (rs.length : Int) - f else a3) = g := ⟨_, rfl⟩
      have HCUT := Aside0.mk (cutR_eq rs a2 a3 f g (by omega) (by omega) hf hg)
      have hf0 : 0 ≤ f ∧ f ≤ rs.length := by rw [← hf]; split <;> omega
      have hg0 : 0 ≤ g ∧ g ≤ rs.length - f := by rw [← hg]; split <;> omega
      have HFB := Aside0.mk hf0
      have HGB := Aside0.mk hg0
      have hw1 : wrap64 ((rs.length : Int) - f) = (rs.length : Int) - f := by have := HLR.out; unfold wrap64; omega
      have hw2 : wrap64 (f + g) = f + g := by have := HLR.out; unfold wrap64; omega
      clear hq bad H hn2 hn3 hf0 hg0 hrs
      go_enter Tryz.func18, Tryz.ntmps18
      go_wp2_with fail
      refine HF.out.mono ?_
      rintro e w1 ⟨rfl, hb1⟩
      have HB := Aside0.mk hb1
      clear hb1
      go_wp2_with fail
      refine (HA.out w1 HB.out).mono ?_
      rintro e w2 ⟨v2, rfl, hR2, hb2⟩
      obtain ⟨Av, cv, ev, hlc, hC⟩ := Kd.S_reads hR2
      subst ev
      have HB2 := Aside0.mk (HB.out.trans (hb2.mono HB.out.size))
      obtain ⟨F, hF⟩ := C_relT hR2
      have HM : Aside0 ((relT F w2 w1.heap.size).kd.C w2 Av rs.zipIdx.length rs.zipIdx) := ⟨by rw [List.length_zipIdx]; exact hF⟩
      clear hF
      obtain ⟨i0, hi, hzz⟩ := Option.map_eq_some_iff.1 infoRow
      simp only [Prod.mk.injEq] at hzz
      have hcut := cut_mid (P := Tryz.prog) 22 53 .i64 .i64 Tryz.underlying22 hi 1 hzz.2.1 Av rs.length cv f (f + g) HFB.out.1 (by have := HGB.out; omega) (by have := HGB.out; omega) hlc
      have hcm := (Kd.C_mid (lo := f.toNat) (hi := (f + g).toNat) HM.out (by have := HGB.out; omega) (by rw [List.length_zipIdx]; have := HGB.out; have := HFB.out; omega) (by rw [List.length_zipIdx]; exact hlc))
      change Kd.C (relT F w2 w1.heap.size).kd w2 (if cv = f.toNat then Av else Av.map (·.add (f.toNat * 1))) _ _ at hcm
      obtain ⟨A', hA'⟩ : ∃ A', A' = (if cv = f.toNat then Av else Av.map (·.add (f.toNat * 1))) := ⟨_, rfl⟩
      obtain ⟨zs, hzs⟩ : ∃ zs, zs = (rs.zipIdx.take (f + g).toNat).drop f.toNat := ⟨_, rfl⟩
      have hlm : zs.length = (f + g).toNat - f.toNat := by
       rw [hzs, List.length_drop, List.length_take, List.length_zipIdx]
       have := HGB.out
       have := HFB.out
       omega
      rw [← hA'] at hcm hcut
      rw [← hzs, hlm] at hcm
      obtain ⟨n', hn'⟩ : ∃ n', n' = (f + g).toNat - f.toNat := ⟨_, rfl⟩
      rw [← hn'] at hcm hcut hlm
      have HCM := Aside0.mk hcm
      have HLM : Aside0 (zs.length ≤ 2199023255552) := ⟨by
       have h1 : zs.length ≤ rs.length := by rw [hzs, List.length_drop, List.length_take, List.length_zipIdx]; omega
       have := HLR.out
       omega⟩
      have HZS := Aside0.mk hzs
      have HB1S := Aside0.mk HB.out.size
      have HB2S := Aside0.mk hb2.size
      clear hR2 hb2 hC hlc hzz hi hcm hA' hlm hn' hzs
      go_wp2_with fail
      refine (cloneRows_calls _ A' n' (cv - f.toNat) zs w2 HCM.out HLM.out).mono ?_
      rintro e w3 ⟨v3, rfl, hR3, hb3⟩
      rw [HZS.out] at hR3
      have HR3 := Aside0.mk (S_relT hR3 hb3 HB2S.out (Nat.le_refl _))
      have HB3 := Aside0.mk (HB2.out.trans (hb3.mono HB2.out.size))
      clear hR3 hb3
      go_wp2
      go_ret2
      refine ⟨v3, by rw [hgood.out.2]; rfl, ?_, HB3.out⟩
      rw [hgood.out.1, ← HCUT.out]
      exact Kd.S_lower HR3.out HB1S.out
theorem bag_Cut.calls (A0 : Option Addr) (c0 : Nat) (l0 : List (List V)) (A1 : Option Addr) (c1 : Nat) (l1 : List KeyT) (a2 a3 : Int) (r1 : List (List V)) (r2 : Int) (w : World) (hr0 : Kd.C kRow w A0 l0.length l0) (hc0 : l0.length ≤ c0) (hr1 : Kd.C kKey w A1 l1.length l1) (hc1 : l1.length ≤ c1) (h : bag_Cut.f l0 l1 a2 a3 = some (r1, r2)) :
 Calls Tryz.prog 18 #[.slice A0 l0.length c0, .slice A1 l1.length c1, .int .i64 a2, .int .i64 a3] w fun e w' => ∃ v0_ : Value, e = .returned (.tuple #[v0_, .int .i64 r2]) ∧ Kd.V kRow 53 w' w.heap.size (fun k_ => (w.heap.size ≤ k_)) v0_ r1 ∧ Below w.heap.size w w' := by
 refine (bag_Cut.callsS A0 c0 l0 A1 c1 l1 a2 a3 r1 r2 w hr0 hc0 hr1 hc1 h).mono ?_
 rintro e w' ⟨v, rfl, hS, hB⟩
 exact ⟨v, rfl, S_V hS, hB⟩
end Go.Proofs.YtecgkcgfeghhgaaGreatDoor.PAll
set_option linter.unusedVariables false
set_option linter.unusedSimpArgs false
namespace Go.Proofs.YtecgkcgfeghhgaaGreatDoor.PAll
open Go.RowKit Go.Proofs.YtecgkcgfeghhgaaGreatDoorW.PrintWords Go.Proofs.YtecgkcgfeghhgaaGreatDoorW.PrintLast Go.Proofs.YtecgkcgfeghhgaaGreatDoorW.PrintMore
noncomputable def bag_Intersect.f (l0 l1 : List (List V)) : Option (List (List V) × Int) := (bag_split.f l0 l1).map fun t => (t.1, t.2.2)
theorem bag_Intersect.callsS (A0 : Option Addr) (c0 : Nat) (l0 : List (List V)) (A1 : Option Addr) (c1 : Nat) (l1 : List (List V)) (r1 : List (List V)) (r3 : Int) (w : World) (hr0 : Kd.C kRow w A0 l0.length l0) (hc0 : l0.length ≤ c0) (hr1 : Kd.C kRow w A1 l1.length l1) (hc1 : l1.length ≤ c1) (hT : LaidT w) (h : bag_Intersect.f l0 l1 = some (r1, r3)) :
 Calls Tryz.prog 35 #[.slice A0 l0.length c0, .slice A1 l1.length c1] w fun e w' => ∃ v0_ : Value, e = .returned (.tuple #[v0_, .int .i64 r3]) ∧ Kd.S kRow 53 w' w.heap.size (fun _ => True) v0_ r1 ∧ Below w.heap.size w w' := by
 unfold bag_Intersect.f at h
 obtain ⟨⟨x, y, z⟩, h1, h2⟩ := Option.map_eq_some_iff.1 h
 obtain ⟨rfl, rfl⟩ := Prod.mk.inj h2
 exact split_IntersectS A0 c0 l0 A1 c1 l1 x y z w hr0 hc0 hr1 hc1 hT h1
noncomputable def bag_Except.f (l0 l1 : List (List V)) : Option (List (List V) × Int) := (bag_split.f l0 l1).map fun t => (t.2.1, t.2.2)
theorem bag_Except.callsS (A0 : Option Addr) (c0 : Nat) (l0 : List (List V)) (A1 : Option Addr) (c1 : Nat) (l1 : List (List V)) (r1 : List (List V)) (r3 : Int) (w : World) (hr0 : Kd.C kRow w A0 l0.length l0) (hc0 : l0.length ≤ c0) (hr1 : Kd.C kRow w A1 l1.length l1) (hc1 : l1.length ≤ c1) (hT : LaidT w) (h : bag_Except.f l0 l1 = some (r1, r3)) :
 Calls Tryz.prog 37 #[.slice A0 l0.length c0, .slice A1 l1.length c1] w fun e w' => ∃ v0_ : Value, e = .returned (.tuple #[v0_, .int .i64 r3]) ∧ Kd.S kRow 53 w' w.heap.size (fun _ => True) v0_ r1 ∧ Below w.heap.size w w' := by
 unfold bag_Except.f at h
 obtain ⟨⟨x, y, z⟩, h1, h2⟩ := Option.map_eq_some_iff.1 h
 obtain ⟨rfl, rfl⟩ := Prod.mk.inj h2
 exact split_ExceptS A0 c0 l0 A1 c1 l1 x y z w hr0 hc0 hr1 hc1 hT h1
theorem RowsOk.app {a b : List (List V)} (ha : RowsOk a) (hb : RowsOk b) (h : a.length + b.length ≤ 1099511627776) : RowsOk (a ++ b) := ⟨fun r hr => (List.mem_append.1 hr).elim (ha.1 r) (hb.1 r), by rw [List.length_append]; exact h⟩
theorem RowsOk.len {a : List (List V)} (h : RowsOk a) : a.length ≤ 1099511627776 ∧ ∀ r ∈ a, r.length ≤ 1099511627776 := ⟨h.2, fun r hr => (h.1 r hr).2.2⟩
theorem RowsV.len {a : List (List V)} (h : RowsV a) : a.length ≤ 1099511627776 ∧ ∀ r ∈ a, r.length ≤ 1099511627776 := ⟨h.2, fun r hr => (h.1 r hr).2⟩
theorem inter_ok {a b : List (List V)} (h : RowsOk (a ++ b)) : bag_Intersect.f a b = some (if validB (a ++ b) = true then (sortR [] (splitR (cnt (b.map nameOf)) a).1, 0) else ([], 1)) := by
 have e : bag_split.f a b = _ := if_pos h
 unfold bag_Intersect.f
 rw [e]
 split <;> rfl
theorem except_ok {a b : List (List V)} (h : RowsOk (a ++ b)) : bag_Except.f a b = some (if validB (a ++ b) = true then (sortR [] (splitR (cnt (b.map nameOf)) a).2, 0) else ([], 1)) := by
 have e : bag_split.f a b = _ := if_pos h
 unfold bag_Except.f
 rw [e]
 split <;> rfl
theorem union_ok {a b : List (List V)} (h : RowsV (a ++ b)) : bag_Union.f a b = some (if validB (a ++ b) = true then (sortR [] (a ++ b), 0) else ([], 1)) := if_pos h
theorem met_mem {a b : List (List V)} {r : List V} (h : r ∈ (splitR (cnt (b.map nameOf)) a).1) : r ∈ a := splitR_mem a _ r (.inl h)
theorem left_mem {a b : List (List V)} {r : List V} (h : r ∈ (splitR (cnt (b.map nameOf)) a).2) : r ∈ a := splitR_mem a _ r (.inr h)
theorem distR_has : ∀ (l : List (List V)) (s : List ByteArray) (r : List V), r ∈ l → nameOf r ∉ s → r ∈ distR s l
 | [], _, _, h, _ => by cases h
 | a :: l, s, r, h, hn => by
  simp only [distR]
  by_cases hm : nameOf a ∈ s
  · rw [if_pos hm]
    rcases List.mem_cons.1 h with rfl | h
    · exact absurd hm hn
    · exact distR_has l s r h hn
  · rw [if_neg hm]
    by_cases ha : nameOf r = nameOf a
    · rw [name_inj ha]; exact List.mem_cons_self
    · rcases List.mem_cons.1 h with rfl | h
      · exact absurd rfl ha
      · exact List.mem_cons_of_mem _ (distR_has l _ r h (fun e => (List.mem_cons.1 e).elim ha hn))
theorem mem_keysR {cols : List Int} {l : List (List V)} {key : List V} : key ∈ keysR cols l ↔ (cols = [] ∧ key = []) ∨ (cols ≠ [] ∧ ∃ row ∈ l, keyOf cols row = key) := by
 unfold keysR
 by_cases h : cols = []
 · simp [h]
 · rw [if_neg h, (sortR_perm _ _).mem_iff]
   constructor
   · intro hm
     obtain ⟨row, hr, e⟩ := List.mem_map.1 (distR_mem _ _ _ hm)
     exact .inr ⟨h, row, hr, e⟩
   · rintro (⟨e, _⟩ | ⟨_, row, hr, rfl⟩)
     · exact absurd e h
     · exact distR_has _ _ _ (List.mem_map_of_mem hr) (by simp)
theorem keysR_len (cols : List Int) (l : List (List V)) : (keysR cols l).length ≤ l.length + 1 := by
 unfold keysR
 split
 · simp
 · rw [(sortR_perm _ _).length_eq]
   have := distR_len (l.map (keyOf cols)) []
   rw [List.length_map] at this
   omega
theorem key_len {cols : List Int} {l : List (List V)} {key : List V} (h : key ∈ keysR cols l) : key.length = cols.length := by
 rcases mem_keysR.1 h with ⟨rfl, rfl⟩ | ⟨_, row, _, rfl⟩
 · rfl
 · simp [keyOf]
theorem rowOf_len (ls : List (List V)) : ∀ (aggs : List AggT) (acc : List V), (rowOf ls aggs acc).1.length ≤ acc.length + aggs.length
 | [], _ => by simp [rowOf]
 | a :: aa, acc => by
  simp only [rowOf]
  split
  · have := rowOf_len ls aa (acc ++ [⟨(aggR a.f0 a.f2 (columnR ls a.f1)).1, (aggR a.f0 a.f2 (columnR ls a.f1)).2.1, (aggR a.f0 a.f2 (columnR ls a.f1)).2.2.1⟩])
    simp only [List.length_append, List.length_cons, List.length_nil] at this ⊢
    omega
  · simp
theorem rowsOf_len {cols : List Int} {l : List (List V)} {aggs : List AggT} : ∀ (ks acc : List (List V)), (rowsOf cols l aggs ks acc).1.length ≤ acc.length + ks.length
 | [], _ => by simp [rowsOf]
 | k :: ks, acc => by
  simp only [rowsOf]
  split
  · have := rowsOf_len (cols := cols) (l := l) (aggs := aggs) ks (acc ++ [(rowOf (listR cols l (nameOf k)) aggs k).1])
    simp only [List.length_append, List.length_cons, List.length_nil] at this ⊢
    omega
  · simp
theorem rowsOf_lens {cols : List Int} {l : List (List V)} {aggs : List AggT} : ∀ (ks acc : List (List V)) (n : Nat), (∀ r ∈ acc, r.length ≤ n) → (∀ k ∈ ks, k.length + aggs.length ≤ n) → ∀ r ∈ (rowsOf cols l aggs ks acc).1, r.length ≤ n
 | [], acc, n, ha, _ => by simpa [rowsOf] using ha
 | k :: ks, acc, n, ha, hk => by
  simp only [rowsOf]
  split
  · refine rowsOf_lens ks _ n (fun r hr => ?_) (fun x hx => hk x (List.mem_cons_of_mem _ hx))
    rcases List.mem_append.1 hr with hr | hr
    · exact ha r hr
    · obtain rfl : r = _ := by simpa using hr
      exact Nat.le_trans (rowOf_len _ _ _) (hk k List.mem_cons_self)
  · simp
theorem nameV_short (v : V) (h : VOk v) (hs : v.f2.size ≤ 1099511627776) : (nameV v).length ≤ v.f2.size + 66 := by
 obtain ⟨h0, h1, h2, h3⟩ := h
 have i1 := Lib.itoa_length_le v.f0 (by omega) (by omega)
 have i2 := Lib.itoa_length_le v.f1 h2 h3
 have i3 := Lib.itoa_length_le (v.f2.size : Int) (by omega) (by omega)
 have e : v.f2.data.toList.length = v.f2.size := Array.length_toList
 unfold nameV
 simp only [List.length_append, List.length_cons, List.length_nil, e]
 omega
theorem nameB_short (S : Nat) (hS : S ≤ 1048576) : ∀ r : List V, (∀ v ∈ r, VOk v ∧ v.f2.size ≤ S) → (nameB r).length ≤ r.length * (S + 66)
 | [], _ => by simp [nameB]
 | v :: r, h => by
  obtain ⟨a, b⟩ := h v List.mem_cons_self
  have h1 := nameV_short v a (by omega)
  have h2 := nameB_short S hS r (fun u hu => h u (List.mem_cons_of_mem _ hu))
  simp only [nameB, List.length_append, List.length_cons, Nat.add_mul, Nat.one_mul]
  simp only [Nat.mul_add] at h2 ⊢
  omega
theorem rowOk_short {S : Nat} {r : List V} (h : ∀ v ∈ r, VOk v ∧ v.f2.size ≤ S) (hn : r.length + S ≤ 1048586) (hS : S ≤ 1048576) : RowOk r := by
 have h1 := nameB_short S hS r h
 refine ⟨fun v hv => (h v hv).1, ?_, by omega⟩
 refine Nat.le_trans h1 ?_
 by_cases hc : r.length ≤ 524300
 · exact Nat.le_trans (Nat.mul_le_mul hc (show S + 66 ≤ 1048642 by omega)) (by decide)
 · exact Nat.le_trans (Nat.mul_le_mul (show r.length ≤ 1048586 by omega) (show S + 66 ≤ 524400 by omega)) (by decide)
theorem rd_short {S : Nat} {l : List (List V)} (h : ∀ row ∈ l, ∀ v ∈ row, VOk v ∧ v.f2.size ≤ S) (n : Int) : ∀ row ∈ l, VOk (rd_T36 row n) ∧ (rd_T36 row n).f2.size ≤ S := fun row hr => by
 by_cases hn : n.toNat < row.length
 · have e : rd_T36 row n = row[n.toNat] := by simp [rd_T36, List.getElem?_eq_getElem hn]
   rw [e]
   exact h row hr _ (List.getElem_mem hn)
 · have e : rd_T36 row n = z36 := by
    unfold rd_T36
    rw [List.getD_eq_getElem?_getD, List.getElem?_eq_none (by omega)]
    rfl
   rw [e]
   exact ⟨⟨by decide, by decide, by decide, by decide⟩, Nat.zero_le _⟩
theorem groupOk_short {l : List (List V)} {cols : List Int} {aggs : List AggT} {S : Nat} (hl : RowsOk l) (hn : l.length ≤ 1048586) (hs : ∀ row ∈ l, ∀ v ∈ row, v.f2.size ≤ S) (hc : cols.length + S ≤ 1048576) (ha : aggs.length ≤ 1048576) (hf : ∀ a ∈ aggs, 0 ≤ a.f0) : GroupOk l cols aggs := by
 have hv : ∀ row ∈ l, ∀ v ∈ row, VOk v ∧ v.f2.size ≤ S := fun row hr v hm => ⟨(hl.1 row hr).1 v hm, hs row hr v hm⟩
 refine ⟨hl, by omega, by omega, by omega, hf, fun row hr => rowOk_short (S := S) (fun v hm => ?_) ?_ (by omega), fun a _ row hr => rowOk_short (S := S) (fun v hm => ?_) ?_ (by omega)⟩
 · obtain ⟨n, _, rfl⟩ := List.mem_map.1 hm
   exact rd_short hv n row hr
 · rw [keyOf, List.length_map]; omega
 · obtain rfl : v = _ := List.mem_singleton.1 hm
   exact rd_short hv _ row hr
 · simp only [List.length_cons, List.length_nil]; omega
theorem groupG_len {l : List (List V)} {cols : List Int} {aggs : List AggT} (hn : l.length ≤ 1048586) (hc : cols.length ≤ 1048576) (ha : aggs.length ≤ 1048576) : (groupG l cols aggs).1.length ≤ 1099511627776 ∧ ∀ r ∈ (groupG l cols aggs).1, r.length ≤ 1099511627776 := by
 unfold groupG
 split
 · refine ⟨?_, rowsOf_lens _ _ _ (by simp) (fun k hk => by rw [key_len hk]; omega)⟩
   have h1 := rowsOf_len (cols := cols) (l := l) (aggs := aggs) (keysR cols l) []
   have h2 := keysR_len cols l
   simp only [List.length_nil] at h1
   omega
 · exact ⟨by simp, by simp⟩
structure MemOk (l0 : List (List V)) (l1 : List KeyT) (l2 : List Int) : Prop where
 rows : RowsOk l0
 n0 : l0.length ≤ 1048576
 keys : l1.length ≤ 1099511627776
 grp : GroupOk l0 l2 [⟨0, 0, false⟩]
 cols : l2.length ≤ 1048576
def LenOk (r : List (List V)) : Prop := r.length ≤ 1099511627776 ∧ ∀ row ∈ r, row.length ≤ 1099511627776
theorem lenOk_nil : LenOk [] := ⟨by simp, by simp⟩
theorem lenOk_sub {ks : List KeyT} {l x : List (List V)} (h : LenOk l) (hx : ∀ r ∈ x, r ∈ l) (hn : x.length ≤ 1099511627776) : LenOk (sortR ks x) :=
 ⟨by rw [(sortR_perm ks x).length_eq]; exact hn, fun row hr => h.2 row (hx row ((sortR_perm ks x).mem_iff.1 hr))⟩
theorem MemOk.twice {l0 : List (List V)} {l1 : List KeyT} {l2 : List Int} (h : MemOk l0 l1 l2) : RowsOk (l0 ++ l0) := h.rows.app h.rows (by have := h.n0; omega)
theorem mem_ite {c : Prop} [Decidable c] {x : List (List V)} (hx : LenOk x) : ∃ r q, (some (if c then (x, (0 : Int)) else ([], 1)) : Option (List (List V) × Int)) = some (r, q) ∧ LenOk r := by
 by_cases h : c
 · exact ⟨x, 0, by rw [if_pos h], hx⟩
 · exact ⟨[], 1, by rw [if_neg h], lenOk_nil⟩
theorem mem_cut {l0 : List (List V)} {l1 : List KeyT} {l2 : List Int} (h : MemOk l0 l1 l2) : ∃ r q, bag_Cut.f l0 l1 0 (l0.length : Int) = some (r, q) ∧ LenOk r := by
 have e : bag_Cut.f l0 l1 0 (l0.length : Int) = _ := if_pos ⟨h.rows.v, h.keys, by omega, by have := h.n0; omega⟩
 rw [e]
 have hs := lenOk_sub (ks := l1) h.rows.len (fun r hr => hr) h.rows.2
 refine mem_ite ⟨?_, fun row hr => hs.2 row (List.mem_of_mem_drop (List.mem_of_mem_take hr))⟩
 have := hs.1
 unfold cutR
 rw [List.length_take, List.length_drop]
 omega
theorem mem_distinct {l0 : List (List V)} {l1 : List KeyT} {l2 : List Int} (h : MemOk l0 l1 l2) : ∃ r q, bag_Distinct.f l0 = some (r, q) ∧ LenOk r := by
 have e : bag_Distinct.f l0 = some (if validB l0 = true then (sortR [] (distR [] l0), 0) else ([], 1)) := if_pos h.rows
 rw [e]
 exact mem_ite (lenOk_sub h.rows.len (fun r hr => distR_mem l0 [] r hr) (Nat.le_trans (distR_len l0 []) h.rows.2))
theorem mem_union {l0 : List (List V)} {l1 : List KeyT} {l2 : List Int} (h : MemOk l0 l1 l2) : ∃ r q, bag_Union.f l0 l0 = some (r, q) ∧ LenOk r := by
 rw [union_ok h.twice.v]
 exact mem_ite (lenOk_sub h.twice.len (fun r hr => hr) h.twice.2)
theorem mem_inter {l0 : List (List V)} {l1 : List KeyT} {l2 : List Int} (h : MemOk l0 l1 l2) : ∃ r q, bag_Intersect.f l0 l0 = some (r, q) ∧ LenOk r := by
 rw [inter_ok h.twice]
 have sl := splitR_len l0 (cnt (l0.map nameOf))
 exact mem_ite (lenOk_sub h.rows.len (fun r hr => met_mem hr) (by have := h.rows.2; omega))
theorem mem_except {l0 : List (List V)} {l1 : List KeyT} {l2 : List Int} (h : MemOk l0 l1 l2) : ∃ r q, bag_Except.f l0 [] = some (r, q) ∧ LenOk r := by
 rw [except_ok (b := []) (by rw [List.append_nil]; exact h.rows)]
 have sl := splitR_len l0 (cnt (([] : List (List V)).map nameOf))
 exact mem_ite (lenOk_sub h.rows.len (fun r hr => left_mem (b := []) hr) (by have := h.rows.2; omega))
theorem mem_group {l0 : List (List V)} {l1 : List KeyT} {l2 : List Int} (h : MemOk l0 l1 l2) : ∃ r q, bag_Group.f l0 l2 [⟨0, 0, false⟩] = some (r, q) ∧ LenOk r := by
 have e : bag_Group.f l0 l2 [⟨0, 0, false⟩] = some (groupG l0 l2 [⟨0, 0, false⟩]) := if_pos h.grp
 obtain ⟨g1, g2⟩ := groupG_len (l := l0) (cols := l2) (aggs := [⟨0, 0, false⟩]) (by have := h.n0; omega) h.cols (by simp)
 exact ⟨_, _, e, g1, g2⟩
theorem mem_sort {l0 : List (List V)} {l1 : List KeyT} {l2 : List Int} (h : MemOk l0 l1 l2) {r : List (List V)} (hr : r = [] ∨ r = sortR l1 l0) : LenOk r := by
 rcases hr with rfl | rfl
 · exact lenOk_nil
 · exact lenOk_sub h.rows.len (fun r hr => hr) h.rows.2
structure Res where
 v : Value
 l : List (List V)
 lo : Nat
 hi : Nat
structure ResOk (W : World) (r : Res) : Prop where
 s : Kd.S kRow 53 W r.lo (fun k => k < r.hi) r.v r.l
 len : LenOk r.l
theorem ResOk.below {W W1 : World} {r : Res} {B : Nat} (h : ResOk W r) (hb : Below B W W1) (hB : r.hi ≤ B) : ResOk W1 r :=
 ⟨Kd.S_step h.s (fun k hk _ => hb.block k (by omega)), h.len⟩
theorem ResOk.kept {W W1 : World} {r : Res} {lo hi : Nat} (h : ResOk W r) (hk : Kept lo hi W W1) (hl : hi ≤ r.lo) : ResOk W1 r :=
 ⟨Kd.S_mono (Kd.S_step (Kd.S_bound h.s) (fun k h1 h2 => hk.mid k (Nat.le_trans hl h1.2.1) h2)) (fun k h1 => h1.1), h.len⟩
structure Acc (N : Nat) (W : World) (rs : List Res) : Prop where
 ok : ∀ r ∈ rs, ResOk W r ∧ N ≤ r.lo ∧ r.hi ≤ W.heap.size
 pw : rs.Pairwise (fun a b => a.hi ≤ b.lo)
 le : ∀ r ∈ rs, r.lo ≤ r.hi
theorem Acc.nil (N : Nat) (W : World) : Acc N W [] := ⟨by simp, List.Pairwise.nil, by simp⟩
theorem Acc.below {N : Nat} {W W1 : World} {rs : List Res} (h : Acc N W rs) (hb : Below W.heap.size W W1) : Acc N W1 rs :=
 ⟨fun r hr => ⟨(h.ok r hr).1.below hb (h.ok r hr).2.2, (h.ok r hr).2.1, Nat.le_trans (h.ok r hr).2.2 hb.size⟩, h.pw, h.le⟩
theorem Acc.step {N : Nat} {W W1 : World} {rs : List Res} (h : Acc N W rs) (hN : N ≤ W.heap.size) {v : Value} {l : List (List V)} (hS : Kd.S kRow 53 W1 W.heap.size (fun _ => True) v l) (hl : LenOk l) (hb : Below W.heap.size W W1) : Acc N W1 (rs ++ [⟨v, l, W.heap.size, W1.heap.size⟩]) := by
 have h1 := h.below hb
 refine ⟨fun r hr => ?_, ?_, fun r hr => ?_⟩
 · rcases List.mem_append.1 hr with hr | hr
   · exact h1.ok r hr
   · rw [List.mem_singleton] at hr
     subst hr
     exact ⟨⟨Kd.S_mono (Kd.S_bound hS) (fun k hk => hk.2.2.1), hl⟩, hN, Nat.le_refl _⟩
 · refine List.pairwise_append.2 ⟨h.pw, List.pairwise_singleton _ _, fun a ha b hb => ?_⟩
   rw [List.mem_singleton] at hb
   subst hb
   exact (h.ok a ha).2.2
 · rcases List.mem_append.1 hr with hr | hr
   · exact h.le r hr
   · rw [List.mem_singleton] at hr
     subst hr
     exact hb.size
structure MemInv (N b : Nat) (wK W : World) (rs : List Res) (x : Nat) : Prop where
 low : Below N wK W
 blk : W.heap[b]? = some (.cells (rs.map (·.v)).toArray 22 (0, 0))
 ok : ∀ r ∈ rs.drop x, ResOk W r
theorem MemInv.below {N b x : Nat} {wK W W1 : World} {rs : List Res} (h : MemInv N b wK W rs x) (hN : N ≤ W.heap.size) (hh : ∀ r ∈ rs, r.hi ≤ b) (hb : Below W.heap.size W W1) : MemInv N b wK W1 rs x :=
 ⟨h.low.trans (hb.mono hN), (hb.block b (blk_lt h.blk)).trans h.blk, fun r hr => (h.ok r hr).below hb (by have := hh r (List.mem_of_mem_drop hr); have := blk_lt h.blk; omega)⟩
theorem MemInv.step {N b x : Nat} {wK W W1 : World} {rs : List Res} (h : MemInv N b wK W rs x) (hx : x < rs.length) (hN : ∀ r ∈ rs, N ≤ r.lo ∧ r.hi ≤ b) (hp : rs.Pairwise (fun a b => a.hi ≤ b.lo)) (hk : Kept rs[x].lo rs[x].hi W W1) : MemInv N b wK W1 rs (x + 1) := by
 have hm := hN _ (List.getElem_mem hx)
 refine ⟨h.low.trans (hk.low.mono hm.1), (hk.mid b hm.2 (blk_lt h.blk)).trans h.blk, fun r hr => ?_⟩
 have e := List.drop_eq_getElem_cons hx
 have hp2 := List.Pairwise.sublist (List.drop_sublist x rs) hp
 rw [e, List.pairwise_cons] at hp2
 exact (h.ok r (by rw [e]; exact List.mem_cons_of_mem _ hr)).kept hk (hp2.1 r hr)
theorem sort_callsS (A0 : Option Addr) (c0 : Nat) (l0 : List (List V)) (A1 : Option Addr) (c1 : Nat) (l1 : List KeyT) (w : World) (hr0 : Kd.C kRow w A0 l0.length l0) (hc0 : l0.length ≤ c0) (hr1 : Kd.C kKey w A1 l1.length l1) (hc1 : l1.length ≤ c1) (hv : RowsV l0) (hk : l1.length ≤ 1099511627776) :
 Calls Tryz.prog 28 #[.slice A0 l0.length c0, .slice A1 l1.length c1] w fun e w' => ∃ (v0_ : Value) (r1 : List (List V)) (r2 : Int), e = .returned (.tuple #[v0_, .int .i64 r2]) ∧ (r1 = [] ∨ r1 = sortR l1 l0) ∧ Kd.S kRow 53 w' w.heap.size (fun _ => True) v0_ r1 ∧ Below w.heap.size w w' := by
 have HV := Aside0.mk hv
 have HKN := Aside0.mk hk
 have HF := Aside0.mk (fits_calls A0 c0 l0 A1 c1 l1 w hr0 hc0 hr1 hc1 hv hk)
 have HR0 := Aside0.mk hr0
 have HR1 := Aside0.mk hr1
 clear hv hk hr0 hr1 hc0 hc1
 change Aside0 (Calls _ _ _ _ fun e w' => e = .returned (.bool (fitsB l0 l1)) ∧ Below w.heap.size w w') at HF
 cases hq : fitsB l0 l1 with
 | false =>
  rw [hq] at HF
  clear hq
  go_enter Tryz.func28, Tryz.ntmps28
  go_wp2_with fail
  refine HF.out.mono ?_
  rintro e w1 ⟨rfl, hb1⟩
  have HB := Aside0.mk hb1
  clear hb1
  go_wp2
  go_ret2
  exact ⟨.slice none 0 0, [], 1, rfl, .inl rfl, Kd.S_nil _ _ _ _ _, HB.out⟩
 | true =>
  rw [hq] at HF
  have HG := Aside0.mk (fits_good HV.out hq)
  clear hq
  go_enter Tryz.func28, Tryz.ntmps28
  go_wp2_with fail
  refine HF.out.mono ?_
  rintro e w1 ⟨rfl, hb1⟩
  have HB := Aside0.mk hb1
  clear hb1
  go_wp2_with fail
  refine (arrangedS_calls A0 c0 l0 A1 c1 l1 w1 (Kd.C_below HR0.out HB.out) (Kd.C_below HR1.out HB.out) HG.out HV.out.2 HKN.out).mono ?_
  rintro e w2 ⟨v2, rfl, hR2, hb2⟩
  have HR2 := Aside0.mk (Kd.S_lower hR2 HB.out.size)
  have HB2 := Aside0.mk (HB.out.trans (hb2.mono HB.out.size))
  clear hR2 hb2
  go_wp2
  go_ret2
  exact ⟨v2, _, 0, rfl, .inr rfl, HR2.out, HB2.out⟩
abbrev iV (n : Int) : V := ⟨1, n, ⟨#[]⟩⟩
abbrev oneA_ : List (List V) := [[iV 2], [iV 1], [iV 1]]
abbrev twoA_ : List (List V) := [[iV 1], [iV 3]]
theorem C_row1 {W : World} {b : Nat} {t : TypeId} (v : V) (h : W.heap[b]? = some (.cells #[.int .u8 v.f0, .int .i64 v.f1, .string v.f2] t (0, 0))) : Kd.C kV W (some ⟨b, 0, none⟩) [v].length [v] := by
 refine ⟨rfl, by simp, fun _ => ⟨⟨b, 0, none⟩, rfl, fun j p hj => ?_⟩⟩
 cases j with
 | succ j => simp at hj
 | zero =>
  obtain rfl : v = p := by simpa using hj
  refine ⟨[.int .u8 v.f0, .int .i64 v.f1, .string v.f2], rfl, kV.K_of_M (base := 0) (ok := fun _ => True) (k36_mkM _ _ _ v), fun i u hi => ?_⟩
  have h := blk_cell h i
  rw [add_plain, Nat.zero_mul, Nat.zero_add]
  refine h.trans ?_
  simpa using hi
theorem C_rows {W : World} {g : Nat} {cs : Array Value} {t : TypeId} {l : List (List V)} (h : W.heap[g]? = some (.cells cs t (0, 0))) (hn : l.length ≤ 9223372036854775807) (hr : ∀ (j : Nat) (row : List V), l[j]? = some row → ∃ A c, cs[j]? = some (Value.slice A row.length c) ∧ row.length ≤ c ∧ Kd.C kV W A row.length row) : Kd.C kRow W (some ⟨g, 0, none⟩) l.length l := by
 refine ⟨rfl, hn, fun _ => ⟨⟨g, 0, none⟩, rfl, fun j p hj => ?_⟩⟩
 obtain ⟨A, c, h1, h2, h3⟩ := hr j p hj
 refine ⟨[.slice A p.length c], rfl, ⟨A, c, rfl, h2, h3⟩, fun i u hi => ?_⟩
 cases i with
 | succ i => simp at hi
 | zero =>
  obtain rfl : Value.slice A p.length c = u := by simpa using hi
  rw [add_plain]
  show W.cell? ⟨g, j * 1 + 0, none⟩ = _
  rw [Nat.mul_one, Nat.add_zero]
  exact (blk_cell h j).trans h1
theorem valid_iV (n : Int) : validV (iV n) = true := by
 unfold validV noText
 simp [ByteArray.toList_eq]
theorem ok_iV (n : Int) (h : -9223372036854775808 ≤ n ∧ n ≤ 9223372036854775807) : VOk (iV n) := ⟨by simp, by simp, h.1, h.2⟩
theorem rowOk_iV (l : List V) (h : ∀ v ∈ l, ∃ n : Int, -9223372036854775808 ≤ n ∧ n ≤ 9223372036854775807 ∧ v = iV n) (hn : l.length ≤ 2) : RowOk l := by
 have len1 : ∀ n : Int, -9223372036854775808 ≤ n → n ≤ 9223372036854775807 → (nameV (iV n)).length ≤ 100 := fun n h0 h1 => by
  have i1 := Lib.itoa_length_le 1 (by omega) (by omega)
  have i2 := Lib.itoa_length_le n (by omega) (by omega)
  have i3 := Lib.itoa_length_le 0 (by omega) (by omega)
  show (Lib.itoa 1 ++ ([32] ++ (Lib.itoa n ++ ([32] ++ (Lib.itoa 0 ++ ([58] ++ ([] : List UInt8))))))).length ≤ 100
  simp only [List.length_append, List.length_cons, List.length_nil]
  omega
 refine ⟨fun v hv => ?_, ?_, by omega⟩
 · obtain ⟨n, h0, h1, rfl⟩ := h v hv
   exact ok_iV n ⟨h0, h1⟩
 · match l, h, hn with
   | [], _, _ => simp [nameB]
   | [a], h, _ =>
    obtain ⟨n, h0, h1, rfl⟩ := h a (by simp)
    have := len1 n h0 h1
    simp only [nameB, List.append_nil]
    omega
   | [a, b], h, _ =>
    obtain ⟨n, h0, h1, rfl⟩ := h a (by simp)
    obtain ⟨m, h2, h3, rfl⟩ := h b (by simp)
    have e1 := len1 n h0 h1
    have e2 := len1 m h2 h3
    simp only [nameB, List.append_nil, List.length_append]
    omega
theorem one_ok : RowsOk oneA_ := ⟨fun r hr => by
 simp only [oneA_, List.mem_cons, List.not_mem_nil, or_false] at hr
 rcases hr with rfl | rfl | rfl
 · exact rowOk_iV _ (fun v hv => ⟨2, by omega, by omega, by simpa using hv⟩) (by simp)
 · exact rowOk_iV _ (fun v hv => ⟨1, by omega, by omega, by simpa using hv⟩) (by simp)
 · exact rowOk_iV _ (fun v hv => ⟨1, by omega, by omega, by simpa using hv⟩) (by simp), by simp⟩
theorem two_ok : RowsOk twoA_ := ⟨fun r hr => by
 simp only [twoA_, List.mem_cons, List.not_mem_nil, or_false] at hr
 rcases hr with rfl | rfl
 · exact rowOk_iV _ (fun v hv => ⟨1, by omega, by omega, by simpa using hv⟩) (by simp)
 · exact rowOk_iV _ (fun v hv => ⟨3, by omega, by omega, by simpa using hv⟩) (by simp), by simp⟩
theorem valid_ints (l : List (List V)) (h : ∀ r ∈ l, ∃ n, r = [iV n]) : validB l = true := by
 have key : ∀ (l : List (List V)) (k : Int), (k = 0 ∨ k = 1) → (∀ r ∈ l, ∃ n, r = [iV n]) → validFrom [k] l = true := by
  intro l
  induction l with
  | nil => intro k _ _; rfl
  | cons r rs ih =>
   intro k hk h
   obtain ⟨n, rfl⟩ := h r (by simp)
   have e : rowStep [k] [iV n] = some [1] := by
    simp only [rowStep]
    rw [if_pos ⟨valid_iV n, by show k = 0 ∨ k = 1 ∨ (1 : Int) = 0; omega⟩]
    rcases hk with rfl | rfl <;> rfl
   simp only [validFrom, e]
   exact ih 1 (.inr rfl) (fun r hr => h r (List.mem_cons_of_mem _ hr))
 cases l with
 | nil => rfl
 | cons r rs =>
  obtain ⟨n, hn⟩ := h r (by simp)
  unfold validB
  rw [hn]
  rw [hn] at h
  exact key _ 0 (.inl rfl) h
theorem one_valid : validB oneA_ = true := valid_ints _ (fun r hr => by
 simp only [oneA_, List.mem_cons, List.not_mem_nil, or_false] at hr
 rcases hr with rfl | rfl | rfl <;> exact ⟨_, rfl⟩)
theorem both_valid : validB (oneA_ ++ twoA_) = true := valid_ints _ (fun r hr => by
 simp only [oneA_, twoA_, List.cons_append, List.nil_append, List.mem_cons, List.not_mem_nil, or_false] at hr
 rcases hr with rfl | rfl | rfl | rfl | rfl <;> exact ⟨_, rfl⟩)
theorem ne_iV {a b : Int} (h : a ≠ b) : nameOf [iV a] ≠ nameOf [iV b] := fun e => by
 have h1 := name_inj e
 simp only [List.cons.injEq, and_true] at h1
 injection h1 with _ h2
 exact h h2
theorem awake_except : ∃ met left, bag_split.f oneA_ twoA_ = some (met, left, 0) ∧ left.length = 2 := by
 have hok : RowsOk (oneA_ ++ twoA_) := ⟨fun r hr => by
  rcases List.mem_append.1 hr with h | h
  · exact one_ok.1 r h
  · exact two_ok.1 r h, by simp⟩
 refine ⟨_, _, by unfold bag_split.f; rw [if_pos hok, if_pos both_valid], ?_⟩
 rw [(sortR_perm _ _).length_eq]
 have h21 : nameOf [iV 2] ≠ nameOf [iV 1] := ne_iV (by decide)
 have h13 : nameOf [iV 1] ≠ nameOf [iV 3] := ne_iV (by decide)
 have h23 : nameOf [iV 2] ≠ nameOf [iV 3] := ne_iV (by decide)
 have e1 : cnt (twoA_.map nameOf) (nameOf [iV 2]) = 0 := by simp [twoA_, cnt, h21.symm, h23.symm]
 have e2 : cnt (twoA_.map nameOf) (nameOf [iV 1]) = 1 := by simp [twoA_, cnt, h13.symm]
 obtain ⟨c, hc⟩ : ∃ c, c = cnt (twoA_.map nameOf) := ⟨_, rfl⟩
 rw [← hc] at e1 e2 ⊢
 have e3 : decAt c (nameOf [iV 1]) (nameOf [iV 1]) = 0 := by simp [decAt, e2]
 simp only [oneA_, splitR, e1, e2, e3]
 simp [splitR, e3]
theorem cmp_iV (a b : Int) : compareV (iV a) (iV b) = cmpI a b := by
 unfold compareV
 have : cmpI (iV a).f0 (iV b).f0 = 0 := rfl
 rw [if_pos this, if_neg (by show ¬ (1 : Int) = 0; decide), if_neg (by show ¬ (1 : Int) = 2; decide)]
theorem awake_cut : bag_Cut.f oneA_ [⟨0, true⟩] 0 1 = some ([[iV 2]], 0) := by
 have hk : keysB oneA_ [⟨0, true⟩] = true := by decide
 have hf : fitsB oneA_ [⟨0, true⟩] = true := by unfold fitsB; rw [one_valid, hk]; rfl
 unfold bag_Cut.f
 rw [if_pos ⟨one_ok.v, by simp, by decide, by decide⟩, if_pos ⟨hf, by decide, by decide⟩]
 have hs : sortR [⟨0, true⟩] oneA_ = oneA_ := by
  refine (sortR_unique (fun row hrow => validB_valid one_valid row hrow) (List.Perm.refl _) ?_).symm
  have c : ∀ a b : Int, cmpFull [⟨0, true⟩] [iV a] [iV b] = if cmpI a b = 0 then 0 else -cmpI a b := fun a b => by
   unfold cmpFull
   have e1 : cmpBy [⟨0, true⟩] [iV a] [iV b] = if cmpI a b = 0 then 0 else -cmpI a b := by
    simp only [cmpBy]
    show (if compareV (iV a) (iV b) = 0 then 0 else if True then -compareV (iV a) (iV b) else _) = _
    rw [cmp_iV, if_pos trivial]
   rw [e1]
   by_cases h : cmpI a b = 0
   · rw [if_pos h, if_pos rfl]
     simp [cmpRows, cmp_iV, h]
   · rw [if_neg h, if_neg (by omega)]
  refine List.Pairwise.cons (fun r hr => ?_) (List.Pairwise.cons (fun r hr => ?_) (List.Pairwise.cons (fun r hr => by cases hr) List.Pairwise.nil))
  · simp only [List.mem_cons, List.not_mem_nil, or_false] at hr
    rcases hr with rfl | rfl <;> (rw [c]; decide)
  · simp only [List.mem_cons, List.not_mem_nil, or_false] at hr
    subst hr
    rw [c]; decide
 rw [hs]
 rfl
theorem awake_agg : bag_Aggregate.f 2 false [iV 9223372036854775807, iV 1, iV (-1)] = some (1, 9223372036854775807, ⟨#[]⟩, 0) := by
 have hok : AggOk 2 [iV 9223372036854775807, iV 1, iV (-1)] := by
  refine ⟨by omega, fun h => by omega, fun v hv => ?_, by simp⟩
  simp only [List.mem_cons, List.not_mem_nil, or_false] at hv
  refine rowOk_iV [v] (fun u hu => ?_) (by simp)
  obtain rfl : u = v := by simpa using hu
  rcases hv with rfl | rfl | rfl
  · exact ⟨_, by omega, by omega, rfl⟩
  · exact ⟨_, by omega, by omega, rfl⟩
  · exact ⟨_, by omega, by omega, rfl⟩
 unfold bag_Aggregate.f
 rw [if_pos hok]
 have ha : allowedB 2 false [iV 9223372036854775807, iV 1, iV (-1)] = true := by
  unfold allowedB
  rw [if_neg (by simp)]
  simp only [kindFrom, valid_iV]
  rfl
 unfold aggR
 rw [if_pos ha]
 unfold aggV
 rw [if_pos rfl]
 have hp : pickV 2 false [] [iV 9223372036854775807, iV 1, iV (-1)] = [iV 9223372036854775807, iV 1, iV (-1)] := by
  simp [pickV]
 rw [hp]
 rfl
theorem awake_same : bag_Same.f oneA_ twoA_ = some false := by
 have hs : sameB oneA_ twoA_ = false := sameB_false (fun h => by have := h.1; simp at this)
 unfold bag_Same.f
 rw [if_pos ⟨one_ok, two_ok⟩, hs]
theorem awake_groupOk : GroupOk oneA_ [0] [⟨0, 0, false⟩] := by
 have hkeys : ∀ row ∈ oneA_, keyOf [0] row = row := fun row hrow => by
  simp only [oneA_, List.mem_cons, List.not_mem_nil, or_false] at hrow
  rcases hrow with rfl | rfl | rfl <;> rfl
 refine ⟨one_ok, by simp, by simp, by simp, fun a ha => ?_, fun row hrow => by rw [hkeys row hrow]; exact one_ok.1 row hrow, fun a ha row hrow => ?_⟩
 · obtain rfl : a = ⟨0, 0, false⟩ := by simpa using ha
   exact Int.le_refl _
 · obtain rfl : a = ⟨0, 0, false⟩ := by simpa using ha
   have : [rd_T36 row 0] = row := by
    simp only [oneA_, List.mem_cons, List.not_mem_nil, or_false] at hrow
    rcases hrow with rfl | rfl | rfl <;> rfl
   rw [this]
   exact one_ok.1 row hrow
theorem awake_groupable : groupableB oneA_ [0] [⟨0, 0, false⟩] = true := by
 unfold groupableB
 simp only [Bool.and_eq_true, List.all_eq_true]
 exact ⟨⟨one_valid, fun n hn => by
  obtain rfl : n = 0 := by simpa using hn
  decide⟩, fun a ha => by
  obtain rfl : a = ⟨0, 0, false⟩ := by simpa using ha
  rfl⟩
theorem awake_group : groupG oneA_ [0] [⟨0, 0, false⟩] = ([[iV 1, iV 2], [iV 2, iV 1]], 0) := by
 have h21 : nameOf [iV 2] ≠ nameOf [iV 1] := ne_iV (by decide)
 have hm : oneA_.map (keyOf [0]) = oneA_ := rfl
 have hd : distR [] oneA_ = [[iV 2], [iV 1]] := by
  simp only [oneA_, distR]
  simp [h21.symm]
 have hk : keysR [0] oneA_ = [[iV 1], [iV 2]] := by
  unfold keysR
  rw [if_neg (by simp), hm, hd]
  refine (sortR_unique (fun row hrow => ?_) (List.Perm.swap _ _ _) ?_).symm
  · exact validB_valid (valid_ints [[iV 2], [iV 1]] (fun r hr => by
     simp only [List.mem_cons, List.not_mem_nil, or_false] at hr
     rcases hr with rfl | rfl <;> exact ⟨_, rfl⟩)) row hrow
  · refine List.Pairwise.cons (fun r hr => ?_) (List.Pairwise.cons (fun r hr => by cases hr) List.Pairwise.nil)
    obtain rfl : r = [iV 2] := by simpa using hr
    unfold cmpFull
    simp only [cmpBy, cmpRows, cmp_iV]
    decide
 have l1 : (listR [0] oneA_ (nameOf [iV 1])).length = 2 := by
  unfold listR
  have e1 : nameOf (keyOf [0] [iV 2]) ≠ nameOf [iV 1] := h21
  have e2 : nameOf (keyOf [0] [iV 1]) = nameOf [iV 1] := rfl
  simp [oneA_, e1, e2]
 have l2 : (listR [0] oneA_ (nameOf [iV 2])).length = 1 := by
  unfold listR
  have e1 : nameOf (keyOf [0] [iV 2]) = nameOf [iV 2] := rfl
  have e2 : nameOf (keyOf [0] [iV 1]) ≠ nameOf [iV 2] := h21.symm
  simp [oneA_, e1, e2]
 rw [groupG_count one_valid (fun n hn => by
  obtain rfl : n = 0 := by simpa using hn
  decide), hk]
 simp only [List.map_cons, List.map_nil, l1, l2]
 rfl
theorem new_at (w : World) (cs : Array Value) (t : TypeId) : (w.alloc (.cells cs t)).heap[w.heap.size]? = some (.cells cs t (0, 0)) := heap_alloc_new _ _
theorem kept_at {w W : World} {b : Nat} {o : Obj} (h : w.heap[b]? = some o) (hb : Below w.heap.size w W) : W.heap[b]? = some o := (hb.block b (blk_lt h)).trans h
theorem new_at1 (w : World) (o : Obj) (cs : Array Value) (t : TypeId) : ((w.alloc o).alloc (.cells cs t)).heap[w.heap.size + 1]? = some (.cells cs t (0, 0)) := by
 have h := heap_alloc_new (w.alloc o) (.cells cs t)
 rw [show (w.alloc o).heap.size = w.heap.size + 1 by simp] at h
 exact h
theorem below2 (w : World) (o p : Obj) : Below w.heap.size w ((w.alloc o).alloc p) := ((Below.refl w.heap.size w).alloc (Nat.le_refl _) o).alloc (by simp) p
theorem kept_alloc {w : World} {b : Nat} {o : Obj} (h : w.heap[b]? = some o) (x : Obj) : (w.alloc x).heap[b]? = some o := (Below.heap_alloc w x b (blk_lt h)).trans h
theorem C_one {α : Type} {d : Kd α} {W : World} {b : Nat} {t : TypeId} {cs : Array Value} (x : α) (h : W.heap[b]? = some (.cells cs t (0, 0))) (hl : cs.toList.length = d.sz) (hk : d.K W x cs.toList) : Kd.C d W (some ⟨b, 0, none⟩) [x].length [x] := by
 refine ⟨rfl, by simp, fun _ => ⟨⟨b, 0, none⟩, rfl, fun j p hj => ?_⟩⟩
 cases j with
 | succ j => simp at hj
 | zero =>
  obtain rfl : x = p := by simpa using hj
  refine ⟨cs.toList, hl, hk, fun i u hi => ?_⟩
  have h := blk_cell h i
  rw [add_plain, Nat.zero_mul, Nat.zero_add]
  refine h.trans ?_
  simpa using hi
theorem C_three {W : World} {b : Nat} {t : TypeId} (x y z : Int) (h : W.heap[b]? = some (.cells #[.int .u8 1, .int .i64 x, .string ⟨#[]⟩, .int .u8 1, .int .i64 y, .string ⟨#[]⟩, .int .u8 1, .int .i64 z, .string ⟨#[]⟩] t (0, 0))) : Kd.C kV W (some ⟨b, 0, none⟩) [iV x, iV y, iV z].length [iV x, iV y, iV z] := by
 refine ⟨rfl, by simp, fun _ => ⟨⟨b, 0, none⟩, rfl, fun j p hj => ?_⟩⟩
 match j, hj with
 | 0, hj =>
  obtain rfl : iV x = p := by simpa using hj
  refine ⟨[.int .u8 1, .int .i64 x, .string ⟨#[]⟩], rfl, kV.K_of_M (base := 0) (ok := fun _ => True) (k36_mkM _ _ _ (iV x)), fun i u hi => ?_⟩
  have h := blk_cell h (0 * 3 + i)
  rw [add_plain]
  refine h.trans ?_
  match i, hi with
  | 0, hi => simpa using hi
  | 1, hi => simpa using hi
  | 2, hi => simpa using hi
  | i + 3, hi => simp at hi
 | 1, hj =>
  obtain rfl : iV y = p := by simpa using hj
  refine ⟨[.int .u8 1, .int .i64 y, .string ⟨#[]⟩], rfl, kV.K_of_M (base := 0) (ok := fun _ => True) (k36_mkM _ _ _ (iV y)), fun i u hi => ?_⟩
  have h := blk_cell h (1 * 3 + i)
  rw [add_plain]
  refine h.trans ?_
  match i, hi with
  | 0, hi => simpa using hi
  | 1, hi => simpa using hi
  | 2, hi => simpa using hi
  | i + 3, hi => simp at hi
 | 2, hj =>
  obtain rfl : iV z = p := by simpa using hj
  refine ⟨[.int .u8 1, .int .i64 z, .string ⟨#[]⟩], rfl, kV.K_of_M (base := 0) (ok := fun _ => True) (k36_mkM _ _ _ (iV z)), fun i u hi => ?_⟩
  have h := blk_cell h (2 * 3 + i)
  rw [add_plain]
  refine h.trans ?_
  match i, hi with
  | 0, hi => simpa using hi
  | 1, hi => simpa using hi
  | 2, hi => simpa using hi
  | i + 3, hi => simp at hi
 | j + 3, hj => simp at hj
theorem C_two {W : World} {b : Nat} {t : TypeId} (x y : Int) (h : W.heap[b]? = some (.cells #[.int .u8 1, .int .i64 x, .string ⟨#[]⟩, .int .u8 1, .int .i64 y, .string ⟨#[]⟩] t (0, 0))) : Kd.C kV W (some ⟨b, 0, none⟩) [iV x, iV y].length [iV x, iV y] := by
 refine ⟨rfl, by simp, fun _ => ⟨⟨b, 0, none⟩, rfl, fun j p hj => ?_⟩⟩
 match j, hj with
 | 0, hj =>
  obtain rfl : iV x = p := by simpa using hj
  refine ⟨[.int .u8 1, .int .i64 x, .string ⟨#[]⟩], rfl, kV.K_of_M (base := 0) (ok := fun _ => True) (k36_mkM _ _ _ (iV x)), fun i u hi => ?_⟩
  have h := blk_cell h (0 * 3 + i)
  rw [add_plain]
  refine h.trans ?_
  match i, hi with
  | 0, hi => simpa using hi
  | 1, hi => simpa using hi
  | 2, hi => simpa using hi
  | i + 3, hi => simp at hi
 | 1, hj =>
  obtain rfl : iV y = p := by simpa using hj
  refine ⟨[.int .u8 1, .int .i64 y, .string ⟨#[]⟩], rfl, kV.K_of_M (base := 0) (ok := fun _ => True) (k36_mkM _ _ _ (iV y)), fun i u hi => ?_⟩
  have h := blk_cell h (1 * 3 + i)
  rw [add_plain]
  refine h.trans ?_
  match i, hi with
  | 0, hi => simpa using hi
  | 1, hi => simpa using hi
  | 2, hi => simpa using hi
  | i + 3, hi => simp at hi
 | j + 2, hj => simp at hj
theorem awake_calls (w : World) (hT : LaidT w) : Calls Tryz.prog 13 #[] w fun e w' => e = .returned (.bool true) ∧ Below w.heap.size w w' := by
 have HT := Aside0.mk hT
 clear hT
 go_enter Tryz.func13, Tryz.ntmps13
 go_wp2_with fail
 refine (r1_Int.calls 2 1 2 ⟨#[]⟩ w rfl).mono ?_
 rintro e w1 ⟨rfl, hb1⟩
 have HB1 := Aside0.mk hb1; clear hb1
 go_wp2_with fail
 refine (r1_Int.calls 1 1 1 ⟨#[]⟩ _ rfl).mono ?_
 rintro e w2 ⟨rfl, hb2⟩
 have A1 := Aside0.mk (kept_at (new_at w1 _ _) hb2)
 have HB2 := Aside0.mk (HB1.out.trans (((Below.refl w1.heap.size w1).alloc (Nat.le_refl _) _ |>.trans (hb2.mono (by simp))).mono HB1.out.size)); clear hb2
 go_wp2_with fail
 refine (r1_Int.calls 1 1 1 ⟨#[]⟩ _ rfl).mono ?_
 rintro e w3 ⟨rfl, hb3⟩
 have A2 := Aside0.mk (kept_at (new_at w2 _ _) hb3)
 have A1' := Aside0.mk (kept_at (kept_alloc A1.out _) hb3)
 have HB3 := Aside0.mk (HB2.out.trans (((Below.refl w2.heap.size w2).alloc (Nat.le_refl _) _ |>.trans (hb3.mono (by simp))).mono HB2.out.size)); clear hb3 A1
 go_wp2_with fail
 refine (r1_Int.calls 1 1 1 ⟨#[]⟩ _ rfl).mono ?_
 rintro e w4 ⟨rfl, hb4⟩
 have HG := Aside0.mk (kept_at (new_at1 w3 (.cells #[.int .u8 1, .int .i64 1, .string ⟨#[]⟩] 36) _ _) hb4)
 have HA3 := Aside0.mk (kept_at (kept_alloc (new_at w3 _ _) (.cells #[.slice (some ⟨w1.heap.size, 0, none⟩) 1 1, .slice (some ⟨w2.heap.size, 0, none⟩) 1 1, .slice (some ⟨w3.heap.size, 0, none⟩) 1 1] 53)) hb4)
 have HA2 := Aside0.mk (kept_at (kept_alloc (kept_alloc A2.out (.cells #[.int .u8 1, .int .i64 1, .string ⟨#[]⟩] 36)) (.cells #[.slice (some ⟨w1.heap.size, 0, none⟩) 1 1, .slice (some ⟨w2.heap.size, 0, none⟩) 1 1, .slice (some ⟨w3.heap.size, 0, none⟩) 1 1] 53)) hb4)
 have HA1 := Aside0.mk (kept_at (kept_alloc (kept_alloc A1'.out (.cells #[.int .u8 1, .int .i64 1, .string ⟨#[]⟩] 36)) (.cells #[.slice (some ⟨w1.heap.size, 0, none⟩) 1 1, .slice (some ⟨w2.heap.size, 0, none⟩) 1 1, .slice (some ⟨w3.heap.size, 0, none⟩) 1 1] 53)) hb4)
 have HB4 := Aside0.mk (HB3.out.trans ((below2 w3 (.cells #[.int .u8 1, .int .i64 1, .string ⟨#[]⟩] 36) (.cells #[.slice (some ⟨w1.heap.size, 0, none⟩) 1 1, .slice (some ⟨w2.heap.size, 0, none⟩) 1 1, .slice (some ⟨w3.heap.size, 0, none⟩) 1 1] 53)).mono HB3.out.size |>.trans (hb4.mono (by have := HB3.out.size; simp; omega))))
 clear hb4 A1' A2
 have HONE : Aside0 (kRow.C w4 (some ⟨w3.heap.size + 1, 0, none⟩) oneA_.length oneA_) := ⟨C_rows HG.out (by simp) (fun j row hj => by
  match j, hj with
  | 0, hj =>
   obtain rfl : [iV 2] = row := by simpa [oneA_] using hj
   exact ⟨_, 1, rfl, by simp, C_row1 (iV 2) HA1.out⟩
  | 1, hj =>
   obtain rfl : [iV 1] = row := by simpa [oneA_] using hj
   exact ⟨_, 1, rfl, by simp, C_row1 (iV 1) HA2.out⟩
  | 2, hj =>
   obtain rfl : [iV 1] = row := by simpa [oneA_] using hj
   exact ⟨_, 1, rfl, by simp, C_row1 (iV 1) HA3.out⟩
  | j + 3, hj => simp [oneA_] at hj)⟩
 clear HG HA1 HA2 HA3
 obtain ⟨g1, hg1⟩ : ∃ g1, g1 = w3.heap.size + 1 := ⟨_, rfl⟩
 rw [← hg1] at HONE
 rw [← hg1]
 clear hg1
 go_wp2_with fail
 refine (r1_Int.calls 3 1 3 ⟨#[]⟩ _ rfl).mono ?_
 rintro e w5 ⟨rfl, hb5⟩
 have A4 := Aside0.mk (kept_at (new_at w4 _ _) hb5)
 have HB5 := Aside0.mk (HB4.out.trans (((Below.refl w4.heap.size w4).alloc (Nat.le_refl _) (.cells #[.int .u8 1, .int .i64 1, .string ⟨#[]⟩] 36) |>.trans (hb5.mono (by simp))).mono HB4.out.size))
 have HONE5 := Aside0.mk (Kd.C_below HONE.out ((Below.refl w4.heap.size w4).alloc (Nat.le_refl _) (.cells #[.int .u8 1, .int .i64 1, .string ⟨#[]⟩] 36) |>.trans (hb5.mono (by simp))))
 clear hb5 HONE
 go_wp2_with fail
 have HG := Aside0.mk (new_at1 w5 (.cells #[.int .u8 1, .int .i64 3, .string ⟨#[]⟩] 36) #[.slice (some ⟨w4.heap.size, 0, none⟩) 1 1, .slice (some ⟨w5.heap.size, 0, none⟩) 1 1] 53)
 have HA5 := Aside0.mk (kept_alloc (new_at w5 #[.int .u8 1, .int .i64 3, .string ⟨#[]⟩] 36) (.cells #[.slice (some ⟨w4.heap.size, 0, none⟩) 1 1, .slice (some ⟨w5.heap.size, 0, none⟩) 1 1] 53))
 have HA4 := Aside0.mk (kept_alloc (kept_alloc A4.out (.cells #[.int .u8 1, .int .i64 3, .string ⟨#[]⟩] 36)) (.cells #[.slice (some ⟨w4.heap.size, 0, none⟩) 1 1, .slice (some ⟨w5.heap.size, 0, none⟩) 1 1] 53))
 have HB6 := Aside0.mk (HB5.out.trans ((below2 w5 (.cells #[.int .u8 1, .int .i64 3, .string ⟨#[]⟩] 36) (.cells #[.slice (some ⟨w4.heap.size, 0, none⟩) 1 1, .slice (some ⟨w5.heap.size, 0, none⟩) 1 1] 53)).mono HB5.out.size))
 have HONE6 := Aside0.mk (Kd.C_below HONE5.out (below2 w5 (.cells #[.int .u8 1, .int .i64 3, .string ⟨#[]⟩] 36) (.cells #[.slice (some ⟨w4.heap.size, 0, none⟩) 1 1, .slice (some ⟨w5.heap.size, 0, none⟩) 1 1] 53)))
 have HTWO : Aside0 (kRow.C ((w5.alloc (.cells #[.int .u8 1, .int .i64 3, .string ⟨#[]⟩] 36)).alloc (.cells #[.slice (some ⟨w4.heap.size, 0, none⟩) 1 1, .slice (some ⟨w5.heap.size, 0, none⟩) 1 1] 53)) (some ⟨w5.heap.size + 1, 0, none⟩) twoA_.length twoA_) := ⟨C_rows HG.out (by simp) (fun j row hj => by
  match j, hj with
  | 0, hj =>
   obtain rfl : [iV 1] = row := by simpa [twoA_] using hj
   exact ⟨_, 1, rfl, by simp, C_row1 (iV 1) HA4.out⟩
  | 1, hj =>
   obtain rfl : [iV 3] = row := by simpa [twoA_] using hj
   exact ⟨_, 1, rfl, by simp, C_row1 (iV 3) HA5.out⟩
  | j + 2, hj => simp [twoA_] at hj)⟩
 clear HG HA4 HA5 A4 HONE5
 obtain ⟨g2, hg2⟩ : ∃ g2, g2 = w5.heap.size + 1 := ⟨_, rfl⟩
 rw [← hg2] at HTWO
 rw [← hg2]
 clear hg2
 obtain ⟨W6, hW6⟩ : ∃ W6, W6 = (w5.alloc (.cells #[.int .u8 1, .int .i64 3, .string ⟨#[]⟩] 36)).alloc (.cells #[.slice (some ⟨w4.heap.size, 0, none⟩) 1 1, .slice (some ⟨w5.heap.size, 0, none⟩) 1 1] 53) := ⟨_, rfl⟩
 rw [← hW6] at HTWO HONE6 HB6
 rw [← hW6]
 clear hW6
 obtain ⟨met, left, hsp, hll⟩ := awake_except
 have HLL := Aside0.mk hll
 refine (split_Except _ _ oneA_ _ _ twoA_ met left 0 W6 HONE6.out (by simp) HTWO.out (by simp) (HT.out.below HB6.out) hsp).mono ?_
 rintro e w7 ⟨v0, rfl, ⟨Av, cv, hv0, hlv, hF⟩, hb7⟩
 rw [HLL.out] at hv0
 subst hv0
 have HB7 := Aside0.mk (HB6.out.trans (hb7.mono HB6.out.size))
 have HONE7 := Aside0.mk (Kd.C_below HONE6.out hb7)
 have HTWO7 := Aside0.mk (Kd.C_below HTWO.out hb7)
 clear hsp hll hlv hF hb7 HONE6 HTWO
 go_wp2_with fail
 have hBK : Below w7.heap.size w7 (w7.alloc (.cells #[.int .i64 0, .bool true] 64)) := (Below.refl _ w7).alloc (Nat.le_refl _) _
 have HB8 := Aside0.mk (HB7.out.trans (hBK.mono HB7.out.size))
 have HKY : Aside0 (kKey.C (w7.alloc (.cells #[.int .i64 0, .bool true] 64)) (some ⟨w7.heap.size, 0, none⟩) [(⟨0, true⟩ : KeyT)].length [⟨0, true⟩]) := ⟨C_one (⟨0, true⟩ : KeyT) (new_at w7 _ _) rfl (kKey.K_of_M (base := 0) (ok := fun _ => True) (k64_mkM _ _ _ ⟨0, true⟩))⟩
 have HONE8 := Aside0.mk (Kd.C_below HONE7.out hBK)
 have HTWO8 := Aside0.mk (Kd.C_below HTWO7.out hBK)
 clear HONE7 HTWO7 hBK
 refine (bag_Cut.calls (some ⟨g1, 0, none⟩) 3 oneA_ (some ⟨w7.heap.size, 0, none⟩) 1 [⟨0, true⟩] 0 1 [[iV 2]] 0 _ HONE8.out (by simp) HKY.out (by simp) awake_cut).mono ?_
 rintro e w9 ⟨v1, rfl, ⟨Ac, cc, hv1, hlc, hFc⟩, hb9⟩
 have hv1 : v1 = .slice Ac 1 cc := hv1
 subst hv1
 have HCUT := Aside0.mk (Kd.F_now hFc)
 have HCL := Aside0.mk hlc
 have HB9 := Aside0.mk (HB8.out.trans (hb9.mono HB8.out.size))
 have HONE9 := Aside0.mk (Kd.C_below HONE8.out hb9)
 have HTWO9 := Aside0.mk (Kd.C_below HTWO8.out hb9)
 clear hlc hFc hb9 HONE8 HTWO8 HKY
 go_wp2_with fail
 have hBG : Below w9.heap.size w9 ((w9.alloc (.cells #[.int .i64 0] 3)).alloc (.cells #[.int .u8 0, .int .i64 0, .bool false] 55)) := below2 w9 _ _
 have HB10 := Aside0.mk (HB9.out.trans (hBG.mono HB9.out.size))
 have HCO : Aside0 ((Kd.int .i64).C ((w9.alloc (.cells #[.int .i64 0] 3)).alloc (.cells #[.int .u8 0, .int .i64 0, .bool false] 55)) (some ⟨w9.heap.size, 0, none⟩) [(0 : Int)].length [0]) := ⟨C_one (d := Kd.int .i64) (0 : Int) (kept_alloc (new_at w9 _ _) _) rfl rfl⟩
 have HAG : Aside0 (kAgg.C ((w9.alloc (.cells #[.int .i64 0] 3)).alloc (.cells #[.int .u8 0, .int .i64 0, .bool false] 55)) (some ⟨w9.heap.size + 1, 0, none⟩) [(⟨0, 0, false⟩ : AggT)].length [⟨0, 0, false⟩]) := ⟨C_one (⟨0, 0, false⟩ : AggT) (new_at1 w9 _ _ _) rfl (kAgg.K_of_M (base := 0) (ok := fun _ => True) (k55_mkM _ _ _ ⟨0, 0, false⟩))⟩
 have HONE10 := Aside0.mk (Kd.C_below HONE9.out hBG)
 have HTWO10 := Aside0.mk (Kd.C_below HTWO9.out hBG)
 have HCUT10 := Aside0.mk (Kd.C_below HCUT.out hBG)
 clear hBG HONE9 HTWO9 HCUT
 have hgr := group_good (some ⟨g1, 0, none⟩) 3 oneA_ (some ⟨w9.heap.size, 0, none⟩) 1 [0] (some ⟨w9.heap.size + 1, 0, none⟩) 1 [⟨0, 0, false⟩] _ HONE10.out (by simp) HCO.out HAG.out (HT.out.below HB10.out) awake_groupOk awake_groupable [[iV 1, iV 2], [iV 2, iV 1]] 0 awake_group
 clear HCO HAG
 refine hgr.mono ?_
 clear hgr
 rintro e w11 ⟨v2, rfl, ⟨Ag, cg, hv2, hlg, hFg⟩, hb11⟩
 have hg := Kd.F_now hFg
 have hv2 : v2 = .slice Ag 2 cg := hv2
 subst hv2
 have HGR := Aside0.mk hg
 have HGL := Aside0.mk hlg
 have HB11 := Aside0.mk (HB10.out.trans (hb11.mono HB10.out.size))
 have HONE11 := Aside0.mk (Kd.C_below HONE10.out hb11)
 have HTWO11 := Aside0.mk (Kd.C_below HTWO10.out hb11)
 have HCUT11 := Aside0.mk (Kd.C_below HCUT10.out hb11)
 clear hlg hFg hg hb11 HONE10 HTWO10 HCUT10
 go_wp2_with fail
 have hBO : Below w11.heap.size w11 (w11.alloc (.cells #[.slice Ag 2 cg, .int .i64 0] 45)) := (Below.refl _ w11).alloc (Nat.le_refl _) _
 have HOC := Aside0.mk (new_at w11 #[.slice Ag 2 cg, .int .i64 0] 45)
 obtain ⟨W12, hW12⟩ : ∃ W12, W12 = w11.alloc (.cells #[.slice Ag 2 cg, .int .i64 0] 45) := ⟨_, rfl⟩
 obtain ⟨go, hgo⟩ : ∃ go, go = w11.heap.size := ⟨_, rfl⟩
 rw [← hW12] at hBO HOC
 rw [← hgo] at HOC
 rw [← hW12, ← hgo]
 have HB12 := Aside0.mk (HB11.out.trans (hBO.mono HB11.out.size))
 have HBW : Aside0 (Below w11.heap.size w11 W12) := ⟨hBO⟩
 clear hBO hW12 hgo
 refine (r1_Int.calls 9223372036854775807 1 9223372036854775807 ⟨#[]⟩ _ rfl).mono ?_
 rintro e w13 ⟨rfl, hb13⟩
 have HB13 := Aside0.mk hb13
 clear hb13
 go_wp2_with fail
 refine (r1_Int.calls 1 1 1 ⟨#[]⟩ _ rfl).mono ?_
 rintro e w14 ⟨rfl, hb14⟩
 have HB14 := Aside0.mk (HB13.out.trans (hb14.mono HB13.out.size))
 clear hb14 HB13
 go_wp2_with fail
 refine (r1_Int.calls (-1) 1 (-1) ⟨#[]⟩ _ rfl).mono ?_
 rintro e w15 ⟨rfl, hb15⟩
 have HB15 := Aside0.mk (HB14.out.trans (hb15.mono HB14.out.size))
 clear hb15 HB14
 go_wp2_with fail
 have hb16 : Below w15.heap.size w15 (w15.alloc (.cells #[.int .u8 1, .int .i64 9223372036854775807, .string ⟨#[]⟩, .int .u8 1, .int .i64 1, .string ⟨#[]⟩, .int .u8 1, .int .i64 (-1), .string ⟨#[]⟩] 36)) := (Below.refl _ w15).alloc (Nat.le_refl _) _
 have HB16 : Aside0 (Below W12.heap.size W12 (w15.alloc (.cells #[.int .u8 1, .int .i64 9223372036854775807, .string ⟨#[]⟩, .int .u8 1, .int .i64 1, .string ⟨#[]⟩, .int .u8 1, .int .i64 (-1), .string ⟨#[]⟩] 36))) := ⟨HB15.out.trans (hb16.mono HB15.out.size)⟩
 have hc3 := C_three 9223372036854775807 1 (-1) (new_at w15 #[.int .u8 1, .int .i64 9223372036854775807, .string ⟨#[]⟩, .int .u8 1, .int .i64 1, .string ⟨#[]⟩, .int .u8 1, .int .i64 (-1), .string ⟨#[]⟩] 36)
 clear hb16
 refine (bag_Aggregate.calls 2 false (some ⟨w15.heap.size, 0, none⟩) 3 [iV 9223372036854775807, iV 1, iV (-1)] 1 9223372036854775807 ⟨#[]⟩ 0 _ hc3 (by simp) (HT.out.below (HB12.out.trans (HB16.out.mono HB12.out.size))) awake_agg).mono ?_
 clear hc3
 rintro e w17 ⟨rfl, hb17⟩
 have HB17 := Aside0.mk (HB16.out.trans (hb17.mono HB16.out.size))
 clear hb17 HB16 HB15
 have HOC17 := Aside0.mk (kept_at HOC.out HB17.out)
 have o1 : w17.cell? ⟨go, 1, none⟩ = some (.int .i64 0) := (blk_cell HOC17.out 1).trans rfl
 have o0 : w17.cell? ⟨go, 0, none⟩ = some (.slice Ag 2 cg) := (blk_cell HOC17.out 0).trans rfl
 have hgs : go ≠ w17.heap.size := by have := blk_lt HOC17.out; omega
 have o2 : (w17.alloc (.cells #[.int .u8 1, .int .i64 9223372036854775807, .string ⟨#[]⟩, .int .i64 0] 38)).cell? ⟨go, 1, none⟩ = some (.int .i64 0) := (blk_cell (kept_alloc HOC17.out _) 1).trans rfl
 have o3 : (w17.alloc (.cells #[.int .u8 1, .int .i64 9223372036854775807, .string ⟨#[]⟩, .int .i64 0] 38)).cell? ⟨go, 0, none⟩ = some (.slice Ag 2 cg) := (blk_cell (kept_alloc HOC17.out _) 0).trans rfl
 go_wp2_with fail
 clear o0 o1 o2 o3 hgs
 have HOC20 := Aside0.mk (kept_alloc HOC17.out (.cells #[.int .u8 1, .int .i64 9223372036854775807, .string ⟨#[]⟩, .int .i64 0] 38))
 have HSC20 := Aside0.mk (new_at w17 #[.int .u8 1, .int .i64 9223372036854775807, .string ⟨#[]⟩, .int .i64 0] 38)
 have hb20 : Below w17.heap.size w17 (w17.alloc (.cells #[.int .u8 1, .int .i64 9223372036854775807, .string ⟨#[]⟩, .int .i64 0] 38)) := (Below.refl _ w17).alloc (Nat.le_refl _) _
 have hb1120 : Below w11.heap.size w11 (w17.alloc (.cells #[.int .u8 1, .int .i64 9223372036854775807, .string ⟨#[]⟩, .int .i64 0] 38)) := HBW.out.trans ((HB17.out.trans (hb20.mono HB17.out.size)).mono HBW.out.size)
 have HB20 := Aside0.mk (HB11.out.trans (hb1120.mono HB11.out.size))
 have HONE20 := Aside0.mk (Kd.C_below HONE11.out hb1120)
 have HTWO20 := Aside0.mk (Kd.C_below HTWO11.out hb1120)
 have HCUT20 := Aside0.mk (Kd.C_below HCUT11.out hb1120)
 have HGR20 := Aside0.mk (Kd.C_below HGR.out hb1120)
 clear hb20 hb1120
 obtain ⟨W20, hW20⟩ : ∃ W20, W20 = w17.alloc (.cells #[.int .u8 1, .int .i64 9223372036854775807, .string ⟨#[]⟩, .int .i64 0] 38) := ⟨_, rfl⟩
 obtain ⟨so, hso⟩ : ∃ so, so = w17.heap.size := ⟨_, rfl⟩
 rw [← hW20] at HOC20 HSC20 HB20 HONE20 HTWO20 HCUT20 HGR20
 rw [← hso] at HSC20
 rw [← hW20, ← hso]
 clear hW20 hso
 have HKEEP : Aside0 (∀ W', Below W20.heap.size W20 W' → W'.cell? ⟨so, 1, none⟩ = some (.int .i64 9223372036854775807) ∧ W'.cell? ⟨go, 0, none⟩ = some (.slice Ag 2 cg)) := ⟨fun W' hb => ⟨(blk_cell (kept_at HSC20.out hb) 1).trans rfl, (blk_cell (kept_at HOC20.out hb) 0).trans rfl⟩⟩
 have HTAKE : Aside0 (kRow.C W20 (some ⟨g1, 0, none⟩) 1 [[iV 2]]) := ⟨Kd.C_take (m := 1) HONE20.out (by simp)⟩
 have HTAKG : Aside0 (kRow.C W20 Ag 1 [[iV 1, iV 2]]) := ⟨Kd.C_take (m := 1) HGR20.out (by simp)⟩
 have HC1 : Aside0 (∀ W', Below W20.heap.size W20 W' → Calls Tryz.prog 19 #[.slice Ac 1 cc, .slice (some ⟨g1, 0, none⟩) 1 3] W' fun e w' => e = .returned (.bool true) ∧ Below W'.heap.size W' w') := ⟨fun W' hb => by
  obtain ⟨k, hk⟩ := (sameLists_refl [[iV 2]] (by simp) (by simp)).rounds
  exact r6_SameLists.calls k Ac cc [[iV 2]] (some ⟨g1, 0, none⟩) 3 [[iV 2]] true W' (Kd.C_below HCUT20.out hb) HCL.out (Kd.C_below HTAKE.out hb) (by simp) hk⟩
 have HC4 : Aside0 (∀ W' b, Below W20.heap.size W20 W' → kRow.C W' (some ⟨b, 0, none⟩) 1 [[iV 1, iV 2]] → Calls Tryz.prog 19 #[.slice Ag 1 cg, .slice (some ⟨b, 0, none⟩) 1 1] W' fun e w' => e = .returned (.bool true) ∧ Below W'.heap.size W' w') := ⟨fun W' b hb hc => by
  obtain ⟨k, hk⟩ := (sameLists_refl [[iV 1, iV 2]] (by simp) (by simp)).rounds
  exact r6_SameLists.calls k Ag cg [[iV 1, iV 2]] (some ⟨b, 0, none⟩) 1 [[iV 1, iV 2]] true W' (Kd.C_below HTAKG.out hb) (Nat.le_trans (by simp) HGL.out) hc (by simp) hk⟩
 have HC5 : Aside0 (∀ W', Below W20.heap.size W20 W' → Calls Tryz.prog 12 #[.slice (some ⟨g1, 0, none⟩) 3 3] W' fun e w' => e = .returned (.bool true) ∧ Below W'.heap.size W' w') := ⟨fun W' hb => by
  obtain ⟨k, hk⟩ := (valid_ev oneA_ one_ok.v).rounds
  rw [one_valid] at hk
  exact bag_Valid.calls k (some ⟨g1, 0, none⟩) 3 oneA_ true W' (Kd.C_below HONE20.out hb) (by simp) hk⟩
 have HC6 : Aside0 (∀ W', Below W20.heap.size W20 W' → Calls Tryz.prog 15 #[.slice (some ⟨g1, 0, none⟩) 3 3, .slice (some ⟨g2, 0, none⟩) 2 2] W' fun e w' => e = .returned (.bool false) ∧ Below W'.heap.size W' w') := ⟨fun W' hb =>
  bag_Same.calls (some ⟨g1, 0, none⟩) 3 oneA_ (some ⟨g2, 0, none⟩) 2 twoA_ false W' (Kd.C_below HONE20.out hb) (by simp) (Kd.C_below HTWO20.out hb) (by simp) (HT.out.below (HB20.out.trans (hb.mono HB20.out.size))) awake_same⟩
 have HNEW : Aside0 (∀ (w : World), kRow.C ((w.alloc (.cells #[.int .u8 1, .int .i64 1, .string ⟨#[]⟩, .int .u8 1, .int .i64 2, .string ⟨#[]⟩] 36)).alloc (.cells #[.slice (some ⟨w.heap.size, 0, none⟩) 2 2] 53)) (some ⟨w.heap.size + 1, 0, none⟩) 1 [[iV 1, iV 2]]) := ⟨fun w => by
  have h1 := new_at1 w (.cells #[.int .u8 1, .int .i64 1, .string ⟨#[]⟩, .int .u8 1, .int .i64 2, .string ⟨#[]⟩] 36) #[.slice (some ⟨w.heap.size, 0, none⟩) 2 2] 53
  have h2 := kept_alloc (new_at w #[.int .u8 1, .int .i64 1, .string ⟨#[]⟩, .int .u8 1, .int .i64 2, .string ⟨#[]⟩] 36) (.cells #[.slice (some ⟨w.heap.size, 0, none⟩) 2 2] 53)
  exact C_rows (l := [[iV 1, iV 2]]) h1 (by simp) (fun j row hj => by
   match j, hj with
   | 0, hj =>
    obtain rfl : [iV 1, iV 2] = row := by simpa using hj
    exact ⟨_, 2, rfl, by simp, C_two 1 2 h2⟩
   | j + 1, hj => simp at hj)⟩
 obtain ⟨i0, hi0, hzz⟩ := Option.map_eq_some_iff.1 infoRow
 simp only [Prod.mk.injEq] at hzz
 have hsl : ∀ W, (Instr.slice 22 (.slice Ag 2 cg) none (some (.int .i64 1)) none).run Tryz.prog W = .ok (.slice Ag 1 cg) W := (print_take_of (P := Tryz.prog) (Value.int .i64) (0 : Int) 22 53 .i64 Tryz.underlying22 hi0 hzz.2.1 Ag cg [0, 0] 1 (by omega) (by simp) HGL.out).1
 clear hzz hi0
 have HE : Aside0 (Below W20.heap.size W20 W20.drew) := ⟨(Below.refl _ W20).drew⟩
 have HE0 : Aside0 (Below W20.heap.size W20 W20) := ⟨Below.refl _ W20⟩
 go_region_held3 (fun W' => W'.cell? ⟨so, 1, none⟩ = some (.int .i64 9223372036854775807) ∧ W'.cell? ⟨go, 0, none⟩ = some (.slice Ag 2 cg)) (first | (with_reducible exact HKEEP.out _ HE0.out) | (with_reducible exact HKEEP.out _ HE.out) | (with_reducible exact HKEEP.out _ HBa.out) | (with_reducible exact HKEEP.out _ HBb.out) | (with_reducible exact HKEEP.out _ HBc.out) | (with_reducible exact HKEEP.out _ (HBc1.out _)) | (with_reducible exact HKEEP.out _ (HBc2.out _ _)) | (with_reducible exact HKEEP.out _ HBd.out) | (with_reducible exact HKEEP.out _ HBe.out) | (with_reducible exact HKEEP.out _ HBf.out)) (first
  | (go_at_call 19; (with_reducible refine (HC1.out W20.drew HE.out).mono ?_); rintro e wa ⟨rfl, hba⟩; have HBa := Aside0.mk (HE.out.trans (hba.mono HE.out.size)); clear hba)
  | (go_at_call 43; (with_reducible refine (r1_Int.calls 1 1 1 ⟨#[]⟩ wa rfl).mono ?_); rintro e wb ⟨rfl, hbb⟩; have HBb := Aside0.mk (HBa.out.trans (hbb.mono HBa.out.size)); clear hbb)
  | (go_at_call 43; (with_reducible refine (r1_Int.calls 2 1 2 ⟨#[]⟩ wa rfl).mono ?_); rintro e wb ⟨rfl, hbb⟩; have HBb := Aside0.mk (HBa.out.trans (hbb.mono HBa.out.size)); clear hbb)
  | (go_at_call 43; (with_reducible refine (r1_Int.calls 1 1 1 ⟨#[]⟩ wb rfl).mono ?_); rintro e wc ⟨rfl, hbc⟩; have HBc := Aside0.mk (HBb.out.trans (hbc.mono HBb.out.size)); have HBc1 : Aside0 (∀ o, Below W20.heap.size W20 (wc.alloc o)) := ⟨fun o => HBc.out.alloc HBc.out.size o⟩; have HBc2 : Aside0 (∀ o p, Below W20.heap.size W20 ((wc.alloc o).alloc p)) := ⟨fun o p => (HBc1.out o).alloc (HBc1.out o).size p⟩; clear hbc)
  | (go_at_call 43; (with_reducible refine (r1_Int.calls 2 1 2 ⟨#[]⟩ wb rfl).mono ?_); rintro e wc ⟨rfl, hbc⟩; have HBc := Aside0.mk (HBb.out.trans (hbc.mono HBb.out.size)); have HBc1 : Aside0 (∀ o, Below W20.heap.size W20 (wc.alloc o)) := ⟨fun o => HBc.out.alloc HBc.out.size o⟩; have HBc2 : Aside0 (∀ o p, Below W20.heap.size W20 ((wc.alloc o).alloc p)) := ⟨fun o p => (HBc1.out o).alloc (HBc1.out o).size p⟩; clear hbc)
  | (go_at_call 19; (with_reducible refine (HC4.out _ _ (HBc2.out _ _) (HNEW.out wc)).mono ?_); rintro e wd ⟨rfl, hbd⟩; have HBd := Aside0.mk ((HBc2.out _ _).trans (hbd.mono (HBc2.out _ _).size)); clear hbd)
  | (go_at_call 12; (with_reducible refine (HC5.out wd HBd.out).mono ?_); rintro e we ⟨rfl, hbe⟩; have HBe := Aside0.mk (HBd.out.trans (hbe.mono HBd.out.size)); clear hbe)
  | (go_at_call 15; (with_reducible refine (HC6.out we HBe.out).mono ?_); rintro e wf ⟨rfl, hbf⟩; have HBf := Aside0.mk (HBe.out.trans (hbf.mono HBe.out.size)); clear hbf))
 all_goals (go_wp2; go_ret; exact ⟨rfl, HB20.out.trans (HBf.out.mono HB20.out.size)⟩)
theorem bagMemory_calls (A0 : Option Addr) (c0 : Nat) (l0 : List (List V)) (A1 : Option Addr) (c1 : Nat) (l1 : List KeyT) (A2 : Option Addr) (c2 : Nat) (l2 : List Int) (w : World) (hr0 : Kd.C kRow w A0 l0.length l0) (hc0 : l0.length ≤ c0) (hr1 : Kd.C kKey w A1 l1.length l1) (hc1 : l1.length ≤ c1) (hr2 : Kd.C (Kd.int .i64) w A2 l2.length l2) (hc2 : l2.length ≤ c2) (hT : LaidT w) (hm : MemOk l0 l1 l2) :
 Calls Tryz.prog 10 #[.slice A0 l0.length c0, .slice A1 l1.length c1, .slice A2 l2.length c2] w fun e w' => e = .returned (.bool true) ∧ Below w.heap.size w w' := by
 have HR0 := Aside0.mk hr0
 have HC0 := Aside0.mk hc0
 have HR1 := Aside0.mk hr1
 have HC1 := Aside0.mk hc1
 have HR2 := Aside0.mk hr2
 have HC2 := Aside0.mk hc2
 have HT := Aside0.mk hT
 have HM := Aside0.mk hm
 clear hr0 hc0 hr1 hc1 hr2 hc2 hT hm
 go_enter Tryz.func10, Tryz.ntmps10
 go_wp2
 go_loopg [8, 7] l0.length (fun kq v8 v7 W => ∃ x : Int, v8 = .int .i64 x ∧ Aside0 (0 ≤ x ∧ x ≤ l0.length ∧ (kq : Int) = l0.length - x) ∧ Aside0 (kRow.R 53 W w.heap.size (fun _ => True) v7 (l0.take x.toNat)) ∧ Aside0 (Below w.heap.size w W))
 case atStart => exact ⟨0, rfl, ⟨by omega⟩, ⟨Kd.R_nil _ _ _ _ _⟩, ⟨Below.refl _ _⟩⟩
 case round =>
  obtain ⟨x, rfl, HX, HO, HB⟩ := hrel
  obtain ⟨hx0, hx1, hkq⟩ := HX.out
  by_cases hlt : x < (l0.length : Int)
  · have d1 : decide (x < (l0.length : Int)) = true := decide_eq_true hlt
    have d2 : decide (0 ≤ x) = true := decide_eq_true hx0
    obtain ⟨ad, Ar, cr, e, hx_0, hlc, hrow⟩ := at_L4 HR0.out x hx0 hlt
    cases e
    replace hx_0 := (HB.out.cell (World.block_lt_of_cell? w _ hx_0)).trans hx_0
    have hi : x.toNat < l0.length := by omega
    have hrd : rd_L4 l0 x = l0[x.toNat] := by simp [rd_L4, List.getElem?_eq_getElem hi]
    have HRL := Aside0.mk (HM.out.rows.len.2 l0[x.toNat] (List.getElem_mem hi))
    rw [← hrd] at HRL
    have htk : l0.take (x + 1).toNat = l0.take x.toNat ++ [rd_L4 l0 x] := by
     rw [show (x + 1).toNat = x.toNat + 1 by omega, take_snoc _ _ hi, hrd]
    obtain ⟨row, hrw⟩ : ∃ row, row = rd_L4 l0 x := ⟨_, rfl⟩
    rw [← hrw] at hx_0 hlc hrow HRL htk
    have HTK := Aside0.mk htk
    have HROW := Aside0.mk (Kd.C_below hrow HB.out)
    have HLT := Aside0.mk hlt
    have HKQ := Aside0.mk hkq
    have HX0 := Aside0.mk hx0
    have HWR : Aside0 (wrap64 (x + 1) = x + 1) := ⟨by have := HM.out.n0; unfold wrap64; omega⟩
    have HL1 : Aside0 ((([] : List V).length + row.length) * 32 ≤ 140737488355328) := ⟨by have := HRL.out; simp; omega⟩
    have HL2 : Aside0 (((l0.take x.toNat).length + 1) * 24 ≤ 140737488355328) := ⟨by have := HM.out.n0; rw [List.length_take]; omega⟩
    clear hlc hrow hrd hrw hkq hi htk
    go_wp2_with (first
     | (at_builtin; refine Kd.R_append_rows kV (w0 := wr) wr.heap.size rfl (.const (.slice none 0 0)) (.tmp 34) 53 36 (.agg #[(.int .u8 0), (.int .i64 0), (.string ⟨#[]⟩)]) 32 rfl Tryz.underlying53 infoV rfl (by decide) (by decide) _ [] row Ar row.length cr (fun _ => True) (fun _ => False) rfl rfl (Kd.R_nil _ _ _ _ _) HROW.out (fun x cs h => by obtain rfl := k36_open h; exact k36_mkM _ _ _ x) (fun _ h => h.elim) (fun _ _ => trivial) (Below.refl _ _) (Nat.le_refl _) HL1.out ?_; intro v1 w1 hR hb hg hat; obtain ⟨Av, cv, ev⟩ := Kd.R_slice hR; subst ev; have HO1 := Aside0.mk (Kd.R_below HO.out hb); have HB1 := Aside0.mk (HB.out.trans (hb.mono HB.out.size)); have HV1 := Aside0.mk (Kd.R_mono (Kd.R_lower (Kd.R_bound hR) HB.out.size) (ok' := fun k => wr.heap.size ≤ k) (fun k hk => hk.2.1)); have HFR : Aside0 (∀ k, wr.heap.size ≤ k → True ∧ some k ≠ u7.ownBlock) := ⟨fun k hk => ⟨trivial, fun e => by have h1 := Kd.R_lt HO.out k e.symm; omega⟩⟩; clear hR hb hg hat)
     | (at_builtin; refine Kd.R_append kRow (w0 := w) w.heap.size rfl (.tmp 30) (.tmp 36) 22 53 (.slice none 0 0) 24 rfl Tryz.underlying22 infoRow rfl (Nat.le_refl 1) (by decide) _ _ row [.slice Av row.length cv] (fun _ => True) (fun k => wr.heap.size ≤ k) rfl rfl ⟨_, rfl, HV1.out⟩ HFR.out (fun _ _ => trivial) HO1.out HB1.out HB1.out.size HL2.out ?_; intro v4 w4 hR4 hb4 hg4 hat4; have HO4 := Aside0.mk hR4; have HB4 := Aside0.mk hb4; clear hR4 hb4 hg4 hat4))
    rw [← HTK.out] at HO4
    have hlt := HLT.out
    have hk := HKQ.out
    have hx0 := HX0.out
    cases gk with
    | zero => omega
    | succ k1 =>
     go_roundg k1
     case measure => omega
     case rel => exact ⟨x + 1, by rw [HWR.out], ⟨by omega⟩, HO4, HB4⟩
  · have d1 : decide (x < (l0.length : Int)) = false := decide_eq_false hlt
    have hxn : x.toNat = l0.length := by omega
    have hO := HO.out
    rw [hxn, List.take_length] at hO
    obtain ⟨AK, cK, ek, hlk, hCK⟩ := Kd.R_reads hO
    subst ek
    have HLK := Aside0.mk hlk
    have HCK := Aside0.mk hCK
    clear HX HO hx0 hx1 hlt hkq hxn hO hlk hCK
    have hA0 : Acc wr.heap.size wr [] := Acc.nil _ _
    have HA0 := Aside0.mk hA0
    clear hA0
    go_wp2_with fail
    refine (sort_callsS A0 c0 l0 A1 c1 l1 wr (Kd.C_below HR0.out HB.out) HC0.out (Kd.C_below HR1.out HB.out) HC1.out HM.out.rows.v HM.out.keys).mono ?_
    rintro e w1 ⟨v1, r1, q1, rfl, hr1, hS, hb⟩
    obtain ⟨a1, e1, rfl⟩ := Kd.S_slice hS
    have HB1 := Aside0.mk hb
    have HA1 := Aside0.mk (HA0.out.step (Nat.le_refl _) hS (mem_sort HM.out hr1) hb)
    clear hS hb hr1 HA0
    obtain ⟨r2, q2, hf, hl⟩ := mem_cut HM.out
    have HL := Aside0.mk hl
    have HF := Aside0.mk hf
    clear hl hf
    go_wp2_with fail
    refine (bag_Cut.callsS A0 c0 l0 A1 c1 l1 0 (l0.length : Int) r2 q2 _ (Kd.C_below HR0.out (HB.out.trans (HB1.out.mono HB.out.size))) HC0.out (Kd.C_below HR1.out (HB.out.trans (HB1.out.mono HB.out.size))) HC1.out HF.out).mono ?_
    rintro e w2 ⟨v2, rfl, hS, hb⟩
    obtain ⟨a2, e2, rfl⟩ := Kd.S_slice hS
    have HB2 := Aside0.mk (HB1.out.trans (hb.mono HB1.out.size))
    have HA2 := Aside0.mk (HA1.out.step HB1.out.size hS HL.out hb)
    clear hS hb HA1 HL HF
    obtain ⟨r3, q3, hf, hl⟩ := mem_distinct HM.out
    have HL := Aside0.mk hl
    have HF := Aside0.mk hf
    clear hl hf
    go_wp2_with fail
    refine (bag_Distinct.callsS A0 c0 l0 r3 q3 _ (Kd.C_below HR0.out (HB.out.trans (HB2.out.mono HB.out.size))) HC0.out (HT.out.below (HB.out.trans (HB2.out.mono HB.out.size))) HF.out).mono ?_
    rintro e w3 ⟨v3, rfl, hS, hb⟩
    obtain ⟨a3, e3, rfl⟩ := Kd.S_slice hS
    have HB3 := Aside0.mk (HB2.out.trans (hb.mono HB2.out.size))
    have HA3 := Aside0.mk (HA2.out.step HB2.out.size hS HL.out hb)
    clear hS hb HA2 HL HF
    obtain ⟨r4, q4, hf, hl⟩ := mem_union HM.out
    have HL := Aside0.mk hl
    have HF := Aside0.mk hf
    clear hl hf
    go_wp2_with fail
    refine (bag_Union.callsS A0 c0 l0 A0 c0 l0 r4 q4 _ (Kd.C_below HR0.out (HB.out.trans (HB3.out.mono HB.out.size))) HC0.out (Kd.C_below HR0.out (HB.out.trans (HB3.out.mono HB.out.size))) HC0.out HF.out).mono ?_
    rintro e w4 ⟨v4, rfl, hS, hb⟩
    obtain ⟨a4, e4, rfl⟩ := Kd.S_slice hS
    have HB4 := Aside0.mk (HB3.out.trans (hb.mono HB3.out.size))
    have HA4 := Aside0.mk (HA3.out.step HB3.out.size hS HL.out hb)
    clear hS hb HA3 HL HF
    obtain ⟨r5, q5, hf, hl⟩ := mem_inter HM.out
    have HL := Aside0.mk hl
    have HF := Aside0.mk hf
    clear hl hf
    go_wp2_with fail
    refine (bag_Intersect.callsS A0 c0 l0 A0 c0 l0 r5 q5 _ (Kd.C_below HR0.out (HB.out.trans (HB4.out.mono HB.out.size))) HC0.out (Kd.C_below HR0.out (HB.out.trans (HB4.out.mono HB.out.size))) HC0.out (HT.out.below (HB.out.trans (HB4.out.mono HB.out.size))) HF.out).mono ?_
    rintro e w5 ⟨v5, rfl, hS, hb⟩
    obtain ⟨a5, e5, rfl⟩ := Kd.S_slice hS
    have HB5 := Aside0.mk (HB4.out.trans (hb.mono HB4.out.size))
    have HA5 := Aside0.mk (HA4.out.step HB4.out.size hS HL.out hb)
    clear hS hb HA4 HL HF
    obtain ⟨r6, q6, hf, hl⟩ := mem_except HM.out
    have HL := Aside0.mk hl
    have HF := Aside0.mk hf
    clear hl hf
    go_wp2_with fail
    refine (bag_Except.callsS A0 c0 l0 none 0 [] r6 q6 _ (Kd.C_below HR0.out (HB.out.trans (HB5.out.mono HB.out.size))) HC0.out (Kd.C_nil _ _) (Nat.le_refl _) (HT.out.below (HB.out.trans (HB5.out.mono HB.out.size))) HF.out).mono ?_
    rintro e w6 ⟨v6, rfl, hS, hb⟩
    obtain ⟨a6, e6, rfl⟩ := Kd.S_slice hS
    have HB6 := Aside0.mk (HB5.out.trans (hb.mono HB5.out.size))
    have HA6 := Aside0.mk (HA5.out.step HB5.out.size hS HL.out hb)
    clear hS hb HA5 HL HF
    obtain ⟨r7, q7, hf, hl⟩ := mem_group HM.out
    have HL := Aside0.mk hl
    have HF := Aside0.mk hf
    clear hl hf
    go_wp2_with fail
    obtain ⟨W6, hW6⟩ : ∃ W6, W6 = w6.alloc (.cells #[.int .u8 0, .int .i64 0, .bool false] 55) := ⟨_, rfl⟩
    have HG6 : Aside0 (kAgg.C W6 (some ⟨w6.heap.size, 0, none⟩) [(⟨0, 0, false⟩ : AggT)].length [⟨0, 0, false⟩]) := ⟨by rw [hW6]; exact C_one (⟨0, 0, false⟩ : AggT) (new_at w6 _ _) rfl (kAgg.K_of_M (base := 0) (ok := fun _ => True) (k55_mkM _ _ _ ⟨0, 0, false⟩))⟩
    have hb6 : Below w6.heap.size w6 W6 := by rw [hW6]; exact (Below.refl _ w6).alloc (Nat.le_refl _) _
    have HB6b := Aside0.mk (HB6.out.trans (hb6.mono HB6.out.size))
    have HA6b := Aside0.mk (HA6.out.below hb6)
    rw [← hW6]
    clear hb6 hW6 HA6
    refine (bag_Group.callsS A0 c0 l0 A2 c2 l2 (some ⟨w6.heap.size, 0, none⟩) 1 [⟨0, 0, false⟩] r7 q7 W6 (Kd.C_below HR0.out (HB.out.trans (HB6b.out.mono HB.out.size))) HC0.out (Kd.C_below HR2.out (HB.out.trans (HB6b.out.mono HB.out.size))) HC2.out HG6.out (Nat.le_refl _) (HT.out.below (HB.out.trans (HB6b.out.mono HB.out.size))) HF.out).mono ?_
    rintro e w7 ⟨v7, rfl, hS, hb⟩
    obtain ⟨a7, e7, rfl⟩ := Kd.S_slice hS
    have HB7 := Aside0.mk (HB6b.out.trans (hb.mono HB6b.out.size))
    have HA7 := Aside0.mk (HA6b.out.step HB6b.out.size hS HL.out hb)
    clear hS hb HA6b HL HF HG6
    have o0 : (w7.alloc (.cells #[.slice a7 r7.length e7, .int .i64 q7] 45)).cell? ⟨w7.heap.size, 0, none⟩ = some (.slice a7 r7.length e7) := (blk_cell (new_at w7 _ _) 0).trans rfl
    go_wp2_with fail
    obtain ⟨wK, hwK⟩ : ∃ wK, wK = wr := ⟨_, rfl⟩
    subst hwK
    obtain ⟨rs, hrs⟩ : ∃ rs : List Res, rs = [⟨.slice a1 r1.length e1, r1, wK.heap.size, w1.heap.size⟩, ⟨.slice a2 r2.length e2, r2, w1.heap.size, w2.heap.size⟩, ⟨.slice a3 r3.length e3, r3, w2.heap.size, w3.heap.size⟩, ⟨.slice a4 r4.length e4, r4, w3.heap.size, w4.heap.size⟩, ⟨.slice a5 r5.length e5, r5, w4.heap.size, w5.heap.size⟩, ⟨.slice a6 r6.length e6, r6, w5.heap.size, w6.heap.size⟩, ⟨.slice a7 r7.length e7, r7, W6.heap.size, w7.heap.size⟩] := ⟨_, rfl⟩
    have hA : Acc wK.heap.size w7 rs := by rw [hrs]; exact HA7.out
    have hb8 := below2 w7 (.cells #[.slice a7 r7.length e7, .int .i64 q7] 45) (.cells #[.slice a1 r1.length e1, .slice a2 r2.length e2, .slice a3 r3.length e3, .slice a4 r4.length e4, .slice a5 r5.length e5, .slice a6 r6.length e6, .slice a7 r7.length e7] 22)
    have hn8 := new_at1 w7 (.cells #[.slice a7 r7.length e7, .int .i64 q7] 45) #[.slice a1 r1.length e1, .slice a2 r2.length e2, .slice a3 r3.length e3, .slice a4 r4.length e4, .slice a5 r5.length e5, .slice a6 r6.length e6, .slice a7 r7.length e7] 22
    have hm8 : (rs.map (·.v)).toArray = #[.slice a1 r1.length e1, .slice a2 r2.length e2, .slice a3 r3.length e3, .slice a4 r4.length e4, .slice a5 r5.length e5, .slice a6 r6.length e6, .slice a7 r7.length e7] := by rw [hrs]; rfl
    have hl8 : rs.length = 7 := by rw [hrs]; rfl
    rw [← hm8] at hb8 hn8
    rw [← hm8]
    obtain ⟨W8, hW8⟩ : ∃ W8, W8 = (w7.alloc (.cells #[.slice a7 r7.length e7, .int .i64 q7] 45)).alloc (.cells (rs.map (·.v)).toArray 22) := ⟨_, rfl⟩
    rw [← hW8] at hb8 hn8
    rw [← hW8]
    obtain ⟨b, hbb⟩ : ∃ b, b = w7.heap.size + 1 := ⟨_, rfl⟩
    rw [← hbb] at hn8
    rw [← hbb]
    have HI0 : Aside0 (MemInv wK.heap.size b wK W8 rs 0) := ⟨⟨HB7.out.trans (hb8.mono HB7.out.size), hn8, fun r hr => ((hA.below hb8).ok r (by simpa using hr)).1⟩⟩
    have HH : Aside0 (∀ r ∈ rs, wK.heap.size ≤ r.lo ∧ r.hi ≤ b) := ⟨fun r hr => ⟨(hA.ok r hr).2.1, by have := (hA.ok r hr).2.2; omega⟩⟩
    have HLE := Aside0.mk hA.le
    have HP := Aside0.mk hA.pw
    have HL8 := Aside0.mk hl8
    have HBK := HB
    obtain ⟨kS, hkS⟩ := (sameLists_refl l0 HM.out.rows.2 HM.out.rows.len.2).rounds
    have HKS := Aside0.mk hkS
    clear hrs hA hb8 hn8 hm8 hl8 hW8 hbb HA7 HB1 HB2 HB3 HB4 HB5 HB6 HB6b HB7 o0 HB hkS
    go_loopg [23] 7 (fun kq v23 W => ∃ x : Int, v23 = .int .i64 x ∧ Aside0 (0 ≤ x ∧ x ≤ 7 ∧ (kq : Int) = 7 - x) ∧ Aside0 (MemInv wK.heap.size b wK W rs x.toNat))
    case atStart => exact ⟨0, rfl, ⟨by omega⟩, HI0⟩
    case round =>
     clear HI0
     obtain ⟨x, rfl, HX, HI⟩ := hrel
     obtain ⟨hx0, hx1, hkq⟩ := HX.out
     by_cases hlt : x < 7
     · have d1 : decide (x < 7) = true := decide_eq_true hlt
       have d2 : decide (0 ≤ x) = true := decide_eq_true hx0
       have hxl : x.toNat < rs.length := by rw [HL8.out]; omega
       obtain ⟨r, hr⟩ : ∃ r, r = rs[x.toNat] := ⟨_, rfl⟩
       have hok : ResOk wr r := HI.out.ok r (by rw [hr, List.drop_eq_getElem_cons hxl]; exact List.mem_cons_self)
       have hmem : r ∈ rs := by rw [hr]; exact List.getElem_mem hxl
       obtain ⟨A, c, hv⟩ := Kd.S_slice hok.s
       have hcell : ∀ (W : World) (n : Nat), MemInv wK.heap.size b wK W rs n → W.cell? ⟨b, x.toNat, none⟩ = some (.slice A r.l.length c) := fun W n h => by
        refine (blk_cell h.blk x.toNat).trans ?_
        rw [List.getElem?_toArray, List.getElem?_map, List.getElem?_eq_getElem hxl, ← hr, ← hv]
        rfl
       have HOK := Aside0.mk hok
       have HCELL := Aside0.mk hcell
       have hx_0 := hcell wr _ HI.out
       have HLT := Aside0.mk hlt
       have HKQ := Aside0.mk hkq
       have HX0 := Aside0.mk hx0
       have HXL := Aside0.mk hxl
       have HLO : Aside0 (r.lo ≤ wr.heap.size) := ⟨by have h1 := HLE.out r hmem; have h2 := (HH.out r hmem).2; have h3 := blk_lt HI.out.blk; omega⟩
       have HSV : Aside0 (Kd.S kRow 53 wr r.lo (fun k => k < r.hi) (.slice A r.l.length c) r.l) := ⟨by rw [← hv]; exact hok.s⟩
       have HST : Aside0 (∀ W, Kept r.lo r.hi wr W → MemInv wK.heap.size b wK W rs (x.toNat + 1)) := ⟨fun W h => HI.out.step hxl HH.out HP.out (by rw [← hr]; exact h)⟩
       have HWR : Aside0 (wrap64 (x + 1) = x + 1) := ⟨by unfold wrap64; omega⟩
       clear hr hok hmem hv hcell hkq
       go_wp2_with fail
       refine (mark_calls A c r.l r.lo r.hi wr HSV.out HLO.out HOK.out.len.1 HOK.out.len.2).mono ?_
       rintro e w1 ⟨rfl, ⟨out, hS, hout⟩, hk⟩
       have HI1 := Aside0.mk (HST.out w1 hk)
       have hx_1 := HCELL.out w1 _ HI1.out
       obtain ⟨hol, hev⟩ := marked_mark r.l out HOK.out.len.1 HOK.out.len.2 hout
       obtain ⟨k, hk2⟩ := hev.rounds
       obtain ⟨hrl, hlc, hC⟩ := Kd.S_reads' hS
       have HMK : Aside0 (Calls Tryz.prog 39 #[.slice A r.l.length c] w1 fun e w' => e = .returned (.bool true) ∧ Below w1.heap.size w1 w') := ⟨by
        rw [← hol] at hlc ⊢
        exact w6_marked.calls k A c out true w1 hC hlc hk2⟩
       clear hk hol hev hk2 hlc hC hS hout hx_0 hrl
       go_wp2_with fail
       with_reducible refine HMK.out.mono ?_
       rintro e w2 ⟨rfl, hb2⟩
       have HI2 := Aside0.mk (HI1.out.below HI1.out.low.size (fun r hr => (HH.out r hr).2) hb2)
       clear hb2 hx_1 HMK
       go_wp2_with fail
       with_reducible refine (r6_SameLists.calls kS A0 c0 l0 AK cK l0 true w2 (Kd.C_below HR0.out (HBK.out.trans (HI2.out.low.mono HBK.out.size))) HC0.out (Kd.C_below HCK.out HI2.out.low) HLK.out HKS.out).mono ?_
       rintro e w3 ⟨rfl, hb3⟩
       have HI3 := Aside0.mk (HI2.out.below HI2.out.low.size (fun r hr => (HH.out r hr).2) hb3)
       clear hb3 HI1 HI2
       go_wp2
       have hlt := HLT.out
       have hk := HKQ.out
       have hx0 := HX0.out
       cases gk with
       | zero => omega
       | succ k1 =>
        go_roundg k1
        case measure => omega
        case rel => exact ⟨x + 1, by first | rfl | rw [HWR.out], ⟨by omega⟩, ⟨by rw [show (x + 1).toNat = x.toNat + 1 by omega]; exact HI3.out⟩⟩
     · have d1 : decide (x < 7) = false := decide_eq_false hlt
       have HBW := Aside0.mk (HBK.out.trans (HI.out.low.mono HBK.out.size))
       clear HX hx0 hx1 hkq hlt
       go_wp2_with fail
       with_reducible refine (awake_calls wr (HT.out.below HBW.out)).mono ?_
       rintro e w9 ⟨rfl, hb9⟩
       have HB9 := Aside0.mk (HBW.out.trans (hb9.mono HBW.out.size))
       clear hb9
       go_wp2
       go_ret
       exact ⟨rfl, HB9.out⟩
open Classical in
noncomputable def w6_BagMemory.f (_k : Nat) (l0 : List (List V)) (l1 : List KeyT) (l2 : List Int) : Option Bool := if MemOk l0 l1 l2 then some true else none
theorem w6_BagMemory.calls (k : Nat) (A0 : Option Addr) (c0 : Nat) (l0 : List (List V)) (A1 : Option Addr) (c1 : Nat) (l1 : List KeyT) (A2 : Option Addr) (c2 : Nat) (l2 : List Int) (r : Bool) (w : World) (hr0 : Kd.C kRow w A0 l0.length l0) (hc0 : l0.length ≤ c0) (hr1 : Kd.C kKey w A1 l1.length l1) (hc1 : l1.length ≤ c1) (hr2 : Kd.C (Kd.int .i64) w A2 l2.length l2) (hc2 : l2.length ≤ c2) (hT : LaidT w) (h : w6_BagMemory.f k l0 l1 l2 = some r) :
 Calls Tryz.prog 10 #[.slice A0 l0.length c0, .slice A1 l1.length c1, .slice A2 l2.length c2] w fun e w' => e = .returned (.bool r) ∧ Below w.heap.size w w' := by
 unfold w6_BagMemory.f at h
 split at h
 · rename_i hm
   obtain rfl : true = r := Option.some.inj h
   exact bagMemory_calls A0 c0 l0 A1 c1 l1 A2 c2 l2 w hr0 hc0 hr1 hc1 hr2 hc2 hT hm
 · cases h
theorem law_memory (l0 : List (List V)) (l1 : List KeyT) (l2 : List Int) (h : MemOk l0 l1 l2) : ∃ k, w6_BagMemory.f k l0 l1 l2 = some true := ⟨0, if_pos h⟩
end Go.Proofs.YtecgkcgfeghhgaaGreatDoor.PAll
set_option linter.unusedVariables false
set_option linter.unusedSimpArgs false
namespace Go.Proofs.YtecgkcgfeghhgaaGreatDoor.PAll
open Go.RowKit Go.Proofs.YtecgkcgfeghhgaaGreatDoorW.PrintWords Go.Proofs.YtecgkcgfeghhgaaGreatDoorW.PrintLast Go.Proofs.YtecgkcgfeghhgaaGreatDoorW.PrintMore
open Go.ChangeShapes Go.WideShapes Go.Deep
section
variable {H : Type} {enc : TypeId × Value → H} {w : World} {base : Nat} {spare : Nat → Bool} {held : Bool}
instance : Inhabited AggT := ⟨⟨0, 0, false⟩⟩
end
theorem bulkL_size {l : List (List V)} : ∀ row ∈ l, ∀ v ∈ row, v.f2.size + 3 ≤ bulkL l := fun row hr v hv => by
 have h1 := sum_mem (List.mem_map_of_mem (f := bulkR) hr)
 have h2 := sum_mem (List.mem_map_of_mem (f := bulkV) hv)
 have e1 : bulkR row = (row.map bulkV).sum + 1 := rfl
 have e2 : bulkV v = v.f2.size + 1 := rfl
 have e3 : bulkL l = (l.map bulkR).sum + 1 := rfl
 omega
theorem bulkL_len {l : List (List V)} : l.length ≤ bulkL l := by
 have h1 := sum_len bulkR (fun r => by unfold bulkR; omega) l
 unfold bulkL
 omega
end Go.Proofs.YtecgkcgfeghhgaaGreatDoor.PAll
