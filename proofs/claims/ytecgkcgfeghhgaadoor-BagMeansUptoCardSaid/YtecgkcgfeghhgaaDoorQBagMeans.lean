/- The row of BagMeans (second form: what it reads is of bulk at most 2^20) and its card. Joined by a program of this session out of its texts. -/
import Derived.Test.YtecgkcgfeghhgaaDoorQBagMeans3
import Derived.Below
import Derived.Deep.Draws
import Derived.Deep.AppendLies
import Derived.Maps.AppendAt
import Derived.OwnWalk
import Derived.Laws.BytesArg
import Derived.Laws.MakeOwn
import Derived.Laws.OwnMore
import Derived.Deep.OwnRows
import Derived.Tactics
import Derived.Lib.ConvBytes
import Derived.Laws.Slices
import Derived.WalkKit
import Derived.KernelRfl
import Derived.RowKit3
import Derived.Deep.LoopGhost
import Derived.Deep.QuietTactic
import Derived.BigQuiet
import Derived.WideLaws
import Derived.Deep.DeepCutAuto
import Derived.Deep.CutBlock
import Derived.Deep.RegionHeld3
import Derived.Laws.Rows
import Derived.Lib.AppendStr
import Derived.ArgAppend
import Derived.Laws.IdiomCopy
import Derived.RowKit
import Derived.OrdersHeld
import Derived.Laws.BitsLemmas
import Derived.Laws.StructEq
import Derived.Shelf.Strings.BuilderK
import Derived.Shelf.Spec.SlicesGrow
import Derived.Shelf.SlGeneric
import Derived.Ground.Names8Prog
import Derived.Shelf.SlSortCmp.NoneTotal
import Derived.Ground.SlsfProg
import Derived.Ground.NamesProg
import Derived.Shelf.Spec.BitsCarry
import Derived.Ground.Names7Prog
import Derived.Shelf.Strings.Builder1
import Derived.Shelf.Small.Bits
import Derived.Shelf.Small.Strs
import Derived.Shelf.Strings.BuilderF
import Derived.Shelf.Strconv.Itoa0
import Derived.Shelf.Strconv.Itoa1
import Derived.Shelf.LaysM
import Derived.Shelf.Strconv.Itoa2
import Derived.Shelf.Strconv.Itoa3
import Derived.Shelf.Strconv.Itoa4
import Derived.Shelf.Strings.BuilderCap
import Derived.Maps.OwnOps
import Derived.ChangeArms
import Derived.Deep.Slices
import Derived.Deep.Strs
import Derived.Lib.ItoaLen
import Derived.BigRegion
import Derived.RegionTactic
import Derived.Sort.Statements
import Derived.WalkSpells
import Derived.WalkMore
import Derived.Lib.ItoaNum
import Derived.Lib.BitFns
import Derived.Handy
import Derived.ProofKit
import Derived.OpenShut
import Derived.Carry
import Derived.Deep.DeepHandedRow
import Derived.Lib.LaidTab
set_option maxHeartbeats 8000000
set_option maxRecDepth 100000
set_option linter.unusedVariables false
set_option linter.unusedSimpArgs false
namespace Go.Proofs.YtecgkcgfeghhgaaDoor.PAll
open Go.RowKit Go.Proofs.YtecgkcgfeghhgaaDoorW.PrintWords Go.Proofs.YtecgkcgfeghhgaaDoorW.PrintLast Go.Proofs.YtecgkcgfeghhgaaDoorW.PrintMore
def GroupsPost (w : World) (cols : List Int) (l : List (List V)) (e : Ending) (w' : World) : Prop :=
 ∃ (v : Value) (m : Nat) (kv : List (ByteArray × LV)), e = .returned (.tuple #[v, .map (some m)]) ∧ kRow.R 58 w' w.heap.size (fun _ => True) v (keysR cols l) ∧ KV.Is w' m (fun p : LV => p.1) kv ∧
  (∀ s p, KV.get kv s = some p → ∃ A c, p.1 = .slice A p.2.length c ∧ p.2.length ≤ c ∧ kRow.C w' A p.2.length p.2) ∧ (∀ s, ((KV.get kv s).map (·.2)).getD [] = listR cols l s) ∧ Below w.heap.size w w'
open Classical in
theorem groups_calls (A0 : Option Addr) (c0 : Nat) (l0 : List (List V)) (A1 : Option Addr) (c1 : Nat) (l1 : List Int) (w : World) (hT : LaidT w) (hr0 : Kd.C kRow w A0 l0.length l0) (hr1 : Kd.C (Kd.int .i64) w A1 l1.length l1) (hn0 : l0.length ≤ 1099511627776) (hn1 : l1.length ≤ 1099511627776) (hne : l1 ≠ [])
 (hin : ∀ row ∈ l0, ∀ n ∈ l1, 0 ≤ n ∧ n < (row.length : Int)) (hkey : ∀ row ∈ l0, RowOk (keyOf l1 row) ∧ ∀ v ∈ keyOf l1 row, validV v = true) :
 Calls Tryd.prog 32 #[.slice A0 l0.length c0, .slice A1 l1.length c1] w fun e w' => GroupsPost w l1 l0 e w' := by
 have hmm : ∀ (w : World), (Instr.makeMap 74 none).run Tryd.prog w = .ok (.map (some w.heap.size)) (w.alloc (.map #[] 0)) := fun _ => by kernel_rfl
 have hz : ((l1.length : Int) == 0) = false := by
  have : l1.length ≠ 0 := fun e => hne (List.eq_nil_of_length_eq_zero e)
  simp; omega
 have HT := Aside0.mk hT
 have HR0 := Aside0.mk hr0
 have HR1 := Aside0.mk hr1
 have HN0 := Aside0.mk hn0
 have HN1 := Aside0.mk hn1
 have HNE := Aside0.mk hne
 have HIN := Aside0.mk hin
 have HKEY := Aside0.mk hkey
 clear hT hr0 hr1 hn0 hn1 hne hin hkey
 go_enter Tryd.func32, Tryd.ntmps32
 go_wp2
 clear hmm hz
 have B0 := Aside0.mk ((Below.refl w.heap.size w).alloc (Nat.le_refl _) (.map #[] 0))
 have M0 : Aside0 (LM w (w.alloc (.map #[] 0)) w.heap.size []) := ⟨⟨KV.Is.made w _, fun s p hp => by simp [KV.get] at hp, fun s t p q hp => by simp [KV.get] at hp⟩⟩
 go_loopg [24, 4] l0.length (fun kq v24 v4 W => ∃ (x : Int) (kv : List (ByteArray × LV)) (keys : List (List V)) (seen : List ByteArray), v24 = .int .i64 x ∧ Aside0 (0 ≤ x ∧ x ≤ l0.length ∧ (kq : Int) = l0.length - x) ∧ Aside0 (LM w W w.heap.size kv) ∧ Aside0 (kRow.R 58 W w.heap.size (KOk w kv) v4 keys) ∧ Aside0 (keys ++ distR seen ((l0.drop x.toNat).map (keyOf l1)) = distR [] (l0.map (keyOf l1)) ∧ keys.length ≤ x ∧ (∀ s, (KV.get kv s).isSome = decide (s ∈ seen)) ∧ (∀ s, ((KV.get kv s).map (·.2)).getD [] = listR l1 (l0.take x.toNat) s) ∧ ∀ s p, KV.get kv s = some p → (p.2.length : Int) ≤ x) ∧ Aside0 (Below w.heap.size w W))
 case atStart => exact ⟨0, [], [], [], rfl, ⟨by omega⟩, M0, ⟨Kd.R_nil _ _ _ _ _⟩, ⟨by simp, by simp, fun s => by simp [KV.get], fun s => by simp [KV.get, listR], fun s p hp => by simp [KV.get] at hp⟩, B0⟩
 case round =>
  clear M0 B0
  obtain ⟨x, kv, keys, seen, rfl, HX, HM, HO, HD, HB⟩ := hrel
  obtain ⟨hx0, hx1, hkq⟩ := HX.out
  by_cases hlt : x < (l0.length : Int)
  · have c1' : decide (x < (l0.length : Int)) = true := decide_eq_true hlt
    have c2 : decide (0 ≤ x) = true := decide_eq_true hx0
    obtain ⟨ad, Ar, cr, e, hx_0, hlc, hrow⟩ := at_L4 HR0.out x hx0 hlt
    cases e
    replace hx_0 := (HB.out.cell (World.block_lt_of_cell? w _ hx_0)).trans hx_0
    have hi : x.toNat < l0.length := by omega
    have hrd : rd_L4 l0 x = l0[x.toNat] := by simp [rd_L4, List.getElem?_eq_getElem hi]
    have hin := HIN.out (rd_L4 l0 x) (by rw [hrd]; exact List.getElem_mem hi)
    have hky := HKEY.out (rd_L4 l0 x) (by rw [hrd]; exact List.getElem_mem hi)
    have hdd := HD.out.1
    rw [drop_cons l0 x.toNat hi, ← hrd, List.map_cons] at hdd
    have htk : l0.take (x + 1).toNat = l0.take x.toNat ++ [rd_L4 l0 x] := by
     rw [show (x + 1).toNat = x.toNat + 1 by omega, take_snoc _ _ hi, hrd]
    obtain ⟨row, hrw⟩ : ∃ row, row = rd_L4 l0 x := ⟨_, rfl⟩
    rw [← hrw] at hx_0 hlc hrow hin hky hdd htk
    have HROW := Aside0.mk hrow
    have HLC := Aside0.mk hlc
    have HINR := Aside0.mk hin
    have HKY := Aside0.mk hky
    have HDD := Aside0.mk hdd
    have HTK := Aside0.mk htk
    have HLT := Aside0.mk hlt
    have HKQ := Aside0.mk hkq
    have HX0 := Aside0.mk hx0
    have HWR : Aside0 (wrap64 (x + 1) = x + 1) := ⟨by have := HN0.out; unfold wrap64; omega⟩
    clear hlc hrow hrd hrw hkq hi hin hky hdd htk
    go_wp2
    obtain ⟨wO, hwO⟩ : ∃ wO, wO = wr := ⟨_, rfl⟩
    subst hwO
    obtain ⟨gO, hgO⟩ : ∃ gO, gO = gk := ⟨_, rfl⟩
    subst hgO
    go_loopg [30, 8] l1.length (fun kq v30 v8 W => ∃ y : Int, v30 = .int .i64 y ∧ Aside0 (0 ≤ y ∧ y ≤ l1.length ∧ (kq : Int) = l1.length - y) ∧ Aside0 (kV.R 27 W wO.heap.size (fun _ => True) v8 ((l1.take y.toNat).map (fun n => rd_T27 row n))) ∧ Aside0 (Below wO.heap.size wO W))
    case atStart => exact ⟨0, rfl, ⟨by omega⟩, ⟨by simpa using Kd.R_nil _ _ _ _ _⟩, ⟨Below.refl _ _⟩⟩
    case round =>
     obtain ⟨y, rfl, HY, HK, HBI⟩ := hrel
     obtain ⟨hy0, hy1, hkq⟩ := HY.out
     by_cases hly : y < (l1.length : Int)
     · have c1 : decide (y < (l1.length : Int)) = true := decide_eq_true hly
       have c2 : decide (0 ≤ y) = true := decide_eq_true hy0
       obtain ⟨ad1, e, hy_0⟩ := Kd.at_int HR1.out y hy0 hly
       cases e
       have hbw : Below w.heap.size w wr := HB.out.trans (HBI.out.mono HB.out.size)
       replace hy_0 := (hbw.cell (World.block_lt_of_cell? w _ hy_0)).trans hy_0
       have hj : y.toNat < l1.length := by omega
       have hrd : rd l1 y = l1[y.toNat] := by simp [rd, List.getElem?_eq_getElem hj]
       obtain ⟨hn0, hn1⟩ := HINR.out (rd l1 y) (by rw [hrd]; exact List.getElem_mem hj)
       have htk2 : (l1.take (y + 1).toNat).map (fun n => rd_T27 row n) = (l1.take y.toNat).map (fun n => rd_T27 row n) ++ [rd_T27 row (rd l1 y)] := by
        rw [show (y + 1).toNat = y.toNat + 1 by omega, take_snoc _ _ hj, List.map_append, hrd]; rfl
       obtain ⟨n, hn⟩ : ∃ n, n = rd l1 y := ⟨_, rfl⟩
       rw [← hn] at hy_0 hn0 hn1 htk2
       have d1 : decide (0 ≤ n) = true := decide_eq_true hn0
       have d2 : decide (n < (row.length : Int)) = true := decide_eq_true hn1
       obtain ⟨adA, e, ha_0, ha_1, ha_2⟩ := at_T27 HROW.out n hn0 hn1
       cases e
       replace ha_0 := (hbw.cell (World.block_lt_of_cell? w _ ha_0)).trans ha_0
       replace ha_1 := (hbw.cell (World.block_lt_of_cell? w _ ha_1)).trans ha_1
       replace ha_2 := (hbw.cell (World.block_lt_of_cell? w _ ha_2)).trans ha_2
       obtain ⟨v, hv⟩ : ∃ v, v = rd_T27 row n := ⟨_, rfl⟩
       rw [← hv] at ha_0 ha_1 ha_2 htk2
       have HTK2 := Aside0.mk htk2
       have HLY := Aside0.mk hly
       have HKQ2 := Aside0.mk hkq
       have HY0 := Aside0.mk hy0
       have HWY : Aside0 (wrap64 (y + 1) = y + 1) := ⟨by have := HN1.out; unfold wrap64; omega⟩
       have HLEN : Aside0 ((((l1.take y.toNat).map (fun n => rd_T27 row n)).length + 1) * 32 ≤ 140737488355328) := ⟨by
        rw [List.length_map, List.length_take]
        have := HN1.out
        omega⟩
       clear htk2 hkq hv hn hrd hj hbw hy1
       go_wp2_with (at_builtin; refine Kd.R_append kV (w0 := wO) wO.heap.size rfl (.tmp 34) (.tmp 39) 58 27 (.agg #[(.int .u8 0), (.int .i64 0), (.string ⟨#[]⟩)]) 32 rfl Tryd.underlying58 infoV rfl (by decide) (by decide) _ _ v [.int .u8 v.f0, .int .i64 v.f1, .string v.f2] (fun _ => True) (fun _ => False) rfl rfl (k27_mkM _ _ _ v) (fun _ h => h.elim) (fun _ _ => trivial) HK.out HBI.out HBI.out.size HLEN.out ?_; intro v6 w6 hR4 hb4 hg4 hat4; have HO4 := Aside0.mk hR4; have HB4 := Aside0.mk hb4; clear hR4 hb4 hg4 hat4)
       have hk := HKQ2.out
       have hly := HLY.out
       have hy0 := HY0.out
       cases gk with
       | zero => omega
       | succ k1 =>
        go_roundg k1
        case measure => omega
        case rel => exact ⟨y + 1, by rw [HWY.out], ⟨by omega⟩, ⟨by rw [HTK2.out]; exact HO4.out⟩, HB4⟩
     · have c1 : decide (y < (l1.length : Int)) = false := decide_eq_false hly
       have hkk : (l1.take y.toNat).map (fun n => rd_T27 row n) = keyOf l1 row := by
        rw [List.take_of_length_le (by omega)]; rfl
       rw [hkk] at HK
       clear hkk HY hy0 hy1 hkq hly
       obtain ⟨key, hkey⟩ : ∃ key, key = keyOf l1 row := ⟨_, rfl⟩
       rw [← hkey] at HK HKY HDD
       have HKE := Aside0.mk hkey
       clear hkey
       obtain ⟨Ak, ck, ek, hlk, hCk⟩ := Kd.R_reads HK.out
       subst ek
       have HCK := Aside0.mk hCk
       have HLK := Aside0.mk hlk
       clear hCk hlk
       have HBB := Aside0.mk (HB.out.trans (HBI.out.mono HB.out.size))
       go_wp2_with fail
       refine (name_calls Ak ck key wr (HT.out.below HBB.out) HCK.out HLK.out HKY.out.1.1 HKY.out.1.2.1 HKY.out.1.2.2).mono ?_
       rintro e wN ⟨rfl, hbn⟩
       have hON : Below wO.heap.size wO wN := HBI.out.trans (hbn.mono HBI.out.size)
       have HSZ := Aside0.mk hON.size
       have HMN := Aside0.mk (HM.out.below hON)
       have HON := Aside0.mk (Kd.R_below HO.out hON)
       have HKN := Aside0.mk (Kd.R_mono (Kd.R_lower (Kd.R_bound (Kd.R_below HK.out hbn)) HB.out.size) (ok' := fun k => wO.heap.size ≤ k) (fun k hk => hk.2.1))
       have HBN := Aside0.mk (HBB.out.trans (hbn.mono HBB.out.size))
       have HFR : Aside0 (∀ k, wO.heap.size ≤ k → KOk w kv k ∧ some k ≠ u4.ownBlock) := ⟨fun k hk => ⟨⟨fun e => by have := HM.out.is.lt; omega, fun s p hp e => by have := Kd.R_lt (HM.out.own s p hp) k e; omega⟩, fun e => by have := Kd.R_lt HO.out k e.symm; omega⟩⟩
       have HKL : Aside0 ((keys.length + 1) * 24 ≤ 140737488355328) := ⟨by have := HD.out.2.1; have := HLT.out; have := HN0.out; omega⟩
       clear hbn hON
       by_cases hz : nameOf key ∈ seen
       · obtain ⟨p, hp⟩ : ∃ p, KV.get kv (nameOf key) = some p := Option.isSome_iff_exists.1 (by rw [HD.out.2.2.1]; exact decide_eq_true hz)
         obtain ⟨v0, r0⟩ := p
         have HGT := Aside0.mk hp
         have HZ := Aside0.mk hz
         have HRO := Aside0.mk (HMN.out.own _ _ hp)
         have HLE : Aside0 ((r0.length : Int) ≤ x) := ⟨HD.out.2.2.2.2 _ _ hp⟩
         have HL2 : Aside0 ((r0.length + 1) * 24 ≤ 140737488355328) := ⟨by have := HLE.out; have := HLT.out; have := HN0.out; omega⟩
         clear hz hp
         go_wp2_with (first
          | (at_lookup; refine KV.law_lookup_ok _ rfl _ _ 74 rfl 9 37 Tryd.underlying9 Tryd.underlying74 (.slice none 0 0) (zeroRows _) w.heap.size (fun p : LV => p.1) kv rfl HMN.out.is (nameOf key) rfl v0 (by rw [HGT.out]; rfl) true (by rw [HGT.out]; rfl) ?_)
          | (at_lookup; refine KV.law_lookup _ rfl _ _ 74 rfl 9 37 Tryd.underlying9 Tryd.underlying74 (.slice none 0 0) (zeroRows _) w.heap.size (fun p : LV => p.1) kv rfl HMN.out.is (nameOf key) rfl v0 (by rw [HGT.out]; rfl) ?_)
          | (at_builtin; refine Kd.R_append (relK w).kd (w0 := w) w.heap.size rfl (.tmp 60) (.tmp 62) 37 58 (.slice none 0 0) 24 rfl Tryd.underlying37 infoRow rfl (Nat.le_refl 1) (by decide) _ r0 row [.slice Ar row.length cr] (fun k => k ≠ w.heap.size) (fun _ => False) rfl rfl ⟨Ar, cr, rfl, HLC.out, HROW.out⟩ (fun _ h => h.elim) (fun k hk e => by have := HMN.out.is.lt; omega) HRO.out HBN.out HBN.out.size HL2.out ?_; intro v7 w7 hR7 hb7 hg7 hat7; have HR7 := Aside0.mk hR7; have HB7 := Aside0.mk hb7; have HG7 := Aside0.mk hg7; have HA7 := Aside0.mk hat7; have HI7 := Aside0.mk (HMN.out.is.grown hg7 (fun e => HRO.out.1 _ e.symm rfl)); clear hR7 hb7 hg7 hat7)
          | (at_mapUpdate; refine KV.law_update _ rfl _ _ _ 74 rfl 9 37 Tryd.underlying9 Tryd.underlying74 w.heap.size (fun p : LV => p.1) kv rfl HI7.out (nameOf key) rfl (v7, r0 ++ [row]) rfl ?_; intro w8 hM8 hg8; have HM8 := Aside0.mk hM8; have HG8 := Aside0.mk hg8; clear hM8 hg8))
         have hlt := HLT.out
         have hk := HKQ.out
         have hx0 := HX0.out
         have hd := HD.out
         cases gO with
         | zero => omega
         | succ k1 =>
          go_roundg k1
          case measure => omega
          case rel =>
           refine ⟨x + 1, KV.put kv (nameOf key) (v7, r0 ++ [row]), keys, seen, by rw [HWR.out], ⟨by omega⟩, ⟨HMN.out.put (.inl HGT.out) HR7.out HG7.out HA7.out HM8.out HG8.out⟩, ⟨KR_put HON.out (.inl HGT.out) HG7.out HA7.out HG8.out⟩, ⟨?_, by omega, ?_, ?_, ?_⟩, ⟨HB7.out.grown HG8.out HB7.out.size (fun k hk => by cases hk; exact Nat.le_refl _)⟩⟩
           · have hdd := HDD.out
             rw [distR, if_pos HZ.out] at hdd
             rw [show (x + 1).toNat = x.toNat + 1 by omega]
             simpa using hdd
           · intro s
             by_cases hs : s = nameOf key
             · subst hs; rw [KV.get_put_same]; simp [HZ.out]
             · rw [KV.get_put_other _ hs, hd.2.2.1]; try simp [hs]
           · rw [HTK.out, HKE.out]
             exact list_put hd.2.2.2.1 (by rw [← HKE.out, HGT.out]; rfl)
           · exact len_put hd.2.2.2.2 _ _ (by have := HLE.out; simp; omega)
       · have hgn : KV.get kv (nameOf key) = none := by
          have := HD.out.2.2.1 (nameOf key)
          rw [decide_eq_false hz] at this
          exact Option.isNone_iff_eq_none.1 (by simpa using this)
         have HGT := Aside0.mk hgn
         have HZ := Aside0.mk hz
         clear hz hgn
         go_wp2_with (first
          | (at_lookup; refine KV.law_lookup_ok _ rfl _ _ 74 rfl 9 37 Tryd.underlying9 Tryd.underlying74 (.slice none 0 0) (zeroRows _) w.heap.size (fun p : LV => p.1) kv rfl HMN.out.is (nameOf key) rfl (.slice none 0 0) (by rw [HGT.out]; rfl) false (by rw [HGT.out]; rfl) ?_)
          | (at_lookup; refine KV.law_lookup _ rfl _ _ 74 rfl 9 37 Tryd.underlying9 Tryd.underlying74 (.slice none 0 0) (zeroRows _) w.heap.size (fun p : LV => p.1) kv rfl HM5.out.is (nameOf key) rfl (.slice none 0 0) (by rw [HGT.out]; rfl) ?_)
          | (at_builtin; refine Kd.R_append kRow (w0 := w) w.heap.size rfl (.tmp 52) (.tmp 54) 37 58 (.slice none 0 0) 24 rfl Tryd.underlying37 infoRow rfl (Nat.le_refl 1) (by decide) _ keys key [.slice Ak key.length ck] (KOk w kv) (fun k => wO.heap.size ≤ k) rfl rfl ⟨_, rfl, HKN.out⟩ HFR.out (fun k hk => (HFR.out k (Nat.le_trans HSZ.out hk)).1) HON.out HBN.out HBN.out.size HKL.out ?_; intro v5 w5 hR5 hb5 hg5 hat5; have HR5 := Aside0.mk hR5; have HB5 := Aside0.mk hb5; have HM5 := Aside0.mk (HMN.out.grown hg5 (fun e => (HON.out.1 _ e.symm).1 rfl) (fun s p hp k hk e => (HON.out.1 k e.symm).2 s p hp hk)); clear hR5 hb5 hg5 hat5)
          | (at_builtin; refine Kd.R_append (relK w).kd (w0 := w) w.heap.size rfl (.tmp 60) (.tmp 62) 37 58 (.slice none 0 0) 24 rfl Tryd.underlying37 infoRow rfl (Nat.le_refl 1) (by decide) _ [] row [.slice Ar row.length cr] (fun k => k ≠ w.heap.size) (fun _ => False) rfl rfl ⟨Ar, cr, rfl, HLC.out, HROW.out⟩ (fun _ h => h.elim) (fun k hk e => by have := HM5.out.is.lt; omega) (Kd.R_nil _ _ _ _ _) HB5.out HB5.out.size (by decide) ?_; intro v7 w7 hR7 hb7 hg7 hat7; have HR7 := Aside0.mk hR7; have HB7 := Aside0.mk hb7; have HG7 := Aside0.mk hg7; have HA7 := Aside0.mk hat7; have HI7 := Aside0.mk (HM5.out.is.grown hg7 (fun e => by cases e)); clear hR7 hb7 hg7 hat7)
          | (at_mapUpdate; refine KV.law_update _ rfl _ _ _ 74 rfl 9 37 Tryd.underlying9 Tryd.underlying74 w.heap.size (fun p : LV => p.1) kv rfl HI7.out (nameOf key) rfl (v7, [] ++ [row]) rfl ?_; intro w8 hM8 hg8; have HM8 := Aside0.mk hM8; have HG8 := Aside0.mk hg8; clear hM8 hg8))
         have hlt := HLT.out
         have hk := HKQ.out
         have hx0 := HX0.out
         have hd := HD.out
         cases gO with
         | zero => omega
         | succ k1 =>
          go_roundg k1
          case measure => omega
          case rel =>
           refine ⟨x + 1, KV.put kv (nameOf key) (v7, [] ++ [row]), keys ++ [key], nameOf key :: seen, by rw [HWR.out], ⟨by omega⟩, ⟨HM5.out.put (v0 := .slice none 0 0) (r0 := []) (.inr ⟨HGT.out, rfl⟩) HR7.out HG7.out HA7.out HM8.out HG8.out⟩, ⟨KR_put (v0 := .slice none 0 0) (r0 := []) HR5.out (.inr ⟨HGT.out, rfl⟩) HG7.out HA7.out HG8.out⟩, ⟨?_, by simp; omega, ?_, ?_, ?_⟩, ⟨HB7.out.grown HG8.out HB7.out.size (fun k hk => by cases hk; exact Nat.le_refl _)⟩⟩
           · have hdd := HDD.out
             rw [distR, if_neg HZ.out] at hdd
             rw [show (x + 1).toNat = x.toNat + 1 by omega]
             simpa using hdd
           · intro s
             by_cases hs : s = nameOf key
             · subst hs; rw [KV.get_put_same]; simp
             · rw [KV.get_put_other _ hs, hd.2.2.1]; try simp [hs]
           · rw [HTK.out, HKE.out]
             exact list_put hd.2.2.2.1 (by rw [← HKE.out, HGT.out]; rfl)
           · exact len_put hd.2.2.2.2 _ _ (by simp; omega)
  · have c1' : decide (x < (l0.length : Int)) = false := decide_eq_false hlt
    have hd := HD.out
    have hks : keys = distR [] (l0.map (keyOf l1)) := by
     have := hd.1
     rw [List.drop_eq_nil_of_le (by omega), List.map_nil, distR, List.append_nil] at this
     exact this
    subst hks
    have HLS : Aside0 (∀ s, ((KV.get kv s).map (·.2)).getD [] = listR l1 l0 s) := ⟨fun s => by
     have := hd.2.2.2.1 s
     rw [List.take_of_length_le (by omega)] at this
     exact this⟩
    have hin : ∀ row ∈ distR [] (l0.map (keyOf l1)), RowOk row ∧ ∀ v ∈ row, validV v = true := fun row hrow => by
     obtain ⟨r, hr, rfl⟩ := List.mem_map.1 (distR_mem _ _ _ hrow)
     exact HKEY.out r hr
    have HGD : Aside0 (∀ row ∈ distR [] (l0.map (keyOf l1)), RowGood [] row) := ⟨fun row hrow => ⟨(hin row hrow).2, (by intro k hk; cases hk), (hin row hrow).1.2.2⟩⟩
    have HLN : Aside0 ((distR [] (l0.map (keyOf l1))).length ≤ 1099511627776) := ⟨by
     have h1 := distR_len (l0.map (keyOf l1)) []
     rw [List.length_map] at h1
     exact Nat.le_trans h1 HN0.out⟩
    obtain ⟨ds, hds⟩ : ∃ ds, ds = distR [] (l0.map (keyOf l1)) := ⟨_, rfl⟩
    rw [← hds] at HLN HGD HO
    have HDS := Aside0.mk hds
    clear HX HD hd hx0 hx1 hlt hkq hds hin
    obtain ⟨Av, cv, ev, hlc, hC⟩ := Kd.R_reads HO.out
    subst ev
    have HC := Aside0.mk hC
    clear hC hlc
    go_wp2_with fail
    refine (arranged_calls Av cv ds none 0 [] wr HC.out (Kd.C_nil _ _) HGD.out HLN.out (by simp)).mono ?_
    rintro e w2 ⟨v2, rfl, hR2, hb2⟩
    have HR2 := Aside0.mk (Kd.R_lower hR2 HB.out.size)
    have HB2 := Aside0.mk (HB.out.trans (hb2.mono HB.out.size))
    have HM2 := Aside0.mk (HM.out.below hb2)
    clear hR2 hb2
    go_wp2
    go_ret2
    refine ⟨v2, w.heap.size, kv, rfl, ?_, HM2.out.is, fun s p hp => ?_, HLS.out, HB2.out⟩
    · unfold keysR
      rw [if_neg HNE.out, ← HDS.out]
      exact HR2.out
    · obtain ⟨A, c, he, hl, hc⟩ := Kd.R_reads (HM2.out.own s p hp)
      exact ⟨A, c, he, hl, relK_C hc HB2.out⟩
open Classical in
theorem groups_nil (A0 : Option Addr) (c0 : Nat) (l0 : List (List V)) (A1 : Option Addr) (c1 : Nat) (w : World) (hr0 : Kd.C kRow w A0 l0.length l0) (hc0 : l0.length ≤ c0) :
 Calls Tryd.prog 32 #[.slice A0 l0.length c0, .slice A1 0 c1] w fun e w' => GroupsPost w [] l0 e w' := by
 have hmm : ∀ (w : World), (Instr.makeMap 74 none).run Tryd.prog w = .ok (.map (some w.heap.size)) (w.alloc (.map #[] 0)) := fun _ => by kernel_rfl
 have HR0 := Aside0.mk hr0
 have HC0 := Aside0.mk hc0
 clear hr0 hc0
 have M0 := Aside0.mk (KV.Is.made w (fun p : LV => p.1))
 have HB0 := Aside0.mk ((Below.refl w.heap.size w).alloc (Nat.le_refl _) (.map #[] 0))
 go_enter Tryd.func32, Tryd.ntmps32
 go_wp2_with (at_mapUpdate; refine KV.law_update _ rfl _ _ _ 74 rfl 9 37 Tryd.underlying9 Tryd.underlying74 w.heap.size (fun p : LV => p.1) [] rfl M0.out (⟨#[]⟩ : ByteArray) rfl ((.slice A0 l0.length c0, l0) : LV) rfl ?_; intro w8 hM8 hg8; have HM8 := Aside0.mk hM8; have HB8 := Aside0.mk (HB0.out.grown hg8 HB0.out.size (fun k hk => by cases hk; exact Nat.le_refl _)); clear hM8 hg8)
 go_ret2
 have hB9 : Below w.heap.size w (w8.alloc (.cells #[.slice none 0 0] 58)) := HB8.out.alloc HB8.out.size _
 refine ⟨_, w.heap.size, _, rfl, ?_, HM8.out.below ((Below.refl _ w8).alloc (Nat.le_refl _) _), fun s p hp => ?_, fun s => ?_, hB9⟩
 · unfold keysR
   rw [if_pos rfl]
   have h := World.ownsRow_lit (base := w.heap.size) (e := 58) (size := 1) w8 #[.slice none 0 0] 1 HB8.out.size (by decide) (by decide)
   refine ⟨fun _ _ => trivial, [.slice none 0 0], h, rfl, fun j p hj => ?_⟩
   cases j with
   | succ j => simp at hj
   | zero =>
    obtain rfl : [] = p := by simpa using hj
    exact ⟨_, rfl, Kd.R_nil _ _ _ _ _⟩
 · simp only [KV.put, KV.get] at hp
   split at hp
   · obtain rfl := Option.some.inj hp
     exact ⟨A0, c0, rfl, HC0.out, Kd.C_below HR0.out hB9⟩
   · cases hp
 · simp only [KV.put, KV.get]
   unfold listR
   have e0 : ∀ r : List V, nameOf (keyOf [] r) = (⟨#[]⟩ : ByteArray) := fun r => rfl
   by_cases hs : (⟨#[]⟩ : ByteArray) = s
   · subst hs
     rw [if_pos rfl]
     exact (List.filter_eq_self.2 (fun r _ => decide_eq_true (e0 r))).symm
   · rw [if_neg hs]
     exact (List.filter_eq_nil_iff.2 (fun r _ => by rw [decide_eq_true_eq, e0]; exact hs)).symm
theorem groups_all (A0 : Option Addr) (c0 : Nat) (l0 : List (List V)) (A1 : Option Addr) (c1 : Nat) (l1 : List Int) (w : World) (hT : LaidT w) (hr0 : Kd.C kRow w A0 l0.length l0) (hc0 : l0.length ≤ c0) (hr1 : Kd.C (Kd.int .i64) w A1 l1.length l1) (hn0 : l0.length ≤ 1099511627776) (hn1 : l1.length ≤ 1099511627776)
 (hin : ∀ row ∈ l0, ∀ n ∈ l1, 0 ≤ n ∧ n < (row.length : Int)) (hkey : ∀ row ∈ l0, RowOk (keyOf l1 row) ∧ ∀ v ∈ keyOf l1 row, validV v = true) :
 Calls Tryd.prog 32 #[.slice A0 l0.length c0, .slice A1 l1.length c1] w fun e w' => GroupsPost w l1 l0 e w' := by
 cases l1 with
 | nil => exact groups_nil A0 c0 l0 A1 c1 w hr0 hc0
 | cons n ns => exact groups_calls A0 c0 l0 A1 c1 (n :: ns) w hT hr0 hr1 hn0 hn1 (by simp) hin hkey
theorem out_far {W : World} {b q : Nat} (hne : q ≠ b) (x0 x1 x2 x3 : Value) (j : Nat) : ((((W.setCell ⟨b, 0, none⟩ x0).setCell ⟨b, 1, none⟩ x1).setCell ⟨b, 2, none⟩ x2).setCell ⟨b, 3, none⟩ x3).cell? ⟨q, j, none⟩ = W.cell? ⟨q, j, none⟩ := by
 have h : ((((W.setCell ⟨b, 0, none⟩ x0).setCell ⟨b, 1, none⟩ x1).setCell ⟨b, 2, none⟩ x2).setCell ⟨b, 3, none⟩ x3).heap[q]? = W.heap[q]? :=
  (Below.heap_setCell _ _ _ q hne).trans ((Below.heap_setCell _ _ _ q hne).trans ((Below.heap_setCell _ _ _ q hne).trans (Below.heap_setCell _ _ _ q hne)))
 simp only [World.cell?, h]
theorem out_belowB {w W : World} {q : Nat} (h : Below w.heap.size w W) (hq : w.heap.size ≤ q) (x0 x1 x2 x3 : Value) : Below w.heap.size w ((((W.setCell ⟨q, 0, none⟩ x0).setCell ⟨q, 1, none⟩ x1).setCell ⟨q, 2, none⟩ x2).setCell ⟨q, 3, none⟩ x3) :=
 (((h.setCell hq _).setCell hq _).setCell hq _).setCell hq _
theorem cells3 {W W1 : World} {b : Nat} {u0 u1 u2 : Value} (hb : Below W.heap.size W W1) (h : W.cell? ⟨b, 0, none⟩ = some u0 ∧ W.cell? ⟨b, 1, none⟩ = some u1 ∧ W.cell? ⟨b, 2, none⟩ = some u2) : W1.cell? ⟨b, 0, none⟩ = some u0 ∧ W1.cell? ⟨b, 1, none⟩ = some u1 ∧ W1.cell? ⟨b, 2, none⟩ = some u2 :=
 ⟨cB_ hb h.1, cB_ hb h.2.1, cB_ hb h.2.2⟩
theorem far3 {W : World} {b q : Nat} {u0 u1 u2 x0 x1 x2 x3 : Value} (hne : q ≠ b) (h : W.cell? ⟨q, 0, none⟩ = some u0 ∧ W.cell? ⟨q, 1, none⟩ = some u1 ∧ W.cell? ⟨q, 2, none⟩ = some u2) :
 ((((W.setCell ⟨b, 0, none⟩ x0).setCell ⟨b, 1, none⟩ x1).setCell ⟨b, 2, none⟩ x2).setCell ⟨b, 3, none⟩ x3).cell? ⟨q, 0, none⟩ = some u0 ∧ ((((W.setCell ⟨b, 0, none⟩ x0).setCell ⟨b, 1, none⟩ x1).setCell ⟨b, 2, none⟩ x2).setCell ⟨b, 3, none⟩ x3).cell? ⟨q, 1, none⟩ = some u1 ∧ ((((W.setCell ⟨b, 0, none⟩ x0).setCell ⟨b, 1, none⟩ x1).setCell ⟨b, 2, none⟩ x2).setCell ⟨b, 3, none⟩ x3).cell? ⟨q, 2, none⟩ = some u2 :=
 ⟨(out_far hne _ _ _ _ 0).trans h.1, (out_far hne _ _ _ _ 1).trans h.2.1, (out_far hne _ _ _ _ 2).trans h.2.2⟩
theorem out2_cells {W : World} {q : Nat} {t : TypeId} {a b : Value} (h : W.heap[q]? = some (.cells #[a, b] t (0, 0))) (x0 x1 : Value) : ((W.setCell ⟨q, 0, none⟩ x0).setCell ⟨q, 1, none⟩ x1).heap[q]? = some (.cells #[x0, x1] t (0, 0)) :=
 blk_put (cs := #[x0, b]) (blk_put (cs := #[a, b]) h 0 _ rfl) 1 _ rfl
theorem out2_below {w W : World} {q : Nat} (h : Below w.heap.size w W) (hq : w.heap.size ≤ q) (x0 x1 : Value) : Below w.heap.size w ((W.setCell ⟨q, 0, none⟩ x0).setCell ⟨q, 1, none⟩ x1) := (h.setCell hq _).setCell hq _
theorem group_good (A0 : Option Addr) (c0 : Nat) (l0 : List (List V)) (A1 : Option Addr) (c1 : Nat) (l1 : List Int) (A2 : Option Addr) (c2 : Nat) (l2 : List AggT) (w : World) (hr0 : Kd.C kRow w A0 l0.length l0) (hc0 : l0.length ≤ c0) (hr1 : Kd.C (Kd.int .i64) w A1 l1.length l1) (hr2 : Kd.C kAgg w A2 l2.length l2) (hT : LaidT w) (hok : GroupOk l0 l1 l2) (hg : groupableB l0 l1 l2 = true) (grs : List (List V)) (ger : Int) (hG : groupG l0 l1 l2 = (grs, ger)) :
 Calls Tryd.prog 15 #[.slice A0 l0.length c0, .slice A1 l1.length c1, .slice A2 l2.length c2] w fun e w' => ∃ v0_ : Value, e = .returned (.agg #[v0_, .int .i64 ger]) ∧ Kd.V kRow 58 w' w.heap.size (fun k_ => (w.heap.size ≤ k_)) v0_ grs ∧ Below w.heap.size w w' := by
 obtain ⟨hv, hin, hag⟩ := groupable_parts hg
 have HGG : Aside0 (rowsOf l1 l0 l2 (keysR l1 l0) [] = (grs, ger)) := ⟨by rw [← hG]; unfold groupG; rw [if_pos hg]⟩
 have HAG := Aside0.mk hag
 clear hag hg hG
 obtain ⟨k, hk⟩ := (valid_ev l0 hok.rows.v).rounds
 rw [hv] at hk
 have HK := Aside0.mk hk
 have HV := Aside0.mk hv
 have HIN := Aside0.mk hin
 have HOK := Aside0.mk hok
 have HT := Aside0.mk hT
 have HR0 := Aside0.mk hr0
 have HC0 := Aside0.mk hc0
 have HR1 := Aside0.mk hr1
 have HR2 := Aside0.mk hr2
 clear hk hv hin hok hT hr0 hc0 hr1 hr2
 go_enter Tryd.func15, Tryd.ntmps15
 go_wp2_with (first
  | ((with_reducible refine gate_dst (N := 6) rfl ?_); refine box_event ?hg (N := 6) ?hd (cs := #[.slice none 0 0, .int .i64 0]) (t := 41) ?hr ?_; (case hd => rfl); (case hg => rfl); (case hr => first | (go_simp; done) | (go_simp; rfl)); intro q hq W hN hb1; have HB1 := Aside0.mk hb1; have HQ := Aside0.mk hq; have HN0 := Aside0.mk hN; clear hb1 hq hN)
  | ((with_reducible refine gate_dst (N := 7) rfl ?_); refine box_event ?hg (N := 7) ?hd (cs := #[.slice none 0 0, .int .i64 0]) (t := 41) ?hr ?_; (case hd => rfl); (case hg => rfl); (case hr => first | (go_simp; done) | (go_simp; rfl)); intro q2 hq2 W2 hN2 hb2; have HN1 := Aside0.mk ((hb2.block q (blk_lt HN0.out)).trans HN0.out); have HB2 := Aside0.mk (HB1.out.trans (hb2.mono HB1.out.size)); have HQ2 := Aside0.mk hq2; have HN2 := Aside0.mk hN2; have X0 : W2.cell? ⟨q2, 0, none⟩ = some (.slice none 0 0) := (blk_cell hN2 0).trans rfl; have X1 : W2.cell? ⟨q2, 1, none⟩ = some (.int .i64 0) := (blk_cell hN2 1).trans rfl; have X2 : ∀ j, W2.frozen? ⟨q2, j, none⟩ = false := (fun j => by simp [World.frozen?, hN2]); clear hb2 hq2 hN2))
 have hB3 : Below w.heap.size w ((W2.setCell ⟨q2, 0, none⟩ (.slice none 0 0)).setCell ⟨q2, 1, none⟩ (.int .i64 1)) := out2_below HB2.out (by rw [HQ2.out]; exact HB1.out.size) _ _
 have hq12 : q ≠ q2 := fun e => by have := blk_lt HN0.out; have := HQ2.out; omega
 have hN3 : ((W2.setCell ⟨q2, 0, none⟩ (.slice none 0 0)).setCell ⟨q2, 1, none⟩ (.int .i64 1)).heap[q]? = some (.cells #[.slice none 0 0, .int .i64 0] 41 (0, 0)) := (Below.heap_setCell _ _ _ q hq12).trans ((Below.heap_setCell _ _ _ q hq12).trans HN1.out)
 have HB3 := Aside0.mk hB3
 have HN3 := Aside0.mk hN3
 clear hB3 hq12 hN3 X0 X1 X2 HN1 HN2 HB2 HN0
 refine (bag_Valid.calls k _ _ l0 true _ (Kd.C_below HR0.out HB3.out) HC0.out HK.out).mono ?_
 rintro e w3 ⟨rfl, hb3⟩
 have HN4 := Aside0.mk ((hb3.block q (blk_lt HN3.out)).trans HN3.out)
 have HB4 := Aside0.mk (HB3.out.trans (hb3.mono HB3.out.size))
 have HQW : Aside0 (w.heap.size ≤ q) := ⟨Nat.le_of_eq HQ.out.symm⟩
 clear hb3 HN3 HB3 HB1 HQ2 HQ
 go_wp2
 go_loopg [29] l1.length (fun kq v29 W => ∃ x : Int, v29 = .int .i64 x ∧ Aside0 (0 ≤ x ∧ x ≤ l1.length ∧ (kq : Int) = l1.length - x) ∧ Aside0 (W.heap[q]? = some (.cells #[.slice none 0 0, .int .i64 0] 41 (0, 0))) ∧ Aside0 (Below w.heap.size w W))
 case atStart => exact ⟨0, rfl, ⟨by omega⟩, HN4, HB4⟩
 case round =>
  clear HN4 HB4
  obtain ⟨x, rfl, HX, HN, HB⟩ := hrel
  obtain ⟨hx0, hx1, hkq⟩ := HX.out
  by_cases hlt : x < (l1.length : Int)
  · have d1 : decide (x < (l1.length : Int)) = true := decide_eq_true hlt
    have d2 : decide (0 ≤ x) = true := decide_eq_true hx0
    obtain ⟨ad, e, hx_0⟩ := Kd.at_int HR1.out x hx0 hlt
    cases e
    replace hx_0 := (HB.out.cell (World.block_lt_of_cell? w _ hx_0)).trans hx_0
    have hj : x.toNat < l1.length := by omega
    have hrd : rd l1 x = l1[x.toNat] := by simp [rd, List.getElem?_eq_getElem hj]
    have hh := HIN.out (rd l1 x) (by rw [hrd]; exact List.getElem_mem hj)
    obtain ⟨n, hn⟩ : ∃ n, n = rd l1 x := ⟨_, rfl⟩
    rw [← hn] at hx_0 hh
    have HH := Aside0.mk hh
    have HLT := Aside0.mk hlt
    have HKQ := Aside0.mk hkq
    have HX0 := Aside0.mk hx0
    have HWR : Aside0 (wrap64 (x + 1) = x + 1) := ⟨by have := HOK.out.cn; unfold wrap64; omega⟩
    clear hn hrd hj hh hkq
    go_wp2_with fail
    refine (bag_has.calls A0 c0 l0 n true wr (Kd.C_below HR0.out HB.out) HC0.out (by rw [has_eq, HH.out])).mono ?_
    rintro e w5 ⟨rfl, ⟨nd, rfl⟩⟩
    go_wp2
    have hlt := HLT.out
    have hk := HKQ.out
    have hx0 := HX0.out
    cases gk with
    | zero => omega
    | succ k1 =>
     go_roundg k1
     case measure => omega
     case rel => exact ⟨x + 1, by rw [HWR.out], ⟨by omega⟩, HN, ⟨bN_ HB.out nd⟩⟩
  · have d1 : decide (x < (l1.length : Int)) = false := decide_eq_false hlt
    clear HX hx0 hx1 hkq hlt
    go_wp2
    go_loopg [41] l2.length (fun kq v41 W => ∃ x : Int, v41 = .int .i64 x ∧ Aside0 (0 ≤ x ∧ x ≤ l2.length ∧ (kq : Int) = l2.length - x) ∧ Aside0 (W.heap[q]? = some (.cells #[.slice none 0 0, .int .i64 0] 41 (0, 0))) ∧ Aside0 (Below w.heap.size w W))
    case atStart => exact ⟨0, rfl, ⟨by omega⟩, HN, HB⟩
    case round =>
     clear HN HB
     obtain ⟨x, rfl, HX, HN, HB⟩ := hrel
     obtain ⟨hx0, hx1, hkq⟩ := HX.out
     by_cases hlt : x < (l2.length : Int)
     · have d1 : decide (x < (l2.length : Int)) = true := decide_eq_true hlt
       have d2 : decide (0 ≤ x) = true := decide_eq_true hx0
       obtain ⟨ad, e, hx_0, hx_1, hx_2⟩ := at_T47 HR2.out x hx0 hlt
       cases e
       replace hx_0 := (HB.out.cell (World.block_lt_of_cell? w _ hx_0)).trans hx_0
       replace hx_1 := (HB.out.cell (World.block_lt_of_cell? w _ hx_1)).trans hx_1
       replace hx_2 := (HB.out.cell (World.block_lt_of_cell? w _ hx_2)).trans hx_2
       have hj : x.toNat < l2.length := by omega
       have hrd : rd_T47 l2 x = l2[x.toNat] := by simp [rd_T47, List.getElem?_eq_getElem hj]
       have hao := HAG.out (rd_T47 l2 x) (by rw [hrd]; exact List.getElem_mem hj)
       have hfn := HOK.out.fn (rd_T47 l2 x) (by rw [hrd]; exact List.getElem_mem hj)
       have hvals := HOK.out.vals (rd_T47 l2 x) (by rw [hrd]; exact List.getElem_mem hj)
       obtain ⟨a, ha⟩ : ∃ a, a = rd_T47 l2 x := ⟨_, rfl⟩
       rw [← ha] at hx_0 hx_1 hx_2 hao hfn hvals
       obtain ⟨f0, f1, f2⟩ := a
       dsimp only at hx_0 hx_1 hx_2
       have HLT := Aside0.mk hlt
       have HKQ := Aside0.mk hkq
       have HX0 := Aside0.mk hx0
       have HWR : Aside0 (wrap64 (x + 1) = x + 1) := ⟨by have := HOK.out.an; unfold wrap64; omega⟩
       clear hrd hj hkq ha
       by_cases h0 : f0 = 0
       · have h12 : f1 = 0 ∧ f2 = false := by
          unfold aggOkB at hao
          rw [if_pos h0] at hao
          exact of_decide_eq_true hao
         obtain ⟨rfl, rfl⟩ := h12
         subst h0
         clear hao hfn hvals
         go_wp2
         have hlt := HLT.out
         have hk := HKQ.out
         have hx0 := HX0.out
         cases gk with
         | zero => omega
         | succ k1 =>
          go_roundg k1
          case measure => omega
          case rel => exact ⟨x + 1, by rw [HWR.out], ⟨by omega⟩, ⟨(Below.heap_alloc wr _ q (blk_lt HN.out)).trans HN.out⟩, ⟨HB.out.alloc HB.out.size _⟩⟩
       · unfold aggOkB at hao
         rw [if_neg h0, Bool.and_eq_true] at hao
         have HHE : Aside0 (bag_has.f l0 f1 = some true) := ⟨by rw [has_eq]; exact congrArg some hao.1⟩
         obtain ⟨kc, hkc⟩ := (columnOf_ev l0 f1 (by
          have h1 := hao.1
          unfold hasB at h1
          cases hl : l0 with
          | nil => rw [hl] at h1; exact (of_decide_eq_true h1).1
          | cons r rs => rw [hl] at h1; exact (of_decide_eq_true h1).1) HOK.out.rows.2).rounds
         obtain ⟨ka, hka⟩ := (allowed_ev f0 f2 (columnR l0 f1) (fun v hv => by
          obtain ⟨row, hrow, rfl⟩ := List.mem_map.1 hv
          exact (hvals row hrow).1 _ (by simp)) (by rw [columnR, List.length_map]; exact HOK.out.rows.2)).rounds
         rw [hao.2] at hka
         have HKC2 := Aside0.mk hkc
         have HKA := Aside0.mk hka
         have z1 : (f0 == 0) = false := by simp [h0]
         have z2 : decide (f0 = 0) = false := decide_eq_false h0
         clear hkc hka hao hfn hvals h0
         obtain ⟨W5, hW5⟩ : ∃ W5, W5 = wr.alloc (.cells #[.int .u8 f0, .int .i64 f1, .bool f2] 47) := ⟨_, rfl⟩
         have HD5 : Aside0 (W5.cell? ⟨wr.heap.size, 0, none⟩ = some (.int .u8 f0) ∧ W5.cell? ⟨wr.heap.size, 1, none⟩ = some (.int .i64 f1) ∧ W5.cell? ⟨wr.heap.size, 2, none⟩ = some (.bool f2)) := ⟨by
          rw [hW5]
          exact ⟨(blk_cell (heap_alloc_new _ _) 0).trans rfl, (blk_cell (heap_alloc_new _ _) 1).trans rfl, (blk_cell (heap_alloc_new _ _) 2).trans rfl⟩⟩
         have HB5 : Aside0 (Below wr.heap.size wr W5) := ⟨by rw [hW5]; exact (Below.refl _ wr).alloc (Nat.le_refl _) _⟩
         have HE5 : Aside0 (W5.drew.cell? ⟨wr.heap.size, 0, none⟩ = some (.int .u8 f0) ∧ W5.drew.cell? ⟨wr.heap.size, 1, none⟩ = some (.int .i64 f1) ∧ W5.drew.cell? ⟨wr.heap.size, 2, none⟩ = some (.bool f2)) := ⟨HD5.out⟩
         have HC5 : Aside0 (∀ W', Below W5.heap.size W5 W' → kRow.C W' A0 l0.length l0) := ⟨fun W' hb => Kd.C_below HR0.out (HB.out.trans ((HB5.out.trans (hb.mono HB5.out.size)).mono HB.out.size))⟩
         have HBE : Aside0 (Below W5.heap.size W5 W5.drew) := ⟨(Below.refl _ W5).drew⟩
         go_wp2_with fail
         rw [← hW5]
         have HW5 := Aside0.mk hW5
         clear hW5
         go_region_held3 (fun W' => (W'.cell? ⟨wr.heap.size, 0, none⟩ = some (.int .u8 f0) ∧ W'.cell? ⟨wr.heap.size, 1, none⟩ = some (.int .i64 f1) ∧ W'.cell? ⟨wr.heap.size, 2, none⟩ = some (.bool f2))) (first | (with_reducible exact HD5.out) | (with_reducible exact HE5.out) | (with_reducible exact HS6.out) | (with_reducible exact HS7.out) | (with_reducible exact HS8.out)) (first
          | (go_at_call 30; (with_reducible refine (bag_has.calls A0 c0 l0 f1 true W5.drew (HC5.out _ HBE.out) HC0.out HHE.out).mono ?_); rintro e w6 ⟨rfl, ⟨nd, hd6⟩⟩; have HB6 : Aside0 (Below W5.heap.size W5 w6) := ⟨by rw [hd6]; exact bN_ HBE.out nd⟩; have HS6 : Aside0 (w6.cell? ⟨wr.heap.size, 0, none⟩ = some (.int .u8 f0) ∧ w6.cell? ⟨wr.heap.size, 1, none⟩ = some (.int .i64 f1) ∧ w6.cell? ⟨wr.heap.size, 2, none⟩ = some (.bool f2)) := ⟨cells3 HB6.out HD5.out⟩; clear hd6)
          | (go_at_call 31; (with_reducible refine (bag_columnOf.calls kc A0 c0 l0 f1 (columnR l0 f1) w6 (HC5.out _ HB6.out) HC0.out HKC2.out).mono ?_); rintro e w7 ⟨vc, rfl, hRc, hb7⟩; obtain ⟨Ac, cc, ec, hcc, hCc⟩ := Kd.R_reads hRc; subst ec; have hb57 : Below W5.heap.size W5 w7 := HB6.out.trans (hb7.mono HB6.out.size); have HS7 : Aside0 (w7.cell? ⟨wr.heap.size, 0, none⟩ = some (.int .u8 f0) ∧ w7.cell? ⟨wr.heap.size, 1, none⟩ = some (.int .i64 f1) ∧ w7.cell? ⟨wr.heap.size, 2, none⟩ = some (.bool f2)) := ⟨cells3 hb57 HD5.out⟩; have HCC := Aside0.mk hCc; have HCN := Aside0.mk hcc; have HB7 := Aside0.mk hb57; clear hb57 hRc hb7 hcc hCc)
          | (go_at_call 27; (with_reducible refine (bag_allowed.calls ka f0 f2 Ac cc (columnR l0 f1) true w7 HCC.out HCN.out HKA.out).mono ?_); rintro e w8 ⟨rfl, hb8⟩; have hb58 : Below W5.heap.size W5 w8 := HB7.out.trans (hb8.mono HB7.out.size); have HS8 : Aside0 (w8.cell? ⟨wr.heap.size, 0, none⟩ = some (.int .u8 f0) ∧ w8.cell? ⟨wr.heap.size, 1, none⟩ = some (.int .i64 f1) ∧ w8.cell? ⟨wr.heap.size, 2, none⟩ = some (.bool f2)) := ⟨cells3 hb58 HD5.out⟩; have HB8 := Aside0.mk hb58; clear hb58 hb8))
         go_wp2
         have hlt := HLT.out
         have hk := HKQ.out
         have hx0 := HX0.out
         have HBR := Aside0.mk (HB5.out.trans (HB8.out.mono HB5.out.size))
         cases gk with
         | zero => omega
         | succ k1 =>
          go_roundg k1
          case measure => omega
          case rel => exact ⟨x + 1, by rw [HWR.out], ⟨by omega⟩, ⟨(HBR.out.block q (blk_lt HN.out)).trans HN.out⟩, ⟨HB.out.trans (HBR.out.mono HB.out.size)⟩⟩
     · have d1 : decide (x < (l2.length : Int)) = false := decide_eq_false hlt
       clear HX hx0 hx1 hkq hlt
       have hlen : ∀ row ∈ l0, ∀ n ∈ l1, 0 ≤ n ∧ n < (row.length : Int) := fun row hrow n hn => by
        have h1 := HIN.out n hn
        cases hl : l0 with
        | nil => rw [hl] at hrow; cases hrow
        | cons r rs =>
         rw [hl] at h1 hrow
         have h2 := validB_len (hl ▸ HV.out) row hrow
         have := of_decide_eq_true h1
         omega
       have hval : ∀ row ∈ l0, ∀ v ∈ keyOf l1 row, validV v = true := fun row hrow v hv => by
        obtain ⟨n, hn, rfl⟩ := List.mem_map.1 hv
        have h1 := hlen row hrow n hn
        have h2 : n.toNat < row.length := by omega
        have : rd_T27 row n = row[n.toNat] := by simp [rd_T27, List.getElem?_eq_getElem h2]
        rw [this]
        exact validB_valid HV.out row hrow _ (List.getElem_mem h2)
       have HGC := Aside0.mk (groups_all A0 c0 l0 A1 c1 l1 wr (HT.out.below HB.out) (Kd.C_below HR0.out HB.out) HC0.out (Kd.C_below HR1.out HB.out) HOK.out.rows.2 HOK.out.cn hlen (fun row hrow => ⟨HOK.out.keys row hrow, hval row hrow⟩))
       clear hlen hval
       go_wp2_with fail
       refine HGC.out.mono ?_
       rintro e wK ⟨vk, m, kv, rfl, hRk, hIs, hCk, hLk, hbK⟩
       have HRK := Aside0.mk hRk
       have HIS := Aside0.mk hIs
       have HCL : Aside0 (∀ s, ∃ A c, ((KV.get kv s).map (fun p : LV => p.1)).getD (.slice none 0 0) = .slice A (listR l1 l0 s).length c ∧ (listR l1 l0 s).length ≤ c ∧ kRow.C wK A (listR l1 l0 s).length (listR l1 l0 s)) := ⟨fun s => by
        rw [← hLk s]
        cases hg : KV.get kv s with
        | none => exact ⟨none, 0, rfl, Nat.le_refl _, Kd.C_nil _ _⟩
        | some p =>
         obtain ⟨A, c, h1, h2, h3⟩ := hCk s p hg
         exact ⟨A, c, h1, h2, h3⟩⟩
       have HNK := Aside0.mk ((hbK.block q (blk_lt HN.out)).trans HN.out)
       have HBK := Aside0.mk (HB.out.trans (hbK.mono HB.out.size))
       clear hRk hIs hCk hLk hbK HGC HN HB
       obtain ⟨Ak, ck, ek, hlk, hKC⟩ := Kd.R_reads HRK.out
       subst ek
       have HKC := Aside0.mk hKC
       clear hlk hKC HRK
       obtain ⟨keys, hkeys⟩ : ∃ keys, keys = keysR l1 l0 := ⟨_, rfl⟩
       have HKO := Aside0.mk HOK.out.keyn
       have HKN := Aside0.mk HOK.out.keysn
       rw [← hkeys] at HKC HKO HKN HGG
       rw [← hkeys]
       have HKS := Aside0.mk hkeys
       clear hkeys
       go_wp2
       go_loopg [91, 14] keys.length (fun kq v91 v14 W => ∃ x : Int, v91 = .int .i64 x ∧ Aside0 (0 ≤ x ∧ x ≤ keys.length ∧ (kq : Int) = keys.length - x) ∧ Aside0 (∃ acc : List (List V), kRow.R 58 W wK.heap.size (fun _ => True) v14 acc ∧ rowsOf l1 l0 l2 (keys.drop x.toNat) acc = (grs, ger) ∧ acc.length ≤ x.toNat) ∧ Aside0 (Below wK.heap.size wK W))
       case atStart => exact ⟨0, rfl, ⟨by omega⟩, ⟨[], Kd.R_nil _ _ _ _ _, by simpa using HGG.out, Nat.le_refl _⟩, ⟨Below.refl _ _⟩⟩
       case round =>
        clear HGG
        obtain ⟨x, rfl, HX, HE, HB⟩ := hrel
        obtain ⟨acc, hO, hacc, hal⟩ := HE.out
        have HO := Aside0.mk hO
        have HACC := Aside0.mk hacc
        have HAL := Aside0.mk hal
        clear HE hO hacc hal
        obtain ⟨hx0, hx1, hkq⟩ := HX.out
        by_cases hlt : x < (keys.length : Int)
        · have d1 : decide (x < (keys.length : Int)) = true := decide_eq_true hlt
          have d2 : decide (0 ≤ x) = true := decide_eq_true hx0
          obtain ⟨ad, Ar, cr, e, hx_0, hlc, hrow⟩ := at_L4 HKC.out x hx0 hlt
          cases e
          replace hx_0 := (HB.out.cell (World.block_lt_of_cell? wK _ hx_0)).trans hx_0
          have hi : x.toNat < keys.length := by omega
          have hrd : rd_L4 keys x = keys[x.toNat] := by simp [rd_L4, List.getElem?_eq_getElem hi]
          have hky := HKO.out (rd_L4 keys x) (by rw [hrd]; exact List.getElem_mem hi)
          have htk : keys.drop x.toNat = rd_L4 keys x :: keys.drop (x + 1).toNat := by
           rw [drop_cons _ _ hi, hrd, show (x + 1).toNat = x.toNat + 1 by omega]
          obtain ⟨key, hkey⟩ : ∃ key, key = rd_L4 keys x := ⟨_, rfl⟩
          rw [← hkey] at hx_0 hlc hrow hky htk
          have HROW := Aside0.mk hrow
          have HLC := Aside0.mk hlc
          have HKY := Aside0.mk hky
          rw [htk] at HACC
          have HLT := Aside0.mk hlt
          have HKQ := Aside0.mk hkq
          have HX0 := Aside0.mk hx0
          have HWR : Aside0 (wrap64 (x + 1) = x + 1) := ⟨by have := HKN.out; unfold wrap64; omega⟩
          clear hrow hlc hky htk hkey hrd hi hkq
          have HBW := Aside0.mk (HBK.out.trans (HB.out.mono HBK.out.size))
          go_wp2_with fail
          refine (name_calls Ar cr key wr (HT.out.below HBW.out) (Kd.C_below HROW.out HB.out) HLC.out HKY.out.1 HKY.out.2.1 HKY.out.2.2).mono ?_
          rintro e wN ⟨rfl, hbn⟩
          obtain ⟨wO, hwO⟩ : ∃ wO, wO = wr := ⟨_, rfl⟩
          subst hwO
          obtain ⟨gO, hgO⟩ : ∃ gO, gO = gk := ⟨_, rfl⟩
          subst hgO
          have HBN := Aside0.mk hbn
          have HISN := Aside0.mk (HIS.out.below (HB.out.trans (hbn.mono HB.out.size)))
          obtain ⟨Al, cl, hul, hlc2, hcl2⟩ := HCL.out (nameOf key)
          obtain ⟨ls, hls⟩ : ∃ ls, ls = listR l1 l0 (nameOf key) := ⟨_, rfl⟩
          rw [← hls] at hul hlc2 hcl2
          have HUL := Aside0.mk hul
          have HLC2 := Aside0.mk hlc2
          have HCL2 := Aside0.mk hcl2
          have HLS := Aside0.mk hls
          have HKEYN : Aside0 (kV.C wN Ar key.length key) := ⟨Kd.C_below HROW.out (HB.out.trans (hbn.mono HB.out.size))⟩
          clear hul hlc2 hcl2 hls hbn
          have HE0 : Aside0 (Kd.R kV 27 (wN.alloc (.cells #[] 27)) wN.heap.size (fun _ => True) (.slice (some ⟨wN.heap.size, 0, none⟩) 0 0) []) := ⟨R_empty kV 27 wN⟩
          have HE1 := Aside0.mk ((Below.refl wN.heap.size wN).alloc (Nat.le_refl _) (.cells #[] 27))
          go_wp2_with (first
           | (at_lookup; refine KV.law_lookup _ rfl _ _ 74 rfl 9 37 Tryd.underlying9 Tryd.underlying74 (.slice none 0 0) (zeroRows _) m (fun p : LV => p.1) kv rfl HISN.out (nameOf key) rfl (.slice Al ls.length cl) HUL.out ?_)
           | (at_builtin; refine Kd.R_append_rows kV (w0 := wN) wN.heap.size rfl (.tmp 99) (.tmp 100) 58 27 (.agg #[(.int .u8 0), (.int .i64 0), (.string ⟨#[]⟩)]) 32 rfl Tryd.underlying58 infoV rfl (by decide) (by decide) _ [] key Ar key.length cr (fun _ => True) (fun _ => False) rfl rfl HE0.out (Kd.C_below HKEYN.out HE1.out) (fun x cs h => by obtain rfl := k27_open h; exact k27_mkM _ _ _ x) (fun _ h => h.elim) (fun _ _ => trivial) HE1.out HE1.out.size (by have := HKY.out.2.2; simp; omega) ?_; intro v1 w1 hR hb hg hat; have HK1 := Aside0.mk hR; have HBI := Aside0.mk hb; clear hR hb hg hat))
          have HLSUB : Aside0 (∀ row ∈ ls, row ∈ l0) := ⟨fun row hrow => by
           rw [HLS.out] at hrow
           exact (List.mem_filter.1 hrow).1⟩
          have HLLEN : Aside0 (ls.length ≤ l0.length) := ⟨by rw [HLS.out]; exact List.length_filter_le _ _⟩
          have HACC2 : Aside0 ((if (rowOf ls l2 key).2 = 0 then rowsOf l1 l0 l2 (keys.drop (x + 1).toNat) (acc ++ [(rowOf ls l2 key).1]) else ([], (rowOf ls l2 key).2)) = (grs, ger)) := ⟨by
           have := HACC.out
           simp only [rowsOf] at this
           rw [← HLS.out] at this
           exact this⟩
          clear HACC
          have HBO : Aside0 (Below wK.heap.size wK wN) := ⟨HB.out.trans (HBN.out.mono HB.out.size)⟩
          go_loopg [104, 18] l2.length (fun kq v104 v18 W => ∃ y : Int, v104 = .int .i64 y ∧ Aside0 (0 ≤ y ∧ y ≤ l2.length ∧ (kq : Int) = l2.length - y) ∧ Aside0 (∃ r : List V, kV.R 27 W wN.heap.size (fun _ => True) v18 r ∧ rowOf ls (l2.drop y.toNat) r = rowOf ls l2 key ∧ (r.length : Int) = key.length + y) ∧ Aside0 (Below wN.heap.size wN W))
          case atStart => exact ⟨0, rfl, ⟨by omega⟩, ⟨key, by simpa using HK1.out, rfl, by omega⟩, HBI⟩
          case round =>
           clear HK1 HBI
           obtain ⟨y, rfl, HY, HE, HBI⟩ := hrel
           obtain ⟨r, hR, hro, hrl⟩ := HE.out
           have HKR := Aside0.mk hR
           have HRO := Aside0.mk hro
           have HRL := Aside0.mk hrl
           clear HE hR hro hrl
           obtain ⟨hy0, hy1, hkq⟩ := HY.out
           by_cases hly : y < (l2.length : Int)
           · have d1 : decide (y < (l2.length : Int)) = true := decide_eq_true hly
             have d2 : decide (0 ≤ y) = true := decide_eq_true hy0
             have hbww : Below w.heap.size w wr := HBK.out.trans ((HBO.out.trans (HBI.out.mono HBO.out.size)).mono HBK.out.size)
             obtain ⟨ad2, e, hx_0, hx_1, hx_2⟩ := at_T47 HR2.out y hy0 hly
             cases e
             replace hx_0 := (hbww.cell (World.block_lt_of_cell? w _ hx_0)).trans hx_0
             replace hx_1 := (hbww.cell (World.block_lt_of_cell? w _ hx_1)).trans hx_1
             replace hx_2 := (hbww.cell (World.block_lt_of_cell? w _ hx_2)).trans hx_2
             have hj : y.toNat < l2.length := by omega
             have hrd : rd_T47 l2 y = l2[y.toNat] := by simp [rd_T47, List.getElem?_eq_getElem hj]
             have hmem : rd_T47 l2 y ∈ l2 := by rw [hrd]; exact List.getElem_mem hj
             have hdr : l2.drop y.toNat = rd_T47 l2 y :: l2.drop (y + 1).toNat := by
              rw [drop_cons _ _ hj, hrd, show (y + 1).toNat = y.toNat + 1 by omega]
             have hag := agg_ok HOK.out HV.out hmem HLSUB.out HLLEN.out
             have hcol := aggOk_col (HAG.out _ hmem)
             obtain ⟨a, ha⟩ : ∃ a, a = rd_T47 l2 y := ⟨_, rfl⟩
             rw [← ha] at hx_0 hx_1 hx_2 hag hcol hdr
             obtain ⟨⟨r0, r1, r2, r3⟩, hr⟩ : ∃ R, aggR a.f0 a.f2 (columnR ls a.f1) = R := ⟨_, rfl⟩
             have hro := HRO.out
             rw [hdr, rowOf_snoc hr] at hro
             rw [hr] at hag
             obtain ⟨f0, f1, f2⟩ := a
             dsimp only at hx_0 hx_1 hx_2 hag hcol
             have HAGG := Aside0.mk hag
             have HRO2 := Aside0.mk hro
             obtain ⟨kc, hkc⟩ := (columnOf_ev ls f1 hcol (Nat.le_trans HLLEN.out HOK.out.rows.2)).rounds
             have HKC2 := Aside0.mk hkc
             clear hkc hag hro hr ha hdr hmem hcol HRO
             have HLY := Aside0.mk hly
             have HKQ2 := Aside0.mk hkq
             have HY0 := Aside0.mk hy0
             have HWY : Aside0 (wrap64 (y + 1) = y + 1) := ⟨by have := HOK.out.an; unfold wrap64; omega⟩
             have HBWW := Aside0.mk hbww
             clear hrd hj hkq hbww
             obtain ⟨W5, hW5⟩ : ∃ W5, W5 = wr.alloc (.cells #[.int .u8 f0, .int .i64 f1, .bool f2] 47) := ⟨_, rfl⟩
             have D0 : W5.cell? ⟨wr.heap.size, 0, none⟩ = some (.int .u8 f0) := by rw [hW5]; exact (blk_cell (heap_alloc_new _ _) 0).trans rfl
             have D1 : W5.cell? ⟨wr.heap.size, 1, none⟩ = some (.int .i64 f1) := by rw [hW5]; exact (blk_cell (heap_alloc_new _ _) 1).trans rfl
             have D2 : W5.cell? ⟨wr.heap.size, 2, none⟩ = some (.bool f2) := by rw [hW5]; exact (blk_cell (heap_alloc_new _ _) 2).trans rfl
             have HB5 : Aside0 (Below wr.heap.size wr W5) := ⟨by rw [hW5]; exact (Below.refl _ wr).alloc (Nat.le_refl _) _⟩
             have HLEN : Aside0 ((r.length + 1) * 32 ≤ 140737488355328) := ⟨by
              have h1 := HKY.out.2.2
              have h2 := HOK.out.an
              have h3 := HLY.out
              have h4 := HRL.out
              omega⟩
             have HS5 : Aside0 (W5.heap.size = wr.heap.size + 1) := ⟨by rw [hW5]; simp⟩
             have HNE5 : Aside0 (wr.heap.size ≠ W5.heap.size) := ⟨by have := HS5.out; omega⟩
             have HD5 : Aside0 (W5.cell? ⟨wr.heap.size, 0, none⟩ = some (.int .u8 f0) ∧ W5.cell? ⟨wr.heap.size, 1, none⟩ = some (.int .i64 f1) ∧ W5.cell? ⟨wr.heap.size, 2, none⟩ = some (.bool f2)) := ⟨⟨D0, D1, D2⟩⟩
             have HE5 : Aside0 (W5.drew.cell? ⟨wr.heap.size, 0, none⟩ = some (.int .u8 f0) ∧ W5.drew.cell? ⟨wr.heap.size, 1, none⟩ = some (.int .i64 f1) ∧ W5.drew.cell? ⟨wr.heap.size, 2, none⟩ = some (.bool f2)) := ⟨⟨D0, D1, D2⟩⟩
             have HE6 : Aside0 (∀ o, ((W5.alloc o).cell? ⟨wr.heap.size, 0, none⟩ = some (.int .u8 f0) ∧ (W5.alloc o).cell? ⟨wr.heap.size, 1, none⟩ = some (.int .i64 f1) ∧ (W5.alloc o).cell? ⟨wr.heap.size, 2, none⟩ = some (.bool f2))) := ⟨fun o => cells3 ((Below.refl _ W5).alloc (Nat.le_refl _) o) HD5.out⟩
             have HE7 : Aside0 (∀ o, ((W5.alloc o).drew.cell? ⟨wr.heap.size, 0, none⟩ = some (.int .u8 f0) ∧ (W5.alloc o).drew.cell? ⟨wr.heap.size, 1, none⟩ = some (.int .i64 f1) ∧ (W5.alloc o).drew.cell? ⟨wr.heap.size, 2, none⟩ = some (.bool f2))) := ⟨fun o => HE6.out o⟩
             clear D0 D1 D2
             have HX5 : Aside0 ((W5.alloc (.cells #[.int .u8 0, .int .i64 0, .string ⟨#[]⟩, .int .i64 0] 31)).drew.heap[W5.heap.size]? = some (.cells #[.int .u8 0, .int .i64 0, .string ⟨#[]⟩, .int .i64 0] 31 (0, 0)) ∧ W5.heap.size < (W5.alloc (.cells #[.int .u8 0, .int .i64 0, .string ⟨#[]⟩, .int .i64 0] 31)).drew.heap.size) := ⟨heap_alloc_new W5 _, blk_lt (heap_alloc_new W5 (.cells #[.int .u8 0, .int .i64 0, .string ⟨#[]⟩, .int .i64 0] 31))⟩
             have HBEL : Aside0 (Below W5.heap.size W5 (W5.alloc (.cells #[.int .u8 0, .int .i64 0, .string ⟨#[]⟩, .int .i64 0] 31)).drew) := ⟨((Below.refl _ W5).alloc (Nat.le_refl _) _).drew⟩
             have HBE : Aside0 (Below W5.heap.size W5 W5.drew) := ⟨(Below.refl _ W5).drew⟩
             have HLIST : Aside0 (∀ W', Below W5.heap.size W5 W' → kRow.C W' Al ls.length ls) := ⟨fun W' hb => Kd.C_below HCL2.out (HBO.out.trans ((HBI.out.trans ((HB5.out.trans (hb.mono HB5.out.size)).mono HBI.out.size)).mono HBO.out.size))⟩
             have HT5 : Aside0 (∀ W', Below W5.heap.size W5 W' → LaidT W') := ⟨fun W' hb => HT.out.below (HBWW.out.trans ((HB5.out.trans (hb.mono HB5.out.size)).mono HBWW.out.size))⟩
             go_wp2_with fail
             rw [← hW5]
             have HW5 := Aside0.mk hW5
             clear hW5
             go_region_held3 (fun W' => (W'.cell? ⟨wr.heap.size, 0, none⟩ = some (.int .u8 f0) ∧ W'.cell? ⟨wr.heap.size, 1, none⟩ = some (.int .i64 f1) ∧ W'.cell? ⟨wr.heap.size, 2, none⟩ = some (.bool f2))) (first | (with_reducible exact HD5.out) | (with_reducible exact HE5.out) | (with_reducible exact HE7.out _) | (with_reducible exact HE6.out _) | (with_reducible exact HR7.out) | (with_reducible exact HR7a.out _) | (with_reducible exact HS8.out) | (with_reducible exact HS8a.out _) | (with_reducible exact far3 HNE7.out HS8.out) | (with_reducible exact far3 HNE5.out HS8.out)) (first
              | (go_at_call 31; (with_reducible refine (bag_columnOf.calls kc Al cl ls f1 (columnR ls f1) W5.drew (HLIST.out _ HBE.out) HLC2.out HKC2.out).mono ?_); rintro e w7 ⟨vc, rfl, hRc, hb7⟩; obtain ⟨Ac, cc, ec, hcc, hCc⟩ := Kd.R_reads hRc; subst ec; have hb57 : Below W5.heap.size W5 w7 := (HBE.out).trans (hb7.mono (HBE.out).size); have HR7 : Aside0 (w7.cell? ⟨wr.heap.size, 0, none⟩ = some (.int .u8 f0) ∧ w7.cell? ⟨wr.heap.size, 1, none⟩ = some (.int .i64 f1) ∧ w7.cell? ⟨wr.heap.size, 2, none⟩ = some (.bool f2)) := ⟨cells3 hb57 HD5.out⟩; have HR7a : Aside0 (∀ o, ((w7.alloc o).cell? ⟨wr.heap.size, 0, none⟩ = some (.int .u8 f0) ∧ (w7.alloc o).cell? ⟨wr.heap.size, 1, none⟩ = some (.int .i64 f1) ∧ (w7.alloc o).cell? ⟨wr.heap.size, 2, none⟩ = some (.bool f2))) := ⟨fun o => cells3 ((Below.refl _ w7).alloc (Nat.le_refl _) o) HR7.out⟩; have HCC := Aside0.mk hCc; have HCN := Aside0.mk hcc; have HB7 := Aside0.mk hb57; have HNE7 : Aside0 (wr.heap.size ≠ w7.heap.size) := ⟨by have := HB7.out.size; have := HS5.out; omega⟩; clear hb57 hRc hb7 hcc hCc)
              | (go_at_call 31; (with_reducible refine (bag_columnOf.calls kc Al cl ls f1 (columnR ls f1) (W5.alloc (.cells #[.int .u8 0, .int .i64 0, .string ⟨#[]⟩, .int .i64 0] 31)).drew (HLIST.out _ HBEL.out) HLC2.out HKC2.out).mono ?_); rintro e w7 ⟨vc, rfl, hRc, hb7⟩; obtain ⟨Ac, cc, ec, hcc, hCc⟩ := Kd.R_reads hRc; subst ec; have hb57 : Below W5.heap.size W5 w7 := (HBEL.out).trans (hb7.mono (HBEL.out).size); have HR7 : Aside0 (w7.cell? ⟨wr.heap.size, 0, none⟩ = some (.int .u8 f0) ∧ w7.cell? ⟨wr.heap.size, 1, none⟩ = some (.int .i64 f1) ∧ w7.cell? ⟨wr.heap.size, 2, none⟩ = some (.bool f2)) := ⟨cells3 hb57 HD5.out⟩; have HR7a : Aside0 (∀ o, ((w7.alloc o).cell? ⟨wr.heap.size, 0, none⟩ = some (.int .u8 f0) ∧ (w7.alloc o).cell? ⟨wr.heap.size, 1, none⟩ = some (.int .i64 f1) ∧ (w7.alloc o).cell? ⟨wr.heap.size, 2, none⟩ = some (.bool f2))) := ⟨fun o => cells3 ((Below.refl _ w7).alloc (Nat.le_refl _) o) HR7.out⟩; have HCC := Aside0.mk hCc; have HCN := Aside0.mk hcc; have HX7 := Aside0.mk ((hb7.block W5.heap.size HX5.out.2).trans HX5.out.1); have HB7 := Aside0.mk hb57; have HNE7 : Aside0 (wr.heap.size ≠ w7.heap.size) := ⟨by have := HB7.out.size; have := HS5.out; omega⟩; clear hb57 hRc hb7 hcc hCc)
              | (go_at_call 13; have hx7 := HX7.out; (with_reducible refine (bag_Aggregate.calls f0 f2 Ac cc (columnR ls f1) r0 r1 r2 r3 w7 HCC.out HCN.out (HT5.out w7 HB7.out) HAGG.out).mono ?_); rintro e w8 ⟨rfl, hb8⟩; have hb78 : Below w7.heap.size w7 w8 := hb8; have HS8 : Aside0 (w8.cell? ⟨wr.heap.size, 0, none⟩ = some (.int .u8 f0) ∧ w8.cell? ⟨wr.heap.size, 1, none⟩ = some (.int .i64 f1) ∧ w8.cell? ⟨wr.heap.size, 2, none⟩ = some (.bool f2)) := ⟨cells3 hb78 HR7.out⟩; have HS8a : Aside0 (∀ o, ((w8.alloc o).cell? ⟨wr.heap.size, 0, none⟩ = some (.int .u8 f0) ∧ (w8.alloc o).cell? ⟨wr.heap.size, 1, none⟩ = some (.int .i64 f1) ∧ (w8.alloc o).cell? ⟨wr.heap.size, 2, none⟩ = some (.bool f2))) := ⟨fun o => cells3 ((Below.refl _ w8).alloc (Nat.le_refl _) o) HS8.out⟩; have HB8 := Aside0.mk (HB7.out.trans (hb78.mono HB7.out.size)); have hX8 := (hb8.block W5.heap.size (blk_lt hx7)).trans hx7; have x0 : w8.cell? ⟨W5.heap.size, 0, none⟩ = some (.int .u8 0) := (blk_cell hX8 0).trans rfl; have x1 : w8.cell? ⟨W5.heap.size, 1, none⟩ = some (.int .i64 0) := (blk_cell hX8 1).trans rfl; have x2 : w8.cell? ⟨W5.heap.size, 2, none⟩ = some (.string ⟨#[]⟩) := (blk_cell hX8 2).trans rfl; have x3 : w8.cell? ⟨W5.heap.size, 3, none⟩ = some (.int .i64 0) := (blk_cell hX8 3).trans rfl; have xf : ∀ j, w8.frozen? ⟨W5.heap.size, j, none⟩ = false := (fun j => by simp [World.frozen?, hX8]); have HX8 := Aside0.mk hX8; clear hX8; clear hb8 hb78 hx7)
              | (go_at_call 13; have hb9 : Below w7.heap.size w7 (w7.alloc (.cells #[.int .u8 0, .int .i64 0, .string ⟨#[]⟩, .int .i64 0] 31)) := (Below.refl _ w7).alloc (Nat.le_refl _) _; have hbx : Below W5.heap.size W5 (w7.alloc (.cells #[.int .u8 0, .int .i64 0, .string ⟨#[]⟩, .int .i64 0] 31)) := HB7.out.trans (hb9.mono HB7.out.size); (with_reducible refine (bag_Aggregate.calls f0 f2 Ac cc (columnR ls f1) r0 r1 r2 r3 (w7.alloc (.cells #[.int .u8 0, .int .i64 0, .string ⟨#[]⟩, .int .i64 0] 31)) (Kd.C_below HCC.out hb9) HCN.out (HT5.out _ hbx) HAGG.out).mono ?_); rintro e w8 ⟨rfl, hb8⟩; have hb78 : Below w7.heap.size w7 w8 := hb9.trans (hb8.mono hb9.size); have HS8 : Aside0 (w8.cell? ⟨wr.heap.size, 0, none⟩ = some (.int .u8 f0) ∧ w8.cell? ⟨wr.heap.size, 1, none⟩ = some (.int .i64 f1) ∧ w8.cell? ⟨wr.heap.size, 2, none⟩ = some (.bool f2)) := ⟨cells3 hb78 HR7.out⟩; have HS8a : Aside0 (∀ o, ((w8.alloc o).cell? ⟨wr.heap.size, 0, none⟩ = some (.int .u8 f0) ∧ (w8.alloc o).cell? ⟨wr.heap.size, 1, none⟩ = some (.int .i64 f1) ∧ (w8.alloc o).cell? ⟨wr.heap.size, 2, none⟩ = some (.bool f2))) := ⟨fun o => cells3 ((Below.refl _ w8).alloc (Nat.le_refl _) o) HS8.out⟩; have hX8 := (hb8.block w7.heap.size (blk_lt (heap_alloc_new w7 _))).trans (heap_alloc_new w7 _); have x0 : w8.cell? ⟨w7.heap.size, 0, none⟩ = some (.int .u8 0) := (blk_cell hX8 0).trans rfl; have x1 : w8.cell? ⟨w7.heap.size, 1, none⟩ = some (.int .i64 0) := (blk_cell hX8 1).trans rfl; have x2 : w8.cell? ⟨w7.heap.size, 2, none⟩ = some (.string ⟨#[]⟩) := (blk_cell hX8 2).trans rfl; have x3 : w8.cell? ⟨w7.heap.size, 3, none⟩ = some (.int .i64 0) := (blk_cell hX8 3).trans rfl; have xf : ∀ j, w8.frozen? ⟨w7.heap.size, j, none⟩ = false := (fun j => by simp [World.frozen?, hX8]); have HX8 := Aside0.mk hX8; clear hX8; have HB8 := Aside0.mk (HB7.out.trans (hb78.mono HB7.out.size)); clear hb8 hb9 hb78 hbx)
              | (go_at_call 13; (with_reducible refine (bag_Aggregate.calls f0 f2 Ac cc (columnR ls f1) r0 r1 r2 r3 w7 HCC.out HCN.out (HT5.out w7 HB7.out) HAGG.out).mono ?_); rintro e w8 ⟨rfl, hb8⟩; have hb78 : Below w7.heap.size w7 w8 := hb8; have HS8 : Aside0 (w8.cell? ⟨wr.heap.size, 0, none⟩ = some (.int .u8 f0) ∧ w8.cell? ⟨wr.heap.size, 1, none⟩ = some (.int .i64 f1) ∧ w8.cell? ⟨wr.heap.size, 2, none⟩ = some (.bool f2)) := ⟨cells3 hb78 HR7.out⟩; have HS8a : Aside0 (∀ o, ((w8.alloc o).cell? ⟨wr.heap.size, 0, none⟩ = some (.int .u8 f0) ∧ (w8.alloc o).cell? ⟨wr.heap.size, 1, none⟩ = some (.int .i64 f1) ∧ (w8.alloc o).cell? ⟨wr.heap.size, 2, none⟩ = some (.bool f2))) := ⟨fun o => cells3 ((Below.refl _ w8).alloc (Nat.le_refl _) o) HS8.out⟩; have HB8 := Aside0.mk (HB7.out.trans (hb78.mono HB7.out.size)); clear hb8 hb78))
             · obtain ⟨W9, hW9⟩ : ∃ W9, W9 = (w8.alloc (.cells #[.int .u8 r0, .int .i64 r1, .string r2, .int .i64 r3] 31)) := ⟨_, rfl⟩
               rw [← hW9]
               have hO9 : W9.heap[w8.heap.size]? = some (.cells #[.int .u8 r0, .int .i64 r1, .string r2, .int .i64 r3] 31 (0, 0)) := by rw [hW9]; exact heap_alloc_new _ _
               have HB9 : Aside0 (Below wr.heap.size wr W9) := ⟨by rw [hW9]; exact (HB5.out.trans (HB8.out.mono HB5.out.size)).alloc (HB5.out.trans (HB8.out.mono HB5.out.size)).size _⟩
               have o0 : W9.cell? ⟨w8.heap.size, 0, none⟩ = some (.int .u8 r0) := (blk_cell hO9 0).trans rfl
               have o1 : W9.cell? ⟨w8.heap.size, 1, none⟩ = some (.int .i64 r1) := (blk_cell hO9 1).trans rfl
               have o2 : W9.cell? ⟨w8.heap.size, 2, none⟩ = some (.string r2) := (blk_cell hO9 2).trans rfl
               have o3 : W9.cell? ⟨w8.heap.size, 3, none⟩ = some (.int .i64 r3) := (blk_cell hO9 3).trans rfl
               clear hO9 hW9
               try clear x0 x1 x2 x3 xf
               have HK9 := Aside0.mk (Kd.R_below HKR.out HB9.out)
               have HI9 := Aside0.mk (HBI.out.trans (HB9.out.mono HBI.out.size))
               by_cases hr3 : r3 = 0
               · subst hr3
                 go_wp2_with (at_builtin; refine Kd.R_append kV (w0 := wN) wN.heap.size rfl (.tmp 123) (.tmp 126) 58 27 (.agg #[(.int .u8 0), (.int .i64 0), (.string ⟨#[]⟩)]) 32 rfl Tryd.underlying58 infoV rfl (by decide) (by decide) _ _ (⟨r0, r1, r2⟩ : V) [.int .u8 r0, .int .i64 r1, .string r2] (fun _ => True) (fun _ => False) rfl rfl (k27_mkM _ _ _ (⟨r0, r1, r2⟩ : V)) (fun _ h => h.elim) (fun _ _ => trivial) HK9.out HI9.out HI9.out.size HLEN.out ?_; intro v6 w6 hR4 hb4 hg4 hat4; have HO4 := Aside0.mk hR4; have HB4 := Aside0.mk hb4; clear hR4 hb4 hg4 hat4)
                 have hk := HKQ2.out
                 have hly := HLY.out
                 have hy0 := HY0.out
                 cases gk with
                 | zero => omega
                 | succ k1 =>
                  go_roundg k1
                  case measure => omega
                  case rel => exact ⟨y + 1, by rw [HWY.out], ⟨by omega⟩, ⟨_, HO4.out, by have h := HRO2.out; rw [if_pos trivial] at h; exact h, by have h := HRL.out; rw [List.length_append]; simp only [List.length_cons, List.length_nil]; omega⟩, HB4⟩
               · obtain ⟨hgr, hge⟩ : grs = [] ∧ r3 = ger := by
                  have h := HRO2.out
                  rw [if_neg hr3] at h
                  have h2 := HACC2.out
                  rw [← h, if_neg hr3] at h2
                  simp only [Prod.mk.injEq] at h2
                  exact ⟨h2.1.symm, h2.2⟩
                 subst hgr
                 have z3 : (r3 != 0) = true := by simp [hr3]
                 have z4 : decide (r3 = 0) = false := decide_eq_false hr3
                 have hbq : Below wK.heap.size wK W9 := HBO.out.trans ((HBI.out.trans (HB9.out.mono HBI.out.size)).mono HBO.out.size)
                 have HN9 := Aside0.mk ((hbq.block q (blk_lt HNK.out)).trans HNK.out)
                 have HBZ := Aside0.mk (HBK.out.trans (hbq.mono HBK.out.size))
                 have y0 : W9.cell? ⟨q, 0, none⟩ = some (.slice none 0 0) := (blk_cell HN9.out 0).trans rfl
                 have y1 : W9.cell? ⟨q, 1, none⟩ = some (.int .i64 0) := (blk_cell HN9.out 1).trans rfl
                 have yf : ∀ j, W9.frozen? ⟨q, j, none⟩ = false := fun j => by have := HN9.out; simp [World.frozen?, this]
                 clear hbq hr3
                 have HGE := Aside0.mk hge
                 clear hge
                 go_wp2
                 refine bodyPost_ret (results_cell_row rfl _ _ q 41 _ (0, 0) _ rfl (out2_cells HN9.out _ _) Tryd.underlying41 rfl (by kernel_rfl)) rfl ?_
                 exact ⟨_, by rw [HGE.out], Kd.V_nil _ _ _ _ _, out2_below HBZ.out HQW.out _ _⟩
             · obtain ⟨W9, hW9⟩ : ∃ W9, W9 = ((((w8.setCell ⟨w7.heap.size, 0, none⟩ (.int .u8 r0)).setCell ⟨w7.heap.size, 1, none⟩ (.int .i64 r1)).setCell ⟨w7.heap.size, 2, none⟩ (.string r2)).setCell ⟨w7.heap.size, 3, none⟩ (.int .i64 r3)) := ⟨_, rfl⟩
               rw [← hW9]
               have hO9 : W9.heap[w7.heap.size]? = some (.cells #[.int .u8 r0, .int .i64 r1, .string r2, .int .i64 r3] 31 (0, 0)) := by rw [hW9]; exact out_cells HX8.out _ _ _ _
               have HB9 : Aside0 (Below wr.heap.size wr W9) := ⟨by rw [hW9]; exact out_belowB (HB5.out.trans (HB8.out.mono HB5.out.size)) (Nat.le_trans HB5.out.size HB7.out.size) _ _ _ _⟩
               have o0 : W9.cell? ⟨w7.heap.size, 0, none⟩ = some (.int .u8 r0) := (blk_cell hO9 0).trans rfl
               have o1 : W9.cell? ⟨w7.heap.size, 1, none⟩ = some (.int .i64 r1) := (blk_cell hO9 1).trans rfl
               have o2 : W9.cell? ⟨w7.heap.size, 2, none⟩ = some (.string r2) := (blk_cell hO9 2).trans rfl
               have o3 : W9.cell? ⟨w7.heap.size, 3, none⟩ = some (.int .i64 r3) := (blk_cell hO9 3).trans rfl
               clear hO9 hW9
               try clear x0 x1 x2 x3 xf
               have HK9 := Aside0.mk (Kd.R_below HKR.out HB9.out)
               have HI9 := Aside0.mk (HBI.out.trans (HB9.out.mono HBI.out.size))
               by_cases hr3 : r3 = 0
               · subst hr3
                 go_wp2_with (at_builtin; refine Kd.R_append kV (w0 := wN) wN.heap.size rfl (.tmp 123) (.tmp 126) 58 27 (.agg #[(.int .u8 0), (.int .i64 0), (.string ⟨#[]⟩)]) 32 rfl Tryd.underlying58 infoV rfl (by decide) (by decide) _ _ (⟨r0, r1, r2⟩ : V) [.int .u8 r0, .int .i64 r1, .string r2] (fun _ => True) (fun _ => False) rfl rfl (k27_mkM _ _ _ (⟨r0, r1, r2⟩ : V)) (fun _ h => h.elim) (fun _ _ => trivial) HK9.out HI9.out HI9.out.size HLEN.out ?_; intro v6 w6 hR4 hb4 hg4 hat4; have HO4 := Aside0.mk hR4; have HB4 := Aside0.mk hb4; clear hR4 hb4 hg4 hat4)
                 have hk := HKQ2.out
                 have hly := HLY.out
                 have hy0 := HY0.out
                 cases gk with
                 | zero => omega
                 | succ k1 =>
                  go_roundg k1
                  case measure => omega
                  case rel => exact ⟨y + 1, by rw [HWY.out], ⟨by omega⟩, ⟨_, HO4.out, by have h := HRO2.out; rw [if_pos trivial] at h; exact h, by have h := HRL.out; rw [List.length_append]; simp only [List.length_cons, List.length_nil]; omega⟩, HB4⟩
               · obtain ⟨hgr, hge⟩ : grs = [] ∧ r3 = ger := by
                  have h := HRO2.out
                  rw [if_neg hr3] at h
                  have h2 := HACC2.out
                  rw [← h, if_neg hr3] at h2
                  simp only [Prod.mk.injEq] at h2
                  exact ⟨h2.1.symm, h2.2⟩
                 subst hgr
                 have z3 : (r3 != 0) = true := by simp [hr3]
                 have z4 : decide (r3 = 0) = false := decide_eq_false hr3
                 have hbq : Below wK.heap.size wK W9 := HBO.out.trans ((HBI.out.trans (HB9.out.mono HBI.out.size)).mono HBO.out.size)
                 have HN9 := Aside0.mk ((hbq.block q (blk_lt HNK.out)).trans HNK.out)
                 have HBZ := Aside0.mk (HBK.out.trans (hbq.mono HBK.out.size))
                 have y0 : W9.cell? ⟨q, 0, none⟩ = some (.slice none 0 0) := (blk_cell HN9.out 0).trans rfl
                 have y1 : W9.cell? ⟨q, 1, none⟩ = some (.int .i64 0) := (blk_cell HN9.out 1).trans rfl
                 have yf : ∀ j, W9.frozen? ⟨q, j, none⟩ = false := fun j => by have := HN9.out; simp [World.frozen?, this]
                 clear hbq hr3
                 have HGE := Aside0.mk hge
                 clear hge
                 go_wp2
                 refine bodyPost_ret (results_cell_row rfl _ _ q 41 _ (0, 0) _ rfl (out2_cells HN9.out _ _) Tryd.underlying41 rfl (by kernel_rfl)) rfl ?_
                 exact ⟨_, by rw [HGE.out], Kd.V_nil _ _ _ _ _, out2_below HBZ.out HQW.out _ _⟩
             · obtain ⟨W9, hW9⟩ : ∃ W9, W9 = ((((w8.setCell ⟨W5.heap.size, 0, none⟩ (.int .u8 r0)).setCell ⟨W5.heap.size, 1, none⟩ (.int .i64 r1)).setCell ⟨W5.heap.size, 2, none⟩ (.string r2)).setCell ⟨W5.heap.size, 3, none⟩ (.int .i64 r3)) := ⟨_, rfl⟩
               rw [← hW9]
               have hO9 : W9.heap[W5.heap.size]? = some (.cells #[.int .u8 r0, .int .i64 r1, .string r2, .int .i64 r3] 31 (0, 0)) := by rw [hW9]; exact out_cells HX8.out _ _ _ _
               have HB9 : Aside0 (Below wr.heap.size wr W9) := ⟨by rw [hW9]; exact out_belowB (HB5.out.trans (HB8.out.mono HB5.out.size)) HB5.out.size _ _ _ _⟩
               have o0 : W9.cell? ⟨W5.heap.size, 0, none⟩ = some (.int .u8 r0) := (blk_cell hO9 0).trans rfl
               have o1 : W9.cell? ⟨W5.heap.size, 1, none⟩ = some (.int .i64 r1) := (blk_cell hO9 1).trans rfl
               have o2 : W9.cell? ⟨W5.heap.size, 2, none⟩ = some (.string r2) := (blk_cell hO9 2).trans rfl
               have o3 : W9.cell? ⟨W5.heap.size, 3, none⟩ = some (.int .i64 r3) := (blk_cell hO9 3).trans rfl
               clear hO9 hW9
               try clear x0 x1 x2 x3 xf
               have HK9 := Aside0.mk (Kd.R_below HKR.out HB9.out)
               have HI9 := Aside0.mk (HBI.out.trans (HB9.out.mono HBI.out.size))
               by_cases hr3 : r3 = 0
               · subst hr3
                 go_wp2_with (at_builtin; refine Kd.R_append kV (w0 := wN) wN.heap.size rfl (.tmp 123) (.tmp 126) 58 27 (.agg #[(.int .u8 0), (.int .i64 0), (.string ⟨#[]⟩)]) 32 rfl Tryd.underlying58 infoV rfl (by decide) (by decide) _ _ (⟨r0, r1, r2⟩ : V) [.int .u8 r0, .int .i64 r1, .string r2] (fun _ => True) (fun _ => False) rfl rfl (k27_mkM _ _ _ (⟨r0, r1, r2⟩ : V)) (fun _ h => h.elim) (fun _ _ => trivial) HK9.out HI9.out HI9.out.size HLEN.out ?_; intro v6 w6 hR4 hb4 hg4 hat4; have HO4 := Aside0.mk hR4; have HB4 := Aside0.mk hb4; clear hR4 hb4 hg4 hat4)
                 have hk := HKQ2.out
                 have hly := HLY.out
                 have hy0 := HY0.out
                 cases gk with
                 | zero => omega
                 | succ k1 =>
                  go_roundg k1
                  case measure => omega
                  case rel => exact ⟨y + 1, by rw [HWY.out], ⟨by omega⟩, ⟨_, HO4.out, by have h := HRO2.out; rw [if_pos trivial] at h; exact h, by have h := HRL.out; rw [List.length_append]; simp only [List.length_cons, List.length_nil]; omega⟩, HB4⟩
               · obtain ⟨hgr, hge⟩ : grs = [] ∧ r3 = ger := by
                  have h := HRO2.out
                  rw [if_neg hr3] at h
                  have h2 := HACC2.out
                  rw [← h, if_neg hr3] at h2
                  simp only [Prod.mk.injEq] at h2
                  exact ⟨h2.1.symm, h2.2⟩
                 subst hgr
                 have z3 : (r3 != 0) = true := by simp [hr3]
                 have z4 : decide (r3 = 0) = false := decide_eq_false hr3
                 have hbq : Below wK.heap.size wK W9 := HBO.out.trans ((HBI.out.trans (HB9.out.mono HBI.out.size)).mono HBO.out.size)
                 have HN9 := Aside0.mk ((hbq.block q (blk_lt HNK.out)).trans HNK.out)
                 have HBZ := Aside0.mk (HBK.out.trans (hbq.mono HBK.out.size))
                 have y0 : W9.cell? ⟨q, 0, none⟩ = some (.slice none 0 0) := (blk_cell HN9.out 0).trans rfl
                 have y1 : W9.cell? ⟨q, 1, none⟩ = some (.int .i64 0) := (blk_cell HN9.out 1).trans rfl
                 have yf : ∀ j, W9.frozen? ⟨q, j, none⟩ = false := fun j => by have := HN9.out; simp [World.frozen?, this]
                 clear hbq hr3
                 have HGE := Aside0.mk hge
                 clear hge
                 go_wp2
                 refine bodyPost_ret (results_cell_row rfl _ _ q 41 _ (0, 0) _ rfl (out2_cells HN9.out _ _) Tryd.underlying41 rfl (by kernel_rfl)) rfl ?_
                 exact ⟨_, by rw [HGE.out], Kd.V_nil _ _ _ _ _, out2_below HBZ.out HQW.out _ _⟩
           · have d1 : decide (y < (l2.length : Int)) = false := decide_eq_false hly
             have HNX : Aside0 (rowsOf l1 l0 l2 (keys.drop (x + 1).toNat) (acc ++ [r]) = (grs, ger)) := ⟨by
              have h := HRO.out
              rw [List.drop_of_length_le (by omega)] at h
              have h2 := HACC2.out
              rw [← h] at h2
              exact h2⟩
             clear HY hy0 hy1 hkq hly HRO HACC2
             obtain ⟨Ag, cg, eg, _⟩ := Kd.R_reads HKR.out
             subst eg
             have hNW : Below wN.heap.size wN wr := HBI.out
             have HBOK := Aside0.mk (HBO.out.trans (hNW.mono HBO.out.size))
             have HO9 := Aside0.mk (Kd.R_below (Kd.R_below HO.out HBN.out) hNW)
             have HM9 := Aside0.mk (Kd.R_mono (Kd.R_lower (Kd.R_bound HKR.out) HBO.out.size) (ok' := fun k => wN.heap.size ≤ k) (fun k hk => hk.2.1))
             have HFR : Aside0 (∀ k, wN.heap.size ≤ k → True ∧ some k ≠ u14.ownBlock) := ⟨fun k hk => ⟨trivial, fun e => by have h1 := Kd.R_lt HO.out k e.symm; have h2 := HBN.out.size; omega⟩⟩
             have HLEN2 : Aside0 ((acc.length + 1) * 24 ≤ 140737488355328) := ⟨by
              have := HKN.out
              have := HAL.out
              have := HLT.out
              omega⟩
             clear hNW
             go_wp2_with (at_builtin; refine Kd.R_append kRow (w0 := wK) wK.heap.size rfl (.tmp 129) (.tmp 131) 37 58 (.slice none 0 0) 24 rfl Tryd.underlying37 infoRow rfl (Nat.le_refl 1) (by decide) _ _ r [.slice Ag r.length cg] (fun _ => True) (fun k => wN.heap.size ≤ k) rfl rfl ⟨_, rfl, HM9.out⟩ HFR.out (fun _ _ => trivial) HO9.out HBOK.out HBOK.out.size HLEN2.out ?_; intro v6 w6 hR4 hb4 hg4 hat4; have HO4 := Aside0.mk hR4; have HB4 := Aside0.mk hb4; clear hR4 hb4 hg4 hat4)
             have hk := HKQ.out
             have hlt := HLT.out
             have hx0 := HX0.out
             cases gO with
             | zero => omega
             | succ k1 =>
              go_roundg k1
              case measure => omega
              case rel => exact ⟨x + 1, by rw [HWR.out], ⟨by omega⟩, ⟨_, HO4.out, HNX.out, by have h1 := HAL.out; have h2 := HX0.out; rw [List.length_append]; simp only [List.length_cons, List.length_nil]; omega⟩, HB4⟩
        · have d1 : decide (x < (keys.length : Int)) = false := decide_eq_false hlt
          obtain ⟨hf1, hf2⟩ : acc = grs ∧ 0 = ger := by
           have h := HACC.out
           rw [List.drop_of_length_le (by omega)] at h
           simpa [rowsOf] using h
          subst hf1
          subst hf2
          have HN9 := Aside0.mk ((HB.out.block q (blk_lt HNK.out)).trans HNK.out)
          have HB9 := Aside0.mk (HBK.out.trans (HB.out.mono HBK.out.size))
          have HKS2 := Aside0.mk HBK.out.size
          clear hx0 hx1 hkq hlt HX HACC HAL
          have y0 : wr.cell? ⟨q, 0, none⟩ = some (.slice none 0 0) := (blk_cell HN9.out 0).trans rfl
          have y1 : wr.cell? ⟨q, 1, none⟩ = some (.int .i64 0) := (blk_cell HN9.out 1).trans rfl
          have yf : ∀ j, wr.frozen? ⟨q, j, none⟩ = false := fun j => by have := HN9.out; simp [World.frozen?, this]
          obtain ⟨Ag, cg, eg, _⟩ := Kd.R_reads HO.out
          subst eg
          go_wp2
          refine bodyPost_ret (results_cell_row rfl _ _ q 41 _ (0, 0) _ rfl (out2_cells HN9.out _ _) Tryd.underlying41 rfl (by kernel_rfl)) rfl ?_
          refine ⟨_, rfl, ?_, out2_below HB9.out HQW.out _ _⟩
          have hqk := blk_lt HNK.out
          have h1 := Kd.R_mono (Kd.R_bound HO.out) (ok' := fun k => wK.heap.size ≤ k) (fun k hk => hk.2.1)
          have h2 := Kd.R_far (p := ⟨q, 0, none⟩) h1 (fun k hk e => by
           have e : k = q := e
           omega) (Value.slice Ag acc.length cg)
          have h3 := Kd.R_far (p := ⟨q, 1, none⟩) h2 (fun k hk e => by
           have e : k = q := e
           omega) (Value.int .i64 0)
          exact Kd.R_V (base' := w.heap.size) (Kd.R_mono h3 (fun k hk => Nat.le_trans HKS2.out hk))
end Go.Proofs.YtecgkcgfeghhgaaDoor.PAll
namespace Go.Proofs.YtecgkcgfeghhgaaDoor.PAll
open Go.RowKit Go.Proofs.YtecgkcgfeghhgaaDoorW.PrintWords Go.Proofs.YtecgkcgfeghhgaaDoorW.PrintLast Go.Proofs.YtecgkcgfeghhgaaDoorW.PrintMore
attribute [local go_sem] max2_int min2_int max_two min_two max_three min_three max_four min_four
set_option linter.unusedVariables false
set_option linter.unusedSimpArgs false
def r1_Int.f (a0 : Int) : Option (Int × Int × ByteArray) := some (1, a0, (⟨#[]⟩ : ByteArray))
theorem r1_Int.calls (a0 : Int) (r1 : Int) (r2 : Int) (r3 : ByteArray) (w : World) (h : r1_Int.f a0 = some (r1, r2, r3)) :
 Calls Tryd.prog 12 #[.int .i64 a0] w fun e w' => e = .returned (.agg #[.int .u8 r1, .int .i64 r2, .string r3]) ∧ Below w.heap.size w w' := by
 have hu27 := Tryd.underlying27
 have HB := Aside0.mk (Below.refl w.heap.size w)
 have H : (some (1, a0, (⟨#[]⟩ : ByteArray))) = some (r1, r2, r3) := h
 clear h
 simp only [Option.some.injEq, Prod.mk.injEq] at H
 obtain ⟨rfl, rfl, rfl⟩ := H
 go_enter Tryd.func12, Tryd.ntmps12
 go_wp2_with (first | ((with_reducible refine gate_dst (N := 2) rfl ?_); refine box_event ?hg (N := 2) ?hd (cs := #[.int .u8 0, .int .i64 0, .string (⟨#[]⟩ : ByteArray)]) (t := 27) ?hr ?_; (case hd => rfl); (case hg => rfl); (case hr => first | (go_simp; done) | (go_simp; rfl)); intro gb124 hg w2 hbox hb; have n0_ := Aside0.mk (below_step (by repeat (first | (with_reducible first | exact HB.out | apply bA_ | apply bN_ | apply b1_) | exact HB.out)) hb); have n1_ := Aside0.mk (hbox); have n2_ := Aside0.mk ((by rw [hg]; exact (below_size (by repeat (first | (with_reducible first | exact HB.out | apply bA_ | apply bN_ | apply b1_) | exact HB.out))) : w.heap.size ≤ gb124)); have n3_ := Aside0.mk ((by rw [hg]; exact (below_size (by repeat (first | (with_reducible first | exact HB.out | apply bA_ | apply bN_ | apply b1_) | exact HB.out))) : w.heap.size ≤ gb124)); clear HB; have HB := n0_; have BK124 := n1_; have GW124 := n2_; have GE124 := n3_; clear n0_ n1_ n2_ n3_; clear hb hbox hg; have hcz3_0 : w2.cell? ⟨gb124, 0, none⟩ = some (.int .u8 0) := (blk_cell BK124.out 0).trans rfl; have hcz3_1 : w2.cell? ⟨gb124, 1, none⟩ = some (.int .i64 0) := (blk_cell BK124.out 1).trans rfl; have hcz3_2 : w2.cell? ⟨gb124, 2, none⟩ = some (.string (⟨#[]⟩ : ByteArray)) := (blk_cell BK124.out 2).trans rfl; have hfz3_0 := blk_frozen BK124.out 0; have hfz3_1 := blk_frozen BK124.out 1; have hfz3_2 := blk_frozen BK124.out 2))
 refine bodyPost_ret (results_cell_row rfl _ _ gb124 27 #[.int .u8 1, .int .i64 a0, .string (⟨#[]⟩ : ByteArray)] (0, 0) _ rfl (by (with_reducible repeat (first | refine blk_drewN ?_ _ | refine blk_drew ?_ | refine blk_alloc ?_ _)); refine blk_put (cs := #[.int .u8 1, .int .i64 a0, .string (⟨#[]⟩ : ByteArray)]) ?_ 2 _ rfl; (with_reducible repeat (first | refine blk_drewN ?_ _ | refine blk_drew ?_ | refine blk_alloc ?_ _)); refine blk_put (cs := #[.int .u8 1, .int .i64 0, .string (⟨#[]⟩ : ByteArray)]) ?_ 1 _ rfl; (with_reducible repeat (first | refine blk_drewN ?_ _ | refine blk_drew ?_ | refine blk_alloc ?_ _)); refine blk_put (cs := #[.int .u8 0, .int .i64 0, .string (⟨#[]⟩ : ByteArray)]) ?_ 0 _ rfl; (with_reducible repeat (first | refine blk_drewN ?_ _ | refine blk_drew ?_ | refine blk_alloc ?_ _)); exact BK124.out) Tryd.underlying27 rfl (by kernel_rfl)) rfl ?_
 exact ⟨by first | rfl | (simp [*, errW_none, errW_some] <;> rfl), by repeat (first | (with_reducible first | exact HB.out | apply bA_ | apply bN_ | apply b1_ | refine below_set ?_ GE124.out) | exact HB.out)⟩
end Go.Proofs.YtecgkcgfeghhgaaDoor.PAll
set_option linter.unusedVariables false
set_option linter.unusedSimpArgs false
namespace Go.Proofs.YtecgkcgfeghhgaaDoor.PAll
open Go.RowKit Go.Proofs.YtecgkcgfeghhgaaDoorW.PrintWords Go.Proofs.YtecgkcgfeghhgaaDoorW.PrintLast Go.Proofs.YtecgkcgfeghhgaaDoorW.PrintMore
abbrev iV (n : Int) : V := ⟨1, n, ⟨#[]⟩⟩
abbrev oneA_ : List (List V) := [[iV 2], [iV 1], [iV 1]]
abbrev twoA_ : List (List V) := [[iV 1], [iV 3]]
theorem C_row1 {W : World} {b : Nat} {t : TypeId} (v : V) (h : W.heap[b]? = some (.cells #[.int .u8 v.f0, .int .i64 v.f1, .string v.f2] t (0, 0))) : Kd.C kV W (some ⟨b, 0, none⟩) [v].length [v] := by
 refine ⟨rfl, by simp, fun _ => ⟨⟨b, 0, none⟩, rfl, fun j p hj => ?_⟩⟩
 cases j with
 | succ j => simp at hj
 | zero =>
  obtain rfl : v = p := by simpa using hj
  refine ⟨[.int .u8 v.f0, .int .i64 v.f1, .string v.f2], rfl, kV.K_of_M (base := 0) (ok := fun _ => True) (k27_mkM _ _ _ v), fun i u hi => ?_⟩
  have h := blk_cell h i
  rw [add_plain, Nat.zero_mul, Nat.zero_add]
  refine h.trans ?_
  simpa using hi
theorem C_rows {W : World} {g : Nat} {cs : Array Value} {t : TypeId} {l : List (List V)} (h : W.heap[g]? = some (.cells cs t (0, 0))) (hn : l.length ≤ 9223372036854775807) (hr : ∀ (j : Nat) (row : List V), l[j]? = some row → ∃ A c, cs[j]? = some (Value.slice A row.length c) ∧ row.length ≤ c ∧ Kd.C kV W A row.length row) : Kd.C kRow W (some ⟨g, 0, none⟩) l.length l := by
 refine ⟨rfl, hn, fun _ => ⟨⟨g, 0, none⟩, rfl, fun j p hj => ?_⟩⟩
 obtain ⟨A, c, h1, h2, h3⟩ := hr j p hj
 refine ⟨[.slice A p.length c], rfl, ⟨A, c, rfl, h2, h3⟩, fun i u hi => ?_⟩
 cases i with
 | succ i => simp at hi
 | zero =>
  obtain rfl : Value.slice A p.length c = u := by simpa using hi
  rw [add_plain]
  show W.cell? ⟨g, j * 1 + 0, none⟩ = _
  rw [Nat.mul_one, Nat.add_zero]
  exact (blk_cell h j).trans h1
theorem valid_iV (n : Int) : validV (iV n) = true := by
 unfold validV noText
 simp [ByteArray.toList_eq]
theorem ok_iV (n : Int) (h : -9223372036854775808 ≤ n ∧ n ≤ 9223372036854775807) : VOk (iV n) := ⟨by simp, by simp, h.1, h.2⟩
theorem rowOk_iV (l : List V) (h : ∀ v ∈ l, ∃ n : Int, -9223372036854775808 ≤ n ∧ n ≤ 9223372036854775807 ∧ v = iV n) (hn : l.length ≤ 2) : RowOk l := by
 have len1 : ∀ n : Int, -9223372036854775808 ≤ n → n ≤ 9223372036854775807 → (nameV (iV n)).length ≤ 100 := fun n h0 h1 => by
  have i1 := Lib.itoa_length_le 1 (by omega) (by omega)
  have i2 := Lib.itoa_length_le n (by omega) (by omega)
  have i3 := Lib.itoa_length_le 0 (by omega) (by omega)
  show (Lib.itoa 1 ++ ([32] ++ (Lib.itoa n ++ ([32] ++ (Lib.itoa 0 ++ ([58] ++ ([] : List UInt8))))))).length ≤ 100
  simp only [List.length_append, List.length_cons, List.length_nil]
  omega
 refine ⟨fun v hv => ?_, ?_, by omega⟩
 · obtain ⟨n, h0, h1, rfl⟩ := h v hv
   exact ok_iV n ⟨h0, h1⟩
 · match l, h, hn with
   | [], _, _ => simp [nameB]
   | [a], h, _ =>
    obtain ⟨n, h0, h1, rfl⟩ := h a (by simp)
    have := len1 n h0 h1
    simp only [nameB, List.append_nil]
    omega
   | [a, b], h, _ =>
    obtain ⟨n, h0, h1, rfl⟩ := h a (by simp)
    obtain ⟨m, h2, h3, rfl⟩ := h b (by simp)
    have e1 := len1 n h0 h1
    have e2 := len1 m h2 h3
    simp only [nameB, List.append_nil, List.length_append]
    omega
theorem one_ok : RowsOk oneA_ := ⟨fun r hr => by
 simp only [oneA_, List.mem_cons, List.not_mem_nil, or_false] at hr
 rcases hr with rfl | rfl | rfl
 · exact rowOk_iV _ (fun v hv => ⟨2, by omega, by omega, by simpa using hv⟩) (by simp)
 · exact rowOk_iV _ (fun v hv => ⟨1, by omega, by omega, by simpa using hv⟩) (by simp)
 · exact rowOk_iV _ (fun v hv => ⟨1, by omega, by omega, by simpa using hv⟩) (by simp), by simp⟩
theorem two_ok : RowsOk twoA_ := ⟨fun r hr => by
 simp only [twoA_, List.mem_cons, List.not_mem_nil, or_false] at hr
 rcases hr with rfl | rfl
 · exact rowOk_iV _ (fun v hv => ⟨1, by omega, by omega, by simpa using hv⟩) (by simp)
 · exact rowOk_iV _ (fun v hv => ⟨3, by omega, by omega, by simpa using hv⟩) (by simp), by simp⟩
theorem valid_ints (l : List (List V)) (h : ∀ r ∈ l, ∃ n, r = [iV n]) : validB l = true := by
 have key : ∀ (l : List (List V)) (k : Int), (k = 0 ∨ k = 1) → (∀ r ∈ l, ∃ n, r = [iV n]) → validFrom [k] l = true := by
  intro l
  induction l with
  | nil => intro k _ _; rfl
  | cons r rs ih =>
   intro k hk h
   obtain ⟨n, rfl⟩ := h r (by simp)
   have e : rowStep [k] [iV n] = some [1] := by
    simp only [rowStep]
    rw [if_pos ⟨valid_iV n, by show k = 0 ∨ k = 1 ∨ (1 : Int) = 0; omega⟩]
    rcases hk with rfl | rfl <;> rfl
   simp only [validFrom, e]
   exact ih 1 (.inr rfl) (fun r hr => h r (List.mem_cons_of_mem _ hr))
 cases l with
 | nil => rfl
 | cons r rs =>
  obtain ⟨n, hn⟩ := h r (by simp)
  unfold validB
  rw [hn]
  rw [hn] at h
  exact key _ 0 (.inl rfl) h
theorem one_valid : validB oneA_ = true := valid_ints _ (fun r hr => by
 simp only [oneA_, List.mem_cons, List.not_mem_nil, or_false] at hr
 rcases hr with rfl | rfl | rfl <;> exact ⟨_, rfl⟩)
theorem both_valid : validB (oneA_ ++ twoA_) = true := valid_ints _ (fun r hr => by
 simp only [oneA_, twoA_, List.cons_append, List.nil_append, List.mem_cons, List.not_mem_nil, or_false] at hr
 rcases hr with rfl | rfl | rfl | rfl | rfl <;> exact ⟨_, rfl⟩)
theorem ne_iV {a b : Int} (h : a ≠ b) : nameOf [iV a] ≠ nameOf [iV b] := fun e => by
 have h1 := name_inj e
 simp only [List.cons.injEq, and_true] at h1
 injection h1 with _ h2
 exact h h2
theorem awake_except : ∃ met left, bag_split.f oneA_ twoA_ = some (met, left, 0) ∧ left.length = 2 := by
 have hok : RowsOk (oneA_ ++ twoA_) := ⟨fun r hr => by
  rcases List.mem_append.1 hr with h | h
  · exact one_ok.1 r h
  · exact two_ok.1 r h, by simp⟩
 refine ⟨_, _, by unfold bag_split.f; rw [if_pos hok, if_pos both_valid], ?_⟩
 rw [(sortR_perm _ _).length_eq]
 have h21 : nameOf [iV 2] ≠ nameOf [iV 1] := ne_iV (by decide)
 have h13 : nameOf [iV 1] ≠ nameOf [iV 3] := ne_iV (by decide)
 have h23 : nameOf [iV 2] ≠ nameOf [iV 3] := ne_iV (by decide)
 have e1 : cnt (twoA_.map nameOf) (nameOf [iV 2]) = 0 := by simp [twoA_, cnt, h21.symm, h23.symm]
 have e2 : cnt (twoA_.map nameOf) (nameOf [iV 1]) = 1 := by simp [twoA_, cnt, h13.symm]
 obtain ⟨c, hc⟩ : ∃ c, c = cnt (twoA_.map nameOf) := ⟨_, rfl⟩
 rw [← hc] at e1 e2 ⊢
 have e3 : decAt c (nameOf [iV 1]) (nameOf [iV 1]) = 0 := by simp [decAt, e2]
 simp only [oneA_, splitR, e1, e2, e3]
 simp [splitR, e3]
theorem cmp_iV (a b : Int) : compareV (iV a) (iV b) = cmpI a b := by
 unfold compareV
 have : cmpI (iV a).f0 (iV b).f0 = 0 := rfl
 rw [if_pos this, if_neg (by show ¬ (1 : Int) = 0; decide), if_neg (by show ¬ (1 : Int) = 2; decide)]
theorem awake_cut : bag_Cut.f oneA_ [⟨0, true⟩] 0 1 = some ([[iV 2]], 0) := by
 have hk : keysB oneA_ [⟨0, true⟩] = true := by decide
 have hf : fitsB oneA_ [⟨0, true⟩] = true := by unfold fitsB; rw [one_valid, hk]; rfl
 unfold bag_Cut.f
 rw [if_pos ⟨one_ok.v, by simp, by decide, by decide⟩, if_pos ⟨hf, by decide, by decide⟩]
 have hs : sortR [⟨0, true⟩] oneA_ = oneA_ := by
  refine (sortR_unique (fun row hrow => validB_valid one_valid row hrow) (List.Perm.refl _) ?_).symm
  have c : ∀ a b : Int, cmpFull [⟨0, true⟩] [iV a] [iV b] = if cmpI a b = 0 then 0 else -cmpI a b := fun a b => by
   unfold cmpFull
   have e1 : cmpBy [⟨0, true⟩] [iV a] [iV b] = if cmpI a b = 0 then 0 else -cmpI a b := by
    simp only [cmpBy]
    show (if compareV (iV a) (iV b) = 0 then 0 else if True then -compareV (iV a) (iV b) else _) = _
    rw [cmp_iV, if_pos trivial]
   rw [e1]
   by_cases h : cmpI a b = 0
   · rw [if_pos h, if_pos rfl]
     simp [cmpRows, cmp_iV, h]
   · rw [if_neg h, if_neg (by omega)]
  refine List.Pairwise.cons (fun r hr => ?_) (List.Pairwise.cons (fun r hr => ?_) (List.Pairwise.cons (fun r hr => by cases hr) List.Pairwise.nil))
  · simp only [List.mem_cons, List.not_mem_nil, or_false] at hr
    rcases hr with rfl | rfl <;> (rw [c]; decide)
  · simp only [List.mem_cons, List.not_mem_nil, or_false] at hr
    subst hr
    rw [c]; decide
 rw [hs]
 rfl
theorem awake_agg : bag_Aggregate.f 2 false [iV 9223372036854775807, iV 1, iV (-1)] = some (1, 9223372036854775807, ⟨#[]⟩, 0) := by
 have hok : AggOk 2 [iV 9223372036854775807, iV 1, iV (-1)] := by
  refine ⟨by omega, fun h => by omega, fun v hv => ?_, by simp⟩
  simp only [List.mem_cons, List.not_mem_nil, or_false] at hv
  refine rowOk_iV [v] (fun u hu => ?_) (by simp)
  obtain rfl : u = v := by simpa using hu
  rcases hv with rfl | rfl | rfl
  · exact ⟨_, by omega, by omega, rfl⟩
  · exact ⟨_, by omega, by omega, rfl⟩
  · exact ⟨_, by omega, by omega, rfl⟩
 unfold bag_Aggregate.f
 rw [if_pos hok]
 have ha : allowedB 2 false [iV 9223372036854775807, iV 1, iV (-1)] = true := by
  unfold allowedB
  rw [if_neg (by simp)]
  simp only [kindFrom, valid_iV]
  rfl
 unfold aggR
 rw [if_pos ha]
 unfold aggV
 rw [if_pos rfl]
 have hp : pickV 2 false [] [iV 9223372036854775807, iV 1, iV (-1)] = [iV 9223372036854775807, iV 1, iV (-1)] := by
  simp [pickV]
 rw [hp]
 rfl
theorem awake_same : bag_Same.f oneA_ twoA_ = some false := by
 have hs : sameB oneA_ twoA_ = false := sameB_false (fun h => by have := h.1; simp at this)
 unfold bag_Same.f
 rw [if_pos ⟨one_ok, two_ok⟩, hs]
theorem awake_groupOk : GroupOk oneA_ [0] [⟨0, 0, false⟩] := by
 have hkeys : ∀ row ∈ oneA_, keyOf [0] row = row := fun row hrow => by
  simp only [oneA_, List.mem_cons, List.not_mem_nil, or_false] at hrow
  rcases hrow with rfl | rfl | rfl <;> rfl
 refine ⟨one_ok, by simp, by simp, by simp, fun a ha => ?_, fun row hrow => by rw [hkeys row hrow]; exact one_ok.1 row hrow, fun a ha row hrow => ?_⟩
 · obtain rfl : a = ⟨0, 0, false⟩ := by simpa using ha
   exact Int.le_refl _
 · obtain rfl : a = ⟨0, 0, false⟩ := by simpa using ha
   have : [rd_T27 row 0] = row := by
    simp only [oneA_, List.mem_cons, List.not_mem_nil, or_false] at hrow
    rcases hrow with rfl | rfl | rfl <;> rfl
   rw [this]
   exact one_ok.1 row hrow
theorem awake_groupable : groupableB oneA_ [0] [⟨0, 0, false⟩] = true := by
 unfold groupableB
 simp only [Bool.and_eq_true, List.all_eq_true]
 exact ⟨⟨one_valid, fun n hn => by
  obtain rfl : n = 0 := by simpa using hn
  decide⟩, fun a ha => by
  obtain rfl : a = ⟨0, 0, false⟩ := by simpa using ha
  rfl⟩
theorem awake_group : groupG oneA_ [0] [⟨0, 0, false⟩] = ([[iV 1, iV 2], [iV 2, iV 1]], 0) := by
 have h21 : nameOf [iV 2] ≠ nameOf [iV 1] := ne_iV (by decide)
 have hm : oneA_.map (keyOf [0]) = oneA_ := rfl
 have hd : distR [] oneA_ = [[iV 2], [iV 1]] := by
  simp only [oneA_, distR]
  simp [h21.symm]
 have hk : keysR [0] oneA_ = [[iV 1], [iV 2]] := by
  unfold keysR
  rw [if_neg (by simp), hm, hd]
  refine (sortR_unique (fun row hrow => ?_) (List.Perm.swap _ _ _) ?_).symm
  · exact validB_valid (valid_ints [[iV 2], [iV 1]] (fun r hr => by
     simp only [List.mem_cons, List.not_mem_nil, or_false] at hr
     rcases hr with rfl | rfl <;> exact ⟨_, rfl⟩)) row hrow
  · refine List.Pairwise.cons (fun r hr => ?_) (List.Pairwise.cons (fun r hr => by cases hr) List.Pairwise.nil)
    obtain rfl : r = [iV 2] := by simpa using hr
    unfold cmpFull
    simp only [cmpBy, cmpRows, cmp_iV]
    decide
 have l1 : (listR [0] oneA_ (nameOf [iV 1])).length = 2 := by
  unfold listR
  have e1 : nameOf (keyOf [0] [iV 2]) ≠ nameOf [iV 1] := h21
  have e2 : nameOf (keyOf [0] [iV 1]) = nameOf [iV 1] := rfl
  simp [oneA_, e1, e2]
 have l2 : (listR [0] oneA_ (nameOf [iV 2])).length = 1 := by
  unfold listR
  have e1 : nameOf (keyOf [0] [iV 2]) = nameOf [iV 2] := rfl
  have e2 : nameOf (keyOf [0] [iV 1]) ≠ nameOf [iV 2] := h21.symm
  simp [oneA_, e1, e2]
 rw [groupG_count one_valid (fun n hn => by
  obtain rfl : n = 0 := by simpa using hn
  decide), hk]
 simp only [List.map_cons, List.map_nil, l1, l2]
 rfl
theorem new_at (w : World) (cs : Array Value) (t : TypeId) : (w.alloc (.cells cs t)).heap[w.heap.size]? = some (.cells cs t (0, 0)) := heap_alloc_new _ _
theorem kept_at {w W : World} {b : Nat} {o : Obj} (h : w.heap[b]? = some o) (hb : Below w.heap.size w W) : W.heap[b]? = some o := (hb.block b (blk_lt h)).trans h
theorem new_at1 (w : World) (o : Obj) (cs : Array Value) (t : TypeId) : ((w.alloc o).alloc (.cells cs t)).heap[w.heap.size + 1]? = some (.cells cs t (0, 0)) := by
 have h := heap_alloc_new (w.alloc o) (.cells cs t)
 rw [show (w.alloc o).heap.size = w.heap.size + 1 by simp] at h
 exact h
theorem below2 (w : World) (o p : Obj) : Below w.heap.size w ((w.alloc o).alloc p) := ((Below.refl w.heap.size w).alloc (Nat.le_refl _) o).alloc (by simp) p
theorem kept_alloc {w : World} {b : Nat} {o : Obj} (h : w.heap[b]? = some o) (x : Obj) : (w.alloc x).heap[b]? = some o := (Below.heap_alloc w x b (blk_lt h)).trans h
theorem C_one {α : Type} {d : Kd α} {W : World} {b : Nat} {t : TypeId} {cs : Array Value} (x : α) (h : W.heap[b]? = some (.cells cs t (0, 0))) (hl : cs.toList.length = d.sz) (hk : d.K W x cs.toList) : Kd.C d W (some ⟨b, 0, none⟩) [x].length [x] := by
 refine ⟨rfl, by simp, fun _ => ⟨⟨b, 0, none⟩, rfl, fun j p hj => ?_⟩⟩
 cases j with
 | succ j => simp at hj
 | zero =>
  obtain rfl : x = p := by simpa using hj
  refine ⟨cs.toList, hl, hk, fun i u hi => ?_⟩
  have h := blk_cell h i
  rw [add_plain, Nat.zero_mul, Nat.zero_add]
  refine h.trans ?_
  simpa using hi
theorem C_three {W : World} {b : Nat} {t : TypeId} (x y z : Int) (h : W.heap[b]? = some (.cells #[.int .u8 1, .int .i64 x, .string ⟨#[]⟩, .int .u8 1, .int .i64 y, .string ⟨#[]⟩, .int .u8 1, .int .i64 z, .string ⟨#[]⟩] t (0, 0))) : Kd.C kV W (some ⟨b, 0, none⟩) [iV x, iV y, iV z].length [iV x, iV y, iV z] := by
 refine ⟨rfl, by simp, fun _ => ⟨⟨b, 0, none⟩, rfl, fun j p hj => ?_⟩⟩
 match j, hj with
 | 0, hj =>
  obtain rfl : iV x = p := by simpa using hj
  refine ⟨[.int .u8 1, .int .i64 x, .string ⟨#[]⟩], rfl, kV.K_of_M (base := 0) (ok := fun _ => True) (k27_mkM _ _ _ (iV x)), fun i u hi => ?_⟩
  have h := blk_cell h (0 * 3 + i)
  rw [add_plain]
  refine h.trans ?_
  match i, hi with
  | 0, hi => simpa using hi
  | 1, hi => simpa using hi
  | 2, hi => simpa using hi
  | i + 3, hi => simp at hi
 | 1, hj =>
  obtain rfl : iV y = p := by simpa using hj
  refine ⟨[.int .u8 1, .int .i64 y, .string ⟨#[]⟩], rfl, kV.K_of_M (base := 0) (ok := fun _ => True) (k27_mkM _ _ _ (iV y)), fun i u hi => ?_⟩
  have h := blk_cell h (1 * 3 + i)
  rw [add_plain]
  refine h.trans ?_
  match i, hi with
  | 0, hi => simpa using hi
  | 1, hi => simpa using hi
  | 2, hi => simpa using hi
  | i + 3, hi => simp at hi
 | 2, hj =>
  obtain rfl : iV z = p := by simpa using hj
  refine ⟨[.int .u8 1, .int .i64 z, .string ⟨#[]⟩], rfl, kV.K_of_M (base := 0) (ok := fun _ => True) (k27_mkM _ _ _ (iV z)), fun i u hi => ?_⟩
  have h := blk_cell h (2 * 3 + i)
  rw [add_plain]
  refine h.trans ?_
  match i, hi with
  | 0, hi => simpa using hi
  | 1, hi => simpa using hi
  | 2, hi => simpa using hi
  | i + 3, hi => simp at hi
 | j + 3, hj => simp at hj
theorem C_two {W : World} {b : Nat} {t : TypeId} (x y : Int) (h : W.heap[b]? = some (.cells #[.int .u8 1, .int .i64 x, .string ⟨#[]⟩, .int .u8 1, .int .i64 y, .string ⟨#[]⟩] t (0, 0))) : Kd.C kV W (some ⟨b, 0, none⟩) [iV x, iV y].length [iV x, iV y] := by
 refine ⟨rfl, by simp, fun _ => ⟨⟨b, 0, none⟩, rfl, fun j p hj => ?_⟩⟩
 match j, hj with
 | 0, hj =>
  obtain rfl : iV x = p := by simpa using hj
  refine ⟨[.int .u8 1, .int .i64 x, .string ⟨#[]⟩], rfl, kV.K_of_M (base := 0) (ok := fun _ => True) (k27_mkM _ _ _ (iV x)), fun i u hi => ?_⟩
  have h := blk_cell h (0 * 3 + i)
  rw [add_plain]
  refine h.trans ?_
  match i, hi with
  | 0, hi => simpa using hi
  | 1, hi => simpa using hi
  | 2, hi => simpa using hi
  | i + 3, hi => simp at hi
 | 1, hj =>
  obtain rfl : iV y = p := by simpa using hj
  refine ⟨[.int .u8 1, .int .i64 y, .string ⟨#[]⟩], rfl, kV.K_of_M (base := 0) (ok := fun _ => True) (k27_mkM _ _ _ (iV y)), fun i u hi => ?_⟩
  have h := blk_cell h (1 * 3 + i)
  rw [add_plain]
  refine h.trans ?_
  match i, hi with
  | 0, hi => simpa using hi
  | 1, hi => simpa using hi
  | 2, hi => simpa using hi
  | i + 3, hi => simp at hi
 | j + 2, hj => simp at hj
theorem awake_calls (w : World) (hT : LaidT w) : Calls Tryd.prog 11 #[] w fun e w' => e = .returned (.bool true) ∧ Below w.heap.size w w' := by
 have HT := Aside0.mk hT
 clear hT
 go_enter Tryd.func11, Tryd.ntmps11
 go_wp2_with fail
 refine (r1_Int.calls 2 1 2 ⟨#[]⟩ w rfl).mono ?_
 rintro e w1 ⟨rfl, hb1⟩
 have HB1 := Aside0.mk hb1; clear hb1
 go_wp2_with fail
 refine (r1_Int.calls 1 1 1 ⟨#[]⟩ _ rfl).mono ?_
 rintro e w2 ⟨rfl, hb2⟩
 have A1 := Aside0.mk (kept_at (new_at w1 _ _) hb2)
 have HB2 := Aside0.mk (HB1.out.trans (((Below.refl w1.heap.size w1).alloc (Nat.le_refl _) _ |>.trans (hb2.mono (by simp))).mono HB1.out.size)); clear hb2
 go_wp2_with fail
 refine (r1_Int.calls 1 1 1 ⟨#[]⟩ _ rfl).mono ?_
 rintro e w3 ⟨rfl, hb3⟩
 have A2 := Aside0.mk (kept_at (new_at w2 _ _) hb3)
 have A1' := Aside0.mk (kept_at (kept_alloc A1.out _) hb3)
 have HB3 := Aside0.mk (HB2.out.trans (((Below.refl w2.heap.size w2).alloc (Nat.le_refl _) _ |>.trans (hb3.mono (by simp))).mono HB2.out.size)); clear hb3 A1
 go_wp2_with fail
 refine (r1_Int.calls 1 1 1 ⟨#[]⟩ _ rfl).mono ?_
 rintro e w4 ⟨rfl, hb4⟩
 have HG := Aside0.mk (kept_at (new_at1 w3 (.cells #[.int .u8 1, .int .i64 1, .string ⟨#[]⟩] 27) _ _) hb4)
 have HA3 := Aside0.mk (kept_at (kept_alloc (new_at w3 _ _) (.cells #[.slice (some ⟨w1.heap.size, 0, none⟩) 1 1, .slice (some ⟨w2.heap.size, 0, none⟩) 1 1, .slice (some ⟨w3.heap.size, 0, none⟩) 1 1] 58)) hb4)
 have HA2 := Aside0.mk (kept_at (kept_alloc (kept_alloc A2.out (.cells #[.int .u8 1, .int .i64 1, .string ⟨#[]⟩] 27)) (.cells #[.slice (some ⟨w1.heap.size, 0, none⟩) 1 1, .slice (some ⟨w2.heap.size, 0, none⟩) 1 1, .slice (some ⟨w3.heap.size, 0, none⟩) 1 1] 58)) hb4)
 have HA1 := Aside0.mk (kept_at (kept_alloc (kept_alloc A1'.out (.cells #[.int .u8 1, .int .i64 1, .string ⟨#[]⟩] 27)) (.cells #[.slice (some ⟨w1.heap.size, 0, none⟩) 1 1, .slice (some ⟨w2.heap.size, 0, none⟩) 1 1, .slice (some ⟨w3.heap.size, 0, none⟩) 1 1] 58)) hb4)
 have HB4 := Aside0.mk (HB3.out.trans ((below2 w3 (.cells #[.int .u8 1, .int .i64 1, .string ⟨#[]⟩] 27) (.cells #[.slice (some ⟨w1.heap.size, 0, none⟩) 1 1, .slice (some ⟨w2.heap.size, 0, none⟩) 1 1, .slice (some ⟨w3.heap.size, 0, none⟩) 1 1] 58)).mono HB3.out.size |>.trans (hb4.mono (by have := HB3.out.size; simp; omega))))
 clear hb4 A1' A2
 have HONE : Aside0 (kRow.C w4 (some ⟨w3.heap.size + 1, 0, none⟩) oneA_.length oneA_) := ⟨C_rows HG.out (by simp) (fun j row hj => by
  match j, hj with
  | 0, hj =>
   obtain rfl : [iV 2] = row := by simpa [oneA_] using hj
   exact ⟨_, 1, rfl, by simp, C_row1 (iV 2) HA1.out⟩
  | 1, hj =>
   obtain rfl : [iV 1] = row := by simpa [oneA_] using hj
   exact ⟨_, 1, rfl, by simp, C_row1 (iV 1) HA2.out⟩
  | 2, hj =>
   obtain rfl : [iV 1] = row := by simpa [oneA_] using hj
   exact ⟨_, 1, rfl, by simp, C_row1 (iV 1) HA3.out⟩
  | j + 3, hj => simp [oneA_] at hj)⟩
 clear HG HA1 HA2 HA3
 obtain ⟨g1, hg1⟩ : ∃ g1, g1 = w3.heap.size + 1 := ⟨_, rfl⟩
 rw [← hg1] at HONE
 rw [← hg1]
 clear hg1
 go_wp2_with fail
 refine (r1_Int.calls 3 1 3 ⟨#[]⟩ _ rfl).mono ?_
 rintro e w5 ⟨rfl, hb5⟩
 have A4 := Aside0.mk (kept_at (new_at w4 _ _) hb5)
 have HB5 := Aside0.mk (HB4.out.trans (((Below.refl w4.heap.size w4).alloc (Nat.le_refl _) (.cells #[.int .u8 1, .int .i64 1, .string ⟨#[]⟩] 27) |>.trans (hb5.mono (by simp))).mono HB4.out.size))
 have HONE5 := Aside0.mk (Kd.C_below HONE.out ((Below.refl w4.heap.size w4).alloc (Nat.le_refl _) (.cells #[.int .u8 1, .int .i64 1, .string ⟨#[]⟩] 27) |>.trans (hb5.mono (by simp))))
 clear hb5 HONE
 go_wp2_with fail
 have HG := Aside0.mk (new_at1 w5 (.cells #[.int .u8 1, .int .i64 3, .string ⟨#[]⟩] 27) #[.slice (some ⟨w4.heap.size, 0, none⟩) 1 1, .slice (some ⟨w5.heap.size, 0, none⟩) 1 1] 58)
 have HA5 := Aside0.mk (kept_alloc (new_at w5 #[.int .u8 1, .int .i64 3, .string ⟨#[]⟩] 27) (.cells #[.slice (some ⟨w4.heap.size, 0, none⟩) 1 1, .slice (some ⟨w5.heap.size, 0, none⟩) 1 1] 58))
 have HA4 := Aside0.mk (kept_alloc (kept_alloc A4.out (.cells #[.int .u8 1, .int .i64 3, .string ⟨#[]⟩] 27)) (.cells #[.slice (some ⟨w4.heap.size, 0, none⟩) 1 1, .slice (some ⟨w5.heap.size, 0, none⟩) 1 1] 58))
 have HB6 := Aside0.mk (HB5.out.trans ((below2 w5 (.cells #[.int .u8 1, .int .i64 3, .string ⟨#[]⟩] 27) (.cells #[.slice (some ⟨w4.heap.size, 0, none⟩) 1 1, .slice (some ⟨w5.heap.size, 0, none⟩) 1 1] 58)).mono HB5.out.size))
 have HONE6 := Aside0.mk (Kd.C_below HONE5.out (below2 w5 (.cells #[.int .u8 1, .int .i64 3, .string ⟨#[]⟩] 27) (.cells #[.slice (some ⟨w4.heap.size, 0, none⟩) 1 1, .slice (some ⟨w5.heap.size, 0, none⟩) 1 1] 58)))
 have HTWO : Aside0 (kRow.C ((w5.alloc (.cells #[.int .u8 1, .int .i64 3, .string ⟨#[]⟩] 27)).alloc (.cells #[.slice (some ⟨w4.heap.size, 0, none⟩) 1 1, .slice (some ⟨w5.heap.size, 0, none⟩) 1 1] 58)) (some ⟨w5.heap.size + 1, 0, none⟩) twoA_.length twoA_) := ⟨C_rows HG.out (by simp) (fun j row hj => by
  match j, hj with
  | 0, hj =>
   obtain rfl : [iV 1] = row := by simpa [twoA_] using hj
   exact ⟨_, 1, rfl, by simp, C_row1 (iV 1) HA4.out⟩
  | 1, hj =>
   obtain rfl : [iV 3] = row := by simpa [twoA_] using hj
   exact ⟨_, 1, rfl, by simp, C_row1 (iV 3) HA5.out⟩
  | j + 2, hj => simp [twoA_] at hj)⟩
 clear HG HA4 HA5 A4 HONE5
 obtain ⟨g2, hg2⟩ : ∃ g2, g2 = w5.heap.size + 1 := ⟨_, rfl⟩
 rw [← hg2] at HTWO
 rw [← hg2]
 clear hg2
 obtain ⟨W6, hW6⟩ : ∃ W6, W6 = (w5.alloc (.cells #[.int .u8 1, .int .i64 3, .string ⟨#[]⟩] 27)).alloc (.cells #[.slice (some ⟨w4.heap.size, 0, none⟩) 1 1, .slice (some ⟨w5.heap.size, 0, none⟩) 1 1] 58) := ⟨_, rfl⟩
 rw [← hW6] at HTWO HONE6 HB6
 rw [← hW6]
 clear hW6
 obtain ⟨met, left, hsp, hll⟩ := awake_except
 have HLL := Aside0.mk hll
 refine (split_Except _ _ oneA_ _ _ twoA_ met left 0 W6 HONE6.out (by simp) HTWO.out (by simp) (HT.out.below HB6.out) hsp).mono ?_
 rintro e w7 ⟨v0, rfl, ⟨Av, cv, hv0, hlv, hF⟩, hb7⟩
 rw [HLL.out] at hv0
 subst hv0
 have HB7 := Aside0.mk (HB6.out.trans (hb7.mono HB6.out.size))
 have HONE7 := Aside0.mk (Kd.C_below HONE6.out hb7)
 have HTWO7 := Aside0.mk (Kd.C_below HTWO.out hb7)
 clear hsp hll hlv hF hb7 HONE6 HTWO
 go_wp2_with fail
 have hBK : Below w7.heap.size w7 (w7.alloc (.cells #[.int .i64 0, .bool true] 62)) := (Below.refl _ w7).alloc (Nat.le_refl _) _
 have HB8 := Aside0.mk (HB7.out.trans (hBK.mono HB7.out.size))
 have HKY : Aside0 (kKey.C (w7.alloc (.cells #[.int .i64 0, .bool true] 62)) (some ⟨w7.heap.size, 0, none⟩) [(⟨0, true⟩ : KeyT)].length [⟨0, true⟩]) := ⟨C_one (⟨0, true⟩ : KeyT) (new_at w7 _ _) rfl (kKey.K_of_M (base := 0) (ok := fun _ => True) (k62_mkM _ _ _ ⟨0, true⟩))⟩
 have HONE8 := Aside0.mk (Kd.C_below HONE7.out hBK)
 have HTWO8 := Aside0.mk (Kd.C_below HTWO7.out hBK)
 clear HONE7 HTWO7 hBK
 refine (bag_Cut.calls (some ⟨g1, 0, none⟩) 3 oneA_ (some ⟨w7.heap.size, 0, none⟩) 1 [⟨0, true⟩] 0 1 [[iV 2]] 0 _ HONE8.out (by simp) HKY.out (by simp) awake_cut).mono ?_
 rintro e w9 ⟨v1, rfl, ⟨Ac, cc, hv1, hlc, hFc⟩, hb9⟩
 have hv1 : v1 = .slice Ac 1 cc := hv1
 subst hv1
 have HCUT := Aside0.mk (Kd.F_now hFc)
 have HCL := Aside0.mk hlc
 have HB9 := Aside0.mk (HB8.out.trans (hb9.mono HB8.out.size))
 have HONE9 := Aside0.mk (Kd.C_below HONE8.out hb9)
 have HTWO9 := Aside0.mk (Kd.C_below HTWO8.out hb9)
 clear hlc hFc hb9 HONE8 HTWO8 HKY
 go_wp2_with fail
 have hBG : Below w9.heap.size w9 ((w9.alloc (.cells #[.int .i64 0] 3)).alloc (.cells #[.int .u8 0, .int .i64 0, .bool false] 47)) := below2 w9 _ _
 have HB10 := Aside0.mk (HB9.out.trans (hBG.mono HB9.out.size))
 have HCO : Aside0 ((Kd.int .i64).C ((w9.alloc (.cells #[.int .i64 0] 3)).alloc (.cells #[.int .u8 0, .int .i64 0, .bool false] 47)) (some ⟨w9.heap.size, 0, none⟩) [(0 : Int)].length [0]) := ⟨C_one (d := Kd.int .i64) (0 : Int) (kept_alloc (new_at w9 _ _) _) rfl rfl⟩
 have HAG : Aside0 (kAgg.C ((w9.alloc (.cells #[.int .i64 0] 3)).alloc (.cells #[.int .u8 0, .int .i64 0, .bool false] 47)) (some ⟨w9.heap.size + 1, 0, none⟩) [(⟨0, 0, false⟩ : AggT)].length [⟨0, 0, false⟩]) := ⟨C_one (⟨0, 0, false⟩ : AggT) (new_at1 w9 _ _ _) rfl (kAgg.K_of_M (base := 0) (ok := fun _ => True) (k47_mkM _ _ _ ⟨0, 0, false⟩))⟩
 have HONE10 := Aside0.mk (Kd.C_below HONE9.out hBG)
 have HTWO10 := Aside0.mk (Kd.C_below HTWO9.out hBG)
 have HCUT10 := Aside0.mk (Kd.C_below HCUT.out hBG)
 clear hBG HONE9 HTWO9 HCUT
 have hgr := group_good (some ⟨g1, 0, none⟩) 3 oneA_ (some ⟨w9.heap.size, 0, none⟩) 1 [0] (some ⟨w9.heap.size + 1, 0, none⟩) 1 [⟨0, 0, false⟩] _ HONE10.out (by simp) HCO.out HAG.out (HT.out.below HB10.out) awake_groupOk awake_groupable [[iV 1, iV 2], [iV 2, iV 1]] 0 awake_group
 clear HCO HAG
 refine hgr.mono ?_
 clear hgr
 rintro e w11 ⟨v2, rfl, ⟨Ag, cg, hv2, hlg, hFg⟩, hb11⟩
 have hg := Kd.F_now hFg
 have hv2 : v2 = .slice Ag 2 cg := hv2
 subst hv2
 have HGR := Aside0.mk hg
 have HGL := Aside0.mk hlg
 have HB11 := Aside0.mk (HB10.out.trans (hb11.mono HB10.out.size))
 have HONE11 := Aside0.mk (Kd.C_below HONE10.out hb11)
 have HTWO11 := Aside0.mk (Kd.C_below HTWO10.out hb11)
 have HCUT11 := Aside0.mk (Kd.C_below HCUT10.out hb11)
 clear hlg hFg hg hb11 HONE10 HTWO10 HCUT10
 go_wp2_with fail
 have hBO : Below w11.heap.size w11 (w11.alloc (.cells #[.slice Ag 2 cg, .int .i64 0] 41)) := (Below.refl _ w11).alloc (Nat.le_refl _) _
 have HOC := Aside0.mk (new_at w11 #[.slice Ag 2 cg, .int .i64 0] 41)
 obtain ⟨W12, hW12⟩ : ∃ W12, W12 = w11.alloc (.cells #[.slice Ag 2 cg, .int .i64 0] 41) := ⟨_, rfl⟩
 obtain ⟨go, hgo⟩ : ∃ go, go = w11.heap.size := ⟨_, rfl⟩
 rw [← hW12] at hBO HOC
 rw [← hgo] at HOC
 rw [← hW12, ← hgo]
 have HB12 := Aside0.mk (HB11.out.trans (hBO.mono HB11.out.size))
 have HBW : Aside0 (Below w11.heap.size w11 W12) := ⟨hBO⟩
 clear hBO hW12 hgo
 refine (r1_Int.calls 9223372036854775807 1 9223372036854775807 ⟨#[]⟩ _ rfl).mono ?_
 rintro e w13 ⟨rfl, hb13⟩
 have HB13 := Aside0.mk hb13
 clear hb13
 go_wp2_with fail
 refine (r1_Int.calls 1 1 1 ⟨#[]⟩ _ rfl).mono ?_
 rintro e w14 ⟨rfl, hb14⟩
 have HB14 := Aside0.mk (HB13.out.trans (hb14.mono HB13.out.size))
 clear hb14 HB13
 go_wp2_with fail
 refine (r1_Int.calls (-1) 1 (-1) ⟨#[]⟩ _ rfl).mono ?_
 rintro e w15 ⟨rfl, hb15⟩
 have HB15 := Aside0.mk (HB14.out.trans (hb15.mono HB14.out.size))
 clear hb15 HB14
 go_wp2_with fail
 have hb16 : Below w15.heap.size w15 (w15.alloc (.cells #[.int .u8 1, .int .i64 9223372036854775807, .string ⟨#[]⟩, .int .u8 1, .int .i64 1, .string ⟨#[]⟩, .int .u8 1, .int .i64 (-1), .string ⟨#[]⟩] 27)) := (Below.refl _ w15).alloc (Nat.le_refl _) _
 have HB16 : Aside0 (Below W12.heap.size W12 (w15.alloc (.cells #[.int .u8 1, .int .i64 9223372036854775807, .string ⟨#[]⟩, .int .u8 1, .int .i64 1, .string ⟨#[]⟩, .int .u8 1, .int .i64 (-1), .string ⟨#[]⟩] 27))) := ⟨HB15.out.trans (hb16.mono HB15.out.size)⟩
 have hc3 := C_three 9223372036854775807 1 (-1) (new_at w15 #[.int .u8 1, .int .i64 9223372036854775807, .string ⟨#[]⟩, .int .u8 1, .int .i64 1, .string ⟨#[]⟩, .int .u8 1, .int .i64 (-1), .string ⟨#[]⟩] 27)
 clear hb16
 refine (bag_Aggregate.calls 2 false (some ⟨w15.heap.size, 0, none⟩) 3 [iV 9223372036854775807, iV 1, iV (-1)] 1 9223372036854775807 ⟨#[]⟩ 0 _ hc3 (by simp) (HT.out.below (HB12.out.trans (HB16.out.mono HB12.out.size))) awake_agg).mono ?_
 clear hc3
 rintro e w17 ⟨rfl, hb17⟩
 have HB17 := Aside0.mk (HB16.out.trans (hb17.mono HB16.out.size))
 clear hb17 HB16 HB15
 have HOC17 := Aside0.mk (kept_at HOC.out HB17.out)
 have o1 : w17.cell? ⟨go, 1, none⟩ = some (.int .i64 0) := (blk_cell HOC17.out 1).trans rfl
 have o0 : w17.cell? ⟨go, 0, none⟩ = some (.slice Ag 2 cg) := (blk_cell HOC17.out 0).trans rfl
 have hgs : go ≠ w17.heap.size := by have := blk_lt HOC17.out; omega
 have o2 : (w17.alloc (.cells #[.int .u8 1, .int .i64 9223372036854775807, .string ⟨#[]⟩, .int .i64 0] 31)).cell? ⟨go, 1, none⟩ = some (.int .i64 0) := (blk_cell (kept_alloc HOC17.out _) 1).trans rfl
 have o3 : (w17.alloc (.cells #[.int .u8 1, .int .i64 9223372036854775807, .string ⟨#[]⟩, .int .i64 0] 31)).cell? ⟨go, 0, none⟩ = some (.slice Ag 2 cg) := (blk_cell (kept_alloc HOC17.out _) 0).trans rfl
 go_wp2_with fail
 clear o0 o1 o2 o3 hgs
 have HOC20 := Aside0.mk (kept_alloc HOC17.out (.cells #[.int .u8 1, .int .i64 9223372036854775807, .string ⟨#[]⟩, .int .i64 0] 31))
 have HSC20 := Aside0.mk (new_at w17 #[.int .u8 1, .int .i64 9223372036854775807, .string ⟨#[]⟩, .int .i64 0] 31)
 have hb20 : Below w17.heap.size w17 (w17.alloc (.cells #[.int .u8 1, .int .i64 9223372036854775807, .string ⟨#[]⟩, .int .i64 0] 31)) := (Below.refl _ w17).alloc (Nat.le_refl _) _
 have hb1120 : Below w11.heap.size w11 (w17.alloc (.cells #[.int .u8 1, .int .i64 9223372036854775807, .string ⟨#[]⟩, .int .i64 0] 31)) := HBW.out.trans ((HB17.out.trans (hb20.mono HB17.out.size)).mono HBW.out.size)
 have HB20 := Aside0.mk (HB11.out.trans (hb1120.mono HB11.out.size))
 have HONE20 := Aside0.mk (Kd.C_below HONE11.out hb1120)
 have HTWO20 := Aside0.mk (Kd.C_below HTWO11.out hb1120)
 have HCUT20 := Aside0.mk (Kd.C_below HCUT11.out hb1120)
 have HGR20 := Aside0.mk (Kd.C_below HGR.out hb1120)
 clear hb20 hb1120
 obtain ⟨W20, hW20⟩ : ∃ W20, W20 = w17.alloc (.cells #[.int .u8 1, .int .i64 9223372036854775807, .string ⟨#[]⟩, .int .i64 0] 31) := ⟨_, rfl⟩
 obtain ⟨so, hso⟩ : ∃ so, so = w17.heap.size := ⟨_, rfl⟩
 rw [← hW20] at HOC20 HSC20 HB20 HONE20 HTWO20 HCUT20 HGR20
 rw [← hso] at HSC20
 rw [← hW20, ← hso]
 clear hW20 hso
 have HKEEP : Aside0 (∀ W', Below W20.heap.size W20 W' → W'.cell? ⟨so, 1, none⟩ = some (.int .i64 9223372036854775807) ∧ W'.cell? ⟨go, 0, none⟩ = some (.slice Ag 2 cg)) := ⟨fun W' hb => ⟨(blk_cell (kept_at HSC20.out hb) 1).trans rfl, (blk_cell (kept_at HOC20.out hb) 0).trans rfl⟩⟩
 have HTAKE : Aside0 (kRow.C W20 (some ⟨g1, 0, none⟩) 1 [[iV 2]]) := ⟨Kd.C_take (m := 1) HONE20.out (by simp)⟩
 have HTAKG : Aside0 (kRow.C W20 Ag 1 [[iV 1, iV 2]]) := ⟨Kd.C_take (m := 1) HGR20.out (by simp)⟩
 have HC1 : Aside0 (∀ W', Below W20.heap.size W20 W' → Calls Tryd.prog 19 #[.slice Ac 1 cc, .slice (some ⟨g1, 0, none⟩) 1 3] W' fun e w' => e = .returned (.bool true) ∧ Below W'.heap.size W' w') := ⟨fun W' hb => by
  obtain ⟨k, hk⟩ := (sameLists_refl [[iV 2]] (by simp) (by simp)).rounds
  exact r6_SameLists.calls k Ac cc [[iV 2]] (some ⟨g1, 0, none⟩) 3 [[iV 2]] true W' (Kd.C_below HCUT20.out hb) HCL.out (Kd.C_below HTAKE.out hb) (by simp) hk⟩
 have HC4 : Aside0 (∀ W' b, Below W20.heap.size W20 W' → kRow.C W' (some ⟨b, 0, none⟩) 1 [[iV 1, iV 2]] → Calls Tryd.prog 19 #[.slice Ag 1 cg, .slice (some ⟨b, 0, none⟩) 1 1] W' fun e w' => e = .returned (.bool true) ∧ Below W'.heap.size W' w') := ⟨fun W' b hb hc => by
  obtain ⟨k, hk⟩ := (sameLists_refl [[iV 1, iV 2]] (by simp) (by simp)).rounds
  exact r6_SameLists.calls k Ag cg [[iV 1, iV 2]] (some ⟨b, 0, none⟩) 1 [[iV 1, iV 2]] true W' (Kd.C_below HTAKG.out hb) (Nat.le_trans (by simp) HGL.out) hc (by simp) hk⟩
 have HC5 : Aside0 (∀ W', Below W20.heap.size W20 W' → Calls Tryd.prog 26 #[.slice (some ⟨g1, 0, none⟩) 3 3] W' fun e w' => e = .returned (.bool true) ∧ Below W'.heap.size W' w') := ⟨fun W' hb => by
  obtain ⟨k, hk⟩ := (valid_ev oneA_ one_ok.v).rounds
  rw [one_valid] at hk
  exact bag_Valid.calls k (some ⟨g1, 0, none⟩) 3 oneA_ true W' (Kd.C_below HONE20.out hb) (by simp) hk⟩
 have HC6 : Aside0 (∀ W', Below W20.heap.size W20 W' → Calls Tryd.prog 24 #[.slice (some ⟨g1, 0, none⟩) 3 3, .slice (some ⟨g2, 0, none⟩) 2 2] W' fun e w' => e = .returned (.bool false) ∧ Below W'.heap.size W' w') := ⟨fun W' hb =>
  bag_Same.calls (some ⟨g1, 0, none⟩) 3 oneA_ (some ⟨g2, 0, none⟩) 2 twoA_ false W' (Kd.C_below HONE20.out hb) (by simp) (Kd.C_below HTWO20.out hb) (by simp) (HT.out.below (HB20.out.trans (hb.mono HB20.out.size))) awake_same⟩
 have HNEW : Aside0 (∀ (w : World), kRow.C ((w.alloc (.cells #[.int .u8 1, .int .i64 1, .string ⟨#[]⟩, .int .u8 1, .int .i64 2, .string ⟨#[]⟩] 27)).alloc (.cells #[.slice (some ⟨w.heap.size, 0, none⟩) 2 2] 58)) (some ⟨w.heap.size + 1, 0, none⟩) 1 [[iV 1, iV 2]]) := ⟨fun w => by
  have h1 := new_at1 w (.cells #[.int .u8 1, .int .i64 1, .string ⟨#[]⟩, .int .u8 1, .int .i64 2, .string ⟨#[]⟩] 27) #[.slice (some ⟨w.heap.size, 0, none⟩) 2 2] 58
  have h2 := kept_alloc (new_at w #[.int .u8 1, .int .i64 1, .string ⟨#[]⟩, .int .u8 1, .int .i64 2, .string ⟨#[]⟩] 27) (.cells #[.slice (some ⟨w.heap.size, 0, none⟩) 2 2] 58)
  exact C_rows (l := [[iV 1, iV 2]]) h1 (by simp) (fun j row hj => by
   match j, hj with
   | 0, hj =>
    obtain rfl : [iV 1, iV 2] = row := by simpa using hj
    exact ⟨_, 2, rfl, by simp, C_two 1 2 h2⟩
   | j + 1, hj => simp at hj)⟩
 obtain ⟨i0, hi0, hzz⟩ := Option.map_eq_some_iff.1 infoRow
 simp only [Prod.mk.injEq] at hzz
 have hsl : ∀ W, (Instr.slice 37 (.slice Ag 2 cg) none (some (.int .i64 1)) none).run Tryd.prog W = .ok (.slice Ag 1 cg) W := (print_take_of (P := Tryd.prog) (Value.int .i64) (0 : Int) 37 58 .i64 Tryd.underlying37 hi0 hzz.2.1 Ag cg [0, 0] 1 (by omega) (by simp) HGL.out).1
 clear hzz hi0
 have HE : Aside0 (Below W20.heap.size W20 W20.drew) := ⟨(Below.refl _ W20).drew⟩
 have HE0 : Aside0 (Below W20.heap.size W20 W20) := ⟨Below.refl _ W20⟩
 go_region_held3 (fun W' => W'.cell? ⟨so, 1, none⟩ = some (.int .i64 9223372036854775807) ∧ W'.cell? ⟨go, 0, none⟩ = some (.slice Ag 2 cg)) (first | (with_reducible exact HKEEP.out _ HE0.out) | (with_reducible exact HKEEP.out _ HE.out) | (with_reducible exact HKEEP.out _ HBa.out) | (with_reducible exact HKEEP.out _ HBb.out) | (with_reducible exact HKEEP.out _ HBc.out) | (with_reducible exact HKEEP.out _ (HBc1.out _)) | (with_reducible exact HKEEP.out _ (HBc2.out _ _)) | (with_reducible exact HKEEP.out _ HBd.out) | (with_reducible exact HKEEP.out _ HBe.out) | (with_reducible exact HKEEP.out _ HBf.out)) (first
  | (go_at_call 19; (with_reducible refine (HC1.out W20.drew HE.out).mono ?_); rintro e wa ⟨rfl, hba⟩; have HBa := Aside0.mk (HE.out.trans (hba.mono HE.out.size)); clear hba)
  | (go_at_call 12; (with_reducible refine (r1_Int.calls 1 1 1 ⟨#[]⟩ wa rfl).mono ?_); rintro e wb ⟨rfl, hbb⟩; have HBb := Aside0.mk (HBa.out.trans (hbb.mono HBa.out.size)); clear hbb)
  | (go_at_call 12; (with_reducible refine (r1_Int.calls 2 1 2 ⟨#[]⟩ wa rfl).mono ?_); rintro e wb ⟨rfl, hbb⟩; have HBb := Aside0.mk (HBa.out.trans (hbb.mono HBa.out.size)); clear hbb)
  | (go_at_call 12; (with_reducible refine (r1_Int.calls 1 1 1 ⟨#[]⟩ wb rfl).mono ?_); rintro e wc ⟨rfl, hbc⟩; have HBc := Aside0.mk (HBb.out.trans (hbc.mono HBb.out.size)); have HBc1 : Aside0 (∀ o, Below W20.heap.size W20 (wc.alloc o)) := ⟨fun o => HBc.out.alloc HBc.out.size o⟩; have HBc2 : Aside0 (∀ o p, Below W20.heap.size W20 ((wc.alloc o).alloc p)) := ⟨fun o p => (HBc1.out o).alloc (HBc1.out o).size p⟩; clear hbc)
  | (go_at_call 12; (with_reducible refine (r1_Int.calls 2 1 2 ⟨#[]⟩ wb rfl).mono ?_); rintro e wc ⟨rfl, hbc⟩; have HBc := Aside0.mk (HBb.out.trans (hbc.mono HBb.out.size)); have HBc1 : Aside0 (∀ o, Below W20.heap.size W20 (wc.alloc o)) := ⟨fun o => HBc.out.alloc HBc.out.size o⟩; have HBc2 : Aside0 (∀ o p, Below W20.heap.size W20 ((wc.alloc o).alloc p)) := ⟨fun o p => (HBc1.out o).alloc (HBc1.out o).size p⟩; clear hbc)
  | (go_at_call 19; (with_reducible refine (HC4.out _ _ (HBc2.out _ _) (HNEW.out wc)).mono ?_); rintro e wd ⟨rfl, hbd⟩; have HBd := Aside0.mk ((HBc2.out _ _).trans (hbd.mono (HBc2.out _ _).size)); clear hbd)
  | (go_at_call 26; (with_reducible refine (HC5.out wd HBd.out).mono ?_); rintro e we ⟨rfl, hbe⟩; have HBe := Aside0.mk (HBd.out.trans (hbe.mono HBd.out.size)); clear hbe)
  | (go_at_call 24; (with_reducible refine (HC6.out we HBe.out).mono ?_); rintro e wf ⟨rfl, hbf⟩; have HBf := Aside0.mk (HBe.out.trans (hbf.mono HBe.out.size)); clear hbf))
 all_goals (go_wp2; go_ret; exact ⟨rfl, HB20.out.trans (HBf.out.mono HB20.out.size)⟩)
def w6_awake.f : Option Bool := some true
theorem w6_awake.calls (r : Bool) (w : World) (hT : LaidT w) (h : w6_awake.f = some r) : Calls Tryd.prog 11 #[] w fun e w' => e = .returned (.bool r) ∧ Below w.heap.size w w' := by
 obtain rfl : true = r := Option.some.inj h
 exact awake_calls w hT
end Go.Proofs.YtecgkcgfeghhgaaDoor.PAll
namespace Go.Proofs.YtecgkcgfeghhgaaDoor.PAll
open Go.RowKit Go.Proofs.YtecgkcgfeghhgaaDoorW.PrintWords Go.Proofs.YtecgkcgfeghhgaaDoorW.PrintLast Go.Proofs.YtecgkcgfeghhgaaDoorW.PrintMore
attribute [local go_sem] max2_int min2_int max_two min_two max_three min_three max_four min_four
set_option linter.unusedVariables false
set_option linter.unusedSimpArgs false
noncomputable section
def w6_BagMeans.l0 : Nat → List Int → Int → List (S27) → List (S27) → Int → Option (Bool)
 | 0, _, _, _, _, _ => none
 | k + 1, x0, x1, x5, x6, x7 => if x7 < (x0.length : Int) then (if 0 ≤ x7 then ((r1_Int.f (rd x0 x7)).bind fun bt134 => (if x5.length < 4398046511104 then ((r1_Int.f x1).bind fun bt140 => (if x6.length < 4398046511104 then (w6_BagMeans.l0 k x0 x1 (x5 ++ [(⟨bt134.1, bt134.2.1, bt134.2.2⟩ : S27)]) (x6 ++ [(⟨bt140.1, bt140.2.1, bt140.2.2⟩ : S27)]) (wrap64 (x7 + 1))) else (none))) else (none))) else (none)) else ((bag_Aggregate.f 5 false x5).bind fun bt146 => ((bag_Aggregate.f 5 false x6).bind fun bt151 => (if (x0.length : Int) = 0 then (if bt146.2.2.2 = 0 then (if bt146.1 = 0 then ((w6_awake.f).bind fun t156 => (some t156)) else (some false)) else (some false)) else ((bag_Aggregate.f 3 false x5).bind fun bt157 => ((bag_Aggregate.f 4 false x5).bind fun bt162 => (if bt146.2.2.2 = 0 then (if bt146.1 = 1 then (if bt157.2.1 ≤ bt146.2.1 then (if bt146.2.1 ≤ bt162.2.1 then (if bt151.2.2.2 = 0 then ((r1_Int.f x1).bind fun bt167 => ((r1_Same.f bt151.1 bt151.2.1 bt151.2.2.1 bt167.1 bt167.2.1 bt167.2.2).bind fun t170 => (if t170 = true then ((w6_awake.f).bind fun t171 => (some t171)) else (some false)))) else (some false)) else (some false)) else (some false)) else (some false)) else (some false)))))))
def w6_BagMeans.f (k : Nat) (l0 : List Int) (a1 : Int) : Option (Bool) := w6_BagMeans.l0 k l0 a1 ([] : List (S27)) ([] : List (S27)) 0
def w6_BagMeans.T13 : Bool × List (List Nat × List Nat) := (true, [([], []), ([0], [0]), ([1], [1]), ([2], [2]), ([3], [3]), ([4, 3], [3, 4]), ([5, 3], [3, 5]), ([6, 3], [3, 6]), ([3, 7], [3, 7]), ([8, 3], [8]), ([9], [9]), ([10, 9], [9, 10]), ([11, 9], [9, 11]), ([9], [9]), ([13, 9], [9, 13]), ([14, 9], [9, 14]), ([12, 15, 9], [9, 12, 15]), ([9, 16], [9, 16]), ([17, 9], [17]), ([18], [18]), ([19, 18], [18, 19]), ([20, 18], [18, 20]), ([18], [18]), ([22, 18], [18, 22]), ([23, 18], [18, 23]), ([21, 24, 18], [18, 21, 24]), ([18, 25], [18, 25]), ([26, 18], [26]), ([27], [27]), ([28, 27], [27, 28]), ([29, 27], [27, 29]), ([27, 30], [27, 30]), ([31, 27], [31]), ([32], [32]), ([33, 32], [32, 33]), ([32], [32]), ([35, 32, 32], [32, 35]), ([34, 36, 36, 32], [32, 34, 36]), ([32, 37], [32, 37]), ([38, 37], [38]), ([39, 39], [39]), ([39, 40], [39, 40]), ([41, 40, 0, 1, 2, 3, 4, 5, 6, 7, 8, 9, 10, 11, 12, 13, 14, 15, 16, 17, 18, 19, 20, 21, 22, 23, 24, 25, 26, 27, 28, 29, 30, 31, 32, 33, 34, 35, 36, 37, 38, 39, 40, 41], [41])])
def w6_BagMeans.B13 : List Nat := [0, 1, 3, 7, 15, 31, 63, 127, 255, 511, 1023, 2047, 4095, 1023, 9215, 25599, 65535, 131071, 262143, 524287, 1048575, 2097151, 524287, 4718591, 13107199, 33554431, 67108863, 134217727, 268435455, 536870911, 1073741823, 2147483647, 4294967295, 8589934591, 17179869183, 8589934591, 42949672959, 137438953471, 274877906943, 549755813887, 1099511627775, 2199023255551, 4398046511103]
theorem w6_BagMeans.tab13 : rtab .any (opsOf Tryd.f4 13) = w6_BagMeans.T13 := by kernel_rfl
theorem w6_BagMeans.bits13 : waitsOk w6_BagMeans.T13.2 w6_BagMeans.B13 = true := by kernel_rfl
theorem w6_BagMeans.calls (k : Nat) (A0 : Option Addr) (c0 : Nat) (l0 : List Int) (a1 : Int) (r : Bool) (w : World) (hr0 : Kd.C (Kd.int .i64) w A0 l0.length l0) (hc0 : l0.length ≤ c0) (hT : LaidT w) (h : w6_BagMeans.f k l0 a1 = some r) (hrt : r = true := by rfl) :
 Calls Tryd.prog 4 #[.slice A0 l0.length c0, .int .i64 a1] w fun e w' => e = .returned (.bool r) ∧ Below w.heap.size w w' := by
 have HT := Aside0.mk hT
 clear hT
 have HRT := Aside0.mk hrt
 clear hrt
 have hu31 := Tryd.underlying31
 have hu27 := Tryd.underlying27
 have HR0 := Aside0.mk hr0
 have HC0 := Aside0.mk hc0
 clear hr0 hc0
 have HB := Aside0.mk (Below.refl w.heap.size w)
 have H : (w6_BagMeans.l0 k l0 a1 ([] : List (S27)) ([] : List (S27)) 0) = some r := h
 clear h
 have H' := Aside0.mk H
 clear H
 go_enter Tryd.func4, Tryd.ntmps4
 go_wp2
 go_loopg [5, 6, 7] k (fun kq v5 v6 v7 w' => ∃ (x5_1 : List (S27)) (x6_1 : List (S27)) (x7_1 : Int), v7 = .int .i64 x7_1 ∧ Aside0 (w6_BagMeans.l0 kq l0 a1 x5_1 x6_1 x7_1 = some r) ∧ Aside0 (kq ≤ k) ∧ Aside0 (Kd.R k27 27 w' w.heap.size (fun k_ => some k_ ≠ (v6 : Value).ownBlock) v5 x5_1) ∧ Aside0 (Kd.R k27 27 w' w.heap.size (fun k_ => some k_ ≠ (v5 : Value).ownBlock) v6 x6_1) ∧ Aside0 (Below w.heap.size w w'))
 case atStart => exact ⟨(([] : List (S27))), (([] : List (S27))), (0), (by first | rfl | (simp; done) | (simp [*]; done)), H', ⟨Nat.le_refl _⟩, ⟨by first | exact Kd.R_nil _ _ _ _ _ | exact Kd.N_nil _ _ _ _ _ | exact Kd.V_nil _ _ _ _ _ | exact Kd.Q_nil _ _ _ _ _ | exact Kd.S_nil _ _ _ _ _⟩, ⟨by first | exact Kd.R_nil _ _ _ _ _ | exact Kd.N_nil _ _ _ _ _ | exact Kd.V_nil _ _ _ _ _ | exact Kd.Q_nil _ _ _ _ _ | exact Kd.S_nil _ _ _ _ _⟩, ⟨by repeat (first | (with_reducible first | exact HB.out | apply bA_ | apply bN_ | apply b1_) | exact HB.out)⟩⟩
 case round =>
  clear H'
  try clear p2
  obtain ⟨x5_1, x6_1, x7_1, rfl, HA, HK1, HO_5, HO_6, HB⟩ := hrel
  cases gk with
  | zero => exact absurd HA.out (by simp [w6_BagMeans.l0])
  | succ k1 =>
   have H := HA.out
   clear HA
   simp only [w6_BagMeans.l0] at H
   by_cases c3 : x7_1 < (l0.length : Int)
   · rw [if_pos c3] at H
     have c3b0 : decide (x7_1 < (l0.length : Int)) = true := dT_ c3
     clear c3
     by_cases c4 : 0 ≤ x7_1
     · rw [if_pos c4] at H
       have c4b0 : decide (0 ≤ x7_1) = true := dT_ c4
       clear c4
       replace H := Option.bind_eq_some_iff.mp H
       obtain ⟨⟨t134, t135, t136⟩, A50, H⟩ := H
       replace H : (if x5_1.length < 4398046511104 then ((r1_Int.f a1).bind fun bt140 => (if x6_1.length < 4398046511104 then (w6_BagMeans.l0 k1 l0 a1 (x5_1 ++ [(⟨t134, t135, t136⟩ : S27)]) (x6_1 ++ [(⟨bt140.1, bt140.2.1, bt140.2.2⟩ : S27)]) (wrap64 (x7_1 + 1))) else (none))) else (none)) = some r := H
       have A5 := Aside0.mk A50
       clear A50
       by_cases c6 : x5_1.length < 4398046511104
       · rw [if_pos c6] at H
         have LMc6 := Aside0.mk c6
         clear c6
         obtain ⟨y137, hy137⟩ : ∃ y_ : List (S27), y_ = (x5_1 ++ [(⟨t134, t135, t136⟩ : S27)]) := ⟨_, rfl⟩
         replace H : ((r1_Int.f a1).bind fun bt140 => (if x6_1.length < 4398046511104 then (w6_BagMeans.l0 k1 l0 a1 y137 (x6_1 ++ [(⟨bt140.1, bt140.2.1, bt140.2.2⟩ : S27)]) (wrap64 (x7_1 + 1))) else (none))) = some r := by first | (rw [hy137]; with_reducible exact H) | (have H2_ := (Option.bind_some _ _).symm.trans H; rw [hy137]; with_reducible exact H2_) | (have H2_ := (Option.bind_some _ _).symm.trans H; with_reducible exact H2_) | with_reducible exact H | (rw [hy137]; exact H) | exact H
         have Ny137 := Aside0.mk hy137
         clear hy137
         replace H := Option.bind_eq_some_iff.mp H
         obtain ⟨⟨t140, t141, t142⟩, A70, H⟩ := H
         replace H : (if x6_1.length < 4398046511104 then (w6_BagMeans.l0 k1 l0 a1 y137 (x6_1 ++ [(⟨t140, t141, t142⟩ : S27)]) (wrap64 (x7_1 + 1))) else (none)) = some r := H
         have A7 := Aside0.mk A70
         clear A70
         by_cases c8 : x6_1.length < 4398046511104
         · rw [if_pos c8] at H
           have LMc8 := Aside0.mk c8
           clear c8
           obtain ⟨y143, hy143⟩ : ∃ y_ : List (S27), y_ = (x6_1 ++ [(⟨t140, t141, t142⟩ : S27)]) := ⟨_, rfl⟩
           replace H : (w6_BagMeans.l0 k1 l0 a1 y137 y143 (wrap64 (x7_1 + 1))) = some r := by first | (rw [hy143]; with_reducible exact H) | (have H2_ := (Option.bind_some _ _).symm.trans H; rw [hy143]; with_reducible exact H2_) | (have H2_ := (Option.bind_some _ _).symm.trans H; with_reducible exact H2_) | with_reducible exact H | (rw [hy143]; exact H) | exact H
           have Ny143 := Aside0.mk hy143
           clear hy143
           have H' := Aside0.mk H
           clear H
           have p133 : 0 ≤ (x7_1 : Int) := oT_ (by assumption)
           have q133 : x7_1 < (l0.length : Int) := oT_ (by assumption)
           obtain ⟨ad133, e133, hx133_0⟩ := Kd.at_int HR0.out x7_1 p133 q133
           cases e133
           replace hx133_0 := (HB.out.cell (bLC_ w _ hx133_0)).trans hx133_0
           replace p133 := eq_true p133
           replace q133 := eq_true q133
           go_wp2_with (first | ((with_reducible refine gate_callee (f := 12) rfl ?_); refine goesL_ (some 23) rfl rfl Tryd.func12 (by kernel_rfl) rfl #[.int .i64 (rd l0 x7_1)] rfl (by (try simp only [List.map_toArray, List.map_cons, List.map_nil]); first | done | rfl | (simp only [List.length_drop, List.length_take]; rfl)) ?_; (with_reducible refine (r1_Int.calls (rd l0 x7_1) t134 t135 t136 _ A5.out).mono ?_); rintro e w9 ⟨rfl, hb⟩; refine ⟨_, rfl, ?_⟩; have n0_ := Aside0.mk (Kd.R_below (by (with_reducible repeat (first | apply Kd.R_alloc | apply Kd.R_drewN | apply Kd.R_drew)); exact HO_5.out) hb); have n1_ := Aside0.mk (Kd.R_below (by (with_reducible repeat (first | apply Kd.R_alloc | apply Kd.R_drewN | apply Kd.R_drew)); exact HO_6.out) hb); have n2_ := Aside0.mk (below_step (by repeat (first | (with_reducible first | exact HB.out | apply bA_ | apply bN_ | apply b1_) | exact HB.out)) hb); clear HO_5; clear HO_6; clear HB; have HO_5 := n0_; have HO_6 := n1_; have HB := n2_; clear n0_ n1_ n2_; (try clear hb); (try clear hb2); (try clear hk); (try clear hi)) | ((with_reducible refine gate_builtin (b := .append) (xs := #[.tmp 18, .tmp 24]) rfl ?_); at_builtin; refine Kd.R_append k27 (w0 := w) w.heap.size rfl (.tmp 18) (.tmp 24) 24 27 (.agg #[(.int .u8 0), (.int .i64 0), (.string ⟨#[]⟩)]) 32 rfl Tryd.underlying24 info27 rfl (by decide) (by omega) u5 x5_1 (⟨t134, t135, t136⟩ : S27) [.int .u8 t134, .int .i64 t135, .string t136] (fun k_ => some k_ ≠ (u6 : Value).ownBlock) (fun _ => False) rfl rfl ?aP (fun _ hk => hk.elim) ?aF ?aO ?aB ?aS ?aL ?_; (case aP => exact k27_mkM _ _ _ (⟨t134, t135, t136⟩ : S27)); (case aB => exact (by repeat (first | (with_reducible first | exact HB.out | apply bA_ | apply bN_ | apply b1_) | exact HB.out))); (case aF => exact (fun k_ hk => Kd.fresh' (Kd.R_lt (by (with_reducible repeat (first | apply Kd.R_alloc | apply Kd.R_drewN | apply Kd.R_drew)); exact HO_6.out)) k_ hk)); (case aO => exact (by (with_reducible repeat (first | apply Kd.R_alloc | apply Kd.R_drewN | apply Kd.R_drew)); exact HO_5.out)); (case aS => exact (below_size (by repeat (first | (with_reducible first | exact HB.out | apply bA_ | apply bN_ | apply b1_) | exact HB.out)))); (case aL => have := LMc6.out; omega); intro v138 w10 ho hb hg hat; rw [← Ny137.out] at ho; have n0_ := Aside0.mk (Kd.R_after (ok := (fun _ => True)) (by (with_reducible repeat (first | apply Kd.R_alloc | apply Kd.R_drewN | apply Kd.R_drew)); exact Kd.R_mono HO_6.out (fun _ hk => ⟨trivial, hk⟩)) hg hat); have n1_ := Aside0.mk (hb); have n2_ := Aside0.mk (ho); clear HO_6; clear HB; clear HO_5; have HO_6 := n0_; have HB := n1_; have HO139 := n2_; clear n0_ n1_ n2_; clear ho hb hg hat) | ((with_reducible refine gate_callee (f := 12) rfl ?_); refine goesL_ (some 28) rfl rfl Tryd.func12 (by kernel_rfl) rfl #[.int .i64 a1] rfl (by (try simp only [List.map_toArray, List.map_cons, List.map_nil]); first | done | rfl | (simp only [List.length_drop, List.length_take]; rfl)) ?_; (with_reducible refine (r1_Int.calls a1 t140 t141 t142 _ A7.out).mono ?_); rintro e w11 ⟨rfl, hb⟩; refine ⟨_, rfl, ?_⟩; have n0_ := Aside0.mk (Kd.R_below (by (with_reducible repeat (first | apply Kd.R_alloc | apply Kd.R_drewN | apply Kd.R_drew)); exact HO_6.out) hb); have n1_ := Aside0.mk (Kd.R_below (by (with_reducible repeat (first | apply Kd.R_alloc | apply Kd.R_drewN | apply Kd.R_drew)); exact HO139.out) hb); have n2_ := Aside0.mk (below_step (by repeat (first | (with_reducible first | exact HB.out | apply bA_ | apply bN_ | apply b1_) | exact HB.out)) hb); clear HO_6; clear HO139; clear HB; have HO_6 := n0_; have HO139 := n1_; have HB := n2_; clear n0_ n1_ n2_; (try clear hb); (try clear hb2); (try clear hk); (try clear hi)) | ((with_reducible refine gate_builtin (b := .append) (xs := #[.tmp 26, .tmp 29]) rfl ?_); at_builtin; refine Kd.R_append k27 (w0 := w) w.heap.size rfl (.tmp 26) (.tmp 29) 24 27 (.agg #[(.int .u8 0), (.int .i64 0), (.string ⟨#[]⟩)]) 32 rfl Tryd.underlying24 info27 rfl (by decide) (by omega) u6 x6_1 (⟨t140, t141, t142⟩ : S27) [.int .u8 t140, .int .i64 t141, .string t142] (fun k_ => some k_ ≠ (v138 : Value).ownBlock) (fun _ => False) rfl rfl ?aP (fun _ hk => hk.elim) ?aF ?aO ?aB ?aS ?aL ?_; (case aP => exact k27_mkM _ _ _ (⟨t140, t141, t142⟩ : S27)); (case aB => exact (by repeat (first | (with_reducible first | exact HB.out | apply bA_ | apply bN_ | apply b1_) | exact HB.out))); (case aF => exact (fun k_ hk => Kd.fresh' (Kd.R_lt (by (with_reducible repeat (first | apply Kd.R_alloc | apply Kd.R_drewN | apply Kd.R_drew)); exact HO139.out)) k_ hk)); (case aO => exact (by (with_reducible repeat (first | apply Kd.R_alloc | apply Kd.R_drewN | apply Kd.R_drew)); exact Kd.R_mono HO_6.out (fun _ hk => hk.2))); (case aS => exact (below_size (by repeat (first | (with_reducible first | exact HB.out | apply bA_ | apply bN_ | apply b1_) | exact HB.out)))); (case aL => have := LMc8.out; omega); intro v144 w12 ho hb hg hat; rw [← Ny143.out] at ho; have n0_ := Aside0.mk (Kd.R_after (ok := (fun _ => True)) (by (with_reducible repeat (first | apply Kd.R_alloc | apply Kd.R_drewN | apply Kd.R_drew)); exact Kd.R_mono HO139.out (fun _ hk => ⟨trivial, hk⟩)) hg hat); have n1_ := Aside0.mk (hb); have n2_ := Aside0.mk (ho); clear HO139; clear HB; clear HO_6; have HO139 := n0_; have HB := n1_; have HO145 := n2_; clear n0_ n1_ n2_; clear ho hb hg hat))
           go_roundg k1
           case measure => have := HK1.out; omega
           case rel => exact ⟨(y137), (y143), (wrap64 (x7_1 + 1)), (by first | rfl | (simp; done) | (simp [*]; done)), H', ⟨by have := HK1.out; omega⟩, ⟨by (with_reducible repeat (first | apply Kd.R_alloc | apply Kd.R_drewN | apply Kd.R_drew)); exact Kd.R_mono HO139.out (fun _ hk => hk.2)⟩, ⟨by (with_reducible repeat (first | apply Kd.R_alloc | apply Kd.R_drewN | apply Kd.R_drew)); exact HO145.out⟩, ⟨by repeat (first | (with_reducible first | exact HB.out | apply bA_ | apply bN_ | apply b1_) | exact HB.out)⟩⟩
         · rw [if_neg c8] at H
           exact absurd H (by simp)
       · rw [if_neg c6] at H
         exact absurd H (by simp)
     · rw [if_neg c4] at H
       exact absurd H (by simp)
   · rw [if_neg c3] at H
     have c3b0 : decide (x7_1 < (l0.length : Int)) = false := dF_ c3
     clear c3
     replace H := Option.bind_eq_some_iff.mp H
     obtain ⟨⟨t146, t147, t148, t149⟩, A130, H⟩ := H
     replace H : ((bag_Aggregate.f 5 false x6_1).bind fun bt151 => (if (l0.length : Int) = 0 then (if t149 = 0 then (if t146 = 0 then ((w6_awake.f).bind fun t156 => (some t156)) else (some false)) else (some false)) else ((bag_Aggregate.f 3 false x5_1).bind fun bt157 => ((bag_Aggregate.f 4 false x5_1).bind fun bt162 => (if t149 = 0 then (if t146 = 1 then (if bt157.2.1 ≤ t147 then (if t147 ≤ bt162.2.1 then (if bt151.2.2.2 = 0 then ((r1_Int.f a1).bind fun bt167 => ((r1_Same.f bt151.1 bt151.2.1 bt151.2.2.1 bt167.1 bt167.2.1 bt167.2.2).bind fun t170 => (if t170 = true then ((w6_awake.f).bind fun t171 => (some t171)) else (some false)))) else (some false)) else (some false)) else (some false)) else (some false)) else (some false)))))) = some r := H
     have A13 := Aside0.mk A130
     clear A130
     replace H := Option.bind_eq_some_iff.mp H
     obtain ⟨⟨t151, t152, t153, t154⟩, A140, H⟩ := H
     replace H : (if (l0.length : Int) = 0 then (if t149 = 0 then (if t146 = 0 then ((w6_awake.f).bind fun t156 => (some t156)) else (some false)) else (some false)) else ((bag_Aggregate.f 3 false x5_1).bind fun bt157 => ((bag_Aggregate.f 4 false x5_1).bind fun bt162 => (if t149 = 0 then (if t146 = 1 then (if bt157.2.1 ≤ t147 then (if t147 ≤ bt162.2.1 then (if t154 = 0 then ((r1_Int.f a1).bind fun bt167 => ((r1_Same.f t151 t152 t153 bt167.1 bt167.2.1 bt167.2.2).bind fun t170 => (if t170 = true then ((w6_awake.f).bind fun t171 => (some t171)) else (some false)))) else (some false)) else (some false)) else (some false)) else (some false)) else (some false))))) = some r := H
     have A14 := Aside0.mk A140
     clear A140
     by_cases c15 : (l0.length : Int) = 0
     · rw [if_pos c15] at H
       have c15b0 : ((l0.length : Int) == 0) = true := beq_iff_eq.mpr c15
       have c15b1 : ((l0.length : Int) != 0) = false := bne_eq_false_iff_eq.mpr c15
       clear c15
       by_cases c16 : t149 = 0
       · rw [if_pos c16] at H
         have c16b0 : (t149 == 0) = true := beq_iff_eq.mpr c16
         have c16b1 : (t149 != 0) = false := bne_eq_false_iff_eq.mpr c16
         clear c16
         by_cases c17 : t146 = 0
         · rw [if_pos c17] at H
           have c17b0 : (t146 == 0) = true := beq_iff_eq.mpr c17
           have c17b1 : (t146 != 0) = false := bne_eq_false_iff_eq.mpr c17
           clear c17
           replace H := Option.bind_eq_some_iff.mp H
           obtain ⟨t156, A180, H⟩ := H
           replace H : (some t156) = some r := H
           have A18 := Aside0.mk A180
           clear A180
           obtain rfl := Option.some.inj H
           obtain ⟨Ao19, co19, eo19⟩ := Kd.R_slice HO_5.out
           subst eo19
           go_wp2_with (first | ((with_reducible refine gate_callee (f := 13) rfl ?_); refine goesL_ (some 32) rfl rfl Tryd.func13 (by kernel_rfl) rfl #[.int .u8 5, .bool false, .slice Ao19 x5_1.length co19] rfl (by (try simp only [List.map_toArray, List.map_cons, List.map_nil]); first | done | rfl | (simp only [List.length_drop, List.length_take]; rfl)) ?_; (with_reducible refine (bag_Aggregate.calls 5 false _ _ x5_1 t146 t147 t148 t149 _ ?side1 ?side2 ?sideT A13.out).mono ?_); (case sideT => exact LaidT.below HT.out (by repeat (first | (with_reducible first | exact HB.out | apply bA_ | apply bN_ | apply b1_ | refine below_set ?_ GE150.out | refine below_set ?_ GE155.out | refine below_set ?_ GE161.out | refine below_set ?_ GE166.out) | exact HB.out))); (case side1 => repeat (first | exact (Kd.R_reads' HO_5.out).2.2 | (with_reducible refine Kd.cA_ ?_ _) | (with_reducible refine Kd.cN_ ?_ _) | (with_reducible refine Kd.cD_ ?_))); (case side2 => exact (Kd.R_reads' HO_5.out).2.1); rintro e w20 ⟨rfl, hb⟩; refine ⟨_, rfl, ?_⟩; have n0_ := Aside0.mk (Kd.R_below (by (with_reducible repeat (first | apply Kd.R_alloc | apply Kd.R_drewN | apply Kd.R_drew)); exact HO_5.out) hb); have n1_ := Aside0.mk (Kd.R_below (by (with_reducible repeat (first | apply Kd.R_alloc | apply Kd.R_drewN | apply Kd.R_drew)); exact HO_6.out) hb); have n2_ := Aside0.mk (below_step (by repeat (first | (with_reducible first | exact HB.out | apply bA_ | apply bN_ | apply b1_) | exact HB.out)) hb); clear HO_5; clear HO_6; clear HB; have HO_5 := n0_; have HO_6 := n1_; have HB := n2_; clear n0_ n1_ n2_; (try clear hb); (try clear hb2); (try clear hk); (try clear hi)) | ((with_reducible refine gate_dst (N := 8) rfl ?_); refine box_event ?hg (N := 8) ?hd (cs := #[.int .u8 0, .int .i64 0, .string (⟨#[]⟩ : ByteArray), .int .i64 0]) (t := 31) ?hr ?_; (case hd => rfl); (case hg => rfl); (case hr => first | (go_simp; done) | (go_simp; rfl)); intro gb150 hg w21 hbox hb; have n0_ := Aside0.mk (Kd.R_below (by (with_reducible repeat (first | apply Kd.R_alloc | apply Kd.R_drewN | apply Kd.R_drew)); exact HO_5.out) hb); have n1_ := Aside0.mk (Kd.R_below (by (with_reducible repeat (first | apply Kd.R_alloc | apply Kd.R_drewN | apply Kd.R_drew)); exact HO_6.out) hb); have n2_ := Aside0.mk (below_step (by repeat (first | (with_reducible first | exact HB.out | apply bA_ | apply bN_ | apply b1_) | exact HB.out)) hb); have n3_ := Aside0.mk (hbox); have n4_ := Aside0.mk ((by rw [hg]; exact (below_size (by repeat (first | (with_reducible first | exact HB.out | apply bA_ | apply bN_ | apply b1_) | exact HB.out))) : w.heap.size ≤ gb150)); have n5_ := Aside0.mk ((by rw [hg]; exact (below_size (by repeat (first | (with_reducible first | exact HB.out | apply bA_ | apply bN_ | apply b1_) | exact HB.out))) : w.heap.size ≤ gb150)); clear HO_5; clear HO_6; clear HB; have HO_5 := n0_; have HO_6 := n1_; have HB := n2_; have BK150 := n3_; have GW150 := n4_; have GE150 := n5_; clear n0_ n1_ n2_ n3_ n4_ n5_; clear hb hbox hg; have hcz22_0 : w21.cell? ⟨gb150, 0, none⟩ = some (.int .u8 0) := (blk_cell BK150.out 0).trans rfl; have hcz22_1 : w21.cell? ⟨gb150, 1, none⟩ = some (.int .i64 0) := (blk_cell BK150.out 1).trans rfl; have hcz22_2 : w21.cell? ⟨gb150, 2, none⟩ = some (.string (⟨#[]⟩ : ByteArray)) := (blk_cell BK150.out 2).trans rfl; have hcz22_3 : w21.cell? ⟨gb150, 3, none⟩ = some (.int .i64 0) := (blk_cell BK150.out 3).trans rfl; have hfz22_0 := blk_frozen BK150.out 0; have hfz22_1 := blk_frozen BK150.out 1; have hfz22_2 := blk_frozen BK150.out 2; have hfz22_3 := blk_frozen BK150.out 3; obtain ⟨Ao23, co23, eo23⟩ := Kd.R_slice HO_6.out; subst eo23) | ((with_reducible refine gate_callee (f := 13) rfl ?_); refine goesL_ (some 34) rfl rfl Tryd.func13 (by kernel_rfl) rfl #[.int .u8 5, .bool false, .slice Ao23 x6_1.length co23] rfl (by (try simp only [List.map_toArray, List.map_cons, List.map_nil]); first | done | rfl | (simp only [List.length_drop, List.length_take]; rfl)) ?_; (with_reducible refine (bag_Aggregate.calls 5 false _ _ x6_1 t151 t152 t153 t154 _ ?side1 ?side2 ?sideT A14.out).mono ?_); (case sideT => exact LaidT.below HT.out (by repeat (first | (with_reducible first | exact HB.out | apply bA_ | apply bN_ | apply b1_ | refine below_set ?_ GE150.out | refine below_set ?_ GE155.out | refine below_set ?_ GE161.out | refine below_set ?_ GE166.out) | exact HB.out))); (case side1 => refine (Kd.R_reads' (e := 27) (base := w.heap.size) (ok := fun k_ => some k_ ≠ (.slice Ao19 x5_1.length co19 : Value).ownBlock) (n := x6_1.length) (c := co23) ?_).2.2; exact (by (with_reducible repeat (first | apply Kd.R_alloc | apply Kd.R_drewN | apply Kd.R_drew)); exact (Kd.R_mono (Kd.R_far (p := ⟨gb150, 3, none⟩) (Kd.R_far (p := ⟨gb150, 2, none⟩) (Kd.R_far (p := ⟨gb150, 1, none⟩) (Kd.R_far (p := ⟨gb150, 0, none⟩) (Kd.R_types HO_6.out BK150.out (by decide)) (fun _ hk => hk.2) (.int .u8 t146)) (fun _ hk => hk.2) (.int .i64 t147)) (fun _ hk => hk.2) (.string t148)) (fun _ hk => hk.2) (.int .i64 t149)) (fun _ h_ => h_.1)))); (case side2 => exact (Kd.R_reads' HO_6.out).2.1); rintro e w24 ⟨rfl, hb⟩; refine ⟨_, rfl, ?_⟩; have n0_ := Aside0.mk (Kd.R_below (by (with_reducible repeat (first | apply Kd.R_alloc | apply Kd.R_drewN | apply Kd.R_drew)); exact (Kd.R_mono (Kd.R_far (p := ⟨gb150, 3, none⟩) (Kd.R_far (p := ⟨gb150, 2, none⟩) (Kd.R_far (p := ⟨gb150, 1, none⟩) (Kd.R_far (p := ⟨gb150, 0, none⟩) (Kd.R_types HO_5.out BK150.out (by decide)) (fun _ hk => hk.2) (.int .u8 t146)) (fun _ hk => hk.2) (.int .i64 t147)) (fun _ hk => hk.2) (.string t148)) (fun _ hk => hk.2) (.int .i64 t149)) (fun _ h_ => h_.1))) hb); have n1_ := Aside0.mk (Kd.R_below (by (with_reducible repeat (first | apply Kd.R_alloc | apply Kd.R_drewN | apply Kd.R_drew)); exact (Kd.R_mono (Kd.R_far (p := ⟨gb150, 3, none⟩) (Kd.R_far (p := ⟨gb150, 2, none⟩) (Kd.R_far (p := ⟨gb150, 1, none⟩) (Kd.R_far (p := ⟨gb150, 0, none⟩) (Kd.R_types HO_6.out BK150.out (by decide)) (fun _ hk => hk.2) (.int .u8 t146)) (fun _ hk => hk.2) (.int .i64 t147)) (fun _ hk => hk.2) (.string t148)) (fun _ hk => hk.2) (.int .i64 t149)) (fun _ h_ => h_.1))) hb); have n2_ := Aside0.mk (blk_below (g := gb150) (o := .cells #[.int .u8 t146, .int .i64 t147, .string t148, .int .i64 t149] 31 (0, 0)) (by (with_reducible repeat (first | refine blk_drewN ?_ _ | refine blk_drew ?_ | refine blk_alloc ?_ _)); refine blk_put (cs := #[.int .u8 t146, .int .i64 t147, .string t148, .int .i64 0]) ?_ 3 _ rfl; (with_reducible repeat (first | refine blk_drewN ?_ _ | refine blk_drew ?_ | refine blk_alloc ?_ _)); refine blk_put (cs := #[.int .u8 t146, .int .i64 t147, .string (⟨#[]⟩ : ByteArray), .int .i64 0]) ?_ 2 _ rfl; (with_reducible repeat (first | refine blk_drewN ?_ _ | refine blk_drew ?_ | refine blk_alloc ?_ _)); refine blk_put (cs := #[.int .u8 t146, .int .i64 0, .string (⟨#[]⟩ : ByteArray), .int .i64 0]) ?_ 1 _ rfl; (with_reducible repeat (first | refine blk_drewN ?_ _ | refine blk_drew ?_ | refine blk_alloc ?_ _)); refine blk_put (cs := #[.int .u8 0, .int .i64 0, .string (⟨#[]⟩ : ByteArray), .int .i64 0]) ?_ 0 _ rfl; (with_reducible repeat (first | refine blk_drewN ?_ _ | refine blk_drew ?_ | refine blk_alloc ?_ _)); exact BK150.out) hb); have n3_ := Aside0.mk (below_step (by repeat (first | (with_reducible first | exact HB.out | apply bA_ | apply bN_ | apply b1_ | refine below_set ?_ GE150.out) | exact HB.out)) hb); clear HO_5; clear HO_6; clear BK150; clear HB; have HO_5 := n0_; have HO_6 := n1_; have BK150 := n2_; have HB := n3_; clear n0_ n1_ n2_ n3_; (try clear hb); (try clear hb2); (try clear hk); (try clear hi)) | ((with_reducible refine gate_dst (N := 9) rfl ?_); refine box_event ?hg (N := 9) ?hd (cs := #[.int .u8 0, .int .i64 0, .string (⟨#[]⟩ : ByteArray), .int .i64 0]) (t := 31) ?hr ?_; (case hd => rfl); (case hg => rfl); (case hr => first | (go_simp; done) | (go_simp; rfl)); intro gb155 hg w25 hbox hb; have n0_ := Aside0.mk (Kd.R_below (by (with_reducible repeat (first | apply Kd.R_alloc | apply Kd.R_drewN | apply Kd.R_drew)); exact HO_5.out) hb); have n1_ := Aside0.mk (Kd.R_below (by (with_reducible repeat (first | apply Kd.R_alloc | apply Kd.R_drewN | apply Kd.R_drew)); exact HO_6.out) hb); have n2_ := Aside0.mk (blk_below (g := gb150) (o := .cells #[.int .u8 t146, .int .i64 t147, .string t148, .int .i64 t149] 31 (0, 0)) (by (with_reducible repeat (first | refine blk_drewN ?_ _ | refine blk_drew ?_ | refine blk_alloc ?_ _)); exact BK150.out) hb); have n3_ := Aside0.mk (below_step (by repeat (first | (with_reducible first | exact HB.out | apply bA_ | apply bN_ | apply b1_ | refine below_set ?_ GE150.out) | exact HB.out)) hb); have n4_ := Aside0.mk (hbox); have n5_ := Aside0.mk ((by rw [hg]; exact (below_size (by repeat (first | (with_reducible first | exact HB.out | apply bA_ | apply bN_ | apply b1_ | refine below_set ?_ GE150.out) | exact HB.out))) : w.heap.size ≤ gb155)); have n6_ := Aside0.mk ((by rw [hg]; exact (below_size (by repeat (first | (with_reducible first | exact HB.out | apply bA_ | apply bN_ | apply b1_ | refine below_set ?_ GE150.out) | exact HB.out))) : w.heap.size ≤ gb155)); have n7_ := Aside0.mk ((by rw [hg]; exact Nat.ne_of_lt (blk_lt (g := gb150) (o := .cells #[.int .u8 t146, .int .i64 t147, .string t148, .int .i64 t149] 31 (0, 0)) (by (with_reducible repeat (first | refine blk_drewN ?_ _ | refine blk_drew ?_ | refine blk_alloc ?_ _)); exact BK150.out)) : gb150 ≠ gb155)); have n8_ := Aside0.mk ((by rw [hg]; exact Nat.ne_of_gt (blk_lt (g := gb150) (o := .cells #[.int .u8 t146, .int .i64 t147, .string t148, .int .i64 t149] 31 (0, 0)) (by (with_reducible repeat (first | refine blk_drewN ?_ _ | refine blk_drew ?_ | refine blk_alloc ?_ _)); exact BK150.out)) : gb155 ≠ gb150)); clear HO_5; clear HO_6; clear BK150; clear HB; have HO_5 := n0_; have HO_6 := n1_; have BK150 := n2_; have HB := n3_; have BK155 := n4_; have GW155 := n5_; have GE155 := n6_; have NB150_155 := n7_; have NB155_150 := n8_; clear n0_ n1_ n2_ n3_ n4_ n5_ n6_ n7_ n8_; clear hb hbox hg; have hnb26 := NB155_150.out; have hnc26 := NB150_155.out; have hcz27_0 : w25.cell? ⟨gb155, 0, none⟩ = some (.int .u8 0) := (blk_cell BK155.out 0).trans rfl; have hcz27_1 : w25.cell? ⟨gb155, 1, none⟩ = some (.int .i64 0) := (blk_cell BK155.out 1).trans rfl; have hcz27_2 : w25.cell? ⟨gb155, 2, none⟩ = some (.string (⟨#[]⟩ : ByteArray)) := (blk_cell BK155.out 2).trans rfl; have hcz27_3 : w25.cell? ⟨gb155, 3, none⟩ = some (.int .i64 0) := (blk_cell BK155.out 3).trans rfl; have hfz27_0 := blk_frozen BK155.out 0; have hfz27_1 := blk_frozen BK155.out 1; have hfz27_2 := blk_frozen BK155.out 2; have hfz27_3 := blk_frozen BK155.out 3; have hcz28_0 : w25.cell? ⟨gb150, 0, none⟩ = some (.int .u8 t146) := (blk_cell BK150.out 0).trans rfl; have hcz28_1 : w25.cell? ⟨gb150, 1, none⟩ = some (.int .i64 t147) := (blk_cell BK150.out 1).trans rfl; have hcz28_2 : w25.cell? ⟨gb150, 2, none⟩ = some (.string t148) := (blk_cell BK150.out 2).trans rfl; have hcz28_3 : w25.cell? ⟨gb150, 3, none⟩ = some (.int .i64 t149) := (blk_cell BK150.out 3).trans rfl; have hfz28_0 := blk_frozen BK150.out 0; have hfz28_1 := blk_frozen BK150.out 1; have hfz28_2 := blk_frozen BK150.out 2; have hfz28_3 := blk_frozen BK150.out 3) | (go_at_call 11; (with_reducible refine (w6_awake.calls  t156 _ ?sideT A18.out).mono ?_); (case sideT => exact LaidT.below HT.out (by repeat (first | (with_reducible first | exact HB.out | apply bA_ | apply bN_ | apply b1_ | refine below_set ?_ GE150.out | refine below_set ?_ GE155.out | refine below_set ?_ GE161.out | refine below_set ?_ GE166.out) | exact HB.out))); rintro e w29 ⟨rfl, hb⟩; have n0_ := Aside0.mk (Kd.R_below (by (with_reducible repeat (first | apply Kd.R_alloc | apply Kd.R_drewN | apply Kd.R_drew)); exact (Kd.R_mono (Kd.R_far (p := ⟨gb155, 3, none⟩) (Kd.R_far (p := ⟨gb155, 2, none⟩) (Kd.R_far (p := ⟨gb155, 1, none⟩) (Kd.R_far (p := ⟨gb155, 0, none⟩) (Kd.R_types HO_5.out BK155.out (by decide)) (fun _ hk => hk.2) (.int .u8 t151)) (fun _ hk => hk.2) (.int .i64 t152)) (fun _ hk => hk.2) (.string t153)) (fun _ hk => hk.2) (.int .i64 t154)) (fun _ h_ => h_.1))) hb); have n1_ := Aside0.mk (Kd.R_below (by (with_reducible repeat (first | apply Kd.R_alloc | apply Kd.R_drewN | apply Kd.R_drew)); exact (Kd.R_mono (Kd.R_far (p := ⟨gb155, 3, none⟩) (Kd.R_far (p := ⟨gb155, 2, none⟩) (Kd.R_far (p := ⟨gb155, 1, none⟩) (Kd.R_far (p := ⟨gb155, 0, none⟩) (Kd.R_types HO_6.out BK155.out (by decide)) (fun _ hk => hk.2) (.int .u8 t151)) (fun _ hk => hk.2) (.int .i64 t152)) (fun _ hk => hk.2) (.string t153)) (fun _ hk => hk.2) (.int .i64 t154)) (fun _ h_ => h_.1))) hb); have n2_ := Aside0.mk (blk_below (g := gb150) (o := .cells #[.int .u8 t146, .int .i64 t147, .string t148, .int .i64 t149] 31 (0, 0)) (by (with_reducible repeat (first | refine blk_drewN ?_ _ | refine blk_drew ?_ | refine blk_alloc ?_ _)); refine blk_far ?_ NB150_155.out _; (with_reducible repeat (first | refine blk_drewN ?_ _ | refine blk_drew ?_ | refine blk_alloc ?_ _)); refine blk_far ?_ NB150_155.out _; (with_reducible repeat (first | refine blk_drewN ?_ _ | refine blk_drew ?_ | refine blk_alloc ?_ _)); refine blk_far ?_ NB150_155.out _; (with_reducible repeat (first | refine blk_drewN ?_ _ | refine blk_drew ?_ | refine blk_alloc ?_ _)); refine blk_far ?_ NB150_155.out _; (with_reducible repeat (first | refine blk_drewN ?_ _ | refine blk_drew ?_ | refine blk_alloc ?_ _)); exact BK150.out) hb); have n3_ := Aside0.mk (blk_below (g := gb155) (o := .cells #[.int .u8 t151, .int .i64 t152, .string t153, .int .i64 t154] 31 (0, 0)) (by (with_reducible repeat (first | refine blk_drewN ?_ _ | refine blk_drew ?_ | refine blk_alloc ?_ _)); refine blk_put (cs := #[.int .u8 t151, .int .i64 t152, .string t153, .int .i64 0]) ?_ 3 _ rfl; (with_reducible repeat (first | refine blk_drewN ?_ _ | refine blk_drew ?_ | refine blk_alloc ?_ _)); refine blk_put (cs := #[.int .u8 t151, .int .i64 t152, .string (⟨#[]⟩ : ByteArray), .int .i64 0]) ?_ 2 _ rfl; (with_reducible repeat (first | refine blk_drewN ?_ _ | refine blk_drew ?_ | refine blk_alloc ?_ _)); refine blk_put (cs := #[.int .u8 t151, .int .i64 0, .string (⟨#[]⟩ : ByteArray), .int .i64 0]) ?_ 1 _ rfl; (with_reducible repeat (first | refine blk_drewN ?_ _ | refine blk_drew ?_ | refine blk_alloc ?_ _)); refine blk_put (cs := #[.int .u8 0, .int .i64 0, .string (⟨#[]⟩ : ByteArray), .int .i64 0]) ?_ 0 _ rfl; (with_reducible repeat (first | refine blk_drewN ?_ _ | refine blk_drew ?_ | refine blk_alloc ?_ _)); exact BK155.out) hb); have n4_ := Aside0.mk (below_step (by repeat (first | (with_reducible first | exact HB.out | apply bA_ | apply bN_ | apply b1_ | refine below_set ?_ GE150.out | refine below_set ?_ GE155.out) | exact HB.out)) hb); clear HO_5; clear HO_6; clear BK150; clear BK155; clear HB; have HO_5 := n0_; have HO_6 := n1_; have BK150 := n2_; have BK155 := n3_; have HB := n4_; clear n0_ n1_ n2_ n3_ n4_; (try clear hb); (try clear hb2); (try clear hk); (try clear hi)))
           go_ret
           exact ⟨by first | rfl | (simp [*, errW_none, errW_some] <;> rfl), by repeat (first | (with_reducible first | exact HB.out | apply bA_ | apply bN_ | apply b1_ | refine below_set ?_ GE150.out | refine below_set ?_ GE155.out) | exact HB.out)⟩
         · rw [if_neg c17] at H
           have c17b0 : (t146 == 0) = false := beq_eq_false_iff_ne.mpr c17
           have c17b1 : (t146 != 0) = true := bne_iff_ne.mpr c17
           exact absurd ((Option.some.inj H).trans HRT.out) (by decide)
       · rw [if_neg c16] at H
         have c16b0 : (t149 == 0) = false := beq_eq_false_iff_ne.mpr c16
         have c16b1 : (t149 != 0) = true := bne_iff_ne.mpr c16
         exact absurd ((Option.some.inj H).trans HRT.out) (by decide)
     · rw [if_neg c15] at H
       have c15b0 : ((l0.length : Int) == 0) = false := beq_eq_false_iff_ne.mpr c15
       have c15b1 : ((l0.length : Int) != 0) = true := bne_iff_ne.mpr c15
       have c15b2 : ¬ (l0 = []) := fun h_ => c15 (by rw [h_]; rfl)
       replace H := Option.bind_eq_some_iff.mp H
       obtain ⟨⟨t157, t158, t159, t160⟩, A500, H⟩ := H
       replace H : ((bag_Aggregate.f 4 false x5_1).bind fun bt162 => (if t149 = 0 then (if t146 = 1 then (if t158 ≤ t147 then (if t147 ≤ bt162.2.1 then (if t154 = 0 then ((r1_Int.f a1).bind fun bt167 => ((r1_Same.f t151 t152 t153 bt167.1 bt167.2.1 bt167.2.2).bind fun t170 => (if t170 = true then ((w6_awake.f).bind fun t171 => (some t171)) else (some false)))) else (some false)) else (some false)) else (some false)) else (some false)) else (some false))) = some r := H
       have A50 := Aside0.mk A500
       clear A500
       replace H := Option.bind_eq_some_iff.mp H
       obtain ⟨⟨t162, t163, t164, t165⟩, A510, H⟩ := H
       replace H : (if t149 = 0 then (if t146 = 1 then (if t158 ≤ t147 then (if t147 ≤ t163 then (if t154 = 0 then ((r1_Int.f a1).bind fun bt167 => ((r1_Same.f t151 t152 t153 bt167.1 bt167.2.1 bt167.2.2).bind fun t170 => (if t170 = true then ((w6_awake.f).bind fun t171 => (some t171)) else (some false)))) else (some false)) else (some false)) else (some false)) else (some false)) else (some false)) = some r := H
       have A51 := Aside0.mk A510
       clear A510
       by_cases c52 : t149 = 0
       · rw [if_pos c52] at H
         have c52b0 : (t149 == 0) = true := beq_iff_eq.mpr c52
         have c52b1 : (t149 != 0) = false := bne_eq_false_iff_eq.mpr c52
         clear c52
         by_cases c53 : t146 = 1
         · rw [if_pos c53] at H
           have c53b0 : (t146 == 1) = true := beq_iff_eq.mpr c53
           have c53b1 : (t146 != 1) = false := bne_eq_false_iff_eq.mpr c53
           clear c53
           by_cases c54 : t158 ≤ t147
           · rw [if_pos c54] at H
             have c54b0 : decide (t158 ≤ t147) = true := dT_ c54
             clear c54
             by_cases c55 : t147 ≤ t163
             · rw [if_pos c55] at H
               have c55b0 : decide (t147 ≤ t163) = true := dT_ c55
               clear c55
               by_cases c56 : t154 = 0
               · rw [if_pos c56] at H
                 have c56b0 : (t154 == 0) = true := beq_iff_eq.mpr c56
                 have c56b1 : (t154 != 0) = false := bne_eq_false_iff_eq.mpr c56
                 clear c56
                 replace H := Option.bind_eq_some_iff.mp H
                 obtain ⟨⟨t167, t168, t169⟩, A570, H⟩ := H
                 replace H : ((r1_Same.f t151 t152 t153 t167 t168 t169).bind fun t170 => (if t170 = true then ((w6_awake.f).bind fun t171 => (some t171)) else (some false))) = some r := H
                 have A57 := Aside0.mk A570
                 clear A570
                 replace H := Option.bind_eq_some_iff.mp H
                 obtain ⟨t170, A580, H⟩ := H
                 replace H : (if t170 = true then ((w6_awake.f).bind fun t171 => (some t171)) else (some false)) = some r := H
                 have A58 := Aside0.mk A580
                 clear A580
                 by_cases c59 : t170 = true
                 · subst c59
                   have H1 : ((w6_awake.f).bind fun t171 => (some t171)) = some r := by rw [if_pos rfl] at H; exact H
                   clear H
                   have H := H1
                   clear H1
                   replace H := Option.bind_eq_some_iff.mp H
                   obtain ⟨t171, A600, H⟩ := H
                   replace H : (some t171) = some r := H
                   have A60 := Aside0.mk A600
                   clear A600
                   obtain rfl := Option.some.inj H
                   obtain ⟨Ao61, co61, eo61⟩ := Kd.R_slice HO_5.out
                   subst eo61
                   try go_wp2_with (first | ((with_reducible refine gate_callee (f := 13) rfl ?_); refine goesL_ (some 32) rfl rfl Tryd.func13 (by kernel_rfl) rfl #[.int .u8 5, .bool false, .slice Ao61 x5_1.length co61] rfl (by (try simp only [List.map_toArray, List.map_cons, List.map_nil]); first | done | rfl | (simp only [List.length_drop, List.length_take]; rfl)) ?_; (with_reducible refine (bag_Aggregate.calls 5 false _ _ x5_1 t146 t147 t148 t149 _ ?side1 ?side2 ?sideT A13.out).mono ?_); (case sideT => exact LaidT.below HT.out (by repeat (first | (with_reducible first | exact HB.out | apply bA_ | apply bN_ | apply b1_ | refine below_set ?_ GE150.out | refine below_set ?_ GE155.out | refine below_set ?_ GE161.out | refine below_set ?_ GE166.out) | exact HB.out))); (case side1 => repeat (first | exact (Kd.R_reads' HO_5.out).2.2 | (with_reducible refine Kd.cA_ ?_ _) | (with_reducible refine Kd.cN_ ?_ _) | (with_reducible refine Kd.cD_ ?_))); (case side2 => exact (Kd.R_reads' HO_5.out).2.1); rintro e w62 ⟨rfl, hb⟩; refine ⟨_, rfl, ?_⟩; have n0_ := Aside0.mk (Kd.R_below (by (with_reducible repeat (first | apply Kd.R_alloc | apply Kd.R_drewN | apply Kd.R_drew)); exact HO_5.out) hb); have n1_ := Aside0.mk (Kd.R_below (by (with_reducible repeat (first | apply Kd.R_alloc | apply Kd.R_drewN | apply Kd.R_drew)); exact HO_6.out) hb); have n2_ := Aside0.mk (below_step (by repeat (first | (with_reducible first | exact HB.out | apply bA_ | apply bN_ | apply b1_) | exact HB.out)) hb); clear HO_5; clear HO_6; clear HB; have HO_5 := n0_; have HO_6 := n1_; have HB := n2_; clear n0_ n1_ n2_; (try clear hb); (try clear hb2); (try clear hk); (try clear hi)) | ((with_reducible refine gate_dst (N := 8) rfl ?_); refine box_event ?hg (N := 8) ?hd (cs := #[.int .u8 0, .int .i64 0, .string (⟨#[]⟩ : ByteArray), .int .i64 0]) (t := 31) ?hr ?_; (case hd => rfl); (case hg => rfl); (case hr => first | (go_simp; done) | (go_simp; rfl)); intro gb150 hg w63 hbox hb; have n0_ := Aside0.mk (Kd.R_below (by (with_reducible repeat (first | apply Kd.R_alloc | apply Kd.R_drewN | apply Kd.R_drew)); exact HO_5.out) hb); have n1_ := Aside0.mk (Kd.R_below (by (with_reducible repeat (first | apply Kd.R_alloc | apply Kd.R_drewN | apply Kd.R_drew)); exact HO_6.out) hb); have n2_ := Aside0.mk (below_step (by repeat (first | (with_reducible first | exact HB.out | apply bA_ | apply bN_ | apply b1_) | exact HB.out)) hb); have n3_ := Aside0.mk (hbox); have n4_ := Aside0.mk ((by rw [hg]; exact (below_size (by repeat (first | (with_reducible first | exact HB.out | apply bA_ | apply bN_ | apply b1_) | exact HB.out))) : w.heap.size ≤ gb150)); have n5_ := Aside0.mk ((by rw [hg]; exact (below_size (by repeat (first | (with_reducible first | exact HB.out | apply bA_ | apply bN_ | apply b1_) | exact HB.out))) : w.heap.size ≤ gb150)); clear HO_5; clear HO_6; clear HB; have HO_5 := n0_; have HO_6 := n1_; have HB := n2_; have BK150 := n3_; have GW150 := n4_; have GE150 := n5_; clear n0_ n1_ n2_ n3_ n4_ n5_; clear hb hbox hg; have hcz64_0 : w63.cell? ⟨gb150, 0, none⟩ = some (.int .u8 0) := (blk_cell BK150.out 0).trans rfl; have hcz64_1 : w63.cell? ⟨gb150, 1, none⟩ = some (.int .i64 0) := (blk_cell BK150.out 1).trans rfl; have hcz64_2 : w63.cell? ⟨gb150, 2, none⟩ = some (.string (⟨#[]⟩ : ByteArray)) := (blk_cell BK150.out 2).trans rfl; have hcz64_3 : w63.cell? ⟨gb150, 3, none⟩ = some (.int .i64 0) := (blk_cell BK150.out 3).trans rfl; have hfz64_0 := blk_frozen BK150.out 0; have hfz64_1 := blk_frozen BK150.out 1; have hfz64_2 := blk_frozen BK150.out 2; have hfz64_3 := blk_frozen BK150.out 3; obtain ⟨Ao65, co65, eo65⟩ := Kd.R_slice HO_6.out; subst eo65) | ((with_reducible refine gate_callee (f := 13) rfl ?_); refine goesL_ (some 34) rfl rfl Tryd.func13 (by kernel_rfl) rfl #[.int .u8 5, .bool false, .slice Ao65 x6_1.length co65] rfl (by (try simp only [List.map_toArray, List.map_cons, List.map_nil]); first | done | rfl | (simp only [List.length_drop, List.length_take]; rfl)) ?_; (with_reducible refine (bag_Aggregate.calls 5 false _ _ x6_1 t151 t152 t153 t154 _ ?side1 ?side2 ?sideT A14.out).mono ?_); (case sideT => exact LaidT.below HT.out (by repeat (first | (with_reducible first | exact HB.out | apply bA_ | apply bN_ | apply b1_ | refine below_set ?_ GE150.out | refine below_set ?_ GE155.out | refine below_set ?_ GE161.out | refine below_set ?_ GE166.out) | exact HB.out))); (case side1 => refine (Kd.R_reads' (e := 27) (base := w.heap.size) (ok := fun k_ => some k_ ≠ (.slice Ao61 x5_1.length co61 : Value).ownBlock) (n := x6_1.length) (c := co65) ?_).2.2; exact (by (with_reducible repeat (first | apply Kd.R_alloc | apply Kd.R_drewN | apply Kd.R_drew)); exact (Kd.R_mono (Kd.R_far (p := ⟨gb150, 3, none⟩) (Kd.R_far (p := ⟨gb150, 2, none⟩) (Kd.R_far (p := ⟨gb150, 1, none⟩) (Kd.R_far (p := ⟨gb150, 0, none⟩) (Kd.R_types HO_6.out BK150.out (by decide)) (fun _ hk => hk.2) (.int .u8 t146)) (fun _ hk => hk.2) (.int .i64 t147)) (fun _ hk => hk.2) (.string t148)) (fun _ hk => hk.2) (.int .i64 t149)) (fun _ h_ => h_.1)))); (case side2 => exact (Kd.R_reads' HO_6.out).2.1); rintro e w66 ⟨rfl, hb⟩; refine ⟨_, rfl, ?_⟩; have n0_ := Aside0.mk (Kd.R_below (by (with_reducible repeat (first | apply Kd.R_alloc | apply Kd.R_drewN | apply Kd.R_drew)); exact (Kd.R_mono (Kd.R_far (p := ⟨gb150, 3, none⟩) (Kd.R_far (p := ⟨gb150, 2, none⟩) (Kd.R_far (p := ⟨gb150, 1, none⟩) (Kd.R_far (p := ⟨gb150, 0, none⟩) (Kd.R_types HO_5.out BK150.out (by decide)) (fun _ hk => hk.2) (.int .u8 t146)) (fun _ hk => hk.2) (.int .i64 t147)) (fun _ hk => hk.2) (.string t148)) (fun _ hk => hk.2) (.int .i64 t149)) (fun _ h_ => h_.1))) hb); have n1_ := Aside0.mk (Kd.R_below (by (with_reducible repeat (first | apply Kd.R_alloc | apply Kd.R_drewN | apply Kd.R_drew)); exact (Kd.R_mono (Kd.R_far (p := ⟨gb150, 3, none⟩) (Kd.R_far (p := ⟨gb150, 2, none⟩) (Kd.R_far (p := ⟨gb150, 1, none⟩) (Kd.R_far (p := ⟨gb150, 0, none⟩) (Kd.R_types HO_6.out BK150.out (by decide)) (fun _ hk => hk.2) (.int .u8 t146)) (fun _ hk => hk.2) (.int .i64 t147)) (fun _ hk => hk.2) (.string t148)) (fun _ hk => hk.2) (.int .i64 t149)) (fun _ h_ => h_.1))) hb); have n2_ := Aside0.mk (blk_below (g := gb150) (o := .cells #[.int .u8 t146, .int .i64 t147, .string t148, .int .i64 t149] 31 (0, 0)) (by (with_reducible repeat (first | refine blk_drewN ?_ _ | refine blk_drew ?_ | refine blk_alloc ?_ _)); refine blk_put (cs := #[.int .u8 t146, .int .i64 t147, .string t148, .int .i64 0]) ?_ 3 _ rfl; (with_reducible repeat (first | refine blk_drewN ?_ _ | refine blk_drew ?_ | refine blk_alloc ?_ _)); refine blk_put (cs := #[.int .u8 t146, .int .i64 t147, .string (⟨#[]⟩ : ByteArray), .int .i64 0]) ?_ 2 _ rfl; (with_reducible repeat (first | refine blk_drewN ?_ _ | refine blk_drew ?_ | refine blk_alloc ?_ _)); refine blk_put (cs := #[.int .u8 t146, .int .i64 0, .string (⟨#[]⟩ : ByteArray), .int .i64 0]) ?_ 1 _ rfl; (with_reducible repeat (first | refine blk_drewN ?_ _ | refine blk_drew ?_ | refine blk_alloc ?_ _)); refine blk_put (cs := #[.int .u8 0, .int .i64 0, .string (⟨#[]⟩ : ByteArray), .int .i64 0]) ?_ 0 _ rfl; (with_reducible repeat (first | refine blk_drewN ?_ _ | refine blk_drew ?_ | refine blk_alloc ?_ _)); exact BK150.out) hb); have n3_ := Aside0.mk (below_step (by repeat (first | (with_reducible first | exact HB.out | apply bA_ | apply bN_ | apply b1_ | refine below_set ?_ GE150.out) | exact HB.out)) hb); clear HO_5; clear HO_6; clear BK150; clear HB; have HO_5 := n0_; have HO_6 := n1_; have BK150 := n2_; have HB := n3_; clear n0_ n1_ n2_ n3_; (try clear hb); (try clear hb2); (try clear hk); (try clear hi)) | ((with_reducible refine gate_dst (N := 9) rfl ?_); refine box_event ?hg (N := 9) ?hd (cs := #[.int .u8 0, .int .i64 0, .string (⟨#[]⟩ : ByteArray), .int .i64 0]) (t := 31) ?hr ?_; (case hd => rfl); (case hg => rfl); (case hr => first | (go_simp; done) | (go_simp; rfl)); intro gb155 hg w67 hbox hb; have n0_ := Aside0.mk (Kd.R_below (by (with_reducible repeat (first | apply Kd.R_alloc | apply Kd.R_drewN | apply Kd.R_drew)); exact HO_5.out) hb); have n1_ := Aside0.mk (Kd.R_below (by (with_reducible repeat (first | apply Kd.R_alloc | apply Kd.R_drewN | apply Kd.R_drew)); exact HO_6.out) hb); have n2_ := Aside0.mk (blk_below (g := gb150) (o := .cells #[.int .u8 t146, .int .i64 t147, .string t148, .int .i64 t149] 31 (0, 0)) (by (with_reducible repeat (first | refine blk_drewN ?_ _ | refine blk_drew ?_ | refine blk_alloc ?_ _)); exact BK150.out) hb); have n3_ := Aside0.mk (below_step (by repeat (first | (with_reducible first | exact HB.out | apply bA_ | apply bN_ | apply b1_ | refine below_set ?_ GE150.out) | exact HB.out)) hb); have n4_ := Aside0.mk (hbox); have n5_ := Aside0.mk ((by rw [hg]; exact (below_size (by repeat (first | (with_reducible first | exact HB.out | apply bA_ | apply bN_ | apply b1_ | refine below_set ?_ GE150.out) | exact HB.out))) : w.heap.size ≤ gb155)); have n6_ := Aside0.mk ((by rw [hg]; exact (below_size (by repeat (first | (with_reducible first | exact HB.out | apply bA_ | apply bN_ | apply b1_ | refine below_set ?_ GE150.out) | exact HB.out))) : w.heap.size ≤ gb155)); have n7_ := Aside0.mk ((by rw [hg]; exact Nat.ne_of_lt (blk_lt (g := gb150) (o := .cells #[.int .u8 t146, .int .i64 t147, .string t148, .int .i64 t149] 31 (0, 0)) (by (with_reducible repeat (first | refine blk_drewN ?_ _ | refine blk_drew ?_ | refine blk_alloc ?_ _)); exact BK150.out)) : gb150 ≠ gb155)); have n8_ := Aside0.mk ((by rw [hg]; exact Nat.ne_of_gt (blk_lt (g := gb150) (o := .cells #[.int .u8 t146, .int .i64 t147, .string t148, .int .i64 t149] 31 (0, 0)) (by (with_reducible repeat (first | refine blk_drewN ?_ _ | refine blk_drew ?_ | refine blk_alloc ?_ _)); exact BK150.out)) : gb155 ≠ gb150)); clear HO_5; clear HO_6; clear BK150; clear HB; have HO_5 := n0_; have HO_6 := n1_; have BK150 := n2_; have HB := n3_; have BK155 := n4_; have GW155 := n5_; have GE155 := n6_; have NB150_155 := n7_; have NB155_150 := n8_; clear n0_ n1_ n2_ n3_ n4_ n5_ n6_ n7_ n8_; clear hb hbox hg; have hnb68 := NB155_150.out; have hnc68 := NB150_155.out; have hcz69_0 : w67.cell? ⟨gb155, 0, none⟩ = some (.int .u8 0) := (blk_cell BK155.out 0).trans rfl; have hcz69_1 : w67.cell? ⟨gb155, 1, none⟩ = some (.int .i64 0) := (blk_cell BK155.out 1).trans rfl; have hcz69_2 : w67.cell? ⟨gb155, 2, none⟩ = some (.string (⟨#[]⟩ : ByteArray)) := (blk_cell BK155.out 2).trans rfl; have hcz69_3 : w67.cell? ⟨gb155, 3, none⟩ = some (.int .i64 0) := (blk_cell BK155.out 3).trans rfl; have hfz69_0 := blk_frozen BK155.out 0; have hfz69_1 := blk_frozen BK155.out 1; have hfz69_2 := blk_frozen BK155.out 2; have hfz69_3 := blk_frozen BK155.out 3) | ((with_reducible refine gate_callee (f := 13) rfl ?_); refine goesL_ (some 51) rfl rfl Tryd.func13 (by kernel_rfl) rfl #[.int .u8 3, .bool false, .slice Ao61 x5_1.length co61] rfl (by (try simp only [List.map_toArray, List.map_cons, List.map_nil]); first | done | rfl | (simp only [List.length_drop, List.length_take]; rfl)) ?_; (with_reducible refine (bag_Aggregate.calls 3 false _ _ x5_1 t157 t158 t159 t160 _ ?side1 ?side2 ?sideT A50.out).mono ?_); (case sideT => exact LaidT.below HT.out (by repeat (first | (with_reducible first | exact HB.out | apply bA_ | apply bN_ | apply b1_ | refine below_set ?_ GE150.out | refine below_set ?_ GE155.out | refine below_set ?_ GE161.out | refine below_set ?_ GE166.out) | exact HB.out))); (case side1 => refine (Kd.R_reads' (e := 27) (base := w.heap.size) (ok := fun k_ => some k_ ≠ (.slice Ao65 x6_1.length co65 : Value).ownBlock) (n := x5_1.length) (c := co61) ?_).2.2; exact (by (with_reducible repeat (first | apply Kd.R_alloc | apply Kd.R_drewN | apply Kd.R_drew)); exact (Kd.R_mono (Kd.R_far (p := ⟨gb155, 3, none⟩) (Kd.R_far (p := ⟨gb155, 2, none⟩) (Kd.R_far (p := ⟨gb155, 1, none⟩) (Kd.R_far (p := ⟨gb155, 0, none⟩) (Kd.R_types HO_5.out BK155.out (by decide)) (fun _ hk => hk.2) (.int .u8 t151)) (fun _ hk => hk.2) (.int .i64 t152)) (fun _ hk => hk.2) (.string t153)) (fun _ hk => hk.2) (.int .i64 t154)) (fun _ h_ => h_.1)))); (case side2 => exact (Kd.R_reads' HO_5.out).2.1); rintro e w70 ⟨rfl, hb⟩; refine ⟨_, rfl, ?_⟩; have n0_ := Aside0.mk (Kd.R_below (by (with_reducible repeat (first | apply Kd.R_alloc | apply Kd.R_drewN | apply Kd.R_drew)); exact (Kd.R_mono (Kd.R_far (p := ⟨gb155, 3, none⟩) (Kd.R_far (p := ⟨gb155, 2, none⟩) (Kd.R_far (p := ⟨gb155, 1, none⟩) (Kd.R_far (p := ⟨gb155, 0, none⟩) (Kd.R_types HO_5.out BK155.out (by decide)) (fun _ hk => hk.2) (.int .u8 t151)) (fun _ hk => hk.2) (.int .i64 t152)) (fun _ hk => hk.2) (.string t153)) (fun _ hk => hk.2) (.int .i64 t154)) (fun _ h_ => h_.1))) hb); have n1_ := Aside0.mk (Kd.R_below (by (with_reducible repeat (first | apply Kd.R_alloc | apply Kd.R_drewN | apply Kd.R_drew)); exact (Kd.R_mono (Kd.R_far (p := ⟨gb155, 3, none⟩) (Kd.R_far (p := ⟨gb155, 2, none⟩) (Kd.R_far (p := ⟨gb155, 1, none⟩) (Kd.R_far (p := ⟨gb155, 0, none⟩) (Kd.R_types HO_6.out BK155.out (by decide)) (fun _ hk => hk.2) (.int .u8 t151)) (fun _ hk => hk.2) (.int .i64 t152)) (fun _ hk => hk.2) (.string t153)) (fun _ hk => hk.2) (.int .i64 t154)) (fun _ h_ => h_.1))) hb); have n2_ := Aside0.mk (blk_below (g := gb150) (o := .cells #[.int .u8 t146, .int .i64 t147, .string t148, .int .i64 t149] 31 (0, 0)) (by (with_reducible repeat (first | refine blk_drewN ?_ _ | refine blk_drew ?_ | refine blk_alloc ?_ _)); refine blk_far ?_ NB150_155.out _; (with_reducible repeat (first | refine blk_drewN ?_ _ | refine blk_drew ?_ | refine blk_alloc ?_ _)); refine blk_far ?_ NB150_155.out _; (with_reducible repeat (first | refine blk_drewN ?_ _ | refine blk_drew ?_ | refine blk_alloc ?_ _)); refine blk_far ?_ NB150_155.out _; (with_reducible repeat (first | refine blk_drewN ?_ _ | refine blk_drew ?_ | refine blk_alloc ?_ _)); refine blk_far ?_ NB150_155.out _; (with_reducible repeat (first | refine blk_drewN ?_ _ | refine blk_drew ?_ | refine blk_alloc ?_ _)); exact BK150.out) hb); have n3_ := Aside0.mk (blk_below (g := gb155) (o := .cells #[.int .u8 t151, .int .i64 t152, .string t153, .int .i64 t154] 31 (0, 0)) (by (with_reducible repeat (first | refine blk_drewN ?_ _ | refine blk_drew ?_ | refine blk_alloc ?_ _)); refine blk_put (cs := #[.int .u8 t151, .int .i64 t152, .string t153, .int .i64 0]) ?_ 3 _ rfl; (with_reducible repeat (first | refine blk_drewN ?_ _ | refine blk_drew ?_ | refine blk_alloc ?_ _)); refine blk_put (cs := #[.int .u8 t151, .int .i64 t152, .string (⟨#[]⟩ : ByteArray), .int .i64 0]) ?_ 2 _ rfl; (with_reducible repeat (first | refine blk_drewN ?_ _ | refine blk_drew ?_ | refine blk_alloc ?_ _)); refine blk_put (cs := #[.int .u8 t151, .int .i64 0, .string (⟨#[]⟩ : ByteArray), .int .i64 0]) ?_ 1 _ rfl; (with_reducible repeat (first | refine blk_drewN ?_ _ | refine blk_drew ?_ | refine blk_alloc ?_ _)); refine blk_put (cs := #[.int .u8 0, .int .i64 0, .string (⟨#[]⟩ : ByteArray), .int .i64 0]) ?_ 0 _ rfl; (with_reducible repeat (first | refine blk_drewN ?_ _ | refine blk_drew ?_ | refine blk_alloc ?_ _)); exact BK155.out) hb); have n4_ := Aside0.mk (below_step (by repeat (first | (with_reducible first | exact HB.out | apply bA_ | apply bN_ | apply b1_ | refine below_set ?_ GE150.out | refine below_set ?_ GE155.out) | exact HB.out)) hb); clear HO_5; clear HO_6; clear BK150; clear BK155; clear HB; have HO_5 := n0_; have HO_6 := n1_; have BK150 := n2_; have BK155 := n3_; have HB := n4_; clear n0_ n1_ n2_ n3_ n4_; (try clear hb); (try clear hb2); (try clear hk); (try clear hi)) | ((with_reducible refine gate_dst (N := 10) rfl ?_); refine box_event ?hg (N := 10) ?hd (cs := #[.int .u8 0, .int .i64 0, .string (⟨#[]⟩ : ByteArray), .int .i64 0]) (t := 31) ?hr ?_; (case hd => rfl); (case hg => rfl); (case hr => first | (go_simp; done) | (go_simp; rfl)); intro gb161 hg w71 hbox hb; have n0_ := Aside0.mk (Kd.R_below (by (with_reducible repeat (first | apply Kd.R_alloc | apply Kd.R_drewN | apply Kd.R_drew)); exact HO_5.out) hb); have n1_ := Aside0.mk (Kd.R_below (by (with_reducible repeat (first | apply Kd.R_alloc | apply Kd.R_drewN | apply Kd.R_drew)); exact HO_6.out) hb); have n2_ := Aside0.mk (blk_below (g := gb150) (o := .cells #[.int .u8 t146, .int .i64 t147, .string t148, .int .i64 t149] 31 (0, 0)) (by (with_reducible repeat (first | refine blk_drewN ?_ _ | refine blk_drew ?_ | refine blk_alloc ?_ _)); exact BK150.out) hb); have n3_ := Aside0.mk (blk_below (g := gb155) (o := .cells #[.int .u8 t151, .int .i64 t152, .string t153, .int .i64 t154] 31 (0, 0)) (by (with_reducible repeat (first | refine blk_drewN ?_ _ | refine blk_drew ?_ | refine blk_alloc ?_ _)); exact BK155.out) hb); have n4_ := Aside0.mk (below_step (by repeat (first | (with_reducible first | exact HB.out | apply bA_ | apply bN_ | apply b1_ | refine below_set ?_ GE150.out | refine below_set ?_ GE155.out) | exact HB.out)) hb); have n5_ := Aside0.mk (hbox); have n6_ := Aside0.mk ((by rw [hg]; exact (below_size (by repeat (first | (with_reducible first | exact HB.out | apply bA_ | apply bN_ | apply b1_ | refine below_set ?_ GE150.out | refine below_set ?_ GE155.out) | exact HB.out))) : w.heap.size ≤ gb161)); have n7_ := Aside0.mk ((by rw [hg]; exact (below_size (by repeat (first | (with_reducible first | exact HB.out | apply bA_ | apply bN_ | apply b1_ | refine below_set ?_ GE150.out | refine below_set ?_ GE155.out) | exact HB.out))) : w.heap.size ≤ gb161)); have n8_ := Aside0.mk ((by rw [hg]; exact Nat.ne_of_lt (blk_lt (g := gb150) (o := .cells #[.int .u8 t146, .int .i64 t147, .string t148, .int .i64 t149] 31 (0, 0)) (by (with_reducible repeat (first | refine blk_drewN ?_ _ | refine blk_drew ?_ | refine blk_alloc ?_ _)); exact BK150.out)) : gb150 ≠ gb161)); have n9_ := Aside0.mk ((by rw [hg]; exact Nat.ne_of_gt (blk_lt (g := gb150) (o := .cells #[.int .u8 t146, .int .i64 t147, .string t148, .int .i64 t149] 31 (0, 0)) (by (with_reducible repeat (first | refine blk_drewN ?_ _ | refine blk_drew ?_ | refine blk_alloc ?_ _)); exact BK150.out)) : gb161 ≠ gb150)); have n10_ := Aside0.mk ((by rw [hg]; exact Nat.ne_of_lt (blk_lt (g := gb155) (o := .cells #[.int .u8 t151, .int .i64 t152, .string t153, .int .i64 t154] 31 (0, 0)) (by (with_reducible repeat (first | refine blk_drewN ?_ _ | refine blk_drew ?_ | refine blk_alloc ?_ _)); exact BK155.out)) : gb155 ≠ gb161)); have n11_ := Aside0.mk ((by rw [hg]; exact Nat.ne_of_gt (blk_lt (g := gb155) (o := .cells #[.int .u8 t151, .int .i64 t152, .string t153, .int .i64 t154] 31 (0, 0)) (by (with_reducible repeat (first | refine blk_drewN ?_ _ | refine blk_drew ?_ | refine blk_alloc ?_ _)); exact BK155.out)) : gb161 ≠ gb155)); clear HO_5; clear HO_6; clear BK150; clear BK155; clear HB; have HO_5 := n0_; have HO_6 := n1_; have BK150 := n2_; have BK155 := n3_; have HB := n4_; have BK161 := n5_; have GW161 := n6_; have GE161 := n7_; have NB150_161 := n8_; have NB161_150 := n9_; have NB155_161 := n10_; have NB161_155 := n11_; clear n0_ n1_ n2_ n3_ n4_ n5_ n6_ n7_ n8_ n9_ n10_ n11_; clear hb hbox hg; have hnb72 := NB161_150.out; have hnc72 := NB150_161.out; have hnb73 := NB161_155.out; have hnc73 := NB155_161.out; have hcz74_0 : w71.cell? ⟨gb161, 0, none⟩ = some (.int .u8 0) := (blk_cell BK161.out 0).trans rfl; have hcz74_1 : w71.cell? ⟨gb161, 1, none⟩ = some (.int .i64 0) := (blk_cell BK161.out 1).trans rfl; have hcz74_2 : w71.cell? ⟨gb161, 2, none⟩ = some (.string (⟨#[]⟩ : ByteArray)) := (blk_cell BK161.out 2).trans rfl; have hcz74_3 : w71.cell? ⟨gb161, 3, none⟩ = some (.int .i64 0) := (blk_cell BK161.out 3).trans rfl; have hfz74_0 := blk_frozen BK161.out 0; have hfz74_1 := blk_frozen BK161.out 1; have hfz74_2 := blk_frozen BK161.out 2; have hfz74_3 := blk_frozen BK161.out 3) | ((with_reducible refine gate_callee (f := 13) rfl ?_); refine goesL_ (some 53) rfl rfl Tryd.func13 (by kernel_rfl) rfl #[.int .u8 4, .bool false, .slice Ao61 x5_1.length co61] rfl (by (try simp only [List.map_toArray, List.map_cons, List.map_nil]); first | done | rfl | (simp only [List.length_drop, List.length_take]; rfl)) ?_; (with_reducible refine (bag_Aggregate.calls 4 false _ _ x5_1 t162 t163 t164 t165 _ ?side1 ?side2 ?sideT A51.out).mono ?_); (case sideT => exact LaidT.below HT.out (by repeat (first | (with_reducible first | exact HB.out | apply bA_ | apply bN_ | apply b1_ | refine below_set ?_ GE150.out | refine below_set ?_ GE155.out | refine below_set ?_ GE161.out | refine below_set ?_ GE166.out) | exact HB.out))); (case side1 => refine (Kd.R_reads' (e := 27) (base := w.heap.size) (ok := fun k_ => some k_ ≠ (.slice Ao65 x6_1.length co65 : Value).ownBlock) (n := x5_1.length) (c := co61) ?_).2.2; exact (by (with_reducible repeat (first | apply Kd.R_alloc | apply Kd.R_drewN | apply Kd.R_drew)); exact (Kd.R_mono (Kd.R_far (p := ⟨gb161, 3, none⟩) (Kd.R_far (p := ⟨gb161, 2, none⟩) (Kd.R_far (p := ⟨gb161, 1, none⟩) (Kd.R_far (p := ⟨gb161, 0, none⟩) (Kd.R_types HO_5.out BK161.out (by decide)) (fun _ hk => hk.2) (.int .u8 t157)) (fun _ hk => hk.2) (.int .i64 t158)) (fun _ hk => hk.2) (.string t159)) (fun _ hk => hk.2) (.int .i64 t160)) (fun _ h_ => h_.1)))); (case side2 => exact (Kd.R_reads' HO_5.out).2.1); rintro e w75 ⟨rfl, hb⟩; refine ⟨_, rfl, ?_⟩; have n0_ := Aside0.mk (Kd.R_below (by (with_reducible repeat (first | apply Kd.R_alloc | apply Kd.R_drewN | apply Kd.R_drew)); exact (Kd.R_mono (Kd.R_far (p := ⟨gb161, 3, none⟩) (Kd.R_far (p := ⟨gb161, 2, none⟩) (Kd.R_far (p := ⟨gb161, 1, none⟩) (Kd.R_far (p := ⟨gb161, 0, none⟩) (Kd.R_types HO_5.out BK161.out (by decide)) (fun _ hk => hk.2) (.int .u8 t157)) (fun _ hk => hk.2) (.int .i64 t158)) (fun _ hk => hk.2) (.string t159)) (fun _ hk => hk.2) (.int .i64 t160)) (fun _ h_ => h_.1))) hb); have n1_ := Aside0.mk (Kd.R_below (by (with_reducible repeat (first | apply Kd.R_alloc | apply Kd.R_drewN | apply Kd.R_drew)); exact (Kd.R_mono (Kd.R_far (p := ⟨gb161, 3, none⟩) (Kd.R_far (p := ⟨gb161, 2, none⟩) (Kd.R_far (p := ⟨gb161, 1, none⟩) (Kd.R_far (p := ⟨gb161, 0, none⟩) (Kd.R_types HO_6.out BK161.out (by decide)) (fun _ hk => hk.2) (.int .u8 t157)) (fun _ hk => hk.2) (.int .i64 t158)) (fun _ hk => hk.2) (.string t159)) (fun _ hk => hk.2) (.int .i64 t160)) (fun _ h_ => h_.1))) hb); have n2_ := Aside0.mk (blk_below (g := gb150) (o := .cells #[.int .u8 t146, .int .i64 t147, .string t148, .int .i64 t149] 31 (0, 0)) (by (with_reducible repeat (first | refine blk_drewN ?_ _ | refine blk_drew ?_ | refine blk_alloc ?_ _)); refine blk_far ?_ NB150_161.out _; (with_reducible repeat (first | refine blk_drewN ?_ _ | refine blk_drew ?_ | refine blk_alloc ?_ _)); refine blk_far ?_ NB150_161.out _; (with_reducible repeat (first | refine blk_drewN ?_ _ | refine blk_drew ?_ | refine blk_alloc ?_ _)); refine blk_far ?_ NB150_161.out _; (with_reducible repeat (first | refine blk_drewN ?_ _ | refine blk_drew ?_ | refine blk_alloc ?_ _)); refine blk_far ?_ NB150_161.out _; (with_reducible repeat (first | refine blk_drewN ?_ _ | refine blk_drew ?_ | refine blk_alloc ?_ _)); exact BK150.out) hb); have n3_ := Aside0.mk (blk_below (g := gb155) (o := .cells #[.int .u8 t151, .int .i64 t152, .string t153, .int .i64 t154] 31 (0, 0)) (by (with_reducible repeat (first | refine blk_drewN ?_ _ | refine blk_drew ?_ | refine blk_alloc ?_ _)); refine blk_far ?_ NB155_161.out _; (with_reducible repeat (first | refine blk_drewN ?_ _ | refine blk_drew ?_ | refine blk_alloc ?_ _)); refine blk_far ?_ NB155_161.out _; (with_reducible repeat (first | refine blk_drewN ?_ _ | refine blk_drew ?_ | refine blk_alloc ?_ _)); refine blk_far ?_ NB155_161.out _; (with_reducible repeat (first | refine blk_drewN ?_ _ | refine blk_drew ?_ | refine blk_alloc ?_ _)); refine blk_far ?_ NB155_161.out _; (with_reducible repeat (first | refine blk_drewN ?_ _ | refine blk_drew ?_ | refine blk_alloc ?_ _)); exact BK155.out) hb); have n4_ := Aside0.mk (blk_below (g := gb161) (o := .cells #[.int .u8 t157, .int .i64 t158, .string t159, .int .i64 t160] 31 (0, 0)) (by (with_reducible repeat (first | refine blk_drewN ?_ _ | refine blk_drew ?_ | refine blk_alloc ?_ _)); refine blk_put (cs := #[.int .u8 t157, .int .i64 t158, .string t159, .int .i64 0]) ?_ 3 _ rfl; (with_reducible repeat (first | refine blk_drewN ?_ _ | refine blk_drew ?_ | refine blk_alloc ?_ _)); refine blk_put (cs := #[.int .u8 t157, .int .i64 t158, .string (⟨#[]⟩ : ByteArray), .int .i64 0]) ?_ 2 _ rfl; (with_reducible repeat (first | refine blk_drewN ?_ _ | refine blk_drew ?_ | refine blk_alloc ?_ _)); refine blk_put (cs := #[.int .u8 t157, .int .i64 0, .string (⟨#[]⟩ : ByteArray), .int .i64 0]) ?_ 1 _ rfl; (with_reducible repeat (first | refine blk_drewN ?_ _ | refine blk_drew ?_ | refine blk_alloc ?_ _)); refine blk_put (cs := #[.int .u8 0, .int .i64 0, .string (⟨#[]⟩ : ByteArray), .int .i64 0]) ?_ 0 _ rfl; (with_reducible repeat (first | refine blk_drewN ?_ _ | refine blk_drew ?_ | refine blk_alloc ?_ _)); exact BK161.out) hb); have n5_ := Aside0.mk (below_step (by repeat (first | (with_reducible first | exact HB.out | apply bA_ | apply bN_ | apply b1_ | refine below_set ?_ GE150.out | refine below_set ?_ GE155.out | refine below_set ?_ GE161.out) | exact HB.out)) hb); clear HO_5; clear HO_6; clear BK150; clear BK155; clear BK161; clear HB; have HO_5 := n0_; have HO_6 := n1_; have BK150 := n2_; have BK155 := n3_; have BK161 := n4_; have HB := n5_; clear n0_ n1_ n2_ n3_ n4_ n5_; (try clear hb); (try clear hb2); (try clear hk); (try clear hi)) | ((with_reducible refine gate_dst (N := 11) rfl ?_); refine box_event ?hg (N := 11) ?hd (cs := #[.int .u8 0, .int .i64 0, .string (⟨#[]⟩ : ByteArray), .int .i64 0]) (t := 31) ?hr ?_; (case hd => rfl); (case hg => rfl); (case hr => first | (go_simp; done) | (go_simp; rfl)); intro gb166 hg w76 hbox hb; have n0_ := Aside0.mk (Kd.R_below (by (with_reducible repeat (first | apply Kd.R_alloc | apply Kd.R_drewN | apply Kd.R_drew)); exact HO_5.out) hb); have n1_ := Aside0.mk (Kd.R_below (by (with_reducible repeat (first | apply Kd.R_alloc | apply Kd.R_drewN | apply Kd.R_drew)); exact HO_6.out) hb); have n2_ := Aside0.mk (blk_below (g := gb150) (o := .cells #[.int .u8 t146, .int .i64 t147, .string t148, .int .i64 t149] 31 (0, 0)) (by (with_reducible repeat (first | refine blk_drewN ?_ _ | refine blk_drew ?_ | refine blk_alloc ?_ _)); exact BK150.out) hb); have n3_ := Aside0.mk (blk_below (g := gb155) (o := .cells #[.int .u8 t151, .int .i64 t152, .string t153, .int .i64 t154] 31 (0, 0)) (by (with_reducible repeat (first | refine blk_drewN ?_ _ | refine blk_drew ?_ | refine blk_alloc ?_ _)); exact BK155.out) hb); have n4_ := Aside0.mk (blk_below (g := gb161) (o := .cells #[.int .u8 t157, .int .i64 t158, .string t159, .int .i64 t160] 31 (0, 0)) (by (with_reducible repeat (first | refine blk_drewN ?_ _ | refine blk_drew ?_ | refine blk_alloc ?_ _)); exact BK161.out) hb); have n5_ := Aside0.mk (below_step (by repeat (first | (with_reducible first | exact HB.out | apply bA_ | apply bN_ | apply b1_ | refine below_set ?_ GE150.out | refine below_set ?_ GE155.out | refine below_set ?_ GE161.out) | exact HB.out)) hb); have n6_ := Aside0.mk (hbox); have n7_ := Aside0.mk ((by rw [hg]; exact (below_size (by repeat (first | (with_reducible first | exact HB.out | apply bA_ | apply bN_ | apply b1_ | refine below_set ?_ GE150.out | refine below_set ?_ GE155.out | refine below_set ?_ GE161.out) | exact HB.out))) : w.heap.size ≤ gb166)); have n8_ := Aside0.mk ((by rw [hg]; exact (below_size (by repeat (first | (with_reducible first | exact HB.out | apply bA_ | apply bN_ | apply b1_ | refine below_set ?_ GE150.out | refine below_set ?_ GE155.out | refine below_set ?_ GE161.out) | exact HB.out))) : w.heap.size ≤ gb166)); have n9_ := Aside0.mk ((by rw [hg]; exact Nat.ne_of_lt (blk_lt (g := gb150) (o := .cells #[.int .u8 t146, .int .i64 t147, .string t148, .int .i64 t149] 31 (0, 0)) (by (with_reducible repeat (first | refine blk_drewN ?_ _ | refine blk_drew ?_ | refine blk_alloc ?_ _)); exact BK150.out)) : gb150 ≠ gb166)); have n10_ := Aside0.mk ((by rw [hg]; exact Nat.ne_of_gt (blk_lt (g := gb150) (o := .cells #[.int .u8 t146, .int .i64 t147, .string t148, .int .i64 t149] 31 (0, 0)) (by (with_reducible repeat (first | refine blk_drewN ?_ _ | refine blk_drew ?_ | refine blk_alloc ?_ _)); exact BK150.out)) : gb166 ≠ gb150)); have n11_ := Aside0.mk ((by rw [hg]; exact Nat.ne_of_lt (blk_lt (g := gb155) (o := .cells #[.int .u8 t151, .int .i64 t152, .string t153, .int .i64 t154] 31 (0, 0)) (by (with_reducible repeat (first | refine blk_drewN ?_ _ | refine blk_drew ?_ | refine blk_alloc ?_ _)); exact BK155.out)) : gb155 ≠ gb166)); have n12_ := Aside0.mk ((by rw [hg]; exact Nat.ne_of_gt (blk_lt (g := gb155) (o := .cells #[.int .u8 t151, .int .i64 t152, .string t153, .int .i64 t154] 31 (0, 0)) (by (with_reducible repeat (first | refine blk_drewN ?_ _ | refine blk_drew ?_ | refine blk_alloc ?_ _)); exact BK155.out)) : gb166 ≠ gb155)); have n13_ := Aside0.mk ((by rw [hg]; exact Nat.ne_of_lt (blk_lt (g := gb161) (o := .cells #[.int .u8 t157, .int .i64 t158, .string t159, .int .i64 t160] 31 (0, 0)) (by (with_reducible repeat (first | refine blk_drewN ?_ _ | refine blk_drew ?_ | refine blk_alloc ?_ _)); exact BK161.out)) : gb161 ≠ gb166)); have n14_ := Aside0.mk ((by rw [hg]; exact Nat.ne_of_gt (blk_lt (g := gb161) (o := .cells #[.int .u8 t157, .int .i64 t158, .string t159, .int .i64 t160] 31 (0, 0)) (by (with_reducible repeat (first | refine blk_drewN ?_ _ | refine blk_drew ?_ | refine blk_alloc ?_ _)); exact BK161.out)) : gb166 ≠ gb161)); clear HO_5; clear HO_6; clear BK150; clear BK155; clear BK161; clear HB; have HO_5 := n0_; have HO_6 := n1_; have BK150 := n2_; have BK155 := n3_; have BK161 := n4_; have HB := n5_; have BK166 := n6_; have GW166 := n7_; have GE166 := n8_; have NB150_166 := n9_; have NB166_150 := n10_; have NB155_166 := n11_; have NB166_155 := n12_; have NB161_166 := n13_; have NB166_161 := n14_; clear n0_ n1_ n2_ n3_ n4_ n5_ n6_ n7_ n8_ n9_ n10_ n11_ n12_ n13_ n14_; clear hb hbox hg; have hnb77 := NB166_150.out; have hnc77 := NB150_166.out; have hnb78 := NB166_155.out; have hnc78 := NB155_166.out; have hnb79 := NB166_161.out; have hnc79 := NB161_166.out; have hcz80_0 : w76.cell? ⟨gb166, 0, none⟩ = some (.int .u8 0) := (blk_cell BK166.out 0).trans rfl; have hcz80_1 : w76.cell? ⟨gb166, 1, none⟩ = some (.int .i64 0) := (blk_cell BK166.out 1).trans rfl; have hcz80_2 : w76.cell? ⟨gb166, 2, none⟩ = some (.string (⟨#[]⟩ : ByteArray)) := (blk_cell BK166.out 2).trans rfl; have hcz80_3 : w76.cell? ⟨gb166, 3, none⟩ = some (.int .i64 0) := (blk_cell BK166.out 3).trans rfl; have hfz80_0 := blk_frozen BK166.out 0; have hfz80_1 := blk_frozen BK166.out 1; have hfz80_2 := blk_frozen BK166.out 2; have hfz80_3 := blk_frozen BK166.out 3))
                   have n0_ : Aside0 (Kd.R k27 27 ((((w76.setCell ⟨gb166, 0, none⟩ (.int .u8 t162)).setCell ⟨gb166, 1, none⟩ (.int .i64 t163)).setCell ⟨gb166, 2, none⟩ (.string t164)).setCell ⟨gb166, 3, none⟩ (.int .i64 t165)) w.heap.size (fun k_ => some k_ ≠ (.slice Ao65 x6_1.length co65 : Value).ownBlock) (.slice Ao61 x5_1.length co61) x5_1) := ⟨by (with_reducible repeat (first | apply Kd.R_alloc | apply Kd.R_drewN | apply Kd.R_drew)); exact Kd.R_mono (Kd.R_far (p := ⟨gb166, 3, none⟩) (Kd.R_far (p := ⟨gb166, 2, none⟩) (Kd.R_far (p := ⟨gb166, 1, none⟩) (Kd.R_far (p := ⟨gb166, 0, none⟩) (Kd.R_types HO_5.out BK166.out (by decide)) (fun _ hk => hk.2) (.int .u8 t162)) (fun _ hk => hk.2) (.int .i64 t163)) (fun _ hk => hk.2) (.string t164)) (fun _ hk => hk.2) (.int .i64 t165)) (fun _ hk => hk.1)⟩
                   have n1_ : Aside0 (Kd.R k27 27 ((((w76.setCell ⟨gb166, 0, none⟩ (.int .u8 t162)).setCell ⟨gb166, 1, none⟩ (.int .i64 t163)).setCell ⟨gb166, 2, none⟩ (.string t164)).setCell ⟨gb166, 3, none⟩ (.int .i64 t165)) w.heap.size (fun k_ => some k_ ≠ (.slice Ao61 x5_1.length co61 : Value).ownBlock) (.slice Ao65 x6_1.length co65) x6_1) := ⟨by (with_reducible repeat (first | apply Kd.R_alloc | apply Kd.R_drewN | apply Kd.R_drew)); exact Kd.R_mono (Kd.R_far (p := ⟨gb166, 3, none⟩) (Kd.R_far (p := ⟨gb166, 2, none⟩) (Kd.R_far (p := ⟨gb166, 1, none⟩) (Kd.R_far (p := ⟨gb166, 0, none⟩) (Kd.R_types HO_6.out BK166.out (by decide)) (fun _ hk => hk.2) (.int .u8 t162)) (fun _ hk => hk.2) (.int .i64 t163)) (fun _ hk => hk.2) (.string t164)) (fun _ hk => hk.2) (.int .i64 t165)) (fun _ hk => hk.1)⟩
                   have n2_ : Aside0 (((((w76.setCell ⟨gb166, 0, none⟩ (.int .u8 t162)).setCell ⟨gb166, 1, none⟩ (.int .i64 t163)).setCell ⟨gb166, 2, none⟩ (.string t164)).setCell ⟨gb166, 3, none⟩ (.int .i64 t165)).heap[gb150]? = some (.cells #[.int .u8 t146, .int .i64 t147, .string t148, .int .i64 t149] 31 (0, 0))) := ⟨by (with_reducible repeat (first | refine blk_drewN ?_ _ | refine blk_drew ?_ | refine blk_alloc ?_ _)); refine blk_far ?_ NB150_166.out _; (with_reducible repeat (first | refine blk_drewN ?_ _ | refine blk_drew ?_ | refine blk_alloc ?_ _)); refine blk_far ?_ NB150_166.out _; (with_reducible repeat (first | refine blk_drewN ?_ _ | refine blk_drew ?_ | refine blk_alloc ?_ _)); refine blk_far ?_ NB150_166.out _; (with_reducible repeat (first | refine blk_drewN ?_ _ | refine blk_drew ?_ | refine blk_alloc ?_ _)); refine blk_far ?_ NB150_166.out _; (with_reducible repeat (first | refine blk_drewN ?_ _ | refine blk_drew ?_ | refine blk_alloc ?_ _)); exact BK150.out⟩
                   have n3_ : Aside0 (((((w76.setCell ⟨gb166, 0, none⟩ (.int .u8 t162)).setCell ⟨gb166, 1, none⟩ (.int .i64 t163)).setCell ⟨gb166, 2, none⟩ (.string t164)).setCell ⟨gb166, 3, none⟩ (.int .i64 t165)).heap[gb155]? = some (.cells #[.int .u8 t151, .int .i64 t152, .string t153, .int .i64 t154] 31 (0, 0))) := ⟨by (with_reducible repeat (first | refine blk_drewN ?_ _ | refine blk_drew ?_ | refine blk_alloc ?_ _)); refine blk_far ?_ NB155_166.out _; (with_reducible repeat (first | refine blk_drewN ?_ _ | refine blk_drew ?_ | refine blk_alloc ?_ _)); refine blk_far ?_ NB155_166.out _; (with_reducible repeat (first | refine blk_drewN ?_ _ | refine blk_drew ?_ | refine blk_alloc ?_ _)); refine blk_far ?_ NB155_166.out _; (with_reducible repeat (first | refine blk_drewN ?_ _ | refine blk_drew ?_ | refine blk_alloc ?_ _)); refine blk_far ?_ NB155_166.out _; (with_reducible repeat (first | refine blk_drewN ?_ _ | refine blk_drew ?_ | refine blk_alloc ?_ _)); exact BK155.out⟩
                   have n4_ : Aside0 (((((w76.setCell ⟨gb166, 0, none⟩ (.int .u8 t162)).setCell ⟨gb166, 1, none⟩ (.int .i64 t163)).setCell ⟨gb166, 2, none⟩ (.string t164)).setCell ⟨gb166, 3, none⟩ (.int .i64 t165)).heap[gb161]? = some (.cells #[.int .u8 t157, .int .i64 t158, .string t159, .int .i64 t160] 31 (0, 0))) := ⟨by (with_reducible repeat (first | refine blk_drewN ?_ _ | refine blk_drew ?_ | refine blk_alloc ?_ _)); refine blk_far ?_ NB161_166.out _; (with_reducible repeat (first | refine blk_drewN ?_ _ | refine blk_drew ?_ | refine blk_alloc ?_ _)); refine blk_far ?_ NB161_166.out _; (with_reducible repeat (first | refine blk_drewN ?_ _ | refine blk_drew ?_ | refine blk_alloc ?_ _)); refine blk_far ?_ NB161_166.out _; (with_reducible repeat (first | refine blk_drewN ?_ _ | refine blk_drew ?_ | refine blk_alloc ?_ _)); refine blk_far ?_ NB161_166.out _; (with_reducible repeat (first | refine blk_drewN ?_ _ | refine blk_drew ?_ | refine blk_alloc ?_ _)); exact BK161.out⟩
                   have n5_ : Aside0 (((((w76.setCell ⟨gb166, 0, none⟩ (.int .u8 t162)).setCell ⟨gb166, 1, none⟩ (.int .i64 t163)).setCell ⟨gb166, 2, none⟩ (.string t164)).setCell ⟨gb166, 3, none⟩ (.int .i64 t165)).heap[gb166]? = some (.cells #[.int .u8 t162, .int .i64 t163, .string t164, .int .i64 t165] 31 (0, 0))) := ⟨by (with_reducible repeat (first | refine blk_drewN ?_ _ | refine blk_drew ?_ | refine blk_alloc ?_ _)); refine blk_put (cs := #[.int .u8 t162, .int .i64 t163, .string t164, .int .i64 0]) ?_ 3 _ rfl; (with_reducible repeat (first | refine blk_drewN ?_ _ | refine blk_drew ?_ | refine blk_alloc ?_ _)); refine blk_put (cs := #[.int .u8 t162, .int .i64 t163, .string (⟨#[]⟩ : ByteArray), .int .i64 0]) ?_ 2 _ rfl; (with_reducible repeat (first | refine blk_drewN ?_ _ | refine blk_drew ?_ | refine blk_alloc ?_ _)); refine blk_put (cs := #[.int .u8 t162, .int .i64 0, .string (⟨#[]⟩ : ByteArray), .int .i64 0]) ?_ 1 _ rfl; (with_reducible repeat (first | refine blk_drewN ?_ _ | refine blk_drew ?_ | refine blk_alloc ?_ _)); refine blk_put (cs := #[.int .u8 0, .int .i64 0, .string (⟨#[]⟩ : ByteArray), .int .i64 0]) ?_ 0 _ rfl; (with_reducible repeat (first | refine blk_drewN ?_ _ | refine blk_drew ?_ | refine blk_alloc ?_ _)); exact BK166.out⟩
                   have n6_ : Aside0 (Below w.heap.size w ((((w76.setCell ⟨gb166, 0, none⟩ (.int .u8 t162)).setCell ⟨gb166, 1, none⟩ (.int .i64 t163)).setCell ⟨gb166, 2, none⟩ (.string t164)).setCell ⟨gb166, 3, none⟩ (.int .i64 t165))) := ⟨by repeat (first | (with_reducible first | exact HB.out | apply bA_ | apply bN_ | apply b1_ | refine below_set ?_ GE150.out | refine below_set ?_ GE155.out | refine below_set ?_ GE161.out | refine below_set ?_ GE166.out) | exact HB.out)⟩
                   (try clear HO_5)
                   (try clear HO_6)
                   (try clear BK150)
                   (try clear BK155)
                   (try clear BK161)
                   (try clear BK166)
                   (try clear HB)
                   generalize ((((w76.setCell ⟨gb166, 0, none⟩ (.int .u8 t162)).setCell ⟨gb166, 1, none⟩ (.int .i64 t163)).setCell ⟨gb166, 2, none⟩ (.string t164)).setCell ⟨gb166, 3, none⟩ (.int .i64 t165)) = w81 at n0_ n1_ n2_ n3_ n4_ n5_ n6_ ⊢
                   have HO_5 := n0_
                   have HO_6 := n1_
                   have BK150 := n2_
                   have BK155 := n3_
                   have BK161 := n4_
                   have BK166 := n5_
                   have HB := n6_
                   clear n0_ n1_ n2_ n3_ n4_ n5_ n6_
                   have n0_ := Aside0.mk (Kd.R_drew HO_5.out)
                   have n1_ := Aside0.mk (Kd.R_drew HO_6.out)
                   have n2_ := Aside0.mk (blk_drew BK150.out)
                   have n3_ := Aside0.mk (blk_drew BK155.out)
                   have n4_ := Aside0.mk (blk_drew BK161.out)
                   have n5_ := Aside0.mk (blk_drew BK166.out)
                   have n6_ := Aside0.mk (b1_ HB.out)
                   clear HO_5
                   clear HO_6
                   clear BK150
                   clear BK155
                   clear BK161
                   clear BK166
                   clear HB
                   have HO_5 := n0_
                   have HO_6 := n1_
                   have BK150 := n2_
                   have BK155 := n3_
                   have BK161 := n4_
                   have BK166 := n5_
                   have HB := n6_
                   clear n0_ n1_ n2_ n3_ n4_ n5_ n6_
                   refine start_ (n := 43) (S := fun w' => w'.cell? ⟨gb150, 0, none⟩ = some (.int .u8 t146) ∧ w'.cell? ⟨gb150, 1, none⟩ = some (.int .i64 t147) ∧ w'.cell? ⟨gb150, 2, none⟩ = some (.string t148) ∧ w'.cell? ⟨gb150, 3, none⟩ = some (.int .i64 t149) ∧ w'.cell? ⟨gb161, 0, none⟩ = some (.int .u8 t157) ∧ w'.cell? ⟨gb161, 1, none⟩ = some (.int .i64 t158) ∧ w'.cell? ⟨gb161, 2, none⟩ = some (.string t159) ∧ w'.cell? ⟨gb161, 3, none⟩ = some (.int .i64 t160) ∧ w'.cell? ⟨gb166, 0, none⟩ = some (.int .u8 t162) ∧ w'.cell? ⟨gb166, 1, none⟩ = some (.int .i64 t163) ∧ w'.cell? ⟨gb166, 2, none⟩ = some (.string t164) ∧ w'.cell? ⟨gb166, 3, none⟩ = some (.int .i64 t165) ∧ w'.cell? ⟨gb155, 0, none⟩ = some (.int .u8 t151) ∧ w'.cell? ⟨gb155, 1, none⟩ = some (.int .i64 t152) ∧ w'.cell? ⟨gb155, 2, none⟩ = some (.string t153) ∧ w'.cell? ⟨gb155, 3, none⟩ = some (.int .i64 t154)) (ds := []) #[X_,X_,X_,X_,X_,X_,X_,X_,X_,X_,X_,X_,X_,X_,X_,X_,X_,X_,X_,X_,X_,X_,X_,X_,X_,X_,X_,X_,X_,X_,X_,X_,X_,X_,X_,X_,X_,X_,X_,X_,X_,X_,X_] (by kernel_rfl) rfl rfl ⟨(blk_cell BK150.out 0).trans rfl, (blk_cell BK150.out 1).trans rfl, (blk_cell BK150.out 2).trans rfl, (blk_cell BK150.out 3).trans rfl, (blk_cell BK161.out 0).trans rfl, (blk_cell BK161.out 1).trans rfl, (blk_cell BK161.out 2).trans rfl, (blk_cell BK161.out 3).trans rfl, (blk_cell BK166.out 0).trans rfl, (blk_cell BK166.out 1).trans rfl, (blk_cell BK166.out 2).trans rfl, (blk_cell BK166.out 3).trans rfl, (blk_cell BK155.out 0).trans rfl, (blk_cell BK155.out 1).trans rfl, (blk_cell BK155.out 2).trans rfl, (blk_cell BK155.out 3).trans rfl⟩ (fun hHeld => ?_); refine with_tabW w6_BagMeans.tab13 w6_BagMeans.bits13 (fun HT_ HW_ => ?_)
                   generalize w81.drew = w82 at HO_5 HO_6 BK150 BK155 BK161 BK166 HB hHeld ⊢
                   refine pure_ (i := 0) (N := some 54) (v := ?_) (a' := ?_) #[Y_,X_,X_,X_,X_,X_,X_,X_,X_,X_,X_,X_,X_,X_,X_,X_,X_,X_,X_,X_,X_,X_,X_,X_,X_,X_,X_,X_,X_,X_,X_,X_,X_,X_,X_,X_,X_,X_,X_,X_,X_,X_,X_] rfl rfl (any_of HT_.out (by kernel_rfl)) (fun _ _ _ h => h) (Or.inl ⟨by rfl, ?_⟩) ?_ ?_
                   rotate_left
                   · intro w'
                     go_simp
                     with_reducible rfl
                   rotate_left
                   · simp only [Act.put, sTA_, sCZ_, sCS_, i64_w, i32_w]
                     rfl
                   refine take_ (i := 1) (N := some 55) (v := ?_) (a' := ?_) #[Y_,Y_,X_,X_,X_,X_,X_,X_,X_,X_,X_,X_,X_,X_,X_,X_,X_,X_,X_,X_,X_,X_,X_,X_,X_,X_,X_,X_,X_,X_,X_,X_,X_,X_,X_,X_,X_,X_,X_,X_,X_,X_,X_] rfl rfl (take_ofW HT_.out HW_.out (by kernel_rfl)) (fun _ _ _ h => h) (Or.inl ⟨by rfl, ?_⟩) hHeld ?_ ?_
                   rotate_left
                   · rintro w' ⟨s0, s1, s2, s3, s4, s5, s6, s7, s8, s9, s10, s11, s12, s13, s14, s15⟩
                     go_simp
                     with_reducible rfl
                   rotate_left
                   · simp only [Act.put, sTA_, sCZ_, sCS_, i64_w, i32_w]
                     rfl
                   refine pure_ (i := 2) (N := some 56) (v := ?_) (a' := ?_) #[Y_,Y_,Y_,X_,X_,X_,X_,X_,X_,X_,X_,X_,X_,X_,X_,X_,X_,X_,X_,X_,X_,X_,X_,X_,X_,X_,X_,X_,X_,X_,X_,X_,X_,X_,X_,X_,X_,X_,X_,X_,X_,X_,X_] rfl rfl (any_of HT_.out (by kernel_rfl)) (fun _ _ _ h => h) (Or.inl ⟨by rfl, ?_⟩) ?_ ?_
                   rotate_left
                   · intro w'
                     go_simp
                     with_reducible rfl
                   rotate_left
                   · simp only [Act.put, sTA_, sCZ_, sCS_, i64_w, i32_w]
                     rfl
                   refine pure_ (i := 3) (N := some 57) (v := ?_) (a' := ?_) #[Y_,Y_,Y_,Y_,X_,X_,X_,X_,X_,X_,X_,X_,X_,X_,X_,X_,X_,X_,X_,X_,X_,X_,X_,X_,X_,X_,X_,X_,X_,X_,X_,X_,X_,X_,X_,X_,X_,X_,X_,X_,X_,X_,X_] rfl rfl (any_of HT_.out (by kernel_rfl)) (fun _ _ _ h => h) (Or.inl ⟨by rfl, ?_⟩) ?_ ?_
                   rotate_left
                   · intro w'
                     go_simp
                     with_reducible rfl
                   rotate_left
                   · simp only [Act.put, sTA_, sCZ_, sCS_, i64_w, i32_w]
                     rfl
                   refine pure_ (i := 4) (N := some 58) (v := ?_) (a' := ?_) #[Y_,Y_,Y_,Y_,Y_,X_,X_,X_,X_,X_,X_,X_,X_,X_,X_,X_,X_,X_,X_,X_,X_,X_,X_,X_,X_,X_,X_,X_,X_,X_,X_,X_,X_,X_,X_,X_,X_,X_,X_,X_,X_,X_,X_] rfl rfl (any_of HT_.out (by kernel_rfl)) (fun _ _ _ h => h) (Or.inl ⟨by rfl, ?_⟩) ?_ ?_
                   rotate_left
                   · intro w'
                     go_simp
                     with_reducible rfl
                   rotate_left
                   · simp only [Act.put, sTA_, sCZ_, sCS_, i64_w, i32_w]
                     rfl
                   refine pure_ (i := 5) (N := some 59) (v := ?_) (a' := ?_) #[Y_,Y_,Y_,Y_,Y_,Y_,X_,X_,X_,X_,X_,X_,X_,X_,X_,X_,X_,X_,X_,X_,X_,X_,X_,X_,X_,X_,X_,X_,X_,X_,X_,X_,X_,X_,X_,X_,X_,X_,X_,X_,X_,X_,X_] rfl rfl (any_of HT_.out (by kernel_rfl)) (fun _ _ _ h => h) (Or.inl ⟨by rfl, ?_⟩) ?_ ?_
                   rotate_left
                   · intro w'
                     go_simp
                     with_reducible rfl
                   rotate_left
                   · simp only [Act.put, sTA_, sCZ_, sCS_, i64_w, i32_w]
                     rfl
                   refine take_ (i := 6) (N := some 60) (v := ?_) (a' := ?_) #[Y_,Y_,Y_,Y_,Y_,Y_,Y_,X_,X_,X_,X_,X_,X_,X_,X_,X_,X_,X_,X_,X_,X_,X_,X_,X_,X_,X_,X_,X_,X_,X_,X_,X_,X_,X_,X_,X_,X_,X_,X_,X_,X_,X_,X_] rfl rfl (take_ofW HT_.out HW_.out (by kernel_rfl)) (fun _ _ _ h => h) (Or.inl ⟨by rfl, ?_⟩) hHeld ?_ ?_
                   rotate_left
                   · rintro w' ⟨s0, s1, s2, s3, s4, s5, s6, s7, s8, s9, s10, s11, s12, s13, s14, s15⟩
                     go_simp
                     with_reducible rfl
                   rotate_left
                   · simp only [Act.put, sTA_, sCZ_, sCS_, i64_w, i32_w]
                     rfl
                   refine pure_ (i := 7) (N := some 61) (v := ?_) (a' := ?_) #[Y_,Y_,Y_,Y_,Y_,Y_,Y_,Y_,X_,X_,X_,X_,X_,X_,X_,X_,X_,X_,X_,X_,X_,X_,X_,X_,X_,X_,X_,X_,X_,X_,X_,X_,X_,X_,X_,X_,X_,X_,X_,X_,X_,X_,X_] rfl rfl (any_of HT_.out (by kernel_rfl)) (fun _ _ _ h => h) (Or.inl ⟨by rfl, ?_⟩) ?_ ?_
                   rotate_left
                   · intro w'
                     go_simp
                     with_reducible rfl
                   rotate_left
                   · simp only [Act.put, sTA_, sCZ_, sCS_, i64_w, i32_w]
                     rfl
                   refine pure_ (i := 8) (N := some 62) (v := ?_) (a' := ?_) #[Y_,Y_,Y_,Y_,Y_,Y_,Y_,Y_,Y_,X_,X_,X_,X_,X_,X_,X_,X_,X_,X_,X_,X_,X_,X_,X_,X_,X_,X_,X_,X_,X_,X_,X_,X_,X_,X_,X_,X_,X_,X_,X_,X_,X_,X_] rfl rfl (any_of HT_.out (by kernel_rfl)) (fun _ _ _ h => h) (Or.inl ⟨by rfl, ?_⟩) ?_ ?_
                   rotate_left
                   · intro w'
                     go_simp
                     with_reducible rfl
                   rotate_left
                   · simp only [Act.put, sTA_, sCZ_, sCS_, i64_w, i32_w]
                     rfl
                   refine pure_ (i := 9) (N := some 63) (v := ?_) (a' := ?_) #[Y_,Y_,Y_,Y_,Y_,Y_,Y_,Y_,Y_,Y_,X_,X_,X_,X_,X_,X_,X_,X_,X_,X_,X_,X_,X_,X_,X_,X_,X_,X_,X_,X_,X_,X_,X_,X_,X_,X_,X_,X_,X_,X_,X_,X_,X_] rfl rfl (any_of HT_.out (by kernel_rfl)) (fun _ _ _ h => h) (Or.inl ⟨by rfl, ?_⟩) ?_ ?_
                   rotate_left
                   · intro w'
                     go_simp
                     with_reducible rfl
                   rotate_left
                   · simp only [Act.put, sTA_, sCZ_, sCS_, i64_w, i32_w]
                     rfl
                   refine pure_ (i := 10) (N := some 64) (v := ?_) (a' := ?_) #[Y_,Y_,Y_,Y_,Y_,Y_,Y_,Y_,Y_,Y_,Y_,X_,X_,X_,X_,X_,X_,X_,X_,X_,X_,X_,X_,X_,X_,X_,X_,X_,X_,X_,X_,X_,X_,X_,X_,X_,X_,X_,X_,X_,X_,X_,X_] rfl rfl (any_of HT_.out (by kernel_rfl)) (fun _ _ _ h => h) (Or.inl ⟨by rfl, ?_⟩) ?_ ?_
                   rotate_left
                   · intro w'
                     go_simp
                     with_reducible rfl
                   rotate_left
                   · simp only [Act.put, sTA_, sCZ_, sCS_, i64_w, i32_w]
                     rfl
                   refine pure_ (i := 11) (N := some 65) (v := ?_) (a' := ?_) #[Y_,Y_,Y_,Y_,Y_,Y_,Y_,Y_,Y_,Y_,Y_,Y_,X_,X_,X_,X_,X_,X_,X_,X_,X_,X_,X_,X_,X_,X_,X_,X_,X_,X_,X_,X_,X_,X_,X_,X_,X_,X_,X_,X_,X_,X_,X_] rfl rfl (any_of HT_.out (by kernel_rfl)) (fun _ _ _ h => h) (Or.inl ⟨by rfl, ?_⟩) ?_ ?_
                   rotate_left
                   · intro w'
                     go_simp
                     with_reducible rfl
                   rotate_left
                   · simp only [Act.put, sTA_, sCZ_, sCS_, i64_w, i32_w]
                     rfl
                   refine pure_ (i := 13) (N := some 67) (v := ?_) (a' := ?_) #[Y_,Y_,Y_,Y_,Y_,Y_,Y_,Y_,Y_,Y_,Y_,Y_,X_,Y_,X_,X_,X_,X_,X_,X_,X_,X_,X_,X_,X_,X_,X_,X_,X_,X_,X_,X_,X_,X_,X_,X_,X_,X_,X_,X_,X_,X_,X_] rfl rfl (any_of HT_.out (by kernel_rfl)) (fun _ _ _ h => h) (Or.inl ⟨by rfl, ?_⟩) ?_ ?_
                   rotate_left
                   · intro w'
                     go_simp
                     with_reducible rfl
                   rotate_left
                   · simp only [Act.put, sTA_, sCZ_, sCS_, i64_w, i32_w]
                     rfl
                   refine pure_ (i := 14) (N := some 68) (v := ?_) (a' := ?_) #[Y_,Y_,Y_,Y_,Y_,Y_,Y_,Y_,Y_,Y_,Y_,Y_,X_,Y_,Y_,X_,X_,X_,X_,X_,X_,X_,X_,X_,X_,X_,X_,X_,X_,X_,X_,X_,X_,X_,X_,X_,X_,X_,X_,X_,X_,X_,X_] rfl rfl (any_of HT_.out (by kernel_rfl)) (fun _ _ _ h => h) (Or.inl ⟨by rfl, ?_⟩) ?_ ?_
                   rotate_left
                   · intro w'
                     go_simp
                     with_reducible rfl
                   rotate_left
                   · simp only [Act.put, sTA_, sCZ_, sCS_, i64_w, i32_w]
                     rfl
                   refine take_ (i := 12) (N := some 66) (v := ?_) (a' := ?_) #[Y_,Y_,Y_,Y_,Y_,Y_,Y_,Y_,Y_,Y_,Y_,Y_,Y_,Y_,Y_,X_,X_,X_,X_,X_,X_,X_,X_,X_,X_,X_,X_,X_,X_,X_,X_,X_,X_,X_,X_,X_,X_,X_,X_,X_,X_,X_,X_] rfl rfl (take_ofW HT_.out HW_.out (by kernel_rfl)) (fun _ _ _ h => h) (Or.inl ⟨by rfl, ?_⟩) hHeld ?_ ?_
                   rotate_left
                   · rintro w' ⟨s0, s1, s2, s3, s4, s5, s6, s7, s8, s9, s10, s11, s12, s13, s14, s15⟩
                     go_simp
                     with_reducible rfl
                   rotate_left
                   · simp only [Act.put, sTA_, sCZ_, sCS_, i64_w, i32_w]
                     rfl
                   refine take_ (i := 15) (N := some 69) (v := ?_) (a' := ?_) #[Y_,Y_,Y_,Y_,Y_,Y_,Y_,Y_,Y_,Y_,Y_,Y_,Y_,Y_,Y_,Y_,X_,X_,X_,X_,X_,X_,X_,X_,X_,X_,X_,X_,X_,X_,X_,X_,X_,X_,X_,X_,X_,X_,X_,X_,X_,X_,X_] rfl rfl (take_ofW HT_.out HW_.out (by kernel_rfl)) (fun _ _ _ h => h) (Or.inl ⟨by rfl, ?_⟩) hHeld ?_ ?_
                   rotate_left
                   · rintro w' ⟨s0, s1, s2, s3, s4, s5, s6, s7, s8, s9, s10, s11, s12, s13, s14, s15⟩
                     go_simp
                     with_reducible rfl
                   rotate_left
                   · simp only [Act.put, sTA_, sCZ_, sCS_, i64_w, i32_w]
                     rfl
                   refine pure_ (i := 16) (N := some 70) (v := ?_) (a' := ?_) #[Y_,Y_,Y_,Y_,Y_,Y_,Y_,Y_,Y_,Y_,Y_,Y_,Y_,Y_,Y_,Y_,Y_,X_,X_,X_,X_,X_,X_,X_,X_,X_,X_,X_,X_,X_,X_,X_,X_,X_,X_,X_,X_,X_,X_,X_,X_,X_,X_] rfl rfl (any_of HT_.out (by kernel_rfl)) (fun _ _ _ h => h) (Or.inl ⟨by rfl, ?_⟩) ?_ ?_
                   rotate_left
                   · intro w'
                     go_simp
                     with_reducible rfl
                   rotate_left
                   · simp only [Act.put, sTA_, sCZ_, sCS_, i64_w, i32_w]
                     rfl
                   refine pure_ (i := 17) (N := some 71) (v := ?_) (a' := ?_) #[Y_,Y_,Y_,Y_,Y_,Y_,Y_,Y_,Y_,Y_,Y_,Y_,Y_,Y_,Y_,Y_,Y_,Y_,X_,X_,X_,X_,X_,X_,X_,X_,X_,X_,X_,X_,X_,X_,X_,X_,X_,X_,X_,X_,X_,X_,X_,X_,X_] rfl rfl (any_of HT_.out (by kernel_rfl)) (fun _ _ _ h => h) (Or.inl ⟨by rfl, ?_⟩) ?_ ?_
                   rotate_left
                   · intro w'
                     go_simp
                     with_reducible rfl
                   rotate_left
                   · simp only [Act.put, sTA_, sCZ_, sCS_, i64_w, i32_w]
                     rfl
                   refine pure_ (i := 18) (N := some 72) (v := ?_) (a' := ?_) #[Y_,Y_,Y_,Y_,Y_,Y_,Y_,Y_,Y_,Y_,Y_,Y_,Y_,Y_,Y_,Y_,Y_,Y_,Y_,X_,X_,X_,X_,X_,X_,X_,X_,X_,X_,X_,X_,X_,X_,X_,X_,X_,X_,X_,X_,X_,X_,X_,X_] rfl rfl (any_of HT_.out (by kernel_rfl)) (fun _ _ _ h => h) (Or.inl ⟨by rfl, ?_⟩) ?_ ?_
                   rotate_left
                   · intro w'
                     go_simp
                     with_reducible rfl
                   rotate_left
                   · simp only [Act.put, sTA_, sCZ_, sCS_, i64_w, i32_w]
                     rfl
                   refine pure_ (i := 19) (N := some 73) (v := ?_) (a' := ?_) #[Y_,Y_,Y_,Y_,Y_,Y_,Y_,Y_,Y_,Y_,Y_,Y_,Y_,Y_,Y_,Y_,Y_,Y_,Y_,Y_,X_,X_,X_,X_,X_,X_,X_,X_,X_,X_,X_,X_,X_,X_,X_,X_,X_,X_,X_,X_,X_,X_,X_] rfl rfl (any_of HT_.out (by kernel_rfl)) (fun _ _ _ h => h) (Or.inl ⟨by rfl, ?_⟩) ?_ ?_
                   rotate_left
                   · intro w'
                     go_simp
                     with_reducible rfl
                   rotate_left
                   · simp only [Act.put, sTA_, sCZ_, sCS_, i64_w, i32_w]
                     rfl
                   refine pure_ (i := 20) (N := some 74) (v := ?_) (a' := ?_) #[Y_,Y_,Y_,Y_,Y_,Y_,Y_,Y_,Y_,Y_,Y_,Y_,Y_,Y_,Y_,Y_,Y_,Y_,Y_,Y_,Y_,X_,X_,X_,X_,X_,X_,X_,X_,X_,X_,X_,X_,X_,X_,X_,X_,X_,X_,X_,X_,X_,X_] rfl rfl (any_of HT_.out (by kernel_rfl)) (fun _ _ _ h => h) (Or.inl ⟨by rfl, ?_⟩) ?_ ?_
                   rotate_left
                   · intro w'
                     go_simp
                     with_reducible rfl
                   rotate_left
                   · simp only [Act.put, sTA_, sCZ_, sCS_, i64_w, i32_w]
                     rfl
                   refine pure_ (i := 22) (N := some 76) (v := ?_) (a' := ?_) #[Y_,Y_,Y_,Y_,Y_,Y_,Y_,Y_,Y_,Y_,Y_,Y_,Y_,Y_,Y_,Y_,Y_,Y_,Y_,Y_,Y_,X_,Y_,X_,X_,X_,X_,X_,X_,X_,X_,X_,X_,X_,X_,X_,X_,X_,X_,X_,X_,X_,X_] rfl rfl (any_of HT_.out (by kernel_rfl)) (fun _ _ _ h => h) (Or.inl ⟨by rfl, ?_⟩) ?_ ?_
                   rotate_left
                   · intro w'
                     go_simp
                     with_reducible rfl
                   rotate_left
                   · simp only [Act.put, sTA_, sCZ_, sCS_, i64_w, i32_w]
                     rfl
                   refine pure_ (i := 23) (N := some 77) (v := ?_) (a' := ?_) #[Y_,Y_,Y_,Y_,Y_,Y_,Y_,Y_,Y_,Y_,Y_,Y_,Y_,Y_,Y_,Y_,Y_,Y_,Y_,Y_,Y_,X_,Y_,Y_,X_,X_,X_,X_,X_,X_,X_,X_,X_,X_,X_,X_,X_,X_,X_,X_,X_,X_,X_] rfl rfl (any_of HT_.out (by kernel_rfl)) (fun _ _ _ h => h) (Or.inl ⟨by rfl, ?_⟩) ?_ ?_
                   rotate_left
                   · intro w'
                     go_simp
                     with_reducible rfl
                   rotate_left
                   · simp only [Act.put, sTA_, sCZ_, sCS_, i64_w, i32_w]
                     rfl
                   refine take_ (i := 21) (N := some 75) (v := ?_) (a' := ?_) #[Y_,Y_,Y_,Y_,Y_,Y_,Y_,Y_,Y_,Y_,Y_,Y_,Y_,Y_,Y_,Y_,Y_,Y_,Y_,Y_,Y_,Y_,Y_,Y_,X_,X_,X_,X_,X_,X_,X_,X_,X_,X_,X_,X_,X_,X_,X_,X_,X_,X_,X_] rfl rfl (take_ofW HT_.out HW_.out (by kernel_rfl)) (fun _ _ _ h => h) (Or.inl ⟨by rfl, ?_⟩) hHeld ?_ ?_
                   rotate_left
                   · rintro w' ⟨s0, s1, s2, s3, s4, s5, s6, s7, s8, s9, s10, s11, s12, s13, s14, s15⟩
                     go_simp
                     with_reducible rfl
                   rotate_left
                   · simp only [Act.put, sTA_, sCZ_, sCS_, i64_w, i32_w]
                     rfl
                   refine take_ (i := 24) (N := some 78) (v := ?_) (a' := ?_) #[Y_,Y_,Y_,Y_,Y_,Y_,Y_,Y_,Y_,Y_,Y_,Y_,Y_,Y_,Y_,Y_,Y_,Y_,Y_,Y_,Y_,Y_,Y_,Y_,Y_,X_,X_,X_,X_,X_,X_,X_,X_,X_,X_,X_,X_,X_,X_,X_,X_,X_,X_] rfl rfl (take_ofW HT_.out HW_.out (by kernel_rfl)) (fun _ _ _ h => h) (Or.inl ⟨by rfl, ?_⟩) hHeld ?_ ?_
                   rotate_left
                   · rintro w' ⟨s0, s1, s2, s3, s4, s5, s6, s7, s8, s9, s10, s11, s12, s13, s14, s15⟩
                     go_simp
                     with_reducible rfl
                   rotate_left
                   · simp only [Act.put, sTA_, sCZ_, sCS_, i64_w, i32_w]
                     rfl
                   refine pure_ (i := 25) (N := some 79) (v := ?_) (a' := ?_) #[Y_,Y_,Y_,Y_,Y_,Y_,Y_,Y_,Y_,Y_,Y_,Y_,Y_,Y_,Y_,Y_,Y_,Y_,Y_,Y_,Y_,Y_,Y_,Y_,Y_,Y_,X_,X_,X_,X_,X_,X_,X_,X_,X_,X_,X_,X_,X_,X_,X_,X_,X_] rfl rfl (any_of HT_.out (by kernel_rfl)) (fun _ _ _ h => h) (Or.inl ⟨by rfl, ?_⟩) ?_ ?_
                   rotate_left
                   · intro w'
                     go_simp
                     with_reducible rfl
                   rotate_left
                   · simp only [Act.put, sTA_, sCZ_, sCS_, i64_w, i32_w]
                     rfl
                   refine pure_ (i := 26) (N := some 80) (v := ?_) (a' := ?_) #[Y_,Y_,Y_,Y_,Y_,Y_,Y_,Y_,Y_,Y_,Y_,Y_,Y_,Y_,Y_,Y_,Y_,Y_,Y_,Y_,Y_,Y_,Y_,Y_,Y_,Y_,Y_,X_,X_,X_,X_,X_,X_,X_,X_,X_,X_,X_,X_,X_,X_,X_,X_] rfl rfl (any_of HT_.out (by kernel_rfl)) (fun _ _ _ h => h) (Or.inl ⟨by rfl, ?_⟩) ?_ ?_
                   rotate_left
                   · intro w'
                     go_simp
                     with_reducible rfl
                   rotate_left
                   · simp only [Act.put, sTA_, sCZ_, sCS_, i64_w, i32_w]
                     rfl
                   refine pure_ (i := 27) (N := some 81) (v := ?_) (a' := ?_) #[Y_,Y_,Y_,Y_,Y_,Y_,Y_,Y_,Y_,Y_,Y_,Y_,Y_,Y_,Y_,Y_,Y_,Y_,Y_,Y_,Y_,Y_,Y_,Y_,Y_,Y_,Y_,Y_,X_,X_,X_,X_,X_,X_,X_,X_,X_,X_,X_,X_,X_,X_,X_] rfl rfl (any_of HT_.out (by kernel_rfl)) (fun _ _ _ h => h) (Or.inl ⟨by rfl, ?_⟩) ?_ ?_
                   rotate_left
                   · intro w'
                     go_simp
                     with_reducible rfl
                   rotate_left
                   · simp only [Act.put, sTA_, sCZ_, sCS_, i64_w, i32_w]
                     rfl
                   refine pure_ (i := 28) (N := some 82) (v := ?_) (a' := ?_) #[Y_,Y_,Y_,Y_,Y_,Y_,Y_,Y_,Y_,Y_,Y_,Y_,Y_,Y_,Y_,Y_,Y_,Y_,Y_,Y_,Y_,Y_,Y_,Y_,Y_,Y_,Y_,Y_,Y_,X_,X_,X_,X_,X_,X_,X_,X_,X_,X_,X_,X_,X_,X_] rfl rfl (any_of HT_.out (by kernel_rfl)) (fun _ _ _ h => h) (Or.inl ⟨by rfl, ?_⟩) ?_ ?_
                   rotate_left
                   · intro w'
                     go_simp
                     with_reducible rfl
                   rotate_left
                   · simp only [Act.put, sTA_, sCZ_, sCS_, i64_w, i32_w]
                     rfl
                   refine take_ (i := 29) (N := some 83) (v := ?_) (a' := ?_) #[Y_,Y_,Y_,Y_,Y_,Y_,Y_,Y_,Y_,Y_,Y_,Y_,Y_,Y_,Y_,Y_,Y_,Y_,Y_,Y_,Y_,Y_,Y_,Y_,Y_,Y_,Y_,Y_,Y_,Y_,X_,X_,X_,X_,X_,X_,X_,X_,X_,X_,X_,X_,X_] rfl rfl (take_ofW HT_.out HW_.out (by kernel_rfl)) (fun _ _ _ h => h) (Or.inl ⟨by rfl, ?_⟩) hHeld ?_ ?_
                   rotate_left
                   · rintro w' ⟨s0, s1, s2, s3, s4, s5, s6, s7, s8, s9, s10, s11, s12, s13, s14, s15⟩
                     go_simp
                     with_reducible rfl
                   rotate_left
                   · simp only [Act.put, sTA_, sCZ_, sCS_, i64_w, i32_w]
                     rfl
                   refine pure_ (i := 30) (N := some 84) (v := ?_) (a' := ?_) #[Y_,Y_,Y_,Y_,Y_,Y_,Y_,Y_,Y_,Y_,Y_,Y_,Y_,Y_,Y_,Y_,Y_,Y_,Y_,Y_,Y_,Y_,Y_,Y_,Y_,Y_,Y_,Y_,Y_,Y_,Y_,X_,X_,X_,X_,X_,X_,X_,X_,X_,X_,X_,X_] rfl rfl (any_of HT_.out (by kernel_rfl)) (fun _ _ _ h => h) (Or.inl ⟨by rfl, ?_⟩) ?_ ?_
                   rotate_left
                   · intro w'
                     go_simp
                     with_reducible rfl
                   rotate_left
                   · simp only [Act.put, sTA_, sCZ_, sCS_, i64_w, i32_w]
                     rfl
                   refine pure_ (i := 31) (N := some 85) (v := ?_) (a' := ?_) #[Y_,Y_,Y_,Y_,Y_,Y_,Y_,Y_,Y_,Y_,Y_,Y_,Y_,Y_,Y_,Y_,Y_,Y_,Y_,Y_,Y_,Y_,Y_,Y_,Y_,Y_,Y_,Y_,Y_,Y_,Y_,Y_,X_,X_,X_,X_,X_,X_,X_,X_,X_,X_,X_] rfl rfl (any_of HT_.out (by kernel_rfl)) (fun _ _ _ h => h) (Or.inl ⟨by rfl, ?_⟩) ?_ ?_
                   rotate_left
                   · intro w'
                     go_simp
                     with_reducible rfl
                   rotate_left
                   · simp only [Act.put, sTA_, sCZ_, sCS_, i64_w, i32_w]
                     rfl
                   refine pure_ (i := 32) (N := some 86) (v := ?_) (a' := ?_) #[Y_,Y_,Y_,Y_,Y_,Y_,Y_,Y_,Y_,Y_,Y_,Y_,Y_,Y_,Y_,Y_,Y_,Y_,Y_,Y_,Y_,Y_,Y_,Y_,Y_,Y_,Y_,Y_,Y_,Y_,Y_,Y_,Y_,X_,X_,X_,X_,X_,X_,X_,X_,X_,X_] rfl rfl (any_of HT_.out (by kernel_rfl)) (fun _ _ _ h => h) (Or.inl ⟨by rfl, ?_⟩) ?_ ?_
                   rotate_left
                   · intro w'
                     go_simp
                     with_reducible rfl
                   rotate_left
                   · simp only [Act.put, sTA_, sCZ_, sCS_, i64_w, i32_w]
                     rfl
                   refine pure_ (i := 33) (N := some 87) (v := ?_) (a' := ?_) #[Y_,Y_,Y_,Y_,Y_,Y_,Y_,Y_,Y_,Y_,Y_,Y_,Y_,Y_,Y_,Y_,Y_,Y_,Y_,Y_,Y_,Y_,Y_,Y_,Y_,Y_,Y_,Y_,Y_,Y_,Y_,Y_,Y_,Y_,X_,X_,X_,X_,X_,X_,X_,X_,X_] rfl rfl (any_of HT_.out (by kernel_rfl)) (fun _ _ _ h => h) (Or.inl ⟨by rfl, ?_⟩) ?_ ?_
                   rotate_left
                   · intro w'
                     go_simp
                     with_reducible rfl
                   rotate_left
                   · simp only [Act.put, sTA_, sCZ_, sCS_, i64_w, i32_w]
                     rfl
                   refine pure_ (i := 35) (N := some 89) (v := ?_) (a' := ?_) #[Y_,Y_,Y_,Y_,Y_,Y_,Y_,Y_,Y_,Y_,Y_,Y_,Y_,Y_,Y_,Y_,Y_,Y_,Y_,Y_,Y_,Y_,Y_,Y_,Y_,Y_,Y_,Y_,Y_,Y_,Y_,Y_,Y_,Y_,X_,Y_,X_,X_,X_,X_,X_,X_,X_] rfl rfl (any_of HT_.out (by kernel_rfl)) (fun _ _ _ h => h) (Or.inl ⟨by rfl, ?_⟩) ?_ ?_
                   rotate_left
                   · intro w'
                     go_simp
                     with_reducible rfl
                   rotate_left
                   · simp only [Act.put, sTA_, sCZ_, sCS_, i64_w, i32_w]
                     rfl
                   refine take_ (i := 34) (N := some 88) (v := ?_) (a' := ?_) #[Y_,Y_,Y_,Y_,Y_,Y_,Y_,Y_,Y_,Y_,Y_,Y_,Y_,Y_,Y_,Y_,Y_,Y_,Y_,Y_,Y_,Y_,Y_,Y_,Y_,Y_,Y_,Y_,Y_,Y_,Y_,Y_,Y_,Y_,Y_,Y_,X_,X_,X_,X_,X_,X_,X_] rfl rfl (take_ofW HT_.out HW_.out (by kernel_rfl)) (fun _ _ _ h => h) (Or.inl ⟨by rfl, ?_⟩) hHeld ?_ ?_
                   rotate_left
                   · rintro w' ⟨s0, s1, s2, s3, s4, s5, s6, s7, s8, s9, s10, s11, s12, s13, s14, s15⟩
                     go_simp
                     with_reducible rfl
                   rotate_left
                   · simp only [Act.put, sTA_, sCZ_, sCS_, i64_w, i32_w]
                     rfl
                   refine one_ (i := 36) (N := some 90) #[Y_,Y_,Y_,Y_,Y_,Y_,Y_,Y_,Y_,Y_,Y_,Y_,Y_,Y_,Y_,Y_,Y_,Y_,Y_,Y_,Y_,Y_,Y_,Y_,Y_,Y_,Y_,Y_,Y_,Y_,Y_,Y_,Y_,Y_,Y_,Y_,Y_,X_,X_,X_,X_,X_,X_] rfl rfl (one_of HT_.out (by kernel_rfl)) (by decide) (fun K hK => ?_)
                   refine goes_ Tryd.func12 (by kernel_rfl) rfl #[.int .i64 a1] (by rfl) rfl rfl (by (try simp only [List.map_toArray, List.map_cons, List.map_nil]); first | done | rfl | (simp only [List.length_drop, List.length_take]; rfl)) ?_
                   with_reducible refine (r1_Int.calls a1 t167 t168 t169 _ A57.out).mono ?_
                   rintro e w83 ⟨rfl, hb⟩
                   refine ⟨_, rfl, ?_⟩
                   have n0_ := Aside0.mk (Kd.R_below (by (with_reducible repeat (first | apply Kd.R_alloc | apply Kd.R_drewN | apply Kd.R_drew)); exact HO_5.out) hb)
                   have n1_ := Aside0.mk (Kd.R_below (by (with_reducible repeat (first | apply Kd.R_alloc | apply Kd.R_drewN | apply Kd.R_drew)); exact HO_6.out) hb)
                   have n2_ := Aside0.mk (blk_below (g := gb150) (o := .cells #[.int .u8 t146, .int .i64 t147, .string t148, .int .i64 t149] 31 (0, 0)) (by (with_reducible repeat (first | refine blk_drewN ?_ _ | refine blk_drew ?_ | refine blk_alloc ?_ _)); exact BK150.out) hb)
                   have n3_ := Aside0.mk (blk_below (g := gb155) (o := .cells #[.int .u8 t151, .int .i64 t152, .string t153, .int .i64 t154] 31 (0, 0)) (by (with_reducible repeat (first | refine blk_drewN ?_ _ | refine blk_drew ?_ | refine blk_alloc ?_ _)); exact BK155.out) hb)
                   have n4_ := Aside0.mk (blk_below (g := gb161) (o := .cells #[.int .u8 t157, .int .i64 t158, .string t159, .int .i64 t160] 31 (0, 0)) (by (with_reducible repeat (first | refine blk_drewN ?_ _ | refine blk_drew ?_ | refine blk_alloc ?_ _)); exact BK161.out) hb)
                   have n5_ := Aside0.mk (blk_below (g := gb166) (o := .cells #[.int .u8 t162, .int .i64 t163, .string t164, .int .i64 t165] 31 (0, 0)) (by (with_reducible repeat (first | refine blk_drewN ?_ _ | refine blk_drew ?_ | refine blk_alloc ?_ _)); exact BK166.out) hb)
                   have n6_ := Aside0.mk (below_step (by repeat (first | (with_reducible first | exact HB.out | apply bA_ | apply bN_ | apply b1_ | refine below_set ?_ GE150.out | refine below_set ?_ GE155.out | refine below_set ?_ GE161.out | refine below_set ?_ GE166.out) | exact HB.out)) hb)
                   clear HO_5
                   clear HO_6
                   clear BK150
                   clear BK155
                   clear BK161
                   clear BK166
                   clear HB
                   have HO_5 := n0_
                   have HO_6 := n1_
                   have BK150 := n2_
                   have BK155 := n3_
                   have BK161 := n4_
                   have BK166 := n5_
                   have HB := n6_
                   clear n0_ n1_ n2_ n3_ n4_ n5_ n6_
                   (try clear hb)
                   (try clear hb2)
                   (try clear hk)
                   (try clear hi)
                   refine hK.out _ _ ⟨(blk_cell BK150.out 0).trans rfl, (blk_cell BK150.out 1).trans rfl, (blk_cell BK150.out 2).trans rfl, (blk_cell BK150.out 3).trans rfl, (blk_cell BK161.out 0).trans rfl, (blk_cell BK161.out 1).trans rfl, (blk_cell BK161.out 2).trans rfl, (blk_cell BK161.out 3).trans rfl, (blk_cell BK166.out 0).trans rfl, (blk_cell BK166.out 1).trans rfl, (blk_cell BK166.out 2).trans rfl, (blk_cell BK166.out 3).trans rfl, (blk_cell BK155.out 0).trans rfl, (blk_cell BK155.out 1).trans rfl, (blk_cell BK155.out 2).trans rfl, (blk_cell BK155.out 3).trans rfl⟩ (fun hHeld => ?_)
                   clear hK K
                   refine norm_ (a' := ?_) ?_ ?_
                   rotate_left
                   · show Act.put _ (some 90) _ = _
                     simp only [Act.put, sTA_, sCZ_, sCS_, i64_w, i32_w]
                     rfl
                   refine one_ (i := 37) (N := some 91) #[Y_,Y_,Y_,Y_,Y_,Y_,Y_,Y_,Y_,Y_,Y_,Y_,Y_,Y_,Y_,Y_,Y_,Y_,Y_,Y_,Y_,Y_,Y_,Y_,Y_,Y_,Y_,Y_,Y_,Y_,Y_,Y_,Y_,Y_,Y_,Y_,Y_,Y_,X_,X_,X_,X_,X_] rfl rfl (one_of HT_.out (by kernel_rfl)) (by decide) (fun K hK => ?_)
                   refine goes_ Tryd.func14 (by kernel_rfl) rfl #[.agg #[.int .u8 t151, .int .i64 t152, .string t153], .agg #[.int .u8 t167, .int .i64 t168, .string t169]] (by rfl) rfl rfl (by (try simp only [List.map_toArray, List.map_cons, List.map_nil]); first | done | rfl | (simp only [List.length_drop, List.length_take]; rfl)) ?_
                   with_reducible refine (r1_Same.calls t151 t152 t153 t167 t168 t169 true _ A58.out).mono ?_
                   rintro e w84 ⟨rfl, hb⟩
                   refine ⟨_, rfl, ?_⟩
                   have n0_ := Aside0.mk (Kd.R_below (by (with_reducible repeat (first | apply Kd.R_alloc | apply Kd.R_drewN | apply Kd.R_drew)); exact HO_5.out) hb)
                   have n1_ := Aside0.mk (Kd.R_below (by (with_reducible repeat (first | apply Kd.R_alloc | apply Kd.R_drewN | apply Kd.R_drew)); exact HO_6.out) hb)
                   have n2_ := Aside0.mk (blk_below (g := gb150) (o := .cells #[.int .u8 t146, .int .i64 t147, .string t148, .int .i64 t149] 31 (0, 0)) (by (with_reducible repeat (first | refine blk_drewN ?_ _ | refine blk_drew ?_ | refine blk_alloc ?_ _)); exact BK150.out) hb)
                   have n3_ := Aside0.mk (blk_below (g := gb155) (o := .cells #[.int .u8 t151, .int .i64 t152, .string t153, .int .i64 t154] 31 (0, 0)) (by (with_reducible repeat (first | refine blk_drewN ?_ _ | refine blk_drew ?_ | refine blk_alloc ?_ _)); exact BK155.out) hb)
                   have n4_ := Aside0.mk (blk_below (g := gb161) (o := .cells #[.int .u8 t157, .int .i64 t158, .string t159, .int .i64 t160] 31 (0, 0)) (by (with_reducible repeat (first | refine blk_drewN ?_ _ | refine blk_drew ?_ | refine blk_alloc ?_ _)); exact BK161.out) hb)
                   have n5_ := Aside0.mk (blk_below (g := gb166) (o := .cells #[.int .u8 t162, .int .i64 t163, .string t164, .int .i64 t165] 31 (0, 0)) (by (with_reducible repeat (first | refine blk_drewN ?_ _ | refine blk_drew ?_ | refine blk_alloc ?_ _)); exact BK166.out) hb)
                   have n6_ := Aside0.mk (below_step (by repeat (first | (with_reducible first | exact HB.out | apply bA_ | apply bN_ | apply b1_ | refine below_set ?_ GE150.out | refine below_set ?_ GE155.out | refine below_set ?_ GE161.out | refine below_set ?_ GE166.out) | exact HB.out)) hb)
                   clear HO_5
                   clear HO_6
                   clear BK150
                   clear BK155
                   clear BK161
                   clear BK166
                   clear HB
                   have HO_5 := n0_
                   have HO_6 := n1_
                   have BK150 := n2_
                   have BK155 := n3_
                   have BK161 := n4_
                   have BK166 := n5_
                   have HB := n6_
                   clear n0_ n1_ n2_ n3_ n4_ n5_ n6_
                   (try clear hb)
                   (try clear hb2)
                   (try clear hk)
                   (try clear hi)
                   refine hK.out _ _ ⟨(blk_cell BK150.out 0).trans rfl, (blk_cell BK150.out 1).trans rfl, (blk_cell BK150.out 2).trans rfl, (blk_cell BK150.out 3).trans rfl, (blk_cell BK161.out 0).trans rfl, (blk_cell BK161.out 1).trans rfl, (blk_cell BK161.out 2).trans rfl, (blk_cell BK161.out 3).trans rfl, (blk_cell BK166.out 0).trans rfl, (blk_cell BK166.out 1).trans rfl, (blk_cell BK166.out 2).trans rfl, (blk_cell BK166.out 3).trans rfl, (blk_cell BK155.out 0).trans rfl, (blk_cell BK155.out 1).trans rfl, (blk_cell BK155.out 2).trans rfl, (blk_cell BK155.out 3).trans rfl⟩ (fun hHeld => ?_)
                   clear hK K
                   refine norm_ (a' := ?_) ?_ ?_
                   rotate_left
                   · show Act.put _ (some 91) _ = _
                     simp only [Act.put, sTA_, sCZ_, sCS_, i64_w, i32_w]
                     rfl
                   refine pure_ (i := 38) (N := some 92) (v := ?_) (a' := ?_) #[Y_,Y_,Y_,Y_,Y_,Y_,Y_,Y_,Y_,Y_,Y_,Y_,Y_,Y_,Y_,Y_,Y_,Y_,Y_,Y_,Y_,Y_,Y_,Y_,Y_,Y_,Y_,Y_,Y_,Y_,Y_,Y_,Y_,Y_,Y_,Y_,Y_,Y_,Y_,X_,X_,X_,X_] rfl rfl (any_of HT_.out (by kernel_rfl)) (fun _ _ _ h => h) (Or.inl ⟨by rfl, ?_⟩) ?_ ?_
                   rotate_left
                   · intro w'
                     go_simp
                     with_reducible rfl
                   rotate_left
                   · simp only [Act.put, sTA_, sCZ_, sCS_, i64_w, i32_w]
                     rfl
                   refine pure_ (i := 39) (N := some 93) (v := ?_) (a' := ?_) #[Y_,Y_,Y_,Y_,Y_,Y_,Y_,Y_,Y_,Y_,Y_,Y_,Y_,Y_,Y_,Y_,Y_,Y_,Y_,Y_,Y_,Y_,Y_,Y_,Y_,Y_,Y_,Y_,Y_,Y_,Y_,Y_,Y_,Y_,Y_,Y_,Y_,Y_,Y_,Y_,X_,X_,X_] rfl rfl (any_of HT_.out (by kernel_rfl)) (fun _ _ _ h => h) (Or.inl ⟨by rfl, ?_⟩) ?_ ?_
                   rotate_left
                   · intro w'
                     go_simp
                     with_reducible rfl
                   rotate_left
                   · simp only [Act.put, sTA_, sCZ_, sCS_, i64_w, i32_w]
                     rfl
                   refine one_ (i := 40) (N := some 94) #[Y_,Y_,Y_,Y_,Y_,Y_,Y_,Y_,Y_,Y_,Y_,Y_,Y_,Y_,Y_,Y_,Y_,Y_,Y_,Y_,Y_,Y_,Y_,Y_,Y_,Y_,Y_,Y_,Y_,Y_,Y_,Y_,Y_,Y_,Y_,Y_,Y_,Y_,Y_,Y_,Y_,X_,X_] rfl rfl (one_of HT_.out (by kernel_rfl)) (by decide) (fun K hK => ?_)
                   refine goes_ Tryd.func11 (by kernel_rfl) rfl #[] (by rfl) rfl rfl (by (try simp only [List.map_toArray, List.map_cons, List.map_nil]); first | done | rfl | (simp only [List.length_drop, List.length_take]; rfl)) ?_
                   with_reducible refine (w6_awake.calls  t171 _ ?sideT A60.out).mono ?_
                   case sideT => exact LaidT.below HT.out (by repeat (first | (with_reducible first | exact HB.out | apply bA_ | apply bN_ | apply b1_) | exact HB.out))
                   rintro e w85 ⟨rfl, hb⟩
                   refine ⟨_, rfl, ?_⟩
                   have n0_ := Aside0.mk (Kd.R_below (by (with_reducible repeat (first | apply Kd.R_alloc | apply Kd.R_drewN | apply Kd.R_drew)); exact HO_5.out) hb)
                   have n1_ := Aside0.mk (Kd.R_below (by (with_reducible repeat (first | apply Kd.R_alloc | apply Kd.R_drewN | apply Kd.R_drew)); exact HO_6.out) hb)
                   have n2_ := Aside0.mk (blk_below (g := gb150) (o := .cells #[.int .u8 t146, .int .i64 t147, .string t148, .int .i64 t149] 31 (0, 0)) (by (with_reducible repeat (first | refine blk_drewN ?_ _ | refine blk_drew ?_ | refine blk_alloc ?_ _)); exact BK150.out) hb)
                   have n3_ := Aside0.mk (blk_below (g := gb155) (o := .cells #[.int .u8 t151, .int .i64 t152, .string t153, .int .i64 t154] 31 (0, 0)) (by (with_reducible repeat (first | refine blk_drewN ?_ _ | refine blk_drew ?_ | refine blk_alloc ?_ _)); exact BK155.out) hb)
                   have n4_ := Aside0.mk (blk_below (g := gb161) (o := .cells #[.int .u8 t157, .int .i64 t158, .string t159, .int .i64 t160] 31 (0, 0)) (by (with_reducible repeat (first | refine blk_drewN ?_ _ | refine blk_drew ?_ | refine blk_alloc ?_ _)); exact BK161.out) hb)
                   have n5_ := Aside0.mk (blk_below (g := gb166) (o := .cells #[.int .u8 t162, .int .i64 t163, .string t164, .int .i64 t165] 31 (0, 0)) (by (with_reducible repeat (first | refine blk_drewN ?_ _ | refine blk_drew ?_ | refine blk_alloc ?_ _)); exact BK166.out) hb)
                   have n6_ := Aside0.mk (below_step (by repeat (first | (with_reducible first | exact HB.out | apply bA_ | apply bN_ | apply b1_ | refine below_set ?_ GE150.out | refine below_set ?_ GE155.out | refine below_set ?_ GE161.out | refine below_set ?_ GE166.out) | exact HB.out)) hb)
                   clear HO_5
                   clear HO_6
                   clear BK150
                   clear BK155
                   clear BK161
                   clear BK166
                   clear HB
                   have HO_5 := n0_
                   have HO_6 := n1_
                   have BK150 := n2_
                   have BK155 := n3_
                   have BK161 := n4_
                   have BK166 := n5_
                   have HB := n6_
                   clear n0_ n1_ n2_ n3_ n4_ n5_ n6_
                   (try clear hb)
                   (try clear hb2)
                   (try clear hk)
                   (try clear hi)
                   refine hK.out _ _ ⟨(blk_cell BK150.out 0).trans rfl, (blk_cell BK150.out 1).trans rfl, (blk_cell BK150.out 2).trans rfl, (blk_cell BK150.out 3).trans rfl, (blk_cell BK161.out 0).trans rfl, (blk_cell BK161.out 1).trans rfl, (blk_cell BK161.out 2).trans rfl, (blk_cell BK161.out 3).trans rfl, (blk_cell BK166.out 0).trans rfl, (blk_cell BK166.out 1).trans rfl, (blk_cell BK166.out 2).trans rfl, (blk_cell BK166.out 3).trans rfl, (blk_cell BK155.out 0).trans rfl, (blk_cell BK155.out 1).trans rfl, (blk_cell BK155.out 2).trans rfl, (blk_cell BK155.out 3).trans rfl⟩ (fun hHeld => ?_)
                   clear hK K
                   refine norm_ (a' := ?_) ?_ ?_
                   rotate_left
                   · show Act.put _ (some 94) _ = _
                     simp only [Act.put, sTA_, sCZ_, sCS_, i64_w, i32_w]
                     rfl
                   refine pure_ (i := 41) (N := some 95) (v := ?_) (a' := ?_) #[Y_,Y_,Y_,Y_,Y_,Y_,Y_,Y_,Y_,Y_,Y_,Y_,Y_,Y_,Y_,Y_,Y_,Y_,Y_,Y_,Y_,Y_,Y_,Y_,Y_,Y_,Y_,Y_,Y_,Y_,Y_,Y_,Y_,Y_,Y_,Y_,Y_,Y_,Y_,Y_,Y_,Y_,X_] rfl rfl (any_of HT_.out (by kernel_rfl)) (fun _ _ _ h => h) (Or.inl ⟨by rfl, ?_⟩) ?_ ?_
                   rotate_left
                   · intro w'
                     go_simp
                     with_reducible rfl
                   rotate_left
                   · simp only [Act.put, sTA_, sCZ_, sCS_, i64_w, i32_w]
                     rfl
                   refine pure_ (i := 42) (N := some 4) (v := ?_) (a' := ?_) #[Y_,Y_,Y_,Y_,Y_,Y_,Y_,Y_,Y_,Y_,Y_,Y_,Y_,Y_,Y_,Y_,Y_,Y_,Y_,Y_,Y_,Y_,Y_,Y_,Y_,Y_,Y_,Y_,Y_,Y_,Y_,Y_,Y_,Y_,Y_,Y_,Y_,Y_,Y_,Y_,Y_,Y_,Y_] rfl rfl (any_of HT_.out (by kernel_rfl)) (fun _ _ _ h => h) (Or.inl ⟨by rfl, ?_⟩) ?_ ?_
                   rotate_left
                   · intro w'
                     go_simp
                     with_reducible rfl
                   rotate_left
                   · simp only [Act.put, sTA_, sCZ_, sCS_, i64_w, i32_w]
                     rfl
                   refine done_ (done_of HT_.out (by kernel_rfl)) ?_
                   try go_wp2
                   go_ret
                   exact ⟨by first | rfl | (simp [*, errW_none, errW_some] <;> rfl), by repeat (first | (with_reducible first | exact HB.out | apply bA_ | apply bN_ | apply b1_ | refine below_set ?_ GE150.out | refine below_set ?_ GE155.out | refine below_set ?_ GE161.out | refine below_set ?_ GE166.out) | exact HB.out)⟩
                 · replace c59 := Bool.eq_false_iff.mpr c59
                   subst c59
                   have H1 : (some false) = some r := by rw [if_neg (show ¬ (false = true) by decide)] at H; exact H
                   clear H
                   have H := H1
                   clear H1
                   exact absurd ((Option.some.inj H).trans HRT.out) (by decide)
               · rw [if_neg c56] at H
                 have c56b0 : (t154 == 0) = false := beq_eq_false_iff_ne.mpr c56
                 have c56b1 : (t154 != 0) = true := bne_iff_ne.mpr c56
                 exact absurd ((Option.some.inj H).trans HRT.out) (by decide)
             · rw [if_neg c55] at H
               have c55b0 : decide (t147 ≤ t163) = false := dF_ c55
               clear c55
               exact absurd ((Option.some.inj H).trans HRT.out) (by decide)
           · rw [if_neg c54] at H
             have c54b0 : decide (t158 ≤ t147) = false := dF_ c54
             clear c54
             exact absurd ((Option.some.inj H).trans HRT.out) (by decide)
         · rw [if_neg c53] at H
           have c53b0 : (t146 == 1) = false := beq_eq_false_iff_ne.mpr c53
           have c53b1 : (t146 != 1) = true := bne_iff_ne.mpr c53
           exact absurd ((Option.some.inj H).trans HRT.out) (by decide)
       · rw [if_neg c52] at H
         have c52b0 : (t149 == 0) = false := beq_eq_false_iff_ne.mpr c52
         have c52b1 : (t149 != 0) = true := bne_iff_ne.mpr c52
         exact absurd ((Option.some.inj H).trans HRT.out) (by decide)
end
end Go.Proofs.YtecgkcgfeghhgaaDoor.PAll
set_option linter.unusedVariables false
namespace Go.Proofs.YtecgkcgfeghhgaaDoor.PAll
open Go.RowKit Go.Proofs.YtecgkcgfeghhgaaDoorW.PrintWords Go.Proofs.YtecgkcgfeghhgaaDoorW.PrintLast Go.Proofs.YtecgkcgfeghhgaaDoorW.PrintMore
theorem int_f (n : Int) : r1_Int.f n = some (1, n, ⟨#[]⟩) := rfl
theorem means_nums (i n : Nat) (hi : i < n) (hn : n ≤ 1048576) : (i : Int) < n ∧ 0 ≤ (i : Int) ∧ i < 4398046511104 ∧ wrap64 ((i : Int) + 1) = ((i + 1 : Nat) : Int) := by unfold wrap64; omega
theorem agg_avg (l : List Int) (hne : l ≠ []) : aggR 5 false (ivs l) = (1, l.sum.tdiv l.length, ⟨#[]⟩, 0) := by
 rw [ivs_aggR 5 (by omega) (by omega)]
 unfold aggV
 rw [if_neg (by decide), if_neg (by decide), if_neg (by decide), if_pos rfl]
 unfold avgR
 rw [if_neg (by intro e; exact hne (List.map_eq_nil_iff.1 e)), ivs_sum, ivs_len]
theorem sum_replicate (m : Nat) (n : Int) : (List.replicate m n).sum = n * (m : Int) := by
 induction m with
 | zero => simp
 | succ m ih => rw [List.replicate_succ, List.sum_cons, ih, Int.natCast_add, Int.mul_add]; simp; omega
theorem means_l0 (l : List Int) (n : Int) (hl : ∀ x ∈ l, -9223372036854775808 ≤ x ∧ x ≤ 9223372036854775807) (hm : -9223372036854775808 ≤ n ∧ n ≤ 9223372036854775807) (hn : l.length ≤ 1048576) :
 ∀ (d i : Nat), i + d = l.length → Ev (fun k => w6_BagMeans.l0 k l n (ivs (l.take i)) (ivs (List.replicate i n)) (i : Int)) true
 | 0, i, h => by
  have hi : i = l.length := by omega
  subst hi
  rw [List.take_length]
  have hr : ∀ x ∈ List.replicate l.length n, -9223372036854775808 ≤ x ∧ x ≤ 9223372036854775807 := fun x hx => by
   rw [(List.mem_replicate.1 hx).2]; exact hm
  have hrl : (List.replicate l.length n).length ≤ 4194304 := by rw [List.length_replicate]; omega
  have e1 := ivs_ok 5 (by omega) l hl (by omega)
  have e2 := ivs_ok 5 (by omega) (List.replicate l.length n) hr hrl
  have e3 := ivs_ok 3 (by omega) l hl (by omega)
  have e4 := ivs_ok 4 (by omega) l hl (by omega)
  refine Ev.step (f := fun _ => some true) (fun k => ?_) (Ev.now _)
  by_cases h0 : l = []
  · subst h0
    rw [w6_BagMeans.l0, if_neg (by simp), e1, e2]
    rfl
  · have hr0 : List.replicate l.length n ≠ [] := by
     intro e
     have := congrArg List.length e
     rw [List.length_replicate] at this
     exact h0 (List.length_eq_zero_iff.1 this)
    have hpos : 0 < l.length := List.length_pos_iff.2 h0
    have hp : (0 : Int) < (l.length : Int) := by omega
    rw [agg_avg l h0] at e1
    rw [agg_avg _ hr0, sum_replicate, List.length_replicate, Int.mul_tdiv_cancel _ (by omega)] at e2
    obtain ⟨lo, _, q1, q2⟩ := ivs_min l h0
    obtain ⟨hi, _, q3, q4⟩ := ivs_max l h0
    have a3 : aggR 3 false (ivs l) = (1, lo, ⟨#[]⟩, 0) := by
     rw [ivs_aggR 3 (by omega) (by omega)]
     unfold aggV
     rw [if_neg (by decide), if_pos rfl, q1]
    have a4 : aggR 4 false (ivs l) = (1, hi, ⟨#[]⟩, 0) := by
     rw [ivs_aggR 4 (by omega) (by omega)]
     unfold aggV
     rw [if_neg (by decide), if_neg (by decide), if_pos rfl, q3]
    rw [a3] at e3
    rw [a4] at e4
    obtain ⟨s1, s2⟩ := sum_between l lo hi q2 q4
    obtain ⟨t1, t2⟩ := tdiv_between l.sum l.length lo hi hp s1 s2
    have hs := sameV_eq (⟨1, n, ⟨#[]⟩⟩ : V) ⟨1, n, ⟨#[]⟩⟩
    simp only [decide_true] at hs
    rw [w6_BagMeans.l0, if_neg (by omega), e1, e2]
    simp only [Option.bind_some]
    rw [if_neg (by omega), e3]
    simp only [Option.bind_some]
    rw [e4]
    simp only [Option.bind_some, if_true]
    rw [if_pos t1, if_pos t2, int_f]
    simp only [Option.bind_some]
    rw [hs]
    rfl
 | d + 1, i, h => by
  have hi : i < l.length := by omega
  have ih := means_l0 l n hl hm hn d (i + 1) (by omega)
  obtain ⟨c1, c2, c3, c4⟩ := means_nums i l.length hi hn
  rw [List.take_succ_eq_append_getElem hi, List.replicate_succ', ivs_app, ivs_app] at ih
  refine Ev.step (f := fun k => w6_BagMeans.l0 k l n (ivs (l.take i) ++ ivs [l[i]]) (ivs (List.replicate i n) ++ ivs [n]) ((i + 1 : Nat) : Int)) (fun k => ?_) ih
  have q1 : (ivs (l.take i)).length < 4398046511104 := by rw [ivs_len]; exact Nat.lt_of_le_of_lt (List.length_take_le _ _) c3
  have q2 : (ivs (List.replicate i n)).length < 4398046511104 := by rw [ivs_len, List.length_replicate]; exact c3
  rw [w6_BagMeans.l0, if_pos c1, if_pos c2, rd_at hi, int_f, int_f]
  simp only [Option.bind_some]
  rw [if_pos q1, if_pos q2, c4]
  rfl
theorem law_means (l : List Int) (n : Int) (hl : ∀ x ∈ l, -9223372036854775808 ≤ x ∧ x ≤ 9223372036854775807) (hm : -9223372036854775808 ≤ n ∧ n ≤ 9223372036854775807) (hn : l.length ≤ 1048576) : ∃ k, w6_BagMeans.f k l n = some true :=
 (means_l0 l n hl hm hn l.length 0 (by omega)).rounds
end Go.Proofs.YtecgkcgfeghhgaaDoor.PAll
set_option linter.unusedVariables false
namespace Go.Proofs.YtecgkcgfeghhgaaDoor.bagMeans
open Go.ChangeShapes Go.WideShapes Go.ChangeAt Go.RowKit Go.Proofs.YtecgkcgfeghhgaaDoor.PAll
open Go.Proofs.YtecgkcgfeghhgaaDoorW.PrintWords Go.Proofs.YtecgkcgfeghhgaaDoorW.PrintLast Go.Proofs.YtecgkcgfeghhgaaDoorW.PrintMore
theorem laidOut : laidOutB Tryd.prog = true := by kernel_rfl
theorem own : ownKnob Tryd.prog.godebug = none := by kernel_rfl
theorem gTab : Tryd.prog.globalNamed "internal/strconv.uint64pow10" = some 0 := by kernel_rfl
theorem gTabType : (Tryd.prog.globals[0]?).map (·.type) = some 151 := by kernel_rfl
theorem uTab : Tryd.prog.underlying 151 = some (.array 20 90) ∧ Tryd.prog.underlying 90 = some (.int .u64) ∧ Tryd.prog.cellsOf 90 = 1 := ⟨by kernel_rfl, by kernel_rfl, by kernel_rfl⟩
theorem cTab : Tryd.prog.cellsOf 151 = 20 := by kernel_rfl
theorem tabEq {H : Type} : Rows.laid_internal_strconv_uint64pow10 (H := H) = Lib.tabData .u64 Lib.pow10Tab := by
 simp [Rows.laid_internal_strconv_uint64pow10, Lib.tabData, Lib.pow10Tab, List.range_succ]
theorem table {W : World} (h : laidMetH Tryd.prog Rows.bagMeansUptoRow.laid W) : LaidT W := by
 have h : laidMet Tryd.prog Rows.bagMeansUptoRow.laid W := h
 obtain ⟨ps, ⟨_, _, _, _, _, _, _, _, _, _, ⟨_, _, _, _, _, _, _, _, _, _, ⟨g', t', cs, fuel, p, q, hg', ht', hvar, hd, _, _⟩, _⟩, _⟩, _⟩ := h
 obtain ⟨he, hi, hc⟩ := uTab
 obtain rfl := Option.some.inj (gTab.symm.trans hg')
 obtain rfl := Option.some.inj (gTabType.symm.trans ht')
 rw [tabEq] at hd
 unfold LaidT Lib.TabIs
 rw [hvar, ← Lib.cells_of_tab he hi hc cTab hd]
theorem contract (H : Type) (enc : TypeId × Value → H) (W : World) (base : Nat) (args : Array Value) (ds gs : List (DataW H)) (before : List MemPlace)
 (hval : ∀ (j : Nat) t v, Tryd.f4.params[j]? = some t → args[j]? = some v → Value.okWide Tryd.prog W .any base t v)
 (hW : DataW.Whole enc Tryd.prog Tryd.f4.params.toList Rows.bagMeansSpec.vars false W args.toList ds gs before) (hk : Rows.uptoSmall H (ds ++ gs) = true) (hL : laidMetH Tryd.prog Rows.bagMeansUptoRow.laid W) :
 Calls Tryd.prog 4 args W fun e W' => ∃ v, e = .returned v ∧ Rows.bagMeansSpec.post enc Tryd.prog Tryd.f4 false true false false W args v W' := by
 have hW' := hW
 obtain ⟨p, q, hA0, hV, rfl, hfz, hnd⟩ := hW
 have hA : DataW.TrodAll enc Tryd.prog W 0 (fun _ => true) true Tryd.f4.params.toList args.toList ds p := hA0
 rw [Tryd.params4] at hA hval
 obtain ⟨v0, vs0, d0, ds0, p0, q0, hargs, rfl, rfl, h0, r0⟩ := trodAll_cons hA
 obtain ⟨v1, vs1, d1, ds1, p1, q1, rfl, rfl, rfl, h1, r1⟩ := trodAll_cons r0
 obtain ⟨rfl, rfl, rfl⟩ := trodAll_nil r1
 obtain rfl : args = #[v0, v1] := by cases args; simp_all
 obtain ⟨rfl, rfl⟩ := trodVars_none hV
 have h0k := h0
 have h1k := h1
 obtain ⟨fuel0, hf0⟩ := h0
 obtain ⟨fuel1, hf1⟩ := h1
 obtain ⟨a0, len0, cap0, rfl⟩ := okWide_slice Tryd.underlying22 (hval 0 22 v0 (by simp) (by simp))
 obtain ⟨A0, cp0, l0, hcs0, hlc0, _, hC0, hv0, hb0⟩ := ints_of_trod (k := .i64) Tryd.underlying22 (e := 2) (by kernel_rfl) (by kernel_rfl) hf0
 simp [Value.cells] at hcs0
 obtain ⟨rfl, rfl, rfl⟩ := hcs0
 dsimp only at hb0
 obtain ⟨n1, rfl⟩ := okWide_int (k := .i64) Tryd.underlying2 (hval 1 2 v1 (by simp) (by simp))
 obtain ⟨m1, hcs1, _, hw1⟩ := DataW.trod_int (k := .i64) (by kernel_rfl) hf1
 simp [Value.cells] at hcs1
 subst hcs1
 have hv1 := wf_i64 hw1
 clear hA0
 simp only [List.append_nil] at hW' hk
 have hb : Rows.uptoBulkAll [d0, d1] ≤ 1048576 := of_decide_eq_true hk
 simp only [Rows.uptoBulkAll] at hb
 have hlt : ∀ x ∈ p0 ++ (p1), x.block < W.heap.size := fun x hx => hW'.lt x hx
 obtain ⟨k, hlaw⟩ : ∃ k, w6_BagMeans.f k l0 n1 = some true := (law_means l0 n1 (fun z hz => wf_i64 (hv0 z hz)) hv1 (by omega))
 refine (w6_BagMeans.calls k a0 cap0 l0 n1 true W hC0 hlc0 (table hL) hlaw).mono fun e W' ⟨he, hg⟩ => ?_
 subst he
 exact ⟨_, rfl, ⟨[d0, d1], [], _, [], _, [], hW', trodAll_mk1 (shut_bool Tryd.underlying4 _), trodAll_cons_mk (Below.trod laidOut (by kernel_rfl) (of_decide_eq_true (by kernel_rfl)) h0k hg (fun x hx => hlt x (List.mem_append_left _ hx))) (trodAll_mk1 (Below.trod laidOut (by kernel_rfl) (of_decide_eq_true (by kernel_rfl)) h1k hg (fun x hx => hlt x (List.mem_append_right _ (hx))))), rfl, hg.frame _, fun h => by cases h⟩⟩
noncomputable def laidWorld (os : Os) : World :=
 let w := World.holding Tryd.prog os ⟨#[], #[], []⟩
 { w with heap := ((w.heap.modify 0 fun
  | .cells _ t frozen => .cells ((Lib.pow10Tab.map (Value.int .u64)).toArray) t frozen
  | o => o).modify 2 fun
  | .cells _ t frozen => .cells #[.int .u8 0, .int .u8 1, .int .u8 28, .int .u8 2, .int .u8 29, .int .u8 14, .int .u8 24, .int .u8 3, .int .u8 30, .int .u8 22, .int .u8 20, .int .u8 15, .int .u8 25, .int .u8 17, .int .u8 4, .int .u8 8, .int .u8 31, .int .u8 27, .int .u8 13, .int .u8 23, .int .u8 21, .int .u8 19, .int .u8 16, .int .u8 7, .int .u8 26, .int .u8 12, .int .u8 18, .int .u8 6, .int .u8 11, .int .u8 5, .int .u8 10, .int .u8 9] t frozen
  | o => o).modify 3 fun
  | .cells _ t frozen => .cells #[.int .u8 0, .int .u8 1, .int .u8 56, .int .u8 2, .int .u8 57, .int .u8 49, .int .u8 28, .int .u8 3, .int .u8 61, .int .u8 58, .int .u8 42, .int .u8 50, .int .u8 38, .int .u8 29, .int .u8 17, .int .u8 4, .int .u8 62, .int .u8 47, .int .u8 59, .int .u8 36, .int .u8 45, .int .u8 43, .int .u8 51, .int .u8 22, .int .u8 53, .int .u8 39, .int .u8 33, .int .u8 30, .int .u8 24, .int .u8 18, .int .u8 12, .int .u8 5, .int .u8 63, .int .u8 55, .int .u8 48, .int .u8 27, .int .u8 60, .int .u8 41, .int .u8 37, .int .u8 16, .int .u8 46, .int .u8 35, .int .u8 44, .int .u8 21, .int .u8 52, .int .u8 32, .int .u8 23, .int .u8 11, .int .u8 54, .int .u8 26, .int .u8 40, .int .u8 15, .int .u8 34, .int .u8 20, .int .u8 31, .int .u8 10, .int .u8 25, .int .u8 14, .int .u8 19, .int .u8 9, .int .u8 13, .int .u8 8, .int .u8 7, .int .u8 6] t frozen
  | o => o }
theorem laid_met (os : Os) : laidMet Tryd.prog Rows.bagMeansUptoRow.laid ((laidWorld os).forCall (fun _ _ => 0) ⟨#[], #[.slice none 0 0, .int .i64 0], []⟩).memory :=
 laidMet_of_run' 8 (by kernel_rfl) (by kernel_rfl)
theorem reads (os : Os) {H : Type} (enc : TypeId × Value → H) : ∃ places, DataW.whole enc Tryd.prog ((laidWorld os).forCall (fun _ _ => 0) ⟨#[], #[.slice none 0 0, .int .i64 0], []⟩).memory Tryd.f4.params.toList Rows.bagMeansSpec.vars false (#[.slice none 0 0, .int .i64 0] : Array Value).toList 8 = some ([.nil, .lit (.int .i64 0)], [], places) :=
 ⟨[], by kernel_rfl⟩
theorem liftedUpto (os : Os) (started : os.Started) (H : Type) (enc : TypeId × Value → H) (F : Stop.Interp) :
 ReturnsInHanded {} Tryd.checked os 4 .any ((Rows.OpenSpec.upto Rows.bagMeansSpec).preRow enc Tryd.prog Tryd.f4 Rows.bagMeansUptoRow.domain false Rows.bagMeansUptoRow.laid) (((Rows.OpenSpec.upto Rows.bagMeansSpec).at F).post enc Tryd.prog Tryd.f4 false true false false) := by
 obtain ⟨places, hx⟩ := reads os enc
 refine returnsInHanded_of_row (C := Tryd.checked) (s := Rows.OpenSpec.upto Rows.bagMeansSpec) own started (by kernel_rfl) Tryd.func4
  (witness_row_at (enc := enc) (C := Tryd.checked) false (laidWorld os) #[.slice none 0 0, .int .i64 0] rfl (by kernel_rfl) (by kernel_rfl) (by kernel_rfl)
   (OpenSpec.preRow_of_cond 8 hx (by kernel_rfl) (fun k hk => by cases hk; kernel_rfl) (by kernel_rfl) (laid_met os))) ?_
 intro W base args ds gs before hval hW _ hcond _ hL _ _
 exact contract H enc W base args ds gs before hval hW (hcond _ rfl) hL
theorem saidUpto : Rows.BagMeansUptoSaid :=
 OpenClaim.holds_of_cond 4 Tryd.f4 rfl rfl rfl rfl rfl rfl rfl ⟨rfl, rfl, rfl, rfl, rfl⟩ rfl rfl rfl rfl rfl (by kernel_rfl) Tryd.func4 (by kernel_rfl)
  (of_decide_eq_true (by kernel_rfl)) (by unfold Func.isWrapper; first | (rw [if_pos (by decide +kernel)]; kernel_rfl) | (rw [if_neg (by decide +kernel)]; exact ⟨rfl, rfl⟩))
  (fun os started H enc _ F => by rw [OpenClaim.pre_eq_preRow]; exact liftedUpto os started H enc F)
theorem plain (f : FuncId) (fn : Func) (hf : Tryd.pinned.checked.prog.funcNamed "jointer/jointerlaw06.BagMeans" = some f) (hfn : Tryd.pinned.checked.prog.funcs[f]? = some fn) :
 false = Tryd.pinned.checked.prog.looks [] ∧ ∀ (j : Nat) t, fn.params[j]? = some t → Tryd.pinned.checked.prog.wantsStandIn t = false := by
 obtain rfl : f = 4 := Option.some.inj ((show Tryd.prog.funcNamed "jointer/jointerlaw06.BagMeans" = some 4 by kernel_rfl).symm.trans hf) |>.symm
 obtain rfl : fn = Tryd.f4 := (Option.some.inj (Tryd.func4.symm.trans hfn)).symm
 refine ⟨by kernel_rfl, fun j t ht => ?_⟩
 rw [Tryd.params4] at ht
 have hm := Array.mem_of_getElem? ht
 simp only [List.mem_toArray, List.mem_cons, List.not_mem_nil, or_false] at hm
 rcases hm with rfl | rfl
 · exact (show Tryd.prog.wantsStandIn 22 = false by kernel_rfl)
 · exact (show Tryd.prog.wantsStandIn 2 = false by kernel_rfl)
theorem card : Rows.BagMeansUptoCardSaid :=
 Claim7.holds_tied_plain_at .later [] _ _ _ _ saidUpto (fun _ h => by cases h) (by kernel_rfl) (fun _ h => by cases h) bagMeansUpto_row_tie rfl ⟨rfl, rfl⟩ (by kernel_rfl) rfl plain (by kernel_rfl)
end Go.Proofs.YtecgkcgfeghhgaaDoor.bagMeans
