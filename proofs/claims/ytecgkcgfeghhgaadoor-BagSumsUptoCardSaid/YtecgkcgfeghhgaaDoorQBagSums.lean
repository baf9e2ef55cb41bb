/- The row of BagSums (second form: what it reads is of bulk at most 2^20) and its card. Joined by a program of this session out of its texts. -/
import Derived.Test.YtecgkcgfeghhgaaDoorQBagSums3
import Derived.Below
import Derived.Deep.Draws
import Derived.Deep.AppendLies
import Derived.Maps.AppendAt
import Derived.OwnWalk
import Derived.Laws.BytesArg
import Derived.Laws.MakeOwn
import Derived.Laws.OwnMore
import Derived.Deep.OwnRows
import Derived.Tactics
import Derived.Lib.ConvBytes
import Derived.Laws.Slices
import Derived.WalkKit
import Derived.KernelRfl
import Derived.RowKit3
import Derived.Deep.LoopGhost
import Derived.Deep.QuietTactic
import Derived.BigQuiet
import Derived.WideLaws
import Derived.Deep.DeepCutAuto
import Derived.Deep.CutBlock
import Derived.Deep.RegionHeld3
import Derived.Laws.Rows
import Derived.Lib.AppendStr
import Derived.ArgAppend
import Derived.Laws.IdiomCopy
import Derived.RowKit
import Derived.OrdersHeld
import Derived.Laws.BitsLemmas
import Derived.Laws.StructEq
import Derived.Shelf.Strings.BuilderK
import Derived.Shelf.Spec.SlicesGrow
import Derived.Shelf.SlGeneric
import Derived.Ground.Names8Prog
import Derived.Shelf.SlSortCmp.NoneTotal
import Derived.Ground.SlsfProg
import Derived.Ground.NamesProg
import Derived.Shelf.Spec.BitsCarry
import Derived.Ground.Names7Prog
import Derived.Shelf.Strings.Builder1
import Derived.Shelf.Small.Bits
import Derived.Shelf.Small.Strs
import Derived.Shelf.Strings.BuilderF
import Derived.Shelf.Strconv.Itoa0
import Derived.Shelf.Strconv.Itoa1
import Derived.Shelf.LaysM
import Derived.Shelf.Strconv.Itoa2
import Derived.Shelf.Strconv.Itoa3
import Derived.Shelf.Strconv.Itoa4
import Derived.Shelf.Strings.BuilderCap
import Derived.Maps.OwnOps
import Derived.ChangeArms
import Derived.Deep.Slices
import Derived.Deep.Strs
import Derived.Lib.ItoaLen
import Derived.BigRegion
import Derived.RegionTactic
import Derived.Sort.Statements
import Derived.WalkSpells
import Derived.WalkMore
import Derived.Lib.ItoaNum
import Derived.Lib.BitFns
import Derived.Handy
import Derived.ProofKit
import Derived.OpenShut
import Derived.Carry
import Derived.Deep.DeepHandedRow
import Derived.Lib.LaidTab
set_option maxHeartbeats 8000000
set_option maxRecDepth 100000
set_option linter.unusedVariables false
set_option linter.unusedSimpArgs false
namespace Go.Proofs.YtecgkcgfeghhgaaDoor.PAll
open Go.RowKit Go.Proofs.YtecgkcgfeghhgaaDoorW.PrintWords Go.Proofs.YtecgkcgfeghhgaaDoorW.PrintLast Go.Proofs.YtecgkcgfeghhgaaDoorW.PrintMore
def GroupsPost (w : World) (cols : List Int) (l : List (List V)) (e : Ending) (w' : World) : Prop :=
 ∃ (v : Value) (m : Nat) (kv : List (ByteArray × LV)), e = .returned (.tuple #[v, .map (some m)]) ∧ kRow.R 58 w' w.heap.size (fun _ => True) v (keysR cols l) ∧ KV.Is w' m (fun p : LV => p.1) kv ∧
  (∀ s p, KV.get kv s = some p → ∃ A c, p.1 = .slice A p.2.length c ∧ p.2.length ≤ c ∧ kRow.C w' A p.2.length p.2) ∧ (∀ s, ((KV.get kv s).map (·.2)).getD [] = listR cols l s) ∧ Below w.heap.size w w'
open Classical in
theorem groups_calls (A0 : Option Addr) (c0 : Nat) (l0 : List (List V)) (A1 : Option Addr) (c1 : Nat) (l1 : List Int) (w : World) (hT : LaidT w) (hr0 : Kd.C kRow w A0 l0.length l0) (hr1 : Kd.C (Kd.int .i64) w A1 l1.length l1) (hn0 : l0.length ≤ 1099511627776) (hn1 : l1.length ≤ 1099511627776) (hne : l1 ≠ [])
 (hin : ∀ row ∈ l0, ∀ n ∈ l1, 0 ≤ n ∧ n < (row.length : Int)) (hkey : ∀ row ∈ l0, RowOk (keyOf l1 row) ∧ ∀ v ∈ keyOf l1 row, validV v = true) :
 Calls Tryd.prog 32 #[.slice A0 l0.length c0, .slice A1 l1.length c1] w fun e w' => GroupsPost w l1 l0 e w' := by
 have hmm : ∀ (w : World), (Instr.makeMap 74 none).run Tryd.prog w = .ok (.map (some w.heap.size)) (w.alloc (.map #[] 0)) := fun _ => by kernel_rfl
 have hz : ((l1.length : Int) == 0) = false := by
  have : l1.length ≠ 0 := fun e => hne (List.eq_nil_of_length_eq_zero e)
  simp; omega
 have HT := Aside0.mk hT
 have HR0 := Aside0.mk hr0
 have HR1 := Aside0.mk hr1
 have HN0 := Aside0.mk hn0
 have HN1 := Aside0.mk hn1
 have HNE := Aside0.mk hne
 have HIN := Aside0.mk hin
 have HKEY := Aside0.mk hkey
 clear hT hr0 hr1 hn0 hn1 hne hin hkey
 go_enter Tryd.func32, Tryd.ntmps32
 go_wp2
 clear hmm hz
 have B0 := Aside0.mk ((Below.refl w.heap.size w).alloc (Nat.le_refl _) (.map #[] 0))
 have M0 : Aside0 (LM w (w.alloc (.map #[] 0)) w.heap.size []) := ⟨⟨KV.Is.made w _, fun s p hp => by simp [KV.get] at hp, fun s t p q hp => by simp [KV.get] at hp⟩⟩
 go_loopg [24, 4] l0.length (fun kq v24 v4 W => ∃ (x : Int) (kv : List (ByteArray × LV)) (keys : List (List V)) (seen : List ByteArray), v24 = .int .i64 x ∧ Aside0 (0 ≤ x ∧ x ≤ l0.length ∧ (kq : Int) = l0.length - x) ∧ Aside0 (LM w W w.heap.size kv) ∧ Aside0 (kRow.R 58 W w.heap.size (KOk w kv) v4 keys) ∧ Aside0 (keys ++ distR seen ((l0.drop x.toNat).map (keyOf l1)) = distR [] (l0.map (keyOf l1)) ∧ keys.length ≤ x ∧ (∀ s, (KV.get kv s).isSome = decide (s ∈ seen)) ∧ (∀ s, ((KV.get kv s).map (·.2)).getD [] = listR l1 (l0.take x.toNat) s) ∧ ∀ s p, KV.get kv s = some p → (p.2.length : Int) ≤ x) ∧ Aside0 (Below w.heap.size w W))
 case atStart => exact ⟨0, [], [], [], rfl, ⟨by omega⟩, M0, ⟨Kd.R_nil _ _ _ _ _⟩, ⟨by simp, by simp, fun s => by simp [KV.get], fun s => by simp [KV.get, listR], fun s p hp => by simp [KV.get] at hp⟩, B0⟩
 case round =>
  clear M0 B0
  obtain ⟨x, kv, keys, seen, rfl, HX, HM, HO, HD, HB⟩ := hrel
  obtain ⟨hx0, hx1, hkq⟩ := HX.out
  by_cases hlt : x < (l0.length : Int)
  · have c1' : decide (x < (l0.length : Int)) = true := decide_eq_true hlt
    have c2 : decide (0 ≤ x) = true := decide_eq_true hx0
    obtain ⟨ad, Ar, cr, e, hx_0, hlc, hrow⟩ := at_L4 HR0.out x hx0 hlt
    cases e
    replace hx_0 := (HB.out.cell (World.block_lt_of_cell? w _ hx_0)).trans hx_0
    have hi : x.toNat < l0.length := by omega
    have hrd : rd_L4 l0 x = l0[x.toNat] := by simp [rd_L4, List.getElem?_eq_getElem hi]
    have hin := HIN.out (rd_L4 l0 x) (by rw [hrd]; exact List.getElem_mem hi)
    have hky := HKEY.out (rd_L4 l0 x) (by rw [hrd]; exact List.getElem_mem hi)
    have hdd := HD.out.1
    rw [drop_cons l0 x.toNat hi, ← hrd, List.map_cons] at hdd
    have htk : l0.take (x + 1).toNat = l0.take x.toNat ++ [rd_L4 l0 x] := by
     rw [show (x + 1).toNat = x.toNat + 1 by omega, take_snoc _ _ hi, hrd]
    obtain ⟨row, hrw⟩ : ∃ row, row = rd_L4 l0 x := ⟨_, rfl⟩
    rw [← hrw] at hx_0 hlc hrow hin hky hdd htk
    have HROW := Aside0.mk hrow
    have HLC := Aside0.mk hlc
    have HINR := Aside0.mk hin
    have HKY := Aside0.mk hky
    have HDD := Aside0.mk hdd
    have HTK := Aside0.mk htk
    have HLT := Aside0.mk hlt
    have HKQ := Aside0.mk hkq
    have HX0 := Aside0.mk hx0
    have HWR : Aside0 (wrap64 (x + 1) = x + 1) := ⟨by have := HN0.out; unfold wrap64; omega⟩
    clear hlc hrow hrd hrw hkq hi hin hky hdd htk
    go_wp2
    obtain ⟨wO, hwO⟩ : ∃ wO, wO = wr := ⟨_, rfl⟩
    subst hwO
    obtain ⟨gO, hgO⟩ : ∃ gO, gO = gk := ⟨_, rfl⟩
    subst hgO
    go_loopg [30, 8] l1.length (fun kq v30 v8 W => ∃ y : Int, v30 = .int .i64 y ∧ Aside0 (0 ≤ y ∧ y ≤ l1.length ∧ (kq : Int) = l1.length - y) ∧ Aside0 (kV.R 27 W wO.heap.size (fun _ => True) v8 ((l1.take y.toNat).map (fun n => rd_T27 row n))) ∧ Aside0 (Below wO.heap.size wO W))
    case atStart => exact ⟨0, rfl, ⟨by omega⟩, ⟨by simpa using Kd.R_nil _ _ _ _ _⟩, ⟨Below.refl _ _⟩⟩
    case round =>
     obtain ⟨y, rfl, HY, HK, HBI⟩ := hrel
     obtain ⟨hy0, hy1, hkq⟩ := HY.out
     by_cases hly : y < (l1.length : Int)
     · have c1 : decide (y < (l1.length : Int)) = true := decide_eq_true hly
       have c2 : decide (0 ≤ y) = true := decide_eq_true hy0
       obtain ⟨ad1, e, hy_0⟩ := Kd.at_int HR1.out y hy0 hly
       cases e
       have hbw : Below w.heap.size w wr := HB.out.trans (HBI.out.mono HB.out.size)
       replace hy_0 := (hbw.cell (World.block_lt_of_cell? w _ hy_0)).trans hy_0
       have hj : y.toNat < l1.length := by omega
       have hrd : rd l1 y = l1[y.toNat] := by simp [rd, List.getElem?_eq_getElem hj]
       obtain ⟨hn0, hn1⟩ := HINR.out (rd l1 y) (by rw [hrd]; exact List.getElem_mem hj)
       have htk2 : (l1.take (y + 1).toNat).map (fun n => rd_T27 row n) = (l1.take y.toNat).map (fun n => rd_T27 row n) ++ [rd_T27 row (rd l1 y)] := by
        rw [show (y + 1).toNat = y.toNat + 1 by omega, take_snoc _ _ hj, List.map_append, hrd]; rfl
       obtain ⟨n, hn⟩ : ∃ n, n = rd l1 y := ⟨_, rfl⟩
       rw [← hn] at hy_0 hn0 hn1 htk2
       have d1 : decide (0 ≤ n) = true := decide_eq_true hn0
       have d2 : decide (n < (row.length : Int)) = true := decide_eq_true hn1
       obtain ⟨adA, e, ha_0, ha_1, ha_2⟩ := at_T27 HROW.out n hn0 hn1
       cases e
       replace ha_0 := (hbw.cell (World.block_lt_of_cell? w _ ha_0)).trans ha_0
       replace ha_1 := (hbw.cell (World.block_lt_of_cell? w _ ha_1)).trans ha_1
       replace ha_2 := (hbw.cell (World.block_lt_of_cell? w _ ha_2)).trans ha_2
       obtain ⟨v, hv⟩ : ∃ v, v = rd_T27 row n := ⟨_, rfl⟩
       rw [← hv] at ha_0 ha_1 ha_2 htk2
       have HTK2 := Aside0.mk htk2
       have HLY := Aside0.mk hly
       have HKQ2 := Aside0.mk hkq
       have HY0 := Aside0.mk hy0
       have HWY : Aside0 (wrap64 (y + 1) = y + 1) := ⟨by have := HN1.out; unfold wrap64; omega⟩
       have HLEN : Aside0 ((((l1.take y.toNat).map (fun n => rd_T27 row n)).length + 1) * 32 ≤ 140737488355328) := ⟨by
        rw [List.length_map, List.length_take]
        have := HN1.out
        omega⟩
       clear htk2 hkq hv hn hrd hj hbw hy1
       go_wp2_with (at_builtin; refine Kd.R_append kV (w0 := wO) wO.heap.size rfl (.tmp 34) (.tmp 39) 58 27 (.agg #[(.int .u8 0), (.int .i64 0), (.string ⟨#[]⟩)]) 32 rfl Tryd.underlying58 infoV rfl (by decide) (by decide) _ _ v [.int .u8 v.f0, .int .i64 v.f1, .string v.f2] (fun _ => True) (fun _ => False) rfl rfl (k27_mkM _ _ _ v) (fun _ h => h.elim) (fun _ _ => trivial) HK.out HBI.out HBI.out.size HLEN.out ?_; intro v6 w6 hR4 hb4 hg4 hat4; have HO4 := Aside0.mk hR4; have HB4 := Aside0.mk hb4; clear hR4 hb4 hg4 hat4)
       have hk := HKQ2.out
       have hly := HLY.out
       have hy0 := HY0.out
       cases gk with
       | zero => omega
       | succ k1 =>
        go_roundg k1
        case measure => omega
        case rel => exact ⟨y + 1, by rw [HWY.out], ⟨by omega⟩, ⟨by rw [HTK2.out]; exact HO4.out⟩, HB4⟩
     · have c1 : decide (y < (l1.length : Int)) = false := decide_eq_false hly
       have hkk : (l1.take y.toNat).map (fun n => rd_T27 row n) = keyOf l1 row := by
        rw [List.take_of_length_le (by omega)]; rfl
       rw [hkk] at HK
       clear hkk HY hy0 hy1 hkq hly
       obtain ⟨key, hkey⟩ : ∃ key, key = keyOf l1 row := ⟨_, rfl⟩
       rw [← hkey] at HK HKY HDD
       have HKE := Aside0.mk hkey
       clear hkey
       obtain ⟨Ak, ck, ek, hlk, hCk⟩ := Kd.R_reads HK.out
       subst ek
       have HCK := Aside0.mk hCk
       have HLK := Aside0.mk hlk
       clear hCk hlk
       have HBB := Aside0.mk (HB.out.trans (HBI.out.mono HB.out.size))
       go_wp2_with fail
       refine (name_calls Ak ck key wr (HT.out.below HBB.out) HCK.out HLK.out HKY.out.1.1 HKY.out.1.2.1 HKY.out.1.2.2).mono ?_
       rintro e wN ⟨rfl, hbn⟩
       have hON : Below wO.heap.size wO wN := HBI.out.trans (hbn.mono HBI.out.size)
       have HSZ := Aside0.mk hON.size
       have HMN := Aside0.mk (HM.out.below hON)
       have HON := Aside0.mk (Kd.R_below HO.out hON)
       have HKN := Aside0.mk (Kd.R_mono (Kd.R_lower (Kd.R_bound (Kd.R_below HK.out hbn)) HB.out.size) (ok' := fun k => wO.heap.size ≤ k) (fun k hk => hk.2.1))
       have HBN := Aside0.mk (HBB.out.trans (hbn.mono HBB.out.size))
       have HFR : Aside0 (∀ k, wO.heap.size ≤ k → KOk w kv k ∧ some k ≠ u4.ownBlock) := ⟨fun k hk => ⟨⟨fun e => by have := HM.out.is.lt; omega, fun s p hp e => by have := Kd.R_lt (HM.out.own s p hp) k e; omega⟩, fun e => by have := Kd.R_lt HO.out k e.symm; omega⟩⟩
       have HKL : Aside0 ((keys.length + 1) * 24 ≤ 140737488355328) := ⟨by have := HD.out.2.1; have := HLT.out; have := HN0.out; omega⟩
       clear hbn hON
       by_cases hz : nameOf key ∈ seen
       · obtain ⟨p, hp⟩ : ∃ p, KV.get kv (nameOf key) = some p := Option.isSome_iff_exists.1 (by rw [HD.out.2.2.1]; exact decide_eq_true hz)
         obtain ⟨v0, r0⟩ := p
         have HGT := Aside0.mk hp
         have HZ := Aside0.mk hz
         have HRO := Aside0.mk (HMN.out.own _ _ hp)
         have HLE : Aside0 ((r0.length : Int) ≤ x) := ⟨HD.out.2.2.2.2 _ _ hp⟩
         have HL2 : Aside0 ((r0.length + 1) * 24 ≤ 140737488355328) := ⟨by have := HLE.out; have := HLT.out; have := HN0.out; omega⟩
         clear hz hp
         go_wp2_with (first
          | (at_lookup; refine KV.law_lookup_ok _ rfl _ _ 74 rfl 9 37 Tryd.underlying9 Tryd.underlying74 (.slice none 0 0) (zeroRows _) w.heap.size (fun p : LV => p.1) kv rfl HMN.out.is (nameOf key) rfl v0 (by rw [HGT.out]; rfl) true (by rw [HGT.out]; rfl) ?_)
          | (at_lookup; refine KV.law_lookup _ rfl _ _ 74 rfl 9 37 Tryd.underlying9 Tryd.underlying74 (.slice none 0 0) (zeroRows _) w.heap.size (fun p : LV => p.1) kv rfl HMN.out.is (nameOf key) rfl v0 (by rw [HGT.out]; rfl) ?_)
          | (at_builtin; refine Kd.R_append (relK w).kd (w0 := w) w.heap.size rfl (.tmp 60) (.tmp 62) 37 58 (.slice none 0 0) 24 rfl Tryd.underlying37 infoRow rfl (Nat.le_refl 1) (by decide) _ r0 row [.slice Ar row.length cr] (fun k => k ≠ w.heap.size) (fun _ => False) rfl rfl ⟨Ar, cr, rfl, HLC.out, HROW.out⟩ (fun _ h => h.elim) (fun k hk e => by have := HMN.out.is.lt; omega) HRO.out HBN.out HBN.out.size HL2.out ?_; intro v7 w7 hR7 hb7 hg7 hat7; have HR7 := Aside0.mk hR7; have HB7 := Aside0.mk hb7; have HG7 := Aside0.mk hg7; have HA7 := Aside0.mk hat7; have HI7 := Aside0.mk (HMN.out.is.grown hg7 (fun e => HRO.out.1 _ e.symm rfl)); clear hR7 hb7 hg7 hat7)
          | (at_mapUpdate; refine KV.law_update _ rfl _ _ _ 74 rfl 9 37 Tryd.underlying9 Tryd.underlying74 w.heap.size (fun p : LV => p.1) kv rfl HI7.out (nameOf key) rfl (v7, r0 ++ [row]) rfl ?_; intro w8 hM8 hg8; have HM8 := Aside0.mk hM8; have HG8 := Aside0.mk hg8; clear hM8 hg8))
         have hlt := HLT.out
         have hk := HKQ.out
         have hx0 := HX0.out
         have hd := HD.out
         cases gO with
         | zero => omega
         | succ k1 =>
          go_roundg k1
          case measure => omega
          case rel =>
           refine ⟨x + 1, KV.put kv (nameOf key) (v7, r0 ++ [row]), keys, seen, by rw [HWR.out], ⟨by omega⟩, ⟨HMN.out.put (.inl HGT.out) HR7.out HG7.out HA7.out HM8.out HG8.out⟩, ⟨KR_put HON.out (.inl HGT.out) HG7.out HA7.out HG8.out⟩, ⟨?_, by omega, ?_, ?_, ?_⟩, ⟨HB7.out.grown HG8.out HB7.out.size (fun k hk => by cases hk; exact Nat.le_refl _)⟩⟩
           · have hdd := HDD.out
             rw [distR, if_pos HZ.out] at hdd
             rw [show (x + 1).toNat = x.toNat + 1 by omega]
             simpa using hdd
           · intro s
             by_cases hs : s = nameOf key
             · subst hs; rw [KV.get_put_same]; simp [HZ.out]
             · rw [KV.get_put_other _ hs, hd.2.2.1]; try simp [hs]
           · rw [HTK.out, HKE.out]
             exact list_put hd.2.2.2.1 (by rw [← HKE.out, HGT.out]; rfl)
           · exact len_put hd.2.2.2.2 _ _ (by have := HLE.out; simp; omega)
       · have hgn : KV.get kv (nameOf key) = none := by
          have := HD.out.2.2.1 (nameOf key)
          rw [decide_eq_false hz] at this
          exact Option.isNone_iff_eq_none.1 (by simpa using this)
         have HGT := Aside0.mk hgn
         have HZ := Aside0.mk hz
         clear hz hgn
         go_wp2_with (first
          | (at_lookup; refine KV.law_lookup_ok _ rfl _ _ 74 rfl 9 37 Tryd.underlying9 Tryd.underlying74 (.slice none 0 0) (zeroRows _) w.heap.size (fun p : LV => p.1) kv rfl HMN.out.is (nameOf key) rfl (.slice none 0 0) (by rw [HGT.out]; rfl) false (by rw [HGT.out]; rfl) ?_)
          | (at_lookup; refine KV.law_lookup _ rfl _ _ 74 rfl 9 37 Tryd.underlying9 Tryd.underlying74 (.slice none 0 0) (zeroRows _) w.heap.size (fun p : LV => p.1) kv rfl HM5.out.is (nameOf key) rfl (.slice none 0 0) (by rw [HGT.out]; rfl) ?_)
          | (at_builtin; refine Kd.R_append kRow (w0 := w) w.heap.size rfl (.tmp 52) (.tmp 54) 37 58 (.slice none 0 0) 24 rfl Tryd.underlying37 infoRow rfl (Nat.le_refl 1) (by decide) _ keys key [.slice Ak key.length ck] (KOk w kv) (fun k => wO.heap.size ≤ k) rfl rfl ⟨_, rfl, HKN.out⟩ HFR.out (fun k hk => (HFR.out k (Nat.le_trans HSZ.out hk)).1) HON.out HBN.out HBN.out.size HKL.out ?_; intro v5 w5 hR5 hb5 hg5 hat5; have HR5 := Aside0.mk hR5; have HB5 := Aside0.mk hb5; have HM5 := Aside0.mk (HMN.out.grown hg5 (fun e => (HON.out.1 _ e.symm).1 rfl) (fun s p hp k hk e => (HON.out.1 k e.symm).2 s p hp hk)); clear hR5 hb5 hg5 hat5)
          | (at_builtin; refine Kd.R_append (relK w).kd (w0 := w) w.heap.size rfl (.tmp 60) (.tmp 62) 37 58 (.slice none 0 0) 24 rfl Tryd.underlying37 infoRow rfl (Nat.le_refl 1) (by decide) _ [] row [.slice Ar row.length cr] (fun k => k ≠ w.heap.size) (fun _ => False) rfl rfl ⟨Ar, cr, rfl, HLC.out, HROW.out⟩ (fun _ h => h.elim) (fun k hk e => by have := HM5.out.is.lt; omega) (Kd.R_nil _ _ _ _ _) HB5.out HB5.out.size (by decide) ?_; intro v7 w7 hR7 hb7 hg7 hat7; have HR7 := Aside0.mk hR7; have HB7 := Aside0.mk hb7; have HG7 := Aside0.mk hg7; have HA7 := Aside0.mk hat7; have HI7 := Aside0.mk (HM5.out.is.grown hg7 (fun e => by cases e)); clear hR7 hb7 hg7 hat7)
          | (at_mapUpdate; refine KV.law_update _ rfl _ _ _ 74 rfl 9 37 Tryd.underlying9 Tryd.underlying74 w.heap.size (fun p : LV => p.1) kv rfl HI7.out (nameOf key) rfl (v7, [] ++ [row]) rfl ?_; intro w8 hM8 hg8; have HM8 := Aside0.mk hM8; have HG8 := Aside0.mk hg8; clear hM8 hg8))
         have hlt := HLT.out
         have hk := HKQ.out
         have hx0 := HX0.out
         have hd := HD.out
         cases gO with
         | zero => omega
         | succ k1 =>
          go_roundg k1
          case measure => omega
          case rel =>
           refine ⟨x + 1, KV.put kv (nameOf key) (v7, [] ++ [row]), keys ++ [key], nameOf key :: seen, by rw [HWR.out], ⟨by omega⟩, ⟨HM5.out.put (v0 := .slice none 0 0) (r0 := []) (.inr ⟨HGT.out, rfl⟩) HR7.out HG7.out HA7.out HM8.out HG8.out⟩, ⟨KR_put (v0 := .slice none 0 0) (r0 := []) HR5.out (.inr ⟨HGT.out, rfl⟩) HG7.out HA7.out HG8.out⟩, ⟨?_, by simp; omega, ?_, ?_, ?_⟩, ⟨HB7.out.grown HG8.out HB7.out.size (fun k hk => by cases hk; exact Nat.le_refl _)⟩⟩
           · have hdd := HDD.out
             rw [distR, if_neg HZ.out] at hdd
             rw [show (x + 1).toNat = x.toNat + 1 by omega]
             simpa using hdd
           · intro s
             by_cases hs : s = nameOf key
             · subst hs; rw [KV.get_put_same]; simp
             · rw [KV.get_put_other _ hs, hd.2.2.1]; try simp [hs]
           · rw [HTK.out, HKE.out]
             exact list_put hd.2.2.2.1 (by rw [← HKE.out, HGT.out]; rfl)
           · exact len_put hd.2.2.2.2 _ _ (by simp; omega)
  · have c1' : decide (x < (l0.length : Int)) = false := decide_eq_false hlt
    have hd := HD.out
    have hks : keys = distR [] (l0.map (keyOf l1)) := by
     have := hd.1
     rw [List.drop_eq_nil_of_le (by omega), List.map_nil, distR, List.append_nil] at this
     exact this
    subst hks
    have HLS : Aside0 (∀ s, ((KV.get kv s).map (·.2)).getD [] = listR l1 l0 s) := ⟨fun s => by
     have := hd.2.2.2.1 s
     rw [List.take_of_length_le (by omega)] at this
     exact this⟩
    have hin : ∀ row ∈ distR [] (l0.map (keyOf l1)), RowOk row ∧ ∀ v ∈ row, validV v = true := fun row hrow => by
     obtain ⟨r, hr, rfl⟩ := List.mem_map.1 (distR_mem _ _ _ hrow)
     exact HKEY.out r hr
    have HGD : Aside0 (∀ row ∈ distR [] (l0.map (keyOf l1)), RowGood [] row) := ⟨fun row hrow => ⟨(hin row hrow).2, (by intro k hk; cases hk), (hin row hrow).1.2.2⟩⟩
    have HLN : Aside0 ((distR [] (l0.map (keyOf l1))).length ≤ 1099511627776) := ⟨by
     have h1 := distR_len (l0.map (keyOf l1)) []
     rw [List.length_map] at h1
     exact Nat.le_trans h1 HN0.out⟩
    obtain ⟨ds, hds⟩ : ∃ ds, ds = distR [] (l0.map (keyOf l1)) := ⟨_, rfl⟩
    rw [← hds] at HLN HGD HO
    have HDS := Aside0.mk hds
    clear HX HD hd hx0 hx1 hlt hkq hds hin
    obtain ⟨Av, cv, ev, hlc, hC⟩ := Kd.R_reads HO.out
    subst ev
    have HC := Aside0.mk hC
    clear hC hlc
    go_wp2_with fail
    refine (arranged_calls Av cv ds none 0 [] wr HC.out (Kd.C_nil _ _) HGD.out HLN.out (by simp)).mono ?_
    rintro e w2 ⟨v2, rfl, hR2, hb2⟩
    have HR2 := Aside0.mk (Kd.R_lower hR2 HB.out.size)
    have HB2 := Aside0.mk (HB.out.trans (hb2.mono HB.out.size))
    have HM2 := Aside0.mk (HM.out.below hb2)
    clear hR2 hb2
    go_wp2
    go_ret2
    refine ⟨v2, w.heap.size, kv, rfl, ?_, HM2.out.is, fun s p hp => ?_, HLS.out, HB2.out⟩
    · unfold keysR
      rw [if_neg HNE.out, ← HDS.out]
      exact HR2.out
    · obtain ⟨A, c, he, hl, hc⟩ := Kd.R_reads (HM2.out.own s p hp)
      exact ⟨A, c, he, hl, relK_C hc HB2.out⟩
open Classical in
theorem groups_nil (A0 : Option Addr) (c0 : Nat) (l0 : List (List V)) (A1 : Option Addr) (c1 : Nat) (w : World) (hr0 : Kd.C kRow w A0 l0.length l0) (hc0 : l0.length ≤ c0) :
 Calls Tryd.prog 32 #[.slice A0 l0.length c0, .slice A1 0 c1] w fun e w' => GroupsPost w [] l0 e w' := by
 have hmm : ∀ (w : World), (Instr.makeMap 74 none).run Tryd.prog w = .ok (.map (some w.heap.size)) (w.alloc (.map #[] 0)) := fun _ => by kernel_rfl
 have HR0 := Aside0.mk hr0
 have HC0 := Aside0.mk hc0
 clear hr0 hc0
 have M0 := Aside0.mk (KV.Is.made w (fun p : LV => p.1))
 have HB0 := Aside0.mk ((Below.refl w.heap.size w).alloc (Nat.le_refl _) (.map #[] 0))
 go_enter Tryd.func32, Tryd.ntmps32
 go_wp2_with (at_mapUpdate; refine KV.law_update _ rfl _ _ _ 74 rfl 9 37 Tryd.underlying9 Tryd.underlying74 w.heap.size (fun p : LV => p.1) [] rfl M0.out (⟨#[]⟩ : ByteArray) rfl ((.slice A0 l0.length c0, l0) : LV) rfl ?_; intro w8 hM8 hg8; have HM8 := Aside0.mk hM8; have HB8 := Aside0.mk (HB0.out.grown hg8 HB0.out.size (fun k hk => by cases hk; exact Nat.le_refl _)); clear hM8 hg8)
 go_ret2
 have hB9 : Below w.heap.size w (w8.alloc (.cells #[.slice none 0 0] 58)) := HB8.out.alloc HB8.out.size _
 refine ⟨_, w.heap.size, _, rfl, ?_, HM8.out.below ((Below.refl _ w8).alloc (Nat.le_refl _) _), fun s p hp => ?_, fun s => ?_, hB9⟩
 · unfold keysR
   rw [if_pos rfl]
   have h := World.ownsRow_lit (base := w.heap.size) (e := 58) (size := 1) w8 #[.slice none 0 0] 1 HB8.out.size (by decide) (by decide)
   refine ⟨fun _ _ => trivial, [.slice none 0 0], h, rfl, fun j p hj => ?_⟩
   cases j with
   | succ j => simp at hj
   | zero =>
    obtain rfl : [] = p := by simpa using hj
    exact ⟨_, rfl, Kd.R_nil _ _ _ _ _⟩
 · simp only [KV.put, KV.get] at hp
   split at hp
   · obtain rfl := Option.some.inj hp
     exact ⟨A0, c0, rfl, HC0.out, Kd.C_below HR0.out hB9⟩
   · cases hp
 · simp only [KV.put, KV.get]
   unfold listR
   have e0 : ∀ r : List V, nameOf (keyOf [] r) = (⟨#[]⟩ : ByteArray) := fun r => rfl
   by_cases hs : (⟨#[]⟩ : ByteArray) = s
   · subst hs
     rw [if_pos rfl]
     exact (List.filter_eq_self.2 (fun r _ => decide_eq_true (e0 r))).symm
   · rw [if_neg hs]
     exact (List.filter_eq_nil_iff.2 (fun r _ => by rw [decide_eq_true_eq, e0]; exact hs)).symm
theorem groups_all (A0 : Option Addr) (c0 : Nat) (l0 : List (List V)) (A1 : Option Addr) (c1 : Nat) (l1 : List Int) (w : World) (hT : LaidT w) (hr0 : Kd.C kRow w A0 l0.length l0) (hc0 : l0.length ≤ c0) (hr1 : Kd.C (Kd.int .i64) w A1 l1.length l1) (hn0 : l0.length ≤ 1099511627776) (hn1 : l1.length ≤ 1099511627776)
 (hin : ∀ row ∈ l0, ∀ n ∈ l1, 0 ≤ n ∧ n < (row.length : Int)) (hkey : ∀ row ∈ l0, RowOk (keyOf l1 row) ∧ ∀ v ∈ keyOf l1 row, validV v = true) :
 Calls Tryd.prog 32 #[.slice A0 l0.length c0, .slice A1 l1.length c1] w fun e w' => GroupsPost w l1 l0 e w' := by
 cases l1 with
 | nil => exact groups_nil A0 c0 l0 A1 c1 w hr0 hc0
 | cons n ns => exact groups_calls A0 c0 l0 A1 c1 (n :: ns) w hT hr0 hr1 hn0 hn1 (by simp) hin hkey
theorem out_far {W : World} {b q : Nat} (hne : q ≠ b) (x0 x1 x2 x3 : Value) (j : Nat) : ((((W.setCell ⟨b, 0, none⟩ x0).setCell ⟨b, 1, none⟩ x1).setCell ⟨b, 2, none⟩ x2).setCell ⟨b, 3, none⟩ x3).cell? ⟨q, j, none⟩ = W.cell? ⟨q, j, none⟩ := by
 have h : ((((W.setCell ⟨b, 0, none⟩ x0).setCell ⟨b, 1, none⟩ x1).setCell ⟨b, 2, none⟩ x2).setCell ⟨b, 3, none⟩ x3).heap[q]? = W.heap[q]? :=
  (Below.heap_setCell _ _ _ q hne).trans ((Below.heap_setCell _ _ _ q hne).trans ((Below.heap_setCell _ _ _ q hne).trans (Below.heap_setCell _ _ _ q hne)))
 simp only [World.cell?, h]
theorem out_belowB {w W : World} {q : Nat} (h : Below w.heap.size w W) (hq : w.heap.size ≤ q) (x0 x1 x2 x3 : Value) : Below w.heap.size w ((((W.setCell ⟨q, 0, none⟩ x0).setCell ⟨q, 1, none⟩ x1).setCell ⟨q, 2, none⟩ x2).setCell ⟨q, 3, none⟩ x3) :=
 (((h.setCell hq _).setCell hq _).setCell hq _).setCell hq _
theorem cells3 {W W1 : World} {b : Nat} {u0 u1 u2 : Value} (hb : Below W.heap.size W W1) (h : W.cell? ⟨b, 0, none⟩ = some u0 ∧ W.cell? ⟨b, 1, none⟩ = some u1 ∧ W.cell? ⟨b, 2, none⟩ = some u2) : W1.cell? ⟨b, 0, none⟩ = some u0 ∧ W1.cell? ⟨b, 1, none⟩ = some u1 ∧ W1.cell? ⟨b, 2, none⟩ = some u2 :=
 ⟨cB_ hb h.1, cB_ hb h.2.1, cB_ hb h.2.2⟩
theorem far3 {W : World} {b q : Nat} {u0 u1 u2 x0 x1 x2 x3 : Value} (hne : q ≠ b) (h : W.cell? ⟨q, 0, none⟩ = some u0 ∧ W.cell? ⟨q, 1, none⟩ = some u1 ∧ W.cell? ⟨q, 2, none⟩ = some u2) :
 ((((W.setCell ⟨b, 0, none⟩ x0).setCell ⟨b, 1, none⟩ x1).setCell ⟨b, 2, none⟩ x2).setCell ⟨b, 3, none⟩ x3).cell? ⟨q, 0, none⟩ = some u0 ∧ ((((W.setCell ⟨b, 0, none⟩ x0).setCell ⟨b, 1, none⟩ x1).setCell ⟨b, 2, none⟩ x2).setCell ⟨b, 3, none⟩ x3).cell? ⟨q, 1, none⟩ = some u1 ∧ ((((W.setCell ⟨b, 0, none⟩ x0).setCell ⟨b, 1, none⟩ x1).setCell ⟨b, 2, none⟩ x2).setCell ⟨b, 3, none⟩ x3).cell? ⟨q, 2, none⟩ = some u2 :=
 ⟨(out_far hne _ _ _ _ 0).trans h.1, (out_far hne _ _ _ _ 1).trans h.2.1, (out_far hne _ _ _ _ 2).trans h.2.2⟩
theorem out2_cells {W : World} {q : Nat} {t : TypeId} {a b : Value} (h : W.heap[q]? = some (.cells #[a, b] t (0, 0))) (x0 x1 : Value) : ((W.setCell ⟨q, 0, none⟩ x0).setCell ⟨q, 1, none⟩ x1).heap[q]? = some (.cells #[x0, x1] t (0, 0)) :=
 blk_put (cs := #[x0, b]) (blk_put (cs := #[a, b]) h 0 _ rfl) 1 _ rfl
theorem out2_below {w W : World} {q : Nat} (h : Below w.heap.size w W) (hq : w.heap.size ≤ q) (x0 x1 : Value) : Below w.heap.size w ((W.setCell ⟨q, 0, none⟩ x0).setCell ⟨q, 1, none⟩ x1) := (h.setCell hq _).setCell hq _
theorem group_good (A0 : Option Addr) (c0 : Nat) (l0 : List (List V)) (A1 : Option Addr) (c1 : Nat) (l1 : List Int) (A2 : Option Addr) (c2 : Nat) (l2 : List AggT) (w : World) (hr0 : Kd.C kRow w A0 l0.length l0) (hc0 : l0.length ≤ c0) (hr1 : Kd.C (Kd.int .i64) w A1 l1.length l1) (hr2 : Kd.C kAgg w A2 l2.length l2) (hT : LaidT w) (hok : GroupOk l0 l1 l2) (hg : groupableB l0 l1 l2 = true) (grs : List (List V)) (ger : Int) (hG : groupG l0 l1 l2 = (grs, ger)) :
 Calls Tryd.prog 15 #[.slice A0 l0.length c0, .slice A1 l1.length c1, .slice A2 l2.length c2] w fun e w' => ∃ v0_ : Value, e = .returned (.agg #[v0_, .int .i64 ger]) ∧ Kd.V kRow 58 w' w.heap.size (fun k_ => (w.heap.size ≤ k_)) v0_ grs ∧ Below w.heap.size w w' := by
 obtain ⟨hv, hin, hag⟩ := groupable_parts hg
 have HGG : Aside0 (rowsOf l1 l0 l2 (keysR l1 l0) [] = (grs, ger)) := ⟨by rw [← hG]; unfold groupG; rw [if_pos hg]⟩
 have HAG := Aside0.mk hag
 clear hag hg hG
 obtain ⟨k, hk⟩ := (valid_ev l0 hok.rows.v).rounds
 rw [hv] at hk
 have HK := Aside0.mk hk
 have HV := Aside0.mk hv
 have HIN := Aside0.mk hin
 have HOK := Aside0.mk hok
 have HT := Aside0.mk hT
 have HR0 := Aside0.mk hr0
 have HC0 := Aside0.mk hc0
 have HR1 := Aside0.mk hr1
 have HR2 := Aside0.mk hr2
 clear hk hv hin hok hT hr0 hc0 hr1 hr2
 go_enter Tryd.func15, Tryd.ntmps15
 go_wp2_with (first
  | ((with_reducible refine gate_dst (N := 6) rfl ?_); refine box_event ?hg (N := 6) ?hd (cs := #[.slice none 0 0, .int .i64 0]) (t := 41) ?hr ?_; (case hd => rfl); (case hg => rfl); (case hr => first | (go_simp; done) | (go_simp; rfl)); intro q hq W hN hb1; have HB1 := Aside0.mk hb1; have HQ := Aside0.mk hq; have HN0 := Aside0.mk hN; clear hb1 hq hN)
  | ((with_reducible refine gate_dst (N := 7) rfl ?_); refine box_event ?hg (N := 7) ?hd (cs := #[.slice none 0 0, .int .i64 0]) (t := 41) ?hr ?_; (case hd => rfl); (case hg => rfl); (case hr => first | (go_simp; done) | (go_simp; rfl)); intro q2 hq2 W2 hN2 hb2; have HN1 := Aside0.mk ((hb2.block q (blk_lt HN0.out)).trans HN0.out); have HB2 := Aside0.mk (HB1.out.trans (hb2.mono HB1.out.size)); have HQ2 := Aside0.mk hq2; have HN2 := Aside0.mk hN2; have X0 : W2.cell? ⟨q2, 0, none⟩ = some (.slice none 0 0) := (blk_cell hN2 0).trans rfl; have X1 : W2.cell? ⟨q2, 1, none⟩ = some (.int .i64 0) := (blk_cell hN2 1).trans rfl; have X2 : ∀ j, W2.frozen? ⟨q2, j, none⟩ = false := (fun j => by simp [World.frozen?, hN2]); clear hb2 hq2 hN2))
 have hB3 : Below w.heap.size w ((W2.setCell ⟨q2, 0, none⟩ (.slice none 0 0)).setCell ⟨q2, 1, none⟩ (.int .i64 1)) := out2_below HB2.out (by rw [HQ2.out]; exact HB1.out.size) _ _
 have hq12 : q ≠ q2 := fun e => by have := blk_lt HN0.out; have := HQ2.out; omega
 have hN3 : ((W2.setCell ⟨q2, 0, none⟩ (.slice none 0 0)).setCell ⟨q2, 1, none⟩ (.int .i64 1)).heap[q]? = some (.cells #[.slice none 0 0, .int .i64 0] 41 (0, 0)) := (Below.heap_setCell _ _ _ q hq12).trans ((Below.heap_setCell _ _ _ q hq12).trans HN1.out)
 have HB3 := Aside0.mk hB3
 have HN3 := Aside0.mk hN3
 clear hB3 hq12 hN3 X0 X1 X2 HN1 HN2 HB2 HN0
 refine (bag_Valid.calls k _ _ l0 true _ (Kd.C_below HR0.out HB3.out) HC0.out HK.out).mono ?_
 rintro e w3 ⟨rfl, hb3⟩
 have HN4 := Aside0.mk ((hb3.block q (blk_lt HN3.out)).trans HN3.out)
 have HB4 := Aside0.mk (HB3.out.trans (hb3.mono HB3.out.size))
 have HQW : Aside0 (w.heap.size ≤ q) := ⟨Nat.le_of_eq HQ.out.symm⟩
 clear hb3 HN3 HB3 HB1 HQ2 HQ
 go_wp2
 go_loopg [29] l1.length (fun kq v29 W => ∃ x : Int, v29 = .int .i64 x ∧ Aside0 (0 ≤ x ∧ x ≤ l1.length ∧ (kq : Int) = l1.length - x) ∧ Aside0 (W.heap[q]? = some (.cells #[.slice none 0 0, .int .i64 0] 41 (0, 0))) ∧ Aside0 (Below w.heap.size w W))
 case atStart => exact ⟨0, rfl, ⟨by omega⟩, HN4, HB4⟩
 case round =>
  clear HN4 HB4
  obtain ⟨x, rfl, HX, HN, HB⟩ := hrel
  obtain ⟨hx0, hx1, hkq⟩ := HX.out
  by_cases hlt : x < (l1.length : Int)
  · have d1 : decide (x < (l1.length : Int)) = true := decide_eq_true hlt
    have d2 : decide (0 ≤ x) = true := decide_eq_true hx0
    obtain ⟨ad, e, hx_0⟩ := Kd.at_int HR1.out x hx0 hlt
    cases e
    replace hx_0 := (HB.out.cell (World.block_lt_of_cell? w _ hx_0)).trans hx_0
    have hj : x.toNat < l1.length := by omega
    have hrd : rd l1 x = l1[x.toNat] := by simp [rd, List.getElem?_eq_getElem hj]
    have hh := HIN.out (rd l1 x) (by rw [hrd]; exact List.getElem_mem hj)
    obtain ⟨n, hn⟩ : ∃ n, n = rd l1 x := ⟨_, rfl⟩
    rw [← hn] at hx_0 hh
    have HH := Aside0.mk hh
    have HLT := Aside0.mk hlt
    have HKQ := Aside0.mk hkq
    have HX0 := Aside0.mk hx0
    have HWR : Aside0 (wrap64 (x + 1) = x + 1) := ⟨by have := HOK.out.cn; unfold wrap64; omega⟩
    clear hn hrd hj hh hkq
    go_wp2_with fail
    refine (bag_has.calls A0 c0 l0 n true wr (Kd.C_below HR0.out HB.out) HC0.out (by rw [has_eq, HH.out])).mono ?_
    rintro e w5 ⟨rfl, ⟨nd, rfl⟩⟩
    go_wp2
    have hlt := HLT.out
    have hk := HKQ.out
    have hx0 := HX0.out
    cases gk with
    | zero => omega
    | succ k1 =>
     go_roundg k1
     case measure => omega
     case rel => exact ⟨x + 1, by rw [HWR.out], ⟨by omega⟩, HN, ⟨bN_ HB.out nd⟩⟩
  · have d1 : decide (x < (l1.length : Int)) = false := decide_eq_false hlt
    clear HX hx0 hx1 hkq hlt
    go_wp2
    go_loopg [41] l2.length (fun kq v41 W => ∃ x : Int, v41 = .int .i64 x ∧ Aside0 (0 ≤ x ∧ x ≤ l2.length ∧ (kq : Int) = l2.length - x) ∧ Aside0 (W.heap[q]? = some (.cells #[.slice none 0 0, .int .i64 0] 41 (0, 0))) ∧ Aside0 (Below w.heap.size w W))
    case atStart => exact ⟨0, rfl, ⟨by omega⟩, HN, HB⟩
    case round =>
     clear HN HB
     obtain ⟨x, rfl, HX, HN, HB⟩ := hrel
     obtain ⟨hx0, hx1, hkq⟩ := HX.out
     by_cases hlt : x < (l2.length : Int)
     · have d1 : decide (x < (l2.length : Int)) = true := decide_eq_true hlt
       have d2 : decide (0 ≤ x) = true := decide_eq_true hx0
       obtain ⟨ad, e, hx_0, hx_1, hx_2⟩ := at_T47 HR2.out x hx0 hlt
       cases e
       replace hx_0 := (HB.out.cell (World.block_lt_of_cell? w _ hx_0)).trans hx_0
       replace hx_1 := (HB.out.cell (World.block_lt_of_cell? w _ hx_1)).trans hx_1
       replace hx_2 := (HB.out.cell (World.block_lt_of_cell? w _ hx_2)).trans hx_2
       have hj : x.toNat < l2.length := by omega
       have hrd : rd_T47 l2 x = l2[x.toNat] := by simp [rd_T47, List.getElem?_eq_getElem hj]
       have hao := HAG.out (rd_T47 l2 x) (by rw [hrd]; exact List.getElem_mem hj)
       have hfn := HOK.out.fn (rd_T47 l2 x) (by rw [hrd]; exact List.getElem_mem hj)
       have hvals := HOK.out.vals (rd_T47 l2 x) (by rw [hrd]; exact List.getElem_mem hj)
       obtain ⟨a, ha⟩ : ∃ a, a = rd_T47 l2 x := ⟨_, rfl⟩
       rw [← ha] at hx_0 hx_1 hx_2 hao hfn hvals
       obtain ⟨f0, f1, f2⟩ := a
       dsimp only at hx_0 hx_1 hx_2
       have HLT := Aside0.mk hlt
       have HKQ := Aside0.mk hkq
       have HX0 := Aside0.mk hx0
       have HWR : Aside0 (wrap64 (x + 1) = x + 1) := ⟨by have := HOK.out.an; unfold wrap64; omega⟩
       clear hrd hj hkq ha
       by_cases h0 : f0 = 0
       · have h12 : f1 = 0 ∧ f2 = false := by
          unfold aggOkB at hao
          rw [if_pos h0] at hao
          exact of_decide_eq_true hao
         obtain ⟨rfl, rfl⟩ := h12
         subst h0
         clear hao hfn hvals
         go_wp2
         have hlt := HLT.out
         have hk := HKQ.out
         have hx0 := HX0.out
         cases gk with
         | zero => omega
         | succ k1 =>
          go_roundg k1
          case measure => omega
          case rel => exact ⟨x + 1, by rw [HWR.out], ⟨by omega⟩, ⟨(Below.heap_alloc wr _ q (blk_lt HN.out)).trans HN.out⟩, ⟨HB.out.alloc HB.out.size _⟩⟩
       · unfold aggOkB at hao
         rw [if_neg h0, Bool.and_eq_true] at hao
         have HHE : Aside0 (bag_has.f l0 f1 = some true) := ⟨by rw [has_eq]; exact congrArg some hao.1⟩
         obtain ⟨kc, hkc⟩ := (columnOf_ev l0 f1 (by
          have h1 := hao.1
          unfold hasB at h1
          cases hl : l0 with
          | nil => rw [hl] at h1; exact (of_decide_eq_true h1).1
          | cons r rs => rw [hl] at h1; exact (of_decide_eq_true h1).1) HOK.out.rows.2).rounds
         obtain ⟨ka, hka⟩ := (allowed_ev f0 f2 (columnR l0 f1) (fun v hv => by
          obtain ⟨row, hrow, rfl⟩ := List.mem_map.1 hv
          exact (hvals row hrow).1 _ (by simp)) (by rw [columnR, List.length_map]; exact HOK.out.rows.2)).rounds
         rw [hao.2] at hka
         have HKC2 := Aside0.mk hkc
         have HKA := Aside0.mk hka
         have z1 : (f0 == 0) = false := by simp [h0]
         have z2 : decide (f0 = 0) = false := decide_eq_false h0
         clear hkc hka hao hfn hvals h0
         obtain ⟨W5, hW5⟩ : ∃ W5, W5 = wr.alloc (.cells #[.int .u8 f0, .int .i64 f1, .bool f2] 47) := ⟨_, rfl⟩
         have HD5 : Aside0 (W5.cell? ⟨wr.heap.size, 0, none⟩ = some (.int .u8 f0) ∧ W5.cell? ⟨wr.heap.size, 1, none⟩ = some (.int .i64 f1) ∧ W5.cell? ⟨wr.heap.size, 2, none⟩ = some (.bool f2)) := ⟨by
          rw [hW5]
          exact ⟨(blk_cell (heap_alloc_new _ _) 0).trans rfl, (blk_cell (heap_alloc_new _ _) 1).trans rfl, (blk_cell (heap_alloc_new _ _) 2).trans rfl⟩⟩
         have HB5 : Aside0 (Below wr.heap.size wr W5) := ⟨by rw [hW5]; exact (Below.refl _ wr).alloc (Nat.le_refl _) _⟩
         have HE5 : Aside0 (W5.drew.cell? ⟨wr.heap.size, 0, none⟩ = some (.int .u8 f0) ∧ W5.drew.cell? ⟨wr.heap.size, 1, none⟩ = some (.int .i64 f1) ∧ W5.drew.cell? ⟨wr.heap.size, 2, none⟩ = some (.bool f2)) := ⟨HD5.out⟩
         have HC5 : Aside0 (∀ W', Below W5.heap.size W5 W' → kRow.C W' A0 l0.length l0) := ⟨fun W' hb => Kd.C_below HR0.out (HB.out.trans ((HB5.out.trans (hb.mono HB5.out.size)).mono HB.out.size))⟩
         have HBE : Aside0 (Below W5.heap.size W5 W5.drew) := ⟨(Below.refl _ W5).drew⟩
         go_wp2_with fail
         rw [← hW5]
         have HW5 := Aside0.mk hW5
         clear hW5
         go_region_held3 (fun W' => (W'.cell? ⟨wr.heap.size, 0, none⟩ = some (.int .u8 f0) ∧ W'.cell? ⟨wr.heap.size, 1, none⟩ = some (.int .i64 f1) ∧ W'.cell? ⟨wr.heap.size, 2, none⟩ = some (.bool f2))) (first | (with_reducible exact HD5.out) | (with_reducible exact HE5.out) | (with_reducible exact HS6.out) | (with_reducible exact HS7.out) | (with_reducible exact HS8.out)) (first
          | (go_at_call 30; (with_reducible refine (bag_has.calls A0 c0 l0 f1 true W5.drew (HC5.out _ HBE.out) HC0.out HHE.out).mono ?_); rintro e w6 ⟨rfl, ⟨nd, hd6⟩⟩; have HB6 : Aside0 (Below W5.heap.size W5 w6) := ⟨by rw [hd6]; exact bN_ HBE.out nd⟩; have HS6 : Aside0 (w6.cell? ⟨wr.heap.size, 0, none⟩ = some (.int .u8 f0) ∧ w6.cell? ⟨wr.heap.size, 1, none⟩ = some (.int .i64 f1) ∧ w6.cell? ⟨wr.heap.size, 2, none⟩ = some (.bool f2)) := ⟨cells3 HB6.out HD5.out⟩; clear hd6)
          | (go_at_call 31; (with_reducible refine (bag_columnOf.calls kc A0 c0 l0 f1 (columnR l0 f1) w6 (HC5.out _ HB6.out) HC0.out HKC2.out).mono ?_); rintro e w7 ⟨vc, rfl, hRc, hb7⟩; obtain ⟨Ac, cc, ec, hcc, hCc⟩ := Kd.R_reads hRc; subst ec; have hb57 : Below W5.heap.size W5 w7 := HB6.out.trans (hb7.mono HB6.out.size); have HS7 : Aside0 (w7.cell? ⟨wr.heap.size, 0, none⟩ = some (.int .u8 f0) ∧ w7.cell? ⟨wr.heap.size, 1, none⟩ = some (.int .i64 f1) ∧ w7.cell? ⟨wr.heap.size, 2, none⟩ = some (.bool f2)) := ⟨cells3 hb57 HD5.out⟩; have HCC := Aside0.mk hCc; have HCN := Aside0.mk hcc; have HB7 := Aside0.mk hb57; clear hb57 hRc hb7 hcc hCc)
          | (go_at_call 27; (with_reducible refine (bag_allowed.calls ka f0 f2 Ac cc (columnR l0 f1) true w7 HCC.out HCN.out HKA.out).mono ?_); rintro e w8 ⟨rfl, hb8⟩; have hb58 : Below W5.heap.size W5 w8 := HB7.out.trans (hb8.mono HB7.out.size); have HS8 : Aside0 (w8.cell? ⟨wr.heap.size, 0, none⟩ = some (.int .u8 f0) ∧ w8.cell? ⟨wr.heap.size, 1, none⟩ = some (.int .i64 f1) ∧ w8.cell? ⟨wr.heap.size, 2, none⟩ = some (.bool f2)) := ⟨cells3 hb58 HD5.out⟩; have HB8 := Aside0.mk hb58; clear hb58 hb8))
         go_wp2
         have hlt := HLT.out
         have hk := HKQ.out
         have hx0 := HX0.out
         have HBR := Aside0.mk (HB5.out.trans (HB8.out.mono HB5.out.size))
         cases gk with
         | zero => omega
         | succ k1 =>
          go_roundg k1
          case measure => omega
          case rel => exact ⟨x + 1, by rw [HWR.out], ⟨by omega⟩, ⟨(HBR.out.block q (blk_lt HN.out)).trans HN.out⟩, ⟨HB.out.trans (HBR.out.mono HB.out.size)⟩⟩
     · have d1 : decide (x < (l2.length : Int)) = false := decide_eq_false hlt
       clear HX hx0 hx1 hkq hlt
       have hlen : ∀ row ∈ l0, ∀ n ∈ l1, 0 ≤ n ∧ n < (row.length : Int) := fun row hrow n hn => by
        have h1 := HIN.out n hn
        cases hl : l0 with
        | nil => rw [hl] at hrow; cases hrow
        | cons r rs =>
         rw [hl] at h1 hrow
         have h2 := validB_len (hl ▸ HV.out) row hrow
         have := of_decide_eq_true h1
         omega
       have hval : ∀ row ∈ l0, ∀ v ∈ keyOf l1 row, validV v = true := fun row hrow v hv => by
        obtain ⟨n, hn, rfl⟩ := List.mem_map.1 hv
        have h1 := hlen row hrow n hn
        have h2 : n.toNat < row.length := by omega
        have : rd_T27 row n = row[n.toNat] := by simp [rd_T27, List.getElem?_eq_getElem h2]
        rw [this]
        exact validB_valid HV.out row hrow _ (List.getElem_mem h2)
       have HGC := Aside0.mk (groups_all A0 c0 l0 A1 c1 l1 wr (HT.out.below HB.out) (Kd.C_below HR0.out HB.out) HC0.out (Kd.C_below HR1.out HB.out) HOK.out.rows.2 HOK.out.cn hlen (fun row hrow => ⟨HOK.out.keys row hrow, hval row hrow⟩))
       clear hlen hval
       go_wp2_with fail
       refine HGC.out.mono ?_
       rintro e wK ⟨vk, m, kv, rfl, hRk, hIs, hCk, hLk, hbK⟩
       have HRK := Aside0.mk hRk
       have HIS := Aside0.mk hIs
       have HCL : Aside0 (∀ s, ∃ A c, ((KV.get kv s).map (fun p : LV => p.1)).getD (.slice none 0 0) = .slice A (listR l1 l0 s).length c ∧ (listR l1 l0 s).length ≤ c ∧ kRow.C wK A (listR l1 l0 s).length (listR l1 l0 s)) := ⟨fun s => by
        rw [← hLk s]
        cases hg : KV.get kv s with
        | none => exact ⟨none, 0, rfl, Nat.le_refl _, Kd.C_nil _ _⟩
        | some p =>
         obtain ⟨A, c, h1, h2, h3⟩ := hCk s p hg
         exact ⟨A, c, h1, h2, h3⟩⟩
       have HNK := Aside0.mk ((hbK.block q (blk_lt HN.out)).trans HN.out)
       have HBK := Aside0.mk (HB.out.trans (hbK.mono HB.out.size))
       clear hRk hIs hCk hLk hbK HGC HN HB
       obtain ⟨Ak, ck, ek, hlk, hKC⟩ := Kd.R_reads HRK.out
       subst ek
       have HKC := Aside0.mk hKC
       clear hlk hKC HRK
       obtain ⟨keys, hkeys⟩ : ∃ keys, keys = keysR l1 l0 := ⟨_, rfl⟩
       have HKO := Aside0.mk HOK.out.keyn
       have HKN := Aside0.mk HOK.out.keysn
       rw [← hkeys] at HKC HKO HKN HGG
       rw [← hkeys]
       have HKS := Aside0.mk hkeys
       clear hkeys
       go_wp2
       go_loopg [91, 14] keys.length (fun kq v91 v14 W => ∃ x : Int, v91 = .int .i64 x ∧ Aside0 (0 ≤ x ∧ x ≤ keys.length ∧ (kq : Int) = keys.length - x) ∧ Aside0 (∃ acc : List (List V), kRow.R 58 W wK.heap.size (fun _ => True) v14 acc ∧ rowsOf l1 l0 l2 (keys.drop x.toNat) acc = (grs, ger) ∧ acc.length ≤ x.toNat) ∧ Aside0 (Below wK.heap.size wK W))
       case atStart => exact ⟨0, rfl, ⟨by omega⟩, ⟨[], Kd.R_nil _ _ _ _ _, by simpa using HGG.out, Nat.le_refl _⟩, ⟨Below.refl _ _⟩⟩
       case round =>
        clear HGG
        obtain ⟨x, rfl, HX, HE, HB⟩ := hrel
        obtain ⟨acc, hO, hacc, hal⟩ := HE.out
        have HO := Aside0.mk hO
        have HACC := Aside0.mk hacc
        have HAL := Aside0.mk hal
        clear HE hO hacc hal
        obtain ⟨hx0, hx1, hkq⟩ := HX.out
        by_cases hlt : x < (keys.length : Int)
        · have d1 : decide (x < (keys.length : Int)) = true := decide_eq_true hlt
          have d2 : decide (0 ≤ x) = true := decide_eq_true hx0
          obtain ⟨ad, Ar, cr, e, hx_0, hlc, hrow⟩ := at_L4 HKC.out x hx0 hlt
          cases e
          replace hx_0 := (HB.out.cell (World.block_lt_of_cell? wK _ hx_0)).trans hx_0
          have hi : x.toNat < keys.length := by omega
          have hrd : rd_L4 keys x = keys[x.toNat] := by simp [rd_L4, List.getElem?_eq_getElem hi]
          have hky := HKO.out (rd_L4 keys x) (by rw [hrd]; exact List.getElem_mem hi)
          have htk : keys.drop x.toNat = rd_L4 keys x :: keys.drop (x + 1).toNat := by
           rw [drop_cons _ _ hi, hrd, show (x + 1).toNat = x.toNat + 1 by omega]
          obtain ⟨key, hkey⟩ : ∃ key, key = rd_L4 keys x := ⟨_, rfl⟩
          rw [← hkey] at hx_0 hlc hrow hky htk
          have HROW := Aside0.mk hrow
          have HLC := Aside0.mk hlc
          have HKY := Aside0.mk hky
          rw [htk] at HACC
          have HLT := Aside0.mk hlt
          have HKQ := Aside0.mk hkq
          have HX0 := Aside0.mk hx0
          have HWR : Aside0 (wrap64 (x + 1) = x + 1) := ⟨by have := HKN.out; unfold wrap64; omega⟩
          clear hrow hlc hky htk hkey hrd hi hkq
          have HBW := Aside0.mk (HBK.out.trans (HB.out.mono HBK.out.size))
          go_wp2_with fail
          refine (name_calls Ar cr key wr (HT.out.below HBW.out) (Kd.C_below HROW.out HB.out) HLC.out HKY.out.1 HKY.out.2.1 HKY.out.2.2).mono ?_
          rintro e wN ⟨rfl, hbn⟩
          obtain ⟨wO, hwO⟩ : ∃ wO, wO = wr := ⟨_, rfl⟩
          subst hwO
          obtain ⟨gO, hgO⟩ : ∃ gO, gO = gk := ⟨_, rfl⟩
          subst hgO
          have HBN := Aside0.mk hbn
          have HISN := Aside0.mk (HIS.out.below (HB.out.trans (hbn.mono HB.out.size)))
          obtain ⟨Al, cl, hul, hlc2, hcl2⟩ := HCL.out (nameOf key)
          obtain ⟨ls, hls⟩ : ∃ ls, ls = listR l1 l0 (nameOf key) := ⟨_, rfl⟩
          rw [← hls] at hul hlc2 hcl2
          have HUL := Aside0.mk hul
          have HLC2 := Aside0.mk hlc2
          have HCL2 := Aside0.mk hcl2
          have HLS := Aside0.mk hls
          have HKEYN : Aside0 (kV.C wN Ar key.length key) := ⟨Kd.C_below HROW.out (HB.out.trans (hbn.mono HB.out.size))⟩
          clear hul hlc2 hcl2 hls hbn
          have HE0 : Aside0 (Kd.R kV 27 (wN.alloc (.cells #[] 27)) wN.heap.size (fun _ => True) (.slice (some ⟨wN.heap.size, 0, none⟩) 0 0) []) := ⟨R_empty kV 27 wN⟩
          have HE1 := Aside0.mk ((Below.refl wN.heap.size wN).alloc (Nat.le_refl _) (.cells #[] 27))
          go_wp2_with (first
           | (at_lookup; refine KV.law_lookup _ rfl _ _ 74 rfl 9 37 Tryd.underlying9 Tryd.underlying74 (.slice none 0 0) (zeroRows _) m (fun p : LV => p.1) kv rfl HISN.out (nameOf key) rfl (.slice Al ls.length cl) HUL.out ?_)
           | (at_builtin; refine Kd.R_append_rows kV (w0 := wN) wN.heap.size rfl (.tmp 99) (.tmp 100) 58 27 (.agg #[(.int .u8 0), (.int .i64 0), (.string ⟨#[]⟩)]) 32 rfl Tryd.underlying58 infoV rfl (by decide) (by decide) _ [] key Ar key.length cr (fun _ => True) (fun _ => False) rfl rfl HE0.out (Kd.C_below HKEYN.out HE1.out) (fun x cs h => by obtain rfl := k27_open h; exact k27_mkM _ _ _ x) (fun _ h => h.elim) (fun _ _ => trivial) HE1.out HE1.out.size (by have := HKY.out.2.2; simp; omega) ?_; intro v1 w1 hR hb hg hat; have HK1 := Aside0.mk hR; have HBI := Aside0.mk hb; clear hR hb hg hat))
          have HLSUB : Aside0 (∀ row ∈ ls, row ∈ l0) := ⟨fun row hrow => by
           rw [HLS.out] at hrow
           exact (List.mem_filter.1 hrow).1⟩
          have HLLEN : Aside0 (ls.length ≤ l0.length) := ⟨by rw [HLS.out]; exact List.length_filter_le _ _⟩
          have HACC2 : Aside0 ((if (rowOf ls l2 key).2 = 0 then rowsOf l1 l0 l2 (keys.drop (x + 1).toNat) (acc ++ [(rowOf ls l2 key).1]) else ([], (rowOf ls l2 key).2)) = (grs, ger)) := ⟨by
           have := HACC.out
           simp only [rowsOf] at this
           rw [← HLS.out] at this
           exact this⟩
          clear HACC
          have HBO : Aside0 (Below wK.heap.size wK wN) := ⟨HB.out.trans (HBN.out.mono HB.out.size)⟩
          go_loopg [104, 18] l2.length (fun kq v104 v18 W => ∃ y : Int, v104 = .int .i64 y ∧ Aside0 (0 ≤ y ∧ y ≤ l2.length ∧ (kq : Int) = l2.length - y) ∧ Aside0 (∃ r : List V, kV.R 27 W wN.heap.size (fun _ => True) v18 r ∧ rowOf ls (l2.drop y.toNat) r = rowOf ls l2 key ∧ (r.length : Int) = key.length + y) ∧ Aside0 (Below wN.heap.size wN W))
          case atStart => exact ⟨0, rfl, ⟨by omega⟩, ⟨key, by simpa using HK1.out, rfl, by omega⟩, HBI⟩
          case round =>
           clear HK1 HBI
           obtain ⟨y, rfl, HY, HE, HBI⟩ := hrel
           obtain ⟨r, hR, hro, hrl⟩ := HE.out
           have HKR := Aside0.mk hR
           have HRO := Aside0.mk hro
           have HRL := Aside0.mk hrl
           clear HE hR hro hrl
           obtain ⟨hy0, hy1, hkq⟩ := HY.out
           by_cases hly : y < (l2.length : Int)
           · have d1 : decide (y < (l2.length : Int)) = true := decide_eq_true hly
             have d2 : decide (0 ≤ y) = true := decide_eq_true hy0
             have hbww : Below w.heap.size w wr := HBK.out.trans ((HBO.out.trans (HBI.out.mono HBO.out.size)).mono HBK.out.size)
             obtain ⟨ad2, e, hx_0, hx_1, hx_2⟩ := at_T47 HR2.out y hy0 hly
             cases e
             replace hx_0 := (hbww.cell (World.block_lt_of_cell? w _ hx_0)).trans hx_0
             replace hx_1 := (hbww.cell (World.block_lt_of_cell? w _ hx_1)).trans hx_1
             replace hx_2 := (hbww.cell (World.block_lt_of_cell? w _ hx_2)).trans hx_2
             have hj : y.toNat < l2.length := by omega
             have hrd : rd_T47 l2 y = l2[y.toNat] := by simp [rd_T47, List.getElem?_eq_getElem hj]
             have hmem : rd_T47 l2 y ∈ l2 := by rw [hrd]; exact List.getElem_mem hj
             have hdr : l2.drop y.toNat = rd_T47 l2 y :: l2.drop (y + 1).toNat := by
              rw [drop_cons _ _ hj, hrd, show (y + 1).toNat = y.toNat + 1 by omega]
             have hag := agg_ok HOK.out HV.out hmem HLSUB.out HLLEN.out
             have hcol := aggOk_col (HAG.out _ hmem)
             obtain ⟨a, ha⟩ : ∃ a, a = rd_T47 l2 y := ⟨_, rfl⟩
             rw [← ha] at hx_0 hx_1 hx_2 hag hcol hdr
             obtain ⟨⟨r0, r1, r2, r3⟩, hr⟩ : ∃ R, aggR a.f0 a.f2 (columnR ls a.f1) = R := ⟨_, rfl⟩
             have hro := HRO.out
             rw [hdr, rowOf_snoc hr] at hro
             rw [hr] at hag
             obtain ⟨f0, f1, f2⟩ := a
             dsimp only at hx_0 hx_1 hx_2 hag hcol
             have HAGG := Aside0.mk hag
             have HRO2 := Aside0.mk hro
             obtain ⟨kc, hkc⟩ := (columnOf_ev ls f1 hcol (Nat.le_trans HLLEN.out HOK.out.rows.2)).rounds
             have HKC2 := Aside0.mk hkc
             clear hkc hag hro hr ha hdr hmem hcol HRO
             have HLY := Aside0.mk hly
             have HKQ2 := Aside0.mk hkq
             have HY0 := Aside0.mk hy0
             have HWY : Aside0 (wrap64 (y + 1) = y + 1) := ⟨by have := HOK.out.an; unfold wrap64; omega⟩
             have HBWW := Aside0.mk hbww
             clear hrd hj hkq hbww
             obtain ⟨W5, hW5⟩ : ∃ W5, W5 = wr.alloc (.cells #[.int .u8 f0, .int .i64 f1, .bool f2] 47) := ⟨_, rfl⟩
             have D0 : W5.cell? ⟨wr.heap.size, 0, none⟩ = some (.int .u8 f0) := by rw [hW5]; exact (blk_cell (heap_alloc_new _ _) 0).trans rfl
             have D1 : W5.cell? ⟨wr.heap.size, 1, none⟩ = some (.int .i64 f1) := by rw [hW5]; exact (blk_cell (heap_alloc_new _ _) 1).trans rfl
             have D2 : W5.cell? ⟨wr.heap.size, 2, none⟩ = some (.bool f2) := by rw [hW5]; exact (blk_cell (heap_alloc_new _ _) 2).trans rfl
             have HB5 : Aside0 (Below wr.heap.size wr W5) := ⟨by rw [hW5]; exact (Below.refl _ wr).alloc (Nat.le_refl _) _⟩
             have HLEN : Aside0 ((r.length + 1) * 32 ≤ 140737488355328) := ⟨by
              have h1 := HKY.out.2.2
              have h2 := HOK.out.an
              have h3 := HLY.out
              have h4 := HRL.out
              omega⟩
             have HS5 : Aside0 (W5.heap.size = wr.heap.size + 1) := ⟨by rw [hW5]; simp⟩
             have HNE5 : Aside0 (wr.heap.size ≠ W5.heap.size) := ⟨by have := HS5.out; omega⟩
             have HD5 : Aside0 (W5.cell? ⟨wr.heap.size, 0, none⟩ = some (.int .u8 f0) ∧ W5.cell? ⟨wr.heap.size, 1, none⟩ = some (.int .i64 f1) ∧ W5.cell? ⟨wr.heap.size, 2, none⟩ = some (.bool f2)) := ⟨⟨D0, D1, D2⟩⟩
             have HE5 : Aside0 (W5.drew.cell? ⟨wr.heap.size, 0, none⟩ = some (.int .u8 f0) ∧ W5.drew.cell? ⟨wr.heap.size, 1, none⟩ = some (.int .i64 f1) ∧ W5.drew.cell? ⟨wr.heap.size, 2, none⟩ = some (.bool f2)) := ⟨⟨D0, D1, D2⟩⟩
             have HE6 : Aside0 (∀ o, ((W5.alloc o).cell? ⟨wr.heap.size, 0, none⟩ = some (.int .u8 f0) ∧ (W5.alloc o).cell? ⟨wr.heap.size, 1, none⟩ = some (.int .i64 f1) ∧ (W5.alloc o).cell? ⟨wr.heap.size, 2, none⟩ = some (.bool f2))) := ⟨fun o => cells3 ((Below.refl _ W5).alloc (Nat.le_refl _) o) HD5.out⟩
             have HE7 : Aside0 (∀ o, ((W5.alloc o).drew.cell? ⟨wr.heap.size, 0, none⟩ = some (.int .u8 f0) ∧ (W5.alloc o).drew.cell? ⟨wr.heap.size, 1, none⟩ = some (.int .i64 f1) ∧ (W5.alloc o).drew.cell? ⟨wr.heap.size, 2, none⟩ = some (.bool f2))) := ⟨fun o => HE6.out o⟩
             clear D0 D1 D2
             have HX5 : Aside0 ((W5.alloc (.cells #[.int .u8 0, .int .i64 0, .string ⟨#[]⟩, .int .i64 0] 31)).drew.heap[W5.heap.size]? = some (.cells #[.int .u8 0, .int .i64 0, .string ⟨#[]⟩, .int .i64 0] 31 (0, 0)) ∧ W5.heap.size < (W5.alloc (.cells #[.int .u8 0, .int .i64 0, .string ⟨#[]⟩, .int .i64 0] 31)).drew.heap.size) := ⟨heap_alloc_new W5 _, blk_lt (heap_alloc_new W5 (.cells #[.int .u8 0, .int .i64 0, .string ⟨#[]⟩, .int .i64 0] 31))⟩
             have HBEL : Aside0 (Below W5.heap.size W5 (W5.alloc (.cells #[.int .u8 0, .int .i64 0, .string ⟨#[]⟩, .int .i64 0] 31)).drew) := ⟨((Below.refl _ W5).alloc (Nat.le_refl _) _).drew⟩
             have HBE : Aside0 (Below W5.heap.size W5 W5.drew) := ⟨(Below.refl _ W5).drew⟩
             have HLIST : Aside0 (∀ W', Below W5.heap.size W5 W' → kRow.C W' Al ls.length ls) := ⟨fun W' hb => Kd.C_below HCL2.out (HBO.out.trans ((HBI.out.trans ((HB5.out.trans (hb.mono HB5.out.size)).mono HBI.out.size)).mono HBO.out.size))⟩
             have HT5 : Aside0 (∀ W', Below W5.heap.size W5 W' → LaidT W') := ⟨fun W' hb => HT.out.below (HBWW.out.trans ((HB5.out.trans (hb.mono HB5.out.size)).mono HBWW.out.size))⟩
             go_wp2_with fail
             rw [← hW5]
             have HW5 := Aside0.mk hW5
             clear hW5
             go_region_held3 (fun W' => (W'.cell? ⟨wr.heap.size, 0, none⟩ = some (.int .u8 f0) ∧ W'.cell? ⟨wr.heap.size, 1, none⟩ = some (.int .i64 f1) ∧ W'.cell? ⟨wr.heap.size, 2, none⟩ = some (.bool f2))) (first | (with_reducible exact HD5.out) | (with_reducible exact HE5.out) | (with_reducible exact HE7.out _) | (with_reducible exact HE6.out _) | (with_reducible exact HR7.out) | (with_reducible exact HR7a.out _) | (with_reducible exact HS8.out) | (with_reducible exact HS8a.out _) | (with_reducible exact far3 HNE7.out HS8.out) | (with_reducible exact far3 HNE5.out HS8.out)) (first
              | (go_at_call 31; (with_reducible refine (bag_columnOf.calls kc Al cl ls f1 (columnR ls f1) W5.drew (HLIST.out _ HBE.out) HLC2.out HKC2.out).mono ?_); rintro e w7 ⟨vc, rfl, hRc, hb7⟩; obtain ⟨Ac, cc, ec, hcc, hCc⟩ := Kd.R_reads hRc; subst ec; have hb57 : Below W5.heap.size W5 w7 := (HBE.out).trans (hb7.mono (HBE.out).size); have HR7 : Aside0 (w7.cell? ⟨wr.heap.size, 0, none⟩ = some (.int .u8 f0) ∧ w7.cell? ⟨wr.heap.size, 1, none⟩ = some (.int .i64 f1) ∧ w7.cell? ⟨wr.heap.size, 2, none⟩ = some (.bool f2)) := ⟨cells3 hb57 HD5.out⟩; have HR7a : Aside0 (∀ o, ((w7.alloc o).cell? ⟨wr.heap.size, 0, none⟩ = some (.int .u8 f0) ∧ (w7.alloc o).cell? ⟨wr.heap.size, 1, none⟩ = some (.int .i64 f1) ∧ (w7.alloc o).cell? ⟨wr.heap.size, 2, none⟩ = some (.bool f2))) := ⟨fun o => cells3 ((Below.refl _ w7).alloc (Nat.le_refl _) o) HR7.out⟩; have HCC := Aside0.mk hCc; have HCN := Aside0.mk hcc; have HB7 := Aside0.mk hb57; have HNE7 : Aside0 (wr.heap.size ≠ w7.heap.size) := ⟨by have := HB7.out.size; have := HS5.out; omega⟩; clear hb57 hRc hb7 hcc hCc)
              | (go_at_call 31; (with_reducible refine (bag_columnOf.calls kc Al cl ls f1 (columnR ls f1) (W5.alloc (.cells #[.int .u8 0, .int .i64 0, .string ⟨#[]⟩, .int .i64 0] 31)).drew (HLIST.out _ HBEL.out) HLC2.out HKC2.out).mono ?_); rintro e w7 ⟨vc, rfl, hRc, hb7⟩; obtain ⟨Ac, cc, ec, hcc, hCc⟩ := Kd.R_reads hRc; subst ec; have hb57 : Below W5.heap.size W5 w7 := (HBEL.out).trans (hb7.mono (HBEL.out).size); have HR7 : Aside0 (w7.cell? ⟨wr.heap.size, 0, none⟩ = some (.int .u8 f0) ∧ w7.cell? ⟨wr.heap.size, 1, none⟩ = some (.int .i64 f1) ∧ w7.cell? ⟨wr.heap.size, 2, none⟩ = some (.bool f2)) := ⟨cells3 hb57 HD5.out⟩; have HR7a : Aside0 (∀ o, ((w7.alloc o).cell? ⟨wr.heap.size, 0, none⟩ = some (.int .u8 f0) ∧ (w7.alloc o).cell? ⟨wr.heap.size, 1, none⟩ = some (.int .i64 f1) ∧ (w7.alloc o).cell? ⟨wr.heap.size, 2, none⟩ = some (.bool f2))) := ⟨fun o => cells3 ((Below.refl _ w7).alloc (Nat.le_refl _) o) HR7.out⟩; have HCC := Aside0.mk hCc; have HCN := Aside0.mk hcc; have HX7 := Aside0.mk ((hb7.block W5.heap.size HX5.out.2).trans HX5.out.1); have HB7 := Aside0.mk hb57; have HNE7 : Aside0 (wr.heap.size ≠ w7.heap.size) := ⟨by have := HB7.out.size; have := HS5.out; omega⟩; clear hb57 hRc hb7 hcc hCc)
              | (go_at_call 13; have hx7 := HX7.out; (with_reducible refine (bag_Aggregate.calls f0 f2 Ac cc (columnR ls f1) r0 r1 r2 r3 w7 HCC.out HCN.out (HT5.out w7 HB7.out) HAGG.out).mono ?_); rintro e w8 ⟨rfl, hb8⟩; have hb78 : Below w7.heap.size w7 w8 := hb8; have HS8 : Aside0 (w8.cell? ⟨wr.heap.size, 0, none⟩ = some (.int .u8 f0) ∧ w8.cell? ⟨wr.heap.size, 1, none⟩ = some (.int .i64 f1) ∧ w8.cell? ⟨wr.heap.size, 2, none⟩ = some (.bool f2)) := ⟨cells3 hb78 HR7.out⟩; have HS8a : Aside0 (∀ o, ((w8.alloc o).cell? ⟨wr.heap.size, 0, none⟩ = some (.int .u8 f0) ∧ (w8.alloc o).cell? ⟨wr.heap.size, 1, none⟩ = some (.int .i64 f1) ∧ (w8.alloc o).cell? ⟨wr.heap.size, 2, none⟩ = some (.bool f2))) := ⟨fun o => cells3 ((Below.refl _ w8).alloc (Nat.le_refl _) o) HS8.out⟩; have HB8 := Aside0.mk (HB7.out.trans (hb78.mono HB7.out.size)); have hX8 := (hb8.block W5.heap.size (blk_lt hx7)).trans hx7; have x0 : w8.cell? ⟨W5.heap.size, 0, none⟩ = some (.int .u8 0) := (blk_cell hX8 0).trans rfl; have x1 : w8.cell? ⟨W5.heap.size, 1, none⟩ = some (.int .i64 0) := (blk_cell hX8 1).trans rfl; have x2 : w8.cell? ⟨W5.heap.size, 2, none⟩ = some (.string ⟨#[]⟩) := (blk_cell hX8 2).trans rfl; have x3 : w8.cell? ⟨W5.heap.size, 3, none⟩ = some (.int .i64 0) := (blk_cell hX8 3).trans rfl; have xf : ∀ j, w8.frozen? ⟨W5.heap.size, j, none⟩ = false := (fun j => by simp [World.frozen?, hX8]); have HX8 := Aside0.mk hX8; clear hX8; clear hb8 hb78 hx7)
              | (go_at_call 13; have hb9 : Below w7.heap.size w7 (w7.alloc (.cells #[.int .u8 0, .int .i64 0, .string ⟨#[]⟩, .int .i64 0] 31)) := (Below.refl _ w7).alloc (Nat.le_refl _) _; have hbx : Below W5.heap.size W5 (w7.alloc (.cells #[.int .u8 0, .int .i64 0, .string ⟨#[]⟩, .int .i64 0] 31)) := HB7.out.trans (hb9.mono HB7.out.size); (with_reducible refine (bag_Aggregate.calls f0 f2 Ac cc (columnR ls f1) r0 r1 r2 r3 (w7.alloc (.cells #[.int .u8 0, .int .i64 0, .string ⟨#[]⟩, .int .i64 0] 31)) (Kd.C_below HCC.out hb9) HCN.out (HT5.out _ hbx) HAGG.out).mono ?_); rintro e w8 ⟨rfl, hb8⟩; have hb78 : Below w7.heap.size w7 w8 := hb9.trans (hb8.mono hb9.size); have HS8 : Aside0 (w8.cell? ⟨wr.heap.size, 0, none⟩ = some (.int .u8 f0) ∧ w8.cell? ⟨wr.heap.size, 1, none⟩ = some (.int .i64 f1) ∧ w8.cell? ⟨wr.heap.size, 2, none⟩ = some (.bool f2)) := ⟨cells3 hb78 HR7.out⟩; have HS8a : Aside0 (∀ o, ((w8.alloc o).cell? ⟨wr.heap.size, 0, none⟩ = some (.int .u8 f0) ∧ (w8.alloc o).cell? ⟨wr.heap.size, 1, none⟩ = some (.int .i64 f1) ∧ (w8.alloc o).cell? ⟨wr.heap.size, 2, none⟩ = some (.bool f2))) := ⟨fun o => cells3 ((Below.refl _ w8).alloc (Nat.le_refl _) o) HS8.out⟩; have hX8 := (hb8.block w7.heap.size (blk_lt (heap_alloc_new w7 _))).trans (heap_alloc_new w7 _); have x0 : w8.cell? ⟨w7.heap.size, 0, none⟩ = some (.int .u8 0) := (blk_cell hX8 0).trans rfl; have x1 : w8.cell? ⟨w7.heap.size, 1, none⟩ = some (.int .i64 0) := (blk_cell hX8 1).trans rfl; have x2 : w8.cell? ⟨w7.heap.size, 2, none⟩ = some (.string ⟨#[]⟩) := (blk_cell hX8 2).trans rfl; have x3 : w8.cell? ⟨w7.heap.size, 3, none⟩ = some (.int .i64 0) := (blk_cell hX8 3).trans rfl; have xf : ∀ j, w8.frozen? ⟨w7.heap.size, j, none⟩ = false := (fun j => by simp [World.frozen?, hX8]); have HX8 := Aside0.mk hX8; clear hX8; have HB8 := Aside0.mk (HB7.out.trans (hb78.mono HB7.out.size)); clear hb8 hb9 hb78 hbx)
              | (go_at_call 13; (with_reducible refine (bag_Aggregate.calls f0 f2 Ac cc (columnR ls f1) r0 r1 r2 r3 w7 HCC.out HCN.out (HT5.out w7 HB7.out) HAGG.out).mono ?_); rintro e w8 ⟨rfl, hb8⟩; have hb78 : Below w7.heap.size w7 w8 := hb8; have HS8 : Aside0 (w8.cell? ⟨wr.heap.size, 0, none⟩ = some (.int .u8 f0) ∧ w8.cell? ⟨wr.heap.size, 1, none⟩ = some (.int .i64 f1) ∧ w8.cell? ⟨wr.heap.size, 2, none⟩ = some (.bool f2)) := ⟨cells3 hb78 HR7.out⟩; have HS8a : Aside0 (∀ o, ((w8.alloc o).cell? ⟨wr.heap.size, 0, none⟩ = some (.int .u8 f0) ∧ (w8.alloc o).cell? ⟨wr.heap.size, 1, none⟩ = some (.int .i64 f1) ∧ (w8.alloc o).cell? ⟨wr.heap.size, 2, none⟩ = some (.bool f2))) := ⟨fun o => cells3 ((Below.refl _ w8).alloc (Nat.le_refl _) o) HS8.out⟩; have HB8 := Aside0.mk (HB7.out.trans (hb78.mono HB7.out.size)); clear hb8 hb78))
             · obtain ⟨W9, hW9⟩ : ∃ W9, W9 = (w8.alloc (.cells #[.int .u8 r0, .int .i64 r1, .string r2, .int .i64 r3] 31)) := ⟨_, rfl⟩
               rw [← hW9]
               have hO9 : W9.heap[w8.heap.size]? = some (.cells #[.int .u8 r0, .int .i64 r1, .string r2, .int .i64 r3] 31 (0, 0)) := by rw [hW9]; exact heap_alloc_new _ _
               have HB9 : Aside0 (Below wr.heap.size wr W9) := ⟨by rw [hW9]; exact (HB5.out.trans (HB8.out.mono HB5.out.size)).alloc (HB5.out.trans (HB8.out.mono HB5.out.size)).size _⟩
               have o0 : W9.cell? ⟨w8.heap.size, 0, none⟩ = some (.int .u8 r0) := (blk_cell hO9 0).trans rfl
               have o1 : W9.cell? ⟨w8.heap.size, 1, none⟩ = some (.int .i64 r1) := (blk_cell hO9 1).trans rfl
               have o2 : W9.cell? ⟨w8.heap.size, 2, none⟩ = some (.string r2) := (blk_cell hO9 2).trans rfl
               have o3 : W9.cell? ⟨w8.heap.size, 3, none⟩ = some (.int .i64 r3) := (blk_cell hO9 3).trans rfl
               clear hO9 hW9
               try clear x0 x1 x2 x3 xf
               have HK9 := Aside0.mk (Kd.R_below HKR.out HB9.out)
               have HI9 := Aside0.mk (HBI.out.trans (HB9.out.mono HBI.out.size))
               by_cases hr3 : r3 = 0
               · subst hr3
                 go_wp2_with (at_builtin; refine Kd.R_append kV (w0 := wN) wN.heap.size rfl (.tmp 123) (.tmp 126) 58 27 (.agg #[(.int .u8 0), (.int .i64 0), (.string ⟨#[]⟩)]) 32 rfl Tryd.underlying58 infoV rfl (by decide) (by decide) _ _ (⟨r0, r1, r2⟩ : V) [.int .u8 r0, .int .i64 r1, .string r2] (fun _ => True) (fun _ => False) rfl rfl (k27_mkM _ _ _ (⟨r0, r1, r2⟩ : V)) (fun _ h => h.elim) (fun _ _ => trivial) HK9.out HI9.out HI9.out.size HLEN.out ?_; intro v6 w6 hR4 hb4 hg4 hat4; have HO4 := Aside0.mk hR4; have HB4 := Aside0.mk hb4; clear hR4 hb4 hg4 hat4)
                 have hk := HKQ2.out
                 have hly := HLY.out
                 have hy0 := HY0.out
                 cases gk with
                 | zero => omega
                 | succ k1 =>
                  go_roundg k1
                  case measure => omega
                  case rel => exact ⟨y + 1, by rw [HWY.out], ⟨by omega⟩, ⟨_, HO4.out, by have h := HRO2.out; rw [if_pos trivial] at h; exact h, by have h := HRL.out; rw [List.length_append]; simp only [List.length_cons, List.length_nil]; omega⟩, HB4⟩
               · obtain ⟨hgr, hge⟩ : grs = [] ∧ r3 = ger := by
                  have h := HRO2.out
                  rw [if_neg hr3] at h
                  have h2 := HACC2.out
                  rw [← h, if_neg hr3] at h2
                  simp only [Prod.mk.injEq] at h2
                  exact ⟨h2.1.symm, h2.2⟩
                 subst hgr
                 have z3 : (r3 != 0) = true := by simp [hr3]
                 have z4 : decide (r3 = 0) = false := decide_eq_false hr3
                 have hbq : Below wK.heap.size wK W9 := HBO.out.trans ((HBI.out.trans (HB9.out.mono HBI.out.size)).mono HBO.out.size)
                 have HN9 := Aside0.mk ((hbq.block q (blk_lt HNK.out)).trans HNK.out)
                 have HBZ := Aside0.mk (HBK.out.trans (hbq.mono HBK.out.size))
                 have y0 : W9.cell? ⟨q, 0, none⟩ = some (.slice none 0 0) := (blk_cell HN9.out 0).trans rfl
                 have y1 : W9.cell? ⟨q, 1, none⟩ = some (.int .i64 0) := (blk_cell HN9.out 1).trans rfl
                 have yf : ∀ j, W9.frozen? ⟨q, j, none⟩ = false := fun j => by have := HN9.out; simp [World.frozen?, this]
                 clear hbq hr3
                 have HGE := Aside0.mk hge
                 clear hge
                 go_wp2
                 refine bodyPost_ret (results_cell_row rfl _ _ q 41 _ (0, 0) _ rfl (out2_cells HN9.out _ _) Tryd.underlying41 rfl (by kernel_rfl)) rfl ?_
                 exact ⟨_, by rw [HGE.out], Kd.V_nil _ _ _ _ _, out2_below HBZ.out HQW.out _ _⟩
             · obtain ⟨W9, hW9⟩ : ∃ W9, W9 = ((((w8.setCell ⟨w7.heap.size, 0, none⟩ (.int .u8 r0)).setCell ⟨w7.heap.size, 1, none⟩ (.int .i64 r1)).setCell ⟨w7.heap.size, 2, none⟩ (.string r2)).setCell ⟨w7.heap.size, 3, none⟩ (.int .i64 r3)) := ⟨_, rfl⟩
               rw [← hW9]
               have hO9 : W9.heap[w7.heap.size]? = some (.cells #[.int .u8 r0, .int .i64 r1, .string r2, .int .i64 r3] 31 (0, 0)) := by rw [hW9]; exact out_cells HX8.out _ _ _ _
               have HB9 : Aside0 (Below wr.heap.size wr W9) := ⟨by rw [hW9]; exact out_belowB (HB5.out.trans (HB8.out.mono HB5.out.size)) (Nat.le_trans HB5.out.size HB7.out.size) _ _ _ _⟩
               have o0 : W9.cell? ⟨w7.heap.size, 0, none⟩ = some (.int .u8 r0) := (blk_cell hO9 0).trans rfl
               have o1 : W9.cell? ⟨w7.heap.size, 1, none⟩ = some (.int .i64 r1) := (blk_cell hO9 1).trans rfl
               have o2 : W9.cell? ⟨w7.heap.size, 2, none⟩ = some (.string r2) := (blk_cell hO9 2).trans rfl
               have o3 : W9.cell? ⟨w7.heap.size, 3, none⟩ = some (.int .i64 r3) := (blk_cell hO9 3).trans rfl
               clear hO9 hW9
               try clear x0 x1 x2 x3 xf
               have HK9 := Aside0.mk (Kd.R_below HKR.out HB9.out)
               have HI9 := Aside0.mk (HBI.out.trans (HB9.out.mono HBI.out.size))
               by_cases hr3 : r3 = 0
               · subst hr3
                 go_wp2_with (at_builtin; refine Kd.R_append kV (w0 := wN) wN.heap.size rfl (.tmp 123) (.tmp 126) 58 27 (.agg #[(.int .u8 0), (.int .i64 0), (.string ⟨#[]⟩)]) 32 rfl Tryd.underlying58 infoV rfl (by decide) (by decide) _ _ (⟨r0, r1, r2⟩ : V) [.int .u8 r0, .int .i64 r1, .string r2] (fun _ => True) (fun _ => False) rfl rfl (k27_mkM _ _ _ (⟨r0, r1, r2⟩ : V)) (fun _ h => h.elim) (fun _ _ => trivial) HK9.out HI9.out HI9.out.size HLEN.out ?_; intro v6 w6 hR4 hb4 hg4 hat4; have HO4 := Aside0.mk hR4; have HB4 := Aside0.mk hb4; clear hR4 hb4 hg4 hat4)
                 have hk := HKQ2.out
                 have hly := HLY.out
                 have hy0 := HY0.out
                 cases gk with
                 | zero => omega
                 | succ k1 =>
                  go_roundg k1
                  case measure => omega
                  case rel => exact ⟨y + 1, by rw [HWY.out], ⟨by omega⟩, ⟨_, HO4.out, by have h := HRO2.out; rw [if_pos trivial] at h; exact h, by have h := HRL.out; rw [List.length_append]; simp only [List.length_cons, List.length_nil]; omega⟩, HB4⟩
               · obtain ⟨hgr, hge⟩ : grs = [] ∧ r3 = ger := by
                  have h := HRO2.out
                  rw [if_neg hr3] at h
                  have h2 := HACC2.out
                  rw [← h, if_neg hr3] at h2
                  simp only [Prod.mk.injEq] at h2
                  exact ⟨h2.1.symm, h2.2⟩
                 subst hgr
                 have z3 : (r3 != 0) = true := by simp [hr3]
                 have z4 : decide (r3 = 0) = false := decide_eq_false hr3
                 have hbq : Below wK.heap.size wK W9 := HBO.out.trans ((HBI.out.trans (HB9.out.mono HBI.out.size)).mono HBO.out.size)
                 have HN9 := Aside0.mk ((hbq.block q (blk_lt HNK.out)).trans HNK.out)
                 have HBZ := Aside0.mk (HBK.out.trans (hbq.mono HBK.out.size))
                 have y0 : W9.cell? ⟨q, 0, none⟩ = some (.slice none 0 0) := (blk_cell HN9.out 0).trans rfl
                 have y1 : W9.cell? ⟨q, 1, none⟩ = some (.int .i64 0) := (blk_cell HN9.out 1).trans rfl
                 have yf : ∀ j, W9.frozen? ⟨q, j, none⟩ = false := fun j => by have := HN9.out; simp [World.frozen?, this]
                 clear hbq hr3
                 have HGE := Aside0.mk hge
                 clear hge
                 go_wp2
                 refine bodyPost_ret (results_cell_row rfl _ _ q 41 _ (0, 0) _ rfl (out2_cells HN9.out _ _) Tryd.underlying41 rfl (by kernel_rfl)) rfl ?_
                 exact ⟨_, by rw [HGE.out], Kd.V_nil _ _ _ _ _, out2_below HBZ.out HQW.out _ _⟩
             · obtain ⟨W9, hW9⟩ : ∃ W9, W9 = ((((w8.setCell ⟨W5.heap.size, 0, none⟩ (.int .u8 r0)).setCell ⟨W5.heap.size, 1, none⟩ (.int .i64 r1)).setCell ⟨W5.heap.size, 2, none⟩ (.string r2)).setCell ⟨W5.heap.size, 3, none⟩ (.int .i64 r3)) := ⟨_, rfl⟩
               rw [← hW9]
               have hO9 : W9.heap[W5.heap.size]? = some (.cells #[.int .u8 r0, .int .i64 r1, .string r2, .int .i64 r3] 31 (0, 0)) := by rw [hW9]; exact out_cells HX8.out _ _ _ _
               have HB9 : Aside0 (Below wr.heap.size wr W9) := ⟨by rw [hW9]; exact out_belowB (HB5.out.trans (HB8.out.mono HB5.out.size)) HB5.out.size _ _ _ _⟩
               have o0 : W9.cell? ⟨W5.heap.size, 0, none⟩ = some (.int .u8 r0) := (blk_cell hO9 0).trans rfl
               have o1 : W9.cell? ⟨W5.heap.size, 1, none⟩ = some (.int .i64 r1) := (blk_cell hO9 1).trans rfl
               have o2 : W9.cell? ⟨W5.heap.size, 2, none⟩ = some (.string r2) := (blk_cell hO9 2).trans rfl
               have o3 : W9.cell? ⟨W5.heap.size, 3, none⟩ = some (.int .i64 r3) := (blk_cell hO9 3).trans rfl
               clear hO9 hW9
               try clear x0 x1 x2 x3 xf
               have HK9 := Aside0.mk (Kd.R_below HKR.out HB9.out)
               have HI9 := Aside0.mk (HBI.out.trans (HB9.out.mono HBI.out.size))
               by_cases hr3 : r3 = 0
               · subst hr3
                 go_wp2_with (at_builtin; refine Kd.R_append kV (w0 := wN) wN.heap.size rfl (.tmp 123) (.tmp 126) 58 27 (.agg #[(.int .u8 0), (.int .i64 0), (.string ⟨#[]⟩)]) 32 rfl Tryd.underlying58 infoV rfl (by decide) (by decide) _ _ (⟨r0, r1, r2⟩ : V) [.int .u8 r0, .int .i64 r1, .string r2] (fun _ => True) (fun _ => False) rfl rfl (k27_mkM _ _ _ (⟨r0, r1, r2⟩ : V)) (fun _ h => h.elim) (fun _ _ => trivial) HK9.out HI9.out HI9.out.size HLEN.out ?_; intro v6 w6 hR4 hb4 hg4 hat4; have HO4 := Aside0.mk hR4; have HB4 := Aside0.mk hb4; clear hR4 hb4 hg4 hat4)
                 have hk := HKQ2.out
                 have hly := HLY.out
                 have hy0 := HY0.out
                 cases gk with
                 | zero => omega
                 | succ k1 =>
                  go_roundg k1
                  case measure => omega
                  case rel => exact ⟨y + 1, by rw [HWY.out], ⟨by omega⟩, ⟨_, HO4.out, by have h := HRO2.out; rw [if_pos trivial] at h; exact h, by have h := HRL.out; rw [List.length_append]; simp only [List.length_cons, List.length_nil]; omega⟩, HB4⟩
               · obtain ⟨hgr, hge⟩ : grs = [] ∧ r3 = ger := by
                  have h := HRO2.out
                  rw [if_neg hr3] at h
                  have h2 := HACC2.out
                  rw [← h, if_neg hr3] at h2
                  simp only [Prod.mk.injEq] at h2
                  exact ⟨h2.1.symm, h2.2⟩
                 subst hgr
                 have z3 : (r3 != 0) = true := by simp [hr3]
                 have z4 : decide (r3 = 0) = false := decide_eq_false hr3
                 have hbq : Below wK.heap.size wK W9 := HBO.out.trans ((HBI.out.trans (HB9.out.mono HBI.out.size)).mono HBO.out.size)
                 have HN9 := Aside0.mk ((hbq.block q (blk_lt HNK.out)).trans HNK.out)
                 have HBZ := Aside0.mk (HBK.out.trans (hbq.mono HBK.out.size))
                 have y0 : W9.cell? ⟨q, 0, none⟩ = some (.slice none 0 0) := (blk_cell HN9.out 0).trans rfl
                 have y1 : W9.cell? ⟨q, 1, none⟩ = some (.int .i64 0) := (blk_cell HN9.out 1).trans rfl
                 have yf : ∀ j, W9.frozen? ⟨q, j, none⟩ = false := fun j => by have := HN9.out; simp [World.frozen?, this]
                 clear hbq hr3
                 have HGE := Aside0.mk hge
                 clear hge
                 go_wp2
                 refine bodyPost_ret (results_cell_row rfl _ _ q 41 _ (0, 0) _ rfl (out2_cells HN9.out _ _) Tryd.underlying41 rfl (by kernel_rfl)) rfl ?_
                 exact ⟨_, by rw [HGE.out], Kd.V_nil _ _ _ _ _, out2_below HBZ.out HQW.out _ _⟩
           · have d1 : decide (y < (l2.length : Int)) = false := decide_eq_false hly
             have HNX : Aside0 (rowsOf l1 l0 l2 (keys.drop (x + 1).toNat) (acc ++ [r]) = (grs, ger)) := ⟨by
              have h := HRO.out
              rw [List.drop_of_length_le (by omega)] at h
              have h2 := HACC2.out
              rw [← h] at h2
              exact h2⟩
             clear HY hy0 hy1 hkq hly HRO HACC2
             obtain ⟨Ag, cg, eg, _⟩ := Kd.R_reads HKR.out
             subst eg
             have hNW : Below wN.heap.size wN wr := HBI.out
             have HBOK := Aside0.mk (HBO.out.trans (hNW.mono HBO.out.size))
             have HO9 := Aside0.mk (Kd.R_below (Kd.R_below HO.out HBN.out) hNW)
             have HM9 := Aside0.mk (Kd.R_mono (Kd.R_lower (Kd.R_bound HKR.out) HBO.out.size) (ok' := fun k => wN.heap.size ≤ k) (fun k hk => hk.2.1))
             have HFR : Aside0 (∀ k, wN.heap.size ≤ k → True ∧ some k ≠ u14.ownBlock) := ⟨fun k hk => ⟨trivial, fun e => by have h1 := Kd.R_lt HO.out k e.symm; have h2 := HBN.out.size; omega⟩⟩
             have HLEN2 : Aside0 ((acc.length + 1) * 24 ≤ 140737488355328) := ⟨by
              have := HKN.out
              have := HAL.out
              have := HLT.out
              omega⟩
             clear hNW
             go_wp2_with (at_builtin; refine Kd.R_append kRow (w0 := wK) wK.heap.size rfl (.tmp 129) (.tmp 131) 37 58 (.slice none 0 0) 24 rfl Tryd.underlying37 infoRow rfl (Nat.le_refl 1) (by decide) _ _ r [.slice Ag r.length cg] (fun _ => True) (fun k => wN.heap.size ≤ k) rfl rfl ⟨_, rfl, HM9.out⟩ HFR.out (fun _ _ => trivial) HO9.out HBOK.out HBOK.out.size HLEN2.out ?_; intro v6 w6 hR4 hb4 hg4 hat4; have HO4 := Aside0.mk hR4; have HB4 := Aside0.mk hb4; clear hR4 hb4 hg4 hat4)
             have hk := HKQ.out
             have hlt := HLT.out
             have hx0 := HX0.out
             cases gO with
             | zero => omega
             | succ k1 =>
              go_roundg k1
              case measure => omega
              case rel => exact ⟨x + 1, by rw [HWR.out], ⟨by omega⟩, ⟨_, HO4.out, HNX.out, by have h1 := HAL.out; have h2 := HX0.out; rw [List.length_append]; simp only [List.length_cons, List.length_nil]; omega⟩, HB4⟩
        · have d1 : decide (x < (keys.length : Int)) = false := decide_eq_false hlt
          obtain ⟨hf1, hf2⟩ : acc = grs ∧ 0 = ger := by
           have h := HACC.out
           rw [List.drop_of_length_le (by omega)] at h
           simpa [rowsOf] using h
          subst hf1
          subst hf2
          have HN9 := Aside0.mk ((HB.out.block q (blk_lt HNK.out)).trans HNK.out)
          have HB9 := Aside0.mk (HBK.out.trans (HB.out.mono HBK.out.size))
          have HKS2 := Aside0.mk HBK.out.size
          clear hx0 hx1 hkq hlt HX HACC HAL
          have y0 : wr.cell? ⟨q, 0, none⟩ = some (.slice none 0 0) := (blk_cell HN9.out 0).trans rfl
          have y1 : wr.cell? ⟨q, 1, none⟩ = some (.int .i64 0) := (blk_cell HN9.out 1).trans rfl
          have yf : ∀ j, wr.frozen? ⟨q, j, none⟩ = false := fun j => by have := HN9.out; simp [World.frozen?, this]
          obtain ⟨Ag, cg, eg, _⟩ := Kd.R_reads HO.out
          subst eg
          go_wp2
          refine bodyPost_ret (results_cell_row rfl _ _ q 41 _ (0, 0) _ rfl (out2_cells HN9.out _ _) Tryd.underlying41 rfl (by kernel_rfl)) rfl ?_
          refine ⟨_, rfl, ?_, out2_below HB9.out HQW.out _ _⟩
          have hqk := blk_lt HNK.out
          have h1 := Kd.R_mono (Kd.R_bound HO.out) (ok' := fun k => wK.heap.size ≤ k) (fun k hk => hk.2.1)
          have h2 := Kd.R_far (p := ⟨q, 0, none⟩) h1 (fun k hk e => by
           have e : k = q := e
           omega) (Value.slice Ag acc.length cg)
          have h3 := Kd.R_far (p := ⟨q, 1, none⟩) h2 (fun k hk e => by
           have e : k = q := e
           omega) (Value.int .i64 0)
          exact Kd.R_V (base' := w.heap.size) (Kd.R_mono h3 (fun k hk => Nat.le_trans HKS2.out hk))
end Go.Proofs.YtecgkcgfeghhgaaDoor.PAll
namespace Go.Proofs.YtecgkcgfeghhgaaDoor.PAll
open Go.RowKit Go.Proofs.YtecgkcgfeghhgaaDoorW.PrintWords Go.Proofs.YtecgkcgfeghhgaaDoorW.PrintLast Go.Proofs.YtecgkcgfeghhgaaDoorW.PrintMore
attribute [local go_sem] max2_int min2_int max_two min_two max_three min_three max_four min_four
set_option linter.unusedVariables false
set_option linter.unusedSimpArgs false
def r1_Int.f (a0 : Int) : Option (Int × Int × ByteArray) := some (1, a0, (⟨#[]⟩ : ByteArray))
theorem r1_Int.calls (a0 : Int) (r1 : Int) (r2 : Int) (r3 : ByteArray) (w : World) (h : r1_Int.f a0 = some (r1, r2, r3)) :
 Calls Tryd.prog 12 #[.int .i64 a0] w fun e w' => e = .returned (.agg #[.int .u8 r1, .int .i64 r2, .string r3]) ∧ Below w.heap.size w w' := by
 have hu27 := Tryd.underlying27
 have HB := Aside0.mk (Below.refl w.heap.size w)
 have H : (some (1, a0, (⟨#[]⟩ : ByteArray))) = some (r1, r2, r3) := h
 clear h
 simp only [Option.some.injEq, Prod.mk.injEq] at H
 obtain ⟨rfl, rfl, rfl⟩ := H
 go_enter Tryd.func12, Tryd.ntmps12
 go_wp2_with (first | ((with_reducible refine gate_dst (N := 2) rfl ?_); refine box_event ?hg (N := 2) ?hd (cs := #[.int .u8 0, .int .i64 0, .string (⟨#[]⟩ : ByteArray)]) (t := 27) ?hr ?_; (case hd => rfl); (case hg => rfl); (case hr => first | (go_simp; done) | (go_simp; rfl)); intro gb124 hg w2 hbox hb; have n0_ := Aside0.mk (below_step (by repeat (first | (with_reducible first | exact HB.out | apply bA_ | apply bN_ | apply b1_) | exact HB.out)) hb); have n1_ := Aside0.mk (hbox); have n2_ := Aside0.mk ((by rw [hg]; exact (below_size (by repeat (first | (with_reducible first | exact HB.out | apply bA_ | apply bN_ | apply b1_) | exact HB.out))) : w.heap.size ≤ gb124)); have n3_ := Aside0.mk ((by rw [hg]; exact (below_size (by repeat (first | (with_reducible first | exact HB.out | apply bA_ | apply bN_ | apply b1_) | exact HB.out))) : w.heap.size ≤ gb124)); clear HB; have HB := n0_; have BK124 := n1_; have GW124 := n2_; have GE124 := n3_; clear n0_ n1_ n2_ n3_; clear hb hbox hg; have hcz3_0 : w2.cell? ⟨gb124, 0, none⟩ = some (.int .u8 0) := (blk_cell BK124.out 0).trans rfl; have hcz3_1 : w2.cell? ⟨gb124, 1, none⟩ = some (.int .i64 0) := (blk_cell BK124.out 1).trans rfl; have hcz3_2 : w2.cell? ⟨gb124, 2, none⟩ = some (.string (⟨#[]⟩ : ByteArray)) := (blk_cell BK124.out 2).trans rfl; have hfz3_0 := blk_frozen BK124.out 0; have hfz3_1 := blk_frozen BK124.out 1; have hfz3_2 := blk_frozen BK124.out 2))
 refine bodyPost_ret (results_cell_row rfl _ _ gb124 27 #[.int .u8 1, .int .i64 a0, .string (⟨#[]⟩ : ByteArray)] (0, 0) _ rfl (by (with_reducible repeat (first | refine blk_drewN ?_ _ | refine blk_drew ?_ | refine blk_alloc ?_ _)); refine blk_put (cs := #[.int .u8 1, .int .i64 a0, .string (⟨#[]⟩ : ByteArray)]) ?_ 2 _ rfl; (with_reducible repeat (first | refine blk_drewN ?_ _ | refine blk_drew ?_ | refine blk_alloc ?_ _)); refine blk_put (cs := #[.int .u8 1, .int .i64 0, .string (⟨#[]⟩ : ByteArray)]) ?_ 1 _ rfl; (with_reducible repeat (first | refine blk_drewN ?_ _ | refine blk_drew ?_ | refine blk_alloc ?_ _)); refine blk_put (cs := #[.int .u8 0, .int .i64 0, .string (⟨#[]⟩ : ByteArray)]) ?_ 0 _ rfl; (with_reducible repeat (first | refine blk_drewN ?_ _ | refine blk_drew ?_ | refine blk_alloc ?_ _)); exact BK124.out) Tryd.underlying27 rfl (by kernel_rfl)) rfl ?_
 exact ⟨by first | rfl | (simp [*, errW_none, errW_some] <;> rfl), by repeat (first | (with_reducible first | exact HB.out | apply bA_ | apply bN_ | apply b1_ | refine below_set ?_ GE124.out) | exact HB.out)⟩
end Go.Proofs.YtecgkcgfeghhgaaDoor.PAll
set_option linter.unusedVariables false
set_option linter.unusedSimpArgs false
namespace Go.Proofs.YtecgkcgfeghhgaaDoor.PAll
open Go.RowKit Go.Proofs.YtecgkcgfeghhgaaDoorW.PrintWords Go.Proofs.YtecgkcgfeghhgaaDoorW.PrintLast Go.Proofs.YtecgkcgfeghhgaaDoorW.PrintMore
abbrev iV (n : Int) : V := ⟨1, n, ⟨#[]⟩⟩
abbrev oneA_ : List (List V) := [[iV 2], [iV 1], [iV 1]]
abbrev twoA_ : List (List V) := [[iV 1], [iV 3]]
theorem C_row1 {W : World} {b : Nat} {t : TypeId} (v : V) (h : W.heap[b]? = some (.cells #[.int .u8 v.f0, .int .i64 v.f1, .string v.f2] t (0, 0))) : Kd.C kV W (some ⟨b, 0, none⟩) [v].length [v] := by
 refine ⟨rfl, by simp, fun _ => ⟨⟨b, 0, none⟩, rfl, fun j p hj => ?_⟩⟩
 cases j with
 | succ j => simp at hj
 | zero =>
  obtain rfl : v = p := by simpa using hj
  refine ⟨[.int .u8 v.f0, .int .i64 v.f1, .string v.f2], rfl, kV.K_of_M (base := 0) (ok := fun _ => True) (k27_mkM _ _ _ v), fun i u hi => ?_⟩
  have h := blk_cell h i
  rw [add_plain, Nat.zero_mul, Nat.zero_add]
  refine h.trans ?_
  simpa using hi
theorem C_rows {W : World} {g : Nat} {cs : Array Value} {t : TypeId} {l : List (List V)} (h : W.heap[g]? = some (.cells cs t (0, 0))) (hn : l.length ≤ 9223372036854775807) (hr : ∀ (j : Nat) (row : List V), l[j]? = some row → ∃ A c, cs[j]? = some (Value.slice A row.length c) ∧ row.length ≤ c ∧ Kd.C kV W A row.length row) : Kd.C kRow W (some ⟨g, 0, none⟩) l.length l := by
 refine ⟨rfl, hn, fun _ => ⟨⟨g, 0, none⟩, rfl, fun j p hj => ?_⟩⟩
 obtain ⟨A, c, h1, h2, h3⟩ := hr j p hj
 refine ⟨[.slice A p.length c], rfl, ⟨A, c, rfl, h2, h3⟩, fun i u hi => ?_⟩
 cases i with
 | succ i => simp at hi
 | zero =>
  obtain rfl : Value.slice A p.length c = u := by simpa using hi
  rw [add_plain]
  show W.cell? ⟨g, j * 1 + 0, none⟩ = _
  rw [Nat.mul_one, Nat.add_zero]
  exact (blk_cell h j).trans h1
theorem valid_iV (n : Int) : validV (iV n) = true := by
 unfold validV noText
 simp [ByteArray.toList_eq]
theorem ok_iV (n : Int) (h : -9223372036854775808 ≤ n ∧ n ≤ 9223372036854775807) : VOk (iV n) := ⟨by simp, by simp, h.1, h.2⟩
theorem rowOk_iV (l : List V) (h : ∀ v ∈ l, ∃ n : Int, -9223372036854775808 ≤ n ∧ n ≤ 9223372036854775807 ∧ v = iV n) (hn : l.length ≤ 2) : RowOk l := by
 have len1 : ∀ n : Int, -9223372036854775808 ≤ n → n ≤ 9223372036854775807 → (nameV (iV n)).length ≤ 100 := fun n h0 h1 => by
  have i1 := Lib.itoa_length_le 1 (by omega) (by omega)
  have i2 := Lib.itoa_length_le n (by omega) (by omega)
  have i3 := Lib.itoa_length_le 0 (by omega) (by omega)
  show (Lib.itoa 1 ++ ([32] ++ (Lib.itoa n ++ ([32] ++ (Lib.itoa 0 ++ ([58] ++ ([] : List UInt8))))))).length ≤ 100
  simp only [List.length_append, List.length_cons, List.length_nil]
  omega
 refine ⟨fun v hv => ?_, ?_, by omega⟩
 · obtain ⟨n, h0, h1, rfl⟩ := h v hv
   exact ok_iV n ⟨h0, h1⟩
 · match l, h, hn with
   | [], _, _ => simp [nameB]
   | [a], h, _ =>
    obtain ⟨n, h0, h1, rfl⟩ := h a (by simp)
    have := len1 n h0 h1
    simp only [nameB, List.append_nil]
    omega
   | [a, b], h, _ =>
    obtain ⟨n, h0, h1, rfl⟩ := h a (by simp)
    obtain ⟨m, h2, h3, rfl⟩ := h b (by simp)
    have e1 := len1 n h0 h1
    have e2 := len1 m h2 h3
    simp only [nameB, List.append_nil, List.length_append]
    omega
theorem one_ok : RowsOk oneA_ := ⟨fun r hr => by
 simp only [oneA_, List.mem_cons, List.not_mem_nil, or_false] at hr
 rcases hr with rfl | rfl | rfl
 · exact rowOk_iV _ (fun v hv => ⟨2, by omega, by omega, by simpa using hv⟩) (by simp)
 · exact rowOk_iV _ (fun v hv => ⟨1, by omega, by omega, by simpa using hv⟩) (by simp)
 · exact rowOk_iV _ (fun v hv => ⟨1, by omega, by omega, by simpa using hv⟩) (by simp), by simp⟩
theorem two_ok : RowsOk twoA_ := ⟨fun r hr => by
 simp only [twoA_, List.mem_cons, List.not_mem_nil, or_false] at hr
 rcases hr with rfl | rfl
 · exact rowOk_iV _ (fun v hv => ⟨1, by omega, by omega, by simpa using hv⟩) (by simp)
 · exact rowOk_iV _ (fun v hv => ⟨3, by omega, by omega, by simpa using hv⟩) (by simp), by simp⟩
theorem valid_ints (l : List (List V)) (h : ∀ r ∈ l, ∃ n, r = [iV n]) : validB l = true := by
 have key : ∀ (l : List (List V)) (k : Int), (k = 0 ∨ k = 1) → (∀ r ∈ l, ∃ n, r = [iV n]) → validFrom [k] l = true := by
  intro l
  induction l with
  | nil => intro k _ _; rfl
  | cons r rs ih =>
   intro k hk h
   obtain ⟨n, rfl⟩ := h r (by simp)
   have e : rowStep [k] [iV n] = some [1] := by
    simp only [rowStep]
    rw [if_pos ⟨valid_iV n, by show k = 0 ∨ k = 1 ∨ (1 : Int) = 0; omega⟩]
    rcases hk with rfl | rfl <;> rfl
   simp only [validFrom, e]
   exact ih 1 (.inr rfl) (fun r hr => h r (List.mem_cons_of_mem _ hr))
 cases l with
 | nil => rfl
 | cons r rs =>
  obtain ⟨n, hn⟩ := h r (by simp)
  unfold validB
  rw [hn]
  rw [hn] at h
  exact key _ 0 (.inl rfl) h
theorem one_valid : validB oneA_ = true := valid_ints _ (fun r hr => by
 simp only [oneA_, List.mem_cons, List.not_mem_nil, or_false] at hr
 rcases hr with rfl | rfl | rfl <;> exact ⟨_, rfl⟩)
theorem both_valid : validB (oneA_ ++ twoA_) = true := valid_ints _ (fun r hr => by
 simp only [oneA_, twoA_, List.cons_append, List.nil_append, List.mem_cons, List.not_mem_nil, or_false] at hr
 rcases hr with rfl | rfl | rfl | rfl | rfl <;> exact ⟨_, rfl⟩)
theorem ne_iV {a b : Int} (h : a ≠ b) : nameOf [iV a] ≠ nameOf [iV b] := fun e => by
 have h1 := name_inj e
 simp only [List.cons.injEq, and_true] at h1
 injection h1 with _ h2
 exact h h2
theorem awake_except : ∃ met left, bag_split.f oneA_ twoA_ = some (met, left, 0) ∧ left.length = 2 := by
 have hok : RowsOk (oneA_ ++ twoA_) := ⟨fun r hr => by
  rcases List.mem_append.1 hr with h | h
  · exact one_ok.1 r h
  · exact two_ok.1 r h, by simp⟩
 refine ⟨_, _, by unfold bag_split.f; rw [if_pos hok, if_pos both_valid], ?_⟩
 rw [(sortR_perm _ _).length_eq]
 have h21 : nameOf [iV 2] ≠ nameOf [iV 1] := ne_iV (by decide)
 have h13 : nameOf [iV 1] ≠ nameOf [iV 3] := ne_iV (by decide)
 have h23 : nameOf [iV 2] ≠ nameOf [iV 3] := ne_iV (by decide)
 have e1 : cnt (twoA_.map nameOf) (nameOf [iV 2]) = 0 := by simp [twoA_, cnt, h21.symm, h23.symm]
 have e2 : cnt (twoA_.map nameOf) (nameOf [iV 1]) = 1 := by simp [twoA_, cnt, h13.symm]
 obtain ⟨c, hc⟩ : ∃ c, c = cnt (twoA_.map nameOf) := ⟨_, rfl⟩
 rw [← hc] at e1 e2 ⊢
 have e3 : decAt c (nameOf [iV 1]) (nameOf [iV 1]) = 0 := by simp [decAt, e2]
 simp only [oneA_, splitR, e1, e2, e3]
 simp [splitR, e3]
theorem cmp_iV (a b : Int) : compareV (iV a) (iV b) = cmpI a b := by
 unfold compareV
 have : cmpI (iV a).f0 (iV b).f0 = 0 := rfl
 rw [if_pos this, if_neg (by show ¬ (1 : Int) = 0; decide), if_neg (by show ¬ (1 : Int) = 2; decide)]
theorem awake_cut : bag_Cut.f oneA_ [⟨0, true⟩] 0 1 = some ([[iV 2]], 0) := by
 have hk : keysB oneA_ [⟨0, true⟩] = true := by decide
 have hf : fitsB oneA_ [⟨0, true⟩] = true := by unfold fitsB; rw [one_valid, hk]; rfl
 unfold bag_Cut.f
 rw [if_pos ⟨one_ok.v, by simp, by decide, by decide⟩, if_pos ⟨hf, by decide, by decide⟩]
 have hs : sortR [⟨0, true⟩] oneA_ = oneA_ := by
  refine (sortR_unique (fun row hrow => validB_valid one_valid row hrow) (List.Perm.refl _) ?_).symm
  have c : ∀ a b : Int, cmpFull [⟨0, true⟩] [iV a] [iV b] = if cmpI a b = 0 then 0 else -cmpI a b := fun a b => by
   unfold cmpFull
   have e1 : cmpBy [⟨0, true⟩] [iV a] [iV b] = if cmpI a b = 0 then 0 else -cmpI a b := by
    simp only [cmpBy]
    show (if compareV (iV a) (iV b) = 0 then 0 else if True then -compareV (iV a) (iV b) else _) = _
    rw [cmp_iV, if_pos trivial]
   rw [e1]
   by_cases h : cmpI a b = 0
   · rw [if_pos h, if_pos rfl]
     simp [cmpRows, cmp_iV, h]
   · rw [if_neg h, if_neg (by omega)]
  refine List.Pairwise.cons (fun r hr => ?_) (List.Pairwise.cons (fun r hr => ?_) (List.Pairwise.cons (fun r hr => by cases hr) List.Pairwise.nil))
  · simp only [List.mem_cons, List.not_mem_nil, or_false] at hr
    rcases hr with rfl | rfl <;> (rw [c]; decide)
  · simp only [List.mem_cons, List.not_mem_nil, or_false] at hr
    subst hr
    rw [c]; decide
 rw [hs]
 rfl
theorem awake_agg : bag_Aggregate.f 2 false [iV 9223372036854775807, iV 1, iV (-1)] = some (1, 9223372036854775807, ⟨#[]⟩, 0) := by
 have hok : AggOk 2 [iV 9223372036854775807, iV 1, iV (-1)] := by
  refine ⟨by omega, fun h => by omega, fun v hv => ?_, by simp⟩
  simp only [List.mem_cons, List.not_mem_nil, or_false] at hv
  refine rowOk_iV [v] (fun u hu => ?_) (by simp)
  obtain rfl : u = v := by simpa using hu
  rcases hv with rfl | rfl | rfl
  · exact ⟨_, by omega, by omega, rfl⟩
  · exact ⟨_, by omega, by omega, rfl⟩
  · exact ⟨_, by omega, by omega, rfl⟩
 unfold bag_Aggregate.f
 rw [if_pos hok]
 have ha : allowedB 2 false [iV 9223372036854775807, iV 1, iV (-1)] = true := by
  unfold allowedB
  rw [if_neg (by simp)]
  simp only [kindFrom, valid_iV]
  rfl
 unfold aggR
 rw [if_pos ha]
 unfold aggV
 rw [if_pos rfl]
 have hp : pickV 2 false [] [iV 9223372036854775807, iV 1, iV (-1)] = [iV 9223372036854775807, iV 1, iV (-1)] := by
  simp [pickV]
 rw [hp]
 rfl
theorem awake_same : bag_Same.f oneA_ twoA_ = some false := by
 have hs : sameB oneA_ twoA_ = false := sameB_false (fun h => by have := h.1; simp at this)
 unfold bag_Same.f
 rw [if_pos ⟨one_ok, two_ok⟩, hs]
theorem awake_groupOk : GroupOk oneA_ [0] [⟨0, 0, false⟩] := by
 have hkeys : ∀ row ∈ oneA_, keyOf [0] row = row := fun row hrow => by
  simp only [oneA_, List.mem_cons, List.not_mem_nil, or_false] at hrow
  rcases hrow with rfl | rfl | rfl <;> rfl
 refine ⟨one_ok, by simp, by simp, by simp, fun a ha => ?_, fun row hrow => by rw [hkeys row hrow]; exact one_ok.1 row hrow, fun a ha row hrow => ?_⟩
 · obtain rfl : a = ⟨0, 0, false⟩ := by simpa using ha
   exact Int.le_refl _
 · obtain rfl : a = ⟨0, 0, false⟩ := by simpa using ha
   have : [rd_T27 row 0] = row := by
    simp only [oneA_, List.mem_cons, List.not_mem_nil, or_false] at hrow
    rcases hrow with rfl | rfl | rfl <;> rfl
   rw [this]
   exact one_ok.1 row hrow
theorem awake_groupable : groupableB oneA_ [0] [⟨0, 0, false⟩] = true := by
 unfold groupableB
 simp only [Bool.and_eq_true, List.all_eq_true]
 exact ⟨⟨one_valid, fun n hn => by
  obtain rfl : n = 0 := by simpa using hn
  decide⟩, fun a ha => by
  obtain rfl : a = ⟨0, 0, false⟩ := by simpa using ha
  rfl⟩
theorem awake_group : groupG oneA_ [0] [⟨0, 0, false⟩] = ([[iV 1, iV 2], [iV 2, iV 1]], 0) := by
 have h21 : nameOf [iV 2] ≠ nameOf [iV 1] := ne_iV (by decide)
 have hm : oneA_.map (keyOf [0]) = oneA_ := rfl
 have hd : distR [] oneA_ = [[iV 2], [iV 1]] := by
  simp only [oneA_, distR]
  simp [h21.symm]
 have hk : keysR [0] oneA_ = [[iV 1], [iV 2]] := by
  unfold keysR
  rw [if_neg (by simp), hm, hd]
  refine (sortR_unique (fun row hrow => ?_) (List.Perm.swap _ _ _) ?_).symm
  · exact validB_valid (valid_ints [[iV 2], [iV 1]] (fun r hr => by
     simp only [List.mem_cons, List.not_mem_nil, or_false] at hr
     rcases hr with rfl | rfl <;> exact ⟨_, rfl⟩)) row hrow
  · refine List.Pairwise.cons (fun r hr => ?_) (List.Pairwise.cons (fun r hr => by cases hr) List.Pairwise.nil)
    obtain rfl : r = [iV 2] := by simpa using hr
    unfold cmpFull
    simp only [cmpBy, cmpRows, cmp_iV]
    decide
 have l1 : (listR [0] oneA_ (nameOf [iV 1])).length = 2 := by
  unfold listR
  have e1 : nameOf (keyOf [0] [iV 2]) ≠ nameOf [iV 1] := h21
  have e2 : nameOf (keyOf [0] [iV 1]) = nameOf [iV 1] := rfl
  simp [oneA_, e1, e2]
 have l2 : (listR [0] oneA_ (nameOf [iV 2])).length = 1 := by
  unfold listR
  have e1 : nameOf (keyOf [0] [iV 2]) = nameOf [iV 2] := rfl
  have e2 : nameOf (keyOf [0] [iV 1]) ≠ nameOf [iV 2] := h21.symm
  simp [oneA_, e1, e2]
 rw [groupG_count one_valid (fun n hn => by
  obtain rfl : n = 0 := by simpa using hn
  decide), hk]
 simp only [List.map_cons, List.map_nil, l1, l2]
 rfl
theorem new_at (w : World) (cs : Array Value) (t : TypeId) : (w.alloc (.cells cs t)).heap[w.heap.size]? = some (.cells cs t (0, 0)) := heap_alloc_new _ _
theorem kept_at {w W : World} {b : Nat} {o : Obj} (h : w.heap[b]? = some o) (hb : Below w.heap.size w W) : W.heap[b]? = some o := (hb.block b (blk_lt h)).trans h
theorem new_at1 (w : World) (o : Obj) (cs : Array Value) (t : TypeId) : ((w.alloc o).alloc (.cells cs t)).heap[w.heap.size + 1]? = some (.cells cs t (0, 0)) := by
 have h := heap_alloc_new (w.alloc o) (.cells cs t)
 rw [show (w.alloc o).heap.size = w.heap.size + 1 by simp] at h
 exact h
theorem below2 (w : World) (o p : Obj) : Below w.heap.size w ((w.alloc o).alloc p) := ((Below.refl w.heap.size w).alloc (Nat.le_refl _) o).alloc (by simp) p
theorem kept_alloc {w : World} {b : Nat} {o : Obj} (h : w.heap[b]? = some o) (x : Obj) : (w.alloc x).heap[b]? = some o := (Below.heap_alloc w x b (blk_lt h)).trans h
theorem C_one {α : Type} {d : Kd α} {W : World} {b : Nat} {t : TypeId} {cs : Array Value} (x : α) (h : W.heap[b]? = some (.cells cs t (0, 0))) (hl : cs.toList.length = d.sz) (hk : d.K W x cs.toList) : Kd.C d W (some ⟨b, 0, none⟩) [x].length [x] := by
 refine ⟨rfl, by simp, fun _ => ⟨⟨b, 0, none⟩, rfl, fun j p hj => ?_⟩⟩
 cases j with
 | succ j => simp at hj
 | zero =>
  obtain rfl : x = p := by simpa using hj
  refine ⟨cs.toList, hl, hk, fun i u hi => ?_⟩
  have h := blk_cell h i
  rw [add_plain, Nat.zero_mul, Nat.zero_add]
  refine h.trans ?_
  simpa using hi
theorem C_three {W : World} {b : Nat} {t : TypeId} (x y z : Int) (h : W.heap[b]? = some (.cells #[.int .u8 1, .int .i64 x, .string ⟨#[]⟩, .int .u8 1, .int .i64 y, .string ⟨#[]⟩, .int .u8 1, .int .i64 z, .string ⟨#[]⟩] t (0, 0))) : Kd.C kV W (some ⟨b, 0, none⟩) [iV x, iV y, iV z].length [iV x, iV y, iV z] := by
 refine ⟨rfl, by simp, fun _ => ⟨⟨b, 0, none⟩, rfl, fun j p hj => ?_⟩⟩
 match j, hj with
 | 0, hj =>
  obtain rfl : iV x = p := by simpa using hj
  refine ⟨[.int .u8 1, .int .i64 x, .string ⟨#[]⟩], rfl, kV.K_of_M (base := 0) (ok := fun _ => True) (k27_mkM _ _ _ (iV x)), fun i u hi => ?_⟩
  have h := blk_cell h (0 * 3 + i)
  rw [add_plain]
  refine h.trans ?_
  match i, hi with
  | 0, hi => simpa using hi
  | 1, hi => simpa using hi
  | 2, hi => simpa using hi
  | i + 3, hi => simp at hi
 | 1, hj =>
  obtain rfl : iV y = p := by simpa using hj
  refine ⟨[.int .u8 1, .int .i64 y, .string ⟨#[]⟩], rfl, kV.K_of_M (base := 0) (ok := fun _ => True) (k27_mkM _ _ _ (iV y)), fun i u hi => ?_⟩
  have h := blk_cell h (1 * 3 + i)
  rw [add_plain]
  refine h.trans ?_
  match i, hi with
  | 0, hi => simpa using hi
  | 1, hi => simpa using hi
  | 2, hi => simpa using hi
  | i + 3, hi => simp at hi
 | 2, hj =>
  obtain rfl : iV z = p := by simpa using hj
  refine ⟨[.int .u8 1, .int .i64 z, .string ⟨#[]⟩], rfl, kV.K_of_M (base := 0) (ok := fun _ => True) (k27_mkM _ _ _ (iV z)), fun i u hi => ?_⟩
  have h := blk_cell h (2 * 3 + i)
  rw [add_plain]
  refine h.trans ?_
  match i, hi with
  | 0, hi => simpa using hi
  | 1, hi => simpa using hi
  | 2, hi => simpa using hi
  | i + 3, hi => simp at hi
 | j + 3, hj => simp at hj
theorem C_two {W : World} {b : Nat} {t : TypeId} (x y : Int) (h : W.heap[b]? = some (.cells #[.int .u8 1, .int .i64 x, .string ⟨#[]⟩, .int .u8 1, .int .i64 y, .string ⟨#[]⟩] t (0, 0))) : Kd.C kV W (some ⟨b, 0, none⟩) [iV x, iV y].length [iV x, iV y] := by
 refine ⟨rfl, by simp, fun _ => ⟨⟨b, 0, none⟩, rfl, fun j p hj => ?_⟩⟩
 match j, hj with
 | 0, hj =>
  obtain rfl : iV x = p := by simpa using hj
  refine ⟨[.int .u8 1, .int .i64 x, .string ⟨#[]⟩], rfl, kV.K_of_M (base := 0) (ok := fun _ => True) (k27_mkM _ _ _ (iV x)), fun i u hi => ?_⟩
  have h := blk_cell h (0 * 3 + i)
  rw [add_plain]
  refine h.trans ?_
  match i, hi with
  | 0, hi => simpa using hi
  | 1, hi => simpa using hi
  | 2, hi => simpa using hi
  | i + 3, hi => simp at hi
 | 1, hj =>
  obtain rfl : iV y = p := by simpa using hj
  refine ⟨[.int .u8 1, .int .i64 y, .string ⟨#[]⟩], rfl, kV.K_of_M (base := 0) (ok := fun _ => True) (k27_mkM _ _ _ (iV y)), fun i u hi => ?_⟩
  have h := blk_cell h (1 * 3 + i)
  rw [add_plain]
  refine h.trans ?_
  match i, hi with
  | 0, hi => simpa using hi
  | 1, hi => simpa using hi
  | 2, hi => simpa using hi
  | i + 3, hi => simp at hi
 | j + 2, hj => simp at hj
theorem awake_calls (w : World) (hT : LaidT w) : Calls Tryd.prog 11 #[] w fun e w' => e = .returned (.bool true) ∧ Below w.heap.size w w' := by
 have HT := Aside0.mk hT
 clear hT
 go_enter Tryd.func11, Tryd.ntmps11
 go_wp2_with fail
 refine (r1_Int.calls 2 1 2 ⟨#[]⟩ w rfl).mono ?_
 rintro e w1 ⟨rfl, hb1⟩
 have HB1 := Aside0.mk hb1; clear hb1
 go_wp2_with fail
 refine (r1_Int.calls 1 1 1 ⟨#[]⟩ _ rfl).mono ?_
 rintro e w2 ⟨rfl, hb2⟩
 have A1 := Aside0.mk (kept_at (new_at w1 _ _) hb2)
 have HB2 := Aside0.mk (HB1.out.trans (((Below.refl w1.heap.size w1).alloc (Nat.le_refl _) _ |>.trans (hb2.mono (by simp))).mono HB1.out.size)); clear hb2
 go_wp2_with fail
 refine (r1_Int.calls 1 1 1 ⟨#[]⟩ _ rfl).mono ?_
 rintro e w3 ⟨rfl, hb3⟩
 have A2 := Aside0.mk (kept_at (new_at w2 _ _) hb3)
 have A1' := Aside0.mk (kept_at (kept_alloc A1.out _) hb3)
 have HB3 := Aside0.mk (HB2.out.trans (((Below.refl w2.heap.size w2).alloc (Nat.le_refl _) _ |>.trans (hb3.mono (by simp))).mono HB2.out.size)); clear hb3 A1
 go_wp2_with fail
 refine (r1_Int.calls 1 1 1 ⟨#[]⟩ _ rfl).mono ?_
 rintro e w4 ⟨rfl, hb4⟩
 have HG := Aside0.mk (kept_at (new_at1 w3 (.cells #[.int .u8 1, .int .i64 1, .string ⟨#[]⟩] 27) _ _) hb4)
 have HA3 := Aside0.mk (kept_at (kept_alloc (new_at w3 _ _) (.cells #[.slice (some ⟨w1.heap.size, 0, none⟩) 1 1, .slice (some ⟨w2.heap.size, 0, none⟩) 1 1, .slice (some ⟨w3.heap.size, 0, none⟩) 1 1] 58)) hb4)
 have HA2 := Aside0.mk (kept_at (kept_alloc (kept_alloc A2.out (.cells #[.int .u8 1, .int .i64 1, .string ⟨#[]⟩] 27)) (.cells #[.slice (some ⟨w1.heap.size, 0, none⟩) 1 1, .slice (some ⟨w2.heap.size, 0, none⟩) 1 1, .slice (some ⟨w3.heap.size, 0, none⟩) 1 1] 58)) hb4)
 have HA1 := Aside0.mk (kept_at (kept_alloc (kept_alloc A1'.out (.cells #[.int .u8 1, .int .i64 1, .string ⟨#[]⟩] 27)) (.cells #[.slice (some ⟨w1.heap.size, 0, none⟩) 1 1, .slice (some ⟨w2.heap.size, 0, none⟩) 1 1, .slice (some ⟨w3.heap.size, 0, none⟩) 1 1] 58)) hb4)
 have HB4 := Aside0.mk (HB3.out.trans ((below2 w3 (.cells #[.int .u8 1, .int .i64 1, .string ⟨#[]⟩] 27) (.cells #[.slice (some ⟨w1.heap.size, 0, none⟩) 1 1, .slice (some ⟨w2.heap.size, 0, none⟩) 1 1, .slice (some ⟨w3.heap.size, 0, none⟩) 1 1] 58)).mono HB3.out.size |>.trans (hb4.mono (by have := HB3.out.size; simp; omega))))
 clear hb4 A1' A2
 have HONE : Aside0 (kRow.C w4 (some ⟨w3.heap.size + 1, 0, none⟩) oneA_.length oneA_) := ⟨C_rows HG.out (by simp) (fun j row hj => by
  match j, hj with
  | 0, hj =>
   obtain rfl : [iV 2] = row := by simpa [oneA_] using hj
   exact ⟨_, 1, rfl, by simp, C_row1 (iV 2) HA1.out⟩
  | 1, hj =>
   obtain rfl : [iV 1] = row := by simpa [oneA_] using hj
   exact ⟨_, 1, rfl, by simp, C_row1 (iV 1) HA2.out⟩
  | 2, hj =>
   obtain rfl : [iV 1] = row := by simpa [oneA_] using hj
   exact ⟨_, 1, rfl, by simp, C_row1 (iV 1) HA3.out⟩
  | j + 3, hj => simp [oneA_] at hj)⟩
 clear HG HA1 HA2 HA3
 obtain ⟨g1, hg1⟩ : ∃ g1, g1 = w3.heap.size + 1 := ⟨_, rfl⟩
 rw [← hg1] at HONE
 rw [← hg1]
 clear hg1
 go_wp2_with fail
 refine (r1_Int.calls 3 1 3 ⟨#[]⟩ _ rfl).mono ?_
 rintro e w5 ⟨rfl, hb5⟩
 have A4 := Aside0.mk (kept_at (new_at w4 _ _) hb5)
 have HB5 := Aside0.mk (HB4.out.trans (((Below.refl w4.heap.size w4).alloc (Nat.le_refl _) (.cells #[.int .u8 1, .int .i64 1, .string ⟨#[]⟩] 27) |>.trans (hb5.mono (by simp))).mono HB4.out.size))
 have HONE5 := Aside0.mk (Kd.C_below HONE.out ((Below.refl w4.heap.size w4).alloc (Nat.le_refl _) (.cells #[.int .u8 1, .int .i64 1, .string ⟨#[]⟩] 27) |>.trans (hb5.mono (by simp))))
 clear hb5 HONE
 go_wp2_with fail
 have HG := Aside0.mk (new_at1 w5 (.cells #[.int .u8 1, .int .i64 3, .string ⟨#[]⟩] 27) #[.slice (some ⟨w4.heap.size, 0, none⟩) 1 1, .slice (some ⟨w5.heap.size, 0, none⟩) 1 1] 58)
 have HA5 := Aside0.mk (kept_alloc (new_at w5 #[.int .u8 1, .int .i64 3, .string ⟨#[]⟩] 27) (.cells #[.slice (some ⟨w4.heap.size, 0, none⟩) 1 1, .slice (some ⟨w5.heap.size, 0, none⟩) 1 1] 58))
 have HA4 := Aside0.mk (kept_alloc (kept_alloc A4.out (.cells #[.int .u8 1, .int .i64 3, .string ⟨#[]⟩] 27)) (.cells #[.slice (some ⟨w4.heap.size, 0, none⟩) 1 1, .slice (some ⟨w5.heap.size, 0, none⟩) 1 1] 58))
 have HB6 := Aside0.mk (HB5.out.trans ((below2 w5 (.cells #[.int .u8 1, .int .i64 3, .string ⟨#[]⟩] 27) (.cells #[.slice (some ⟨w4.heap.size, 0, none⟩) 1 1, .slice (some ⟨w5.heap.size, 0, none⟩) 1 1] 58)).mono HB5.out.size))
 have HONE6 := Aside0.mk (Kd.C_below HONE5.out (below2 w5 (.cells #[.int .u8 1, .int .i64 3, .string ⟨#[]⟩] 27) (.cells #[.slice (some ⟨w4.heap.size, 0, none⟩) 1 1, .slice (some ⟨w5.heap.size, 0, none⟩) 1 1] 58)))
 have HTWO : Aside0 (kRow.C ((w5.alloc (.cells #[.int .u8 1, .int .i64 3, .string ⟨#[]⟩] 27)).alloc (.cells #[.slice (some ⟨w4.heap.size, 0, none⟩) 1 1, .slice (some ⟨w5.heap.size, 0, none⟩) 1 1] 58)) (some ⟨w5.heap.size + 1, 0, none⟩) twoA_.length twoA_) := ⟨C_rows HG.out (by simp) (fun j row hj => by
  match j, hj with
  | 0, hj =>
   obtain rfl : [iV 1] = row := by simpa [twoA_] using hj
   exact ⟨_, 1, rfl, by simp, C_row1 (iV 1) HA4.out⟩
  | 1, hj =>
   obtain rfl : [iV 3] = row := by simpa [twoA_] using hj
   exact ⟨_, 1, rfl, by simp, C_row1 (iV 3) HA5.out⟩
  | j + 2, hj => simp [twoA_] at hj)⟩
 clear HG HA4 HA5 A4 HONE5
 obtain ⟨g2, hg2⟩ : ∃ g2, g2 = w5.heap.size + 1 := ⟨_, rfl⟩
 rw [← hg2] at HTWO
 rw [← hg2]
 clear hg2
 obtain ⟨W6, hW6⟩ : ∃ W6, W6 = (w5.alloc (.cells #[.int .u8 1, .int .i64 3, .string ⟨#[]⟩] 27)).alloc (.cells #[.slice (some ⟨w4.heap.size, 0, none⟩) 1 1, .slice (some ⟨w5.heap.size, 0, none⟩) 1 1] 58) := ⟨_, rfl⟩
 rw [← hW6] at HTWO HONE6 HB6
 rw [← hW6]
 clear hW6
 obtain ⟨met, left, hsp, hll⟩ := awake_except
 have HLL := Aside0.mk hll
 refine (split_Except _ _ oneA_ _ _ twoA_ met left 0 W6 HONE6.out (by simp) HTWO.out (by simp) (HT.out.below HB6.out) hsp).mono ?_
 rintro e w7 ⟨v0, rfl, ⟨Av, cv, hv0, hlv, hF⟩, hb7⟩
 rw [HLL.out] at hv0
 subst hv0
 have HB7 := Aside0.mk (HB6.out.trans (hb7.mono HB6.out.size))
 have HONE7 := Aside0.mk (Kd.C_below HONE6.out hb7)
 have HTWO7 := Aside0.mk (Kd.C_below HTWO.out hb7)
 clear hsp hll hlv hF hb7 HONE6 HTWO
 go_wp2_with fail
 have hBK : Below w7.heap.size w7 (w7.alloc (.cells #[.int .i64 0, .bool true] 62)) := (Below.refl _ w7).alloc (Nat.le_refl _) _
 have HB8 := Aside0.mk (HB7.out.trans (hBK.mono HB7.out.size))
 have HKY : Aside0 (kKey.C (w7.alloc (.cells #[.int .i64 0, .bool true] 62)) (some ⟨w7.heap.size, 0, none⟩) [(⟨0, true⟩ : KeyT)].length [⟨0, true⟩]) := ⟨C_one (⟨0, true⟩ : KeyT) (new_at w7 _ _) rfl (kKey.K_of_M (base := 0) (ok := fun _ => True) (k62_mkM _ _ _ ⟨0, true⟩))⟩
 have HONE8 := Aside0.mk (Kd.C_below HONE7.out hBK)
 have HTWO8 := Aside0.mk (Kd.C_below HTWO7.out hBK)
 clear HONE7 HTWO7 hBK
 refine (bag_Cut.calls (some ⟨g1, 0, none⟩) 3 oneA_ (some ⟨w7.heap.size, 0, none⟩) 1 [⟨0, true⟩] 0 1 [[iV 2]] 0 _ HONE8.out (by simp) HKY.out (by simp) awake_cut).mono ?_
 rintro e w9 ⟨v1, rfl, ⟨Ac, cc, hv1, hlc, hFc⟩, hb9⟩
 have hv1 : v1 = .slice Ac 1 cc := hv1
 subst hv1
 have HCUT := Aside0.mk (Kd.F_now hFc)
 have HCL := Aside0.mk hlc
 have HB9 := Aside0.mk (HB8.out.trans (hb9.mono HB8.out.size))
 have HONE9 := Aside0.mk (Kd.C_below HONE8.out hb9)
 have HTWO9 := Aside0.mk (Kd.C_below HTWO8.out hb9)
 clear hlc hFc hb9 HONE8 HTWO8 HKY
 go_wp2_with fail
 have hBG : Below w9.heap.size w9 ((w9.alloc (.cells #[.int .i64 0] 3)).alloc (.cells #[.int .u8 0, .int .i64 0, .bool false] 47)) := below2 w9 _ _
 have HB10 := Aside0.mk (HB9.out.trans (hBG.mono HB9.out.size))
 have HCO : Aside0 ((Kd.int .i64).C ((w9.alloc (.cells #[.int .i64 0] 3)).alloc (.cells #[.int .u8 0, .int .i64 0, .bool false] 47)) (some ⟨w9.heap.size, 0, none⟩) [(0 : Int)].length [0]) := ⟨C_one (d := Kd.int .i64) (0 : Int) (kept_alloc (new_at w9 _ _) _) rfl rfl⟩
 have HAG : Aside0 (kAgg.C ((w9.alloc (.cells #[.int .i64 0] 3)).alloc (.cells #[.int .u8 0, .int .i64 0, .bool false] 47)) (some ⟨w9.heap.size + 1, 0, none⟩) [(⟨0, 0, false⟩ : AggT)].length [⟨0, 0, false⟩]) := ⟨C_one (⟨0, 0, false⟩ : AggT) (new_at1 w9 _ _ _) rfl (kAgg.K_of_M (base := 0) (ok := fun _ => True) (k47_mkM _ _ _ ⟨0, 0, false⟩))⟩
 have HONE10 := Aside0.mk (Kd.C_below HONE9.out hBG)
 have HTWO10 := Aside0.mk (Kd.C_below HTWO9.out hBG)
 have HCUT10 := Aside0.mk (Kd.C_below HCUT.out hBG)
 clear hBG HONE9 HTWO9 HCUT
 have hgr := group_good (some ⟨g1, 0, none⟩) 3 oneA_ (some ⟨w9.heap.size, 0, none⟩) 1 [0] (some ⟨w9.heap.size + 1, 0, none⟩) 1 [⟨0, 0, false⟩] _ HONE10.out (by simp) HCO.out HAG.out (HT.out.below HB10.out) awake_groupOk awake_groupable [[iV 1, iV 2], [iV 2, iV 1]] 0 awake_group
 clear HCO HAG
 refine hgr.mono ?_
 clear hgr
 rintro e w11 ⟨v2, rfl, ⟨Ag, cg, hv2, hlg, hFg⟩, hb11⟩
 have hg := Kd.F_now hFg
 have hv2 : v2 = .slice Ag 2 cg := hv2
 subst hv2
 have HGR := Aside0.mk hg
 have HGL := Aside0.mk hlg
 have HB11 := Aside0.mk (HB10.out.trans (hb11.mono HB10.out.size))
 have HONE11 := Aside0.mk (Kd.C_below HONE10.out hb11)
 have HTWO11 := Aside0.mk (Kd.C_below HTWO10.out hb11)
 have HCUT11 := Aside0.mk (Kd.C_below HCUT10.out hb11)
 clear hlg hFg hg hb11 HONE10 HTWO10 HCUT10
 go_wp2_with fail
 have hBO : Below w11.heap.size w11 (w11.alloc (.cells #[.slice Ag 2 cg, .int .i64 0] 41)) := (Below.refl _ w11).alloc (Nat.le_refl _) _
 have HOC := Aside0.mk (new_at w11 #[.slice Ag 2 cg, .int .i64 0] 41)
 obtain ⟨W12, hW12⟩ : ∃ W12, W12 = w11.alloc (.cells #[.slice Ag 2 cg, .int .i64 0] 41) := ⟨_, rfl⟩
 obtain ⟨go, hgo⟩ : ∃ go, go = w11.heap.size := ⟨_, rfl⟩
 rw [← hW12] at hBO HOC
 rw [← hgo] at HOC
 rw [← hW12, ← hgo]
 have HB12 := Aside0.mk (HB11.out.trans (hBO.mono HB11.out.size))
 have HBW : Aside0 (Below w11.heap.size w11 W12) := ⟨hBO⟩
 clear hBO hW12 hgo
 refine (r1_Int.calls 9223372036854775807 1 9223372036854775807 ⟨#[]⟩ _ rfl).mono ?_
 rintro e w13 ⟨rfl, hb13⟩
 have HB13 := Aside0.mk hb13
 clear hb13
 go_wp2_with fail
 refine (r1_Int.calls 1 1 1 ⟨#[]⟩ _ rfl).mono ?_
 rintro e w14 ⟨rfl, hb14⟩
 have HB14 := Aside0.mk (HB13.out.trans (hb14.mono HB13.out.size))
 clear hb14 HB13
 go_wp2_with fail
 refine (r1_Int.calls (-1) 1 (-1) ⟨#[]⟩ _ rfl).mono ?_
 rintro e w15 ⟨rfl, hb15⟩
 have HB15 := Aside0.mk (HB14.out.trans (hb15.mono HB14.out.size))
 clear hb15 HB14
 go_wp2_with fail
 have hb16 : Below w15.heap.size w15 (w15.alloc (.cells #[.int .u8 1, .int .i64 9223372036854775807, .string ⟨#[]⟩, .int .u8 1, .int .i64 1, .string ⟨#[]⟩, .int .u8 1, .int .i64 (-1), .string ⟨#[]⟩] 27)) := (Below.refl _ w15).alloc (Nat.le_refl _) _
 have HB16 : Aside0 (Below W12.heap.size W12 (w15.alloc (.cells #[.int .u8 1, .int .i64 9223372036854775807, .string ⟨#[]⟩, .int .u8 1, .int .i64 1, .string ⟨#[]⟩, .int .u8 1, .int .i64 (-1), .string ⟨#[]⟩] 27))) := ⟨HB15.out.trans (hb16.mono HB15.out.size)⟩
 have hc3 := C_three 9223372036854775807 1 (-1) (new_at w15 #[.int .u8 1, .int .i64 9223372036854775807, .string ⟨#[]⟩, .int .u8 1, .int .i64 1, .string ⟨#[]⟩, .int .u8 1, .int .i64 (-1), .string ⟨#[]⟩] 27)
 clear hb16
 refine (bag_Aggregate.calls 2 false (some ⟨w15.heap.size, 0, none⟩) 3 [iV 9223372036854775807, iV 1, iV (-1)] 1 9223372036854775807 ⟨#[]⟩ 0 _ hc3 (by simp) (HT.out.below (HB12.out.trans (HB16.out.mono HB12.out.size))) awake_agg).mono ?_
 clear hc3
 rintro e w17 ⟨rfl, hb17⟩
 have HB17 := Aside0.mk (HB16.out.trans (hb17.mono HB16.out.size))
 clear hb17 HB16 HB15
 have HOC17 := Aside0.mk (kept_at HOC.out HB17.out)
 have o1 : w17.cell? ⟨go, 1, none⟩ = some (.int .i64 0) := (blk_cell HOC17.out 1).trans rfl
 have o0 : w17.cell? ⟨go, 0, none⟩ = some (.slice Ag 2 cg) := (blk_cell HOC17.out 0).trans rfl
 have hgs : go ≠ w17.heap.size := by have := blk_lt HOC17.out; omega
 have o2 : (w17.alloc (.cells #[.int .u8 1, .int .i64 9223372036854775807, .string ⟨#[]⟩, .int .i64 0] 31)).cell? ⟨go, 1, none⟩ = some (.int .i64 0) := (blk_cell (kept_alloc HOC17.out _) 1).trans rfl
 have o3 : (w17.alloc (.cells #[.int .u8 1, .int .i64 9223372036854775807, .string ⟨#[]⟩, .int .i64 0] 31)).cell? ⟨go, 0, none⟩ = some (.slice Ag 2 cg) := (blk_cell (kept_alloc HOC17.out _) 0).trans rfl
 go_wp2_with fail
 clear o0 o1 o2 o3 hgs
 have HOC20 := Aside0.mk (kept_alloc HOC17.out (.cells #[.int .u8 1, .int .i64 9223372036854775807, .string ⟨#[]⟩, .int .i64 0] 31))
 have HSC20 := Aside0.mk (new_at w17 #[.int .u8 1, .int .i64 9223372036854775807, .string ⟨#[]⟩, .int .i64 0] 31)
 have hb20 : Below w17.heap.size w17 (w17.alloc (.cells #[.int .u8 1, .int .i64 9223372036854775807, .string ⟨#[]⟩, .int .i64 0] 31)) := (Below.refl _ w17).alloc (Nat.le_refl _) _
 have hb1120 : Below w11.heap.size w11 (w17.alloc (.cells #[.int .u8 1, .int .i64 9223372036854775807, .string ⟨#[]⟩, .int .i64 0] 31)) := HBW.out.trans ((HB17.out.trans (hb20.mono HB17.out.size)).mono HBW.out.size)
 have HB20 := Aside0.mk (HB11.out.trans (hb1120.mono HB11.out.size))
 have HONE20 := Aside0.mk (Kd.C_below HONE11.out hb1120)
 have HTWO20 := Aside0.mk (Kd.C_below HTWO11.out hb1120)
 have HCUT20 := Aside0.mk (Kd.C_below HCUT11.out hb1120)
 have HGR20 := Aside0.mk (Kd.C_below HGR.out hb1120)
 clear hb20 hb1120
 obtain ⟨W20, hW20⟩ : ∃ W20, W20 = w17.alloc (.cells #[.int .u8 1, .int .i64 9223372036854775807, .string ⟨#[]⟩, .int .i64 0] 31) := ⟨_, rfl⟩
 obtain ⟨so, hso⟩ : ∃ so, so = w17.heap.size := ⟨_, rfl⟩
 rw [← hW20] at HOC20 HSC20 HB20 HONE20 HTWO20 HCUT20 HGR20
 rw [← hso] at HSC20
 rw [← hW20, ← hso]
 clear hW20 hso
 have HKEEP : Aside0 (∀ W', Below W20.heap.size W20 W' → W'.cell? ⟨so, 1, none⟩ = some (.int .i64 9223372036854775807) ∧ W'.cell? ⟨go, 0, none⟩ = some (.slice Ag 2 cg)) := ⟨fun W' hb => ⟨(blk_cell (kept_at HSC20.out hb) 1).trans rfl, (blk_cell (kept_at HOC20.out hb) 0).trans rfl⟩⟩
 have HTAKE : Aside0 (kRow.C W20 (some ⟨g1, 0, none⟩) 1 [[iV 2]]) := ⟨Kd.C_take (m := 1) HONE20.out (by simp)⟩
 have HTAKG : Aside0 (kRow.C W20 Ag 1 [[iV 1, iV 2]]) := ⟨Kd.C_take (m := 1) HGR20.out (by simp)⟩
 have HC1 : Aside0 (∀ W', Below W20.heap.size W20 W' → Calls Tryd.prog 19 #[.slice Ac 1 cc, .slice (some ⟨g1, 0, none⟩) 1 3] W' fun e w' => e = .returned (.bool true) ∧ Below W'.heap.size W' w') := ⟨fun W' hb => by
  obtain ⟨k, hk⟩ := (sameLists_refl [[iV 2]] (by simp) (by simp)).rounds
  exact r6_SameLists.calls k Ac cc [[iV 2]] (some ⟨g1, 0, none⟩) 3 [[iV 2]] true W' (Kd.C_below HCUT20.out hb) HCL.out (Kd.C_below HTAKE.out hb) (by simp) hk⟩
 have HC4 : Aside0 (∀ W' b, Below W20.heap.size W20 W' → kRow.C W' (some ⟨b, 0, none⟩) 1 [[iV 1, iV 2]] → Calls Tryd.prog 19 #[.slice Ag 1 cg, .slice (some ⟨b, 0, none⟩) 1 1] W' fun e w' => e = .returned (.bool true) ∧ Below W'.heap.size W' w') := ⟨fun W' b hb hc => by
  obtain ⟨k, hk⟩ := (sameLists_refl [[iV 1, iV 2]] (by simp) (by simp)).rounds
  exact r6_SameLists.calls k Ag cg [[iV 1, iV 2]] (some ⟨b, 0, none⟩) 1 [[iV 1, iV 2]] true W' (Kd.C_below HTAKG.out hb) (Nat.le_trans (by simp) HGL.out) hc (by simp) hk⟩
 have HC5 : Aside0 (∀ W', Below W20.heap.size W20 W' → Calls Tryd.prog 26 #[.slice (some ⟨g1, 0, none⟩) 3 3] W' fun e w' => e = .returned (.bool true) ∧ Below W'.heap.size W' w') := ⟨fun W' hb => by
  obtain ⟨k, hk⟩ := (valid_ev oneA_ one_ok.v).rounds
  rw [one_valid] at hk
  exact bag_Valid.calls k (some ⟨g1, 0, none⟩) 3 oneA_ true W' (Kd.C_below HONE20.out hb) (by simp) hk⟩
 have HC6 : Aside0 (∀ W', Below W20.heap.size W20 W' → Calls Tryd.prog 24 #[.slice (some ⟨g1, 0, none⟩) 3 3, .slice (some ⟨g2, 0, none⟩) 2 2] W' fun e w' => e = .returned (.bool false) ∧ Below W'.heap.size W' w') := ⟨fun W' hb =>
  bag_Same.calls (some ⟨g1, 0, none⟩) 3 oneA_ (some ⟨g2, 0, none⟩) 2 twoA_ false W' (Kd.C_below HONE20.out hb) (by simp) (Kd.C_below HTWO20.out hb) (by simp) (HT.out.below (HB20.out.trans (hb.mono HB20.out.size))) awake_same⟩
 have HNEW : Aside0 (∀ (w : World), kRow.C ((w.alloc (.cells #[.int .u8 1, .int .i64 1, .string ⟨#[]⟩, .int .u8 1, .int .i64 2, .string ⟨#[]⟩] 27)).alloc (.cells #[.slice (some ⟨w.heap.size, 0, none⟩) 2 2] 58)) (some ⟨w.heap.size + 1, 0, none⟩) 1 [[iV 1, iV 2]]) := ⟨fun w => by
  have h1 := new_at1 w (.cells #[.int .u8 1, .int .i64 1, .string ⟨#[]⟩, .int .u8 1, .int .i64 2, .string ⟨#[]⟩] 27) #[.slice (some ⟨w.heap.size, 0, none⟩) 2 2] 58
  have h2 := kept_alloc (new_at w #[.int .u8 1, .int .i64 1, .string ⟨#[]⟩, .int .u8 1, .int .i64 2, .string ⟨#[]⟩] 27) (.cells #[.slice (some ⟨w.heap.size, 0, none⟩) 2 2] 58)
  exact C_rows (l := [[iV 1, iV 2]]) h1 (by simp) (fun j row hj => by
   match j, hj with
   | 0, hj =>
    obtain rfl : [iV 1, iV 2] = row := by simpa using hj
    exact ⟨_, 2, rfl, by simp, C_two 1 2 h2⟩
   | j + 1, hj => simp at hj)⟩
 obtain ⟨i0, hi0, hzz⟩ := Option.map_eq_some_iff.1 infoRow
 simp only [Prod.mk.injEq] at hzz
 have hsl : ∀ W, (Instr.slice 37 (.slice Ag 2 cg) none (some (.int .i64 1)) none).run Tryd.prog W = .ok (.slice Ag 1 cg) W := (print_take_of (P := Tryd.prog) (Value.int .i64) (0 : Int) 37 58 .i64 Tryd.underlying37 hi0 hzz.2.1 Ag cg [0, 0] 1 (by omega) (by simp) HGL.out).1
 clear hzz hi0
 have HE : Aside0 (Below W20.heap.size W20 W20.drew) := ⟨(Below.refl _ W20).drew⟩
 have HE0 : Aside0 (Below W20.heap.size W20 W20) := ⟨Below.refl _ W20⟩
 go_region_held3 (fun W' => W'.cell? ⟨so, 1, none⟩ = some (.int .i64 9223372036854775807) ∧ W'.cell? ⟨go, 0, none⟩ = some (.slice Ag 2 cg)) (first | (with_reducible exact HKEEP.out _ HE0.out) | (with_reducible exact HKEEP.out _ HE.out) | (with_reducible exact HKEEP.out _ HBa.out) | (with_reducible exact HKEEP.out _ HBb.out) | (with_reducible exact HKEEP.out _ HBc.out) | (with_reducible exact HKEEP.out _ (HBc1.out _)) | (with_reducible exact HKEEP.out _ (HBc2.out _ _)) | (with_reducible exact HKEEP.out _ HBd.out) | (with_reducible exact HKEEP.out _ HBe.out) | (with_reducible exact HKEEP.out _ HBf.out)) (first
  | (go_at_call 19; (with_reducible refine (HC1.out W20.drew HE.out).mono ?_); rintro e wa ⟨rfl, hba⟩; have HBa := Aside0.mk (HE.out.trans (hba.mono HE.out.size)); clear hba)
  | (go_at_call 12; (with_reducible refine (r1_Int.calls 1 1 1 ⟨#[]⟩ wa rfl).mono ?_); rintro e wb ⟨rfl, hbb⟩; have HBb := Aside0.mk (HBa.out.trans (hbb.mono HBa.out.size)); clear hbb)
  | (go_at_call 12; (with_reducible refine (r1_Int.calls 2 1 2 ⟨#[]⟩ wa rfl).mono ?_); rintro e wb ⟨rfl, hbb⟩; have HBb := Aside0.mk (HBa.out.trans (hbb.mono HBa.out.size)); clear hbb)
  | (go_at_call 12; (with_reducible refine (r1_Int.calls 1 1 1 ⟨#[]⟩ wb rfl).mono ?_); rintro e wc ⟨rfl, hbc⟩; have HBc := Aside0.mk (HBb.out.trans (hbc.mono HBb.out.size)); have HBc1 : Aside0 (∀ o, Below W20.heap.size W20 (wc.alloc o)) := ⟨fun o => HBc.out.alloc HBc.out.size o⟩; have HBc2 : Aside0 (∀ o p, Below W20.heap.size W20 ((wc.alloc o).alloc p)) := ⟨fun o p => (HBc1.out o).alloc (HBc1.out o).size p⟩; clear hbc)
  | (go_at_call 12; (with_reducible refine (r1_Int.calls 2 1 2 ⟨#[]⟩ wb rfl).mono ?_); rintro e wc ⟨rfl, hbc⟩; have HBc := Aside0.mk (HBb.out.trans (hbc.mono HBb.out.size)); have HBc1 : Aside0 (∀ o, Below W20.heap.size W20 (wc.alloc o)) := ⟨fun o => HBc.out.alloc HBc.out.size o⟩; have HBc2 : Aside0 (∀ o p, Below W20.heap.size W20 ((wc.alloc o).alloc p)) := ⟨fun o p => (HBc1.out o).alloc (HBc1.out o).size p⟩; clear hbc)
  | (go_at_call 19; (with_reducible refine (HC4.out _ _ (HBc2.out _ _) (HNEW.out wc)).mono ?_); rintro e wd ⟨rfl, hbd⟩; have HBd := Aside0.mk ((HBc2.out _ _).trans (hbd.mono (HBc2.out _ _).size)); clear hbd)
  | (go_at_call 26; (with_reducible refine (HC5.out wd HBd.out).mono ?_); rintro e we ⟨rfl, hbe⟩; have HBe := Aside0.mk (HBd.out.trans (hbe.mono HBd.out.size)); clear hbe)
  | (go_at_call 24; (with_reducible refine (HC6.out we HBe.out).mono ?_); rintro e wf ⟨rfl, hbf⟩; have HBf := Aside0.mk (HBe.out.trans (hbf.mono HBe.out.size)); clear hbf))
 all_goals (go_wp2; go_ret; exact ⟨rfl, HB20.out.trans (HBf.out.mono HB20.out.size)⟩)
def w6_awake.f : Option Bool := some true
theorem w6_awake.calls (r : Bool) (w : World) (hT : LaidT w) (h : w6_awake.f = some r) : Calls Tryd.prog 11 #[] w fun e w' => e = .returned (.bool r) ∧ Below w.heap.size w w' := by
 obtain rfl : true = r := Option.some.inj h
 exact awake_calls w hT
end Go.Proofs.YtecgkcgfeghhgaaDoor.PAll
namespace Go.Proofs.YtecgkcgfeghhgaaDoor.PAll
open Go.RowKit Go.Proofs.YtecgkcgfeghhgaaDoorW.PrintWords Go.Proofs.YtecgkcgfeghhgaaDoorW.PrintLast Go.Proofs.YtecgkcgfeghhgaaDoorW.PrintMore
attribute [local go_sem] max2_int min2_int max_two min_two max_three min_three max_four min_four
set_option linter.unusedVariables false
set_option linter.unusedSimpArgs false
noncomputable section
mutual
def w6_BagSums.l0 : Nat → List Int → List Int → List Int → Int → List (S27) → List (S27) → Int → Option (Bool)
 | 0, _, _, _, _, _, _, _ => none
 | k + 1, x0, x1, x2, x3, x9, x10, x11 => if x11 < (x0.length : Int) then (if 0 ≤ x11 then ((r1_Int.f (rd x0 x11)).bind fun bt174 => (if x9.length < 4398046511104 then ((r1_Int.f (rd x0 x11)).bind fun bt181 => (if x10.length < 4398046511104 then (w6_BagSums.l0 k x0 x1 x2 x3 (x9 ++ [(⟨bt174.1, bt174.2.1, bt174.2.2⟩ : S27)]) (x10 ++ [(⟨bt181.1, bt181.2.1, bt181.2.2⟩ : S27)]) (wrap64 (x11 + 1))) else (none))) else (none))) else (none)) else ((r1_Int.f x3).bind fun bt187 => (if x10.length < 4398046511104 then (w6_BagSums.l1 k x1 x2 x3 x9 (x10 ++ [(⟨bt187.1, bt187.2.1, bt187.2.2⟩ : S27)]) 0) else (none)))
def w6_BagSums.l1 : Nat → List Int → List Int → Int → List (S27) → List (S27) → Int → Option (Bool)
 | 0, _, _, _, _, _, _ => none
 | k + 1, x1, x2, x3, x9, x10, x12 => if x12 < (x1.length : Int) then (if 0 ≤ x12 then ((r1_Int.f (rd x1 x12)).bind fun bt194 => (if x9.length < 4398046511104 then ((r1_Int.f (rd x1 x12)).bind fun bt201 => (if x10.length < 4398046511104 then (w6_BagSums.l1 k x1 x2 x3 (x9 ++ [(⟨bt194.1, bt194.2.1, bt194.2.2⟩ : S27)]) (x10 ++ [(⟨bt201.1, bt201.2.1, bt201.2.2⟩ : S27)]) (wrap64 (x12 + 1))) else (none))) else (none))) else (none)) else ((r1_Int.f (wrap64 (-x3))).bind fun bt207 => (if x10.length < 4398046511104 then (w6_BagSums.l2 k x2 x9 (x10 ++ [(⟨bt207.1, bt207.2.1, bt207.2.2⟩ : S27)]) 0) else (none)))
def w6_BagSums.l2 : Nat → List Int → List (S27) → List (S27) → Int → Option (Bool)
 | 0, _, _, _, _ => none
 | k + 1, x2, x9, x10, x13 => if x13 < (x2.length : Int) then (if 0 ≤ x13 then ((r1_Int.f (rd x2 x13)).bind fun bt214 => (if x9.length < 4398046511104 then ((r1_Int.f (rd x2 x13)).bind fun bt221 => (if x10.length < 4398046511104 then (w6_BagSums.l2 k x2 (x9 ++ [(⟨bt214.1, bt214.2.1, bt214.2.2⟩ : S27)]) (x10 ++ [(⟨bt221.1, bt221.2.1, bt221.2.2⟩ : S27)]) (wrap64 (x13 + 1))) else (none))) else (none))) else (none)) else ((bag_Aggregate.f 2 false x10).bind fun bt227 => ((bag_Aggregate.f 2 false x9).bind fun bt232 => (if (x9.length : Int) = 0 then (if bt227.2.2.2 = 0 then ((r1_Int.f 0).bind fun bt237 => ((r1_Same.f bt227.1 bt227.2.1 bt227.2.2.1 bt237.1 bt237.2.1 bt237.2.2).bind fun t240 => (if t240 = true then (if bt232.2.2.2 = 0 then (if bt232.1 = 0 then ((w6_awake.f).bind fun t241 => (some t241)) else (some false)) else (some false)) else (some false)))) else (some false)) else (if bt227.2.2.2 = bt232.2.2.2 then ((r1_Same.f bt227.1 bt227.2.1 bt227.2.2.1 bt232.1 bt232.2.1 bt232.2.2.1).bind fun t242 => (if t242 = true then ((w6_awake.f).bind fun t243 => (some t243)) else (some false))) else (some false)))))
end
def w6_BagSums.f (k : Nat) (l0 : List Int) (l1 : List Int) (l2 : List Int) (a3 : Int) : Option (Bool) := if a3 = (-9223372036854775808) then ((w6_awake.f).bind fun t172 => (some t172)) else (w6_BagSums.l0 k l0 l1 l2 a3 ([] : List (S27)) ([] : List (S27)) 0)
def w6_BagSums.T24 : Bool × List (List Nat × List Nat) := (true, [([], []), ([0], [0]), ([1], [1]), ([2], [2]), ([3], [3]), ([4, 3], [3, 4]), ([3, 3], [3]), ([5, 6, 6, 3], [3, 5, 6]), ([3, 7], [3, 7]), ([8, 7], [8]), ([9], [9]), ([10, 9], [9, 10]), ([11, 9], [9, 11]), ([9, 12], [9, 12]), ([13, 9], [13]), ([14], [14]), ([15, 14], [14, 15]), ([16, 14], [14, 16]), ([17, 14], [14, 17]), ([14, 18], [14, 18]), ([19, 14], [19]), ([20, 20], [20]), ([20, 21], [20, 21]), ([22, 21, 0, 1, 2, 3, 4, 5, 6, 7, 8, 9, 10, 11, 12, 13, 14, 15, 16, 17, 18, 19, 20, 21, 22], [22])])
def w6_BagSums.B24 : List Nat := [0, 1, 3, 7, 15, 31, 15, 127, 255, 511, 1023, 2047, 4095, 8191, 16383, 32767, 65535, 131071, 262143, 524287, 1048575, 2097151, 4194303, 8388607]
theorem w6_BagSums.tab24 : rtab .any (opsOf Tryd.f3 24) = w6_BagSums.T24 := by kernel_rfl
theorem w6_BagSums.bits24 : waitsOk w6_BagSums.T24.2 w6_BagSums.B24 = true := by kernel_rfl
theorem w6_BagSums.calls (k : Nat) (A0 : Option Addr) (c0 : Nat) (l0 : List Int) (A1 : Option Addr) (c1 : Nat) (l1 : List Int) (A2 : Option Addr) (c2 : Nat) (l2 : List Int) (a3 : Int) (r : Bool) (w : World) (hr0 : Kd.C (Kd.int .i64) w A0 l0.length l0) (hc0 : l0.length ≤ c0) (hr1 : Kd.C (Kd.int .i64) w A1 l1.length l1) (hc1 : l1.length ≤ c1) (hr2 : Kd.C (Kd.int .i64) w A2 l2.length l2) (hc2 : l2.length ≤ c2) (hT : LaidT w) (h : w6_BagSums.f k l0 l1 l2 a3 = some r) (hrt : r = true := by rfl) :
 Calls Tryd.prog 3 #[.slice A0 l0.length c0, .slice A1 l1.length c1, .slice A2 l2.length c2, .int .i64 a3] w fun e w' => e = .returned (.bool r) ∧ Below w.heap.size w w' := by
 have HT := Aside0.mk hT
 clear hT
 have HRT := Aside0.mk hrt
 clear hrt
 have hu31 := Tryd.underlying31
 have hu27 := Tryd.underlying27
 have HR0 := Aside0.mk hr0
 have HC0 := Aside0.mk hc0
 clear hr0 hc0
 have HR1 := Aside0.mk hr1
 have HC1 := Aside0.mk hc1
 clear hr1 hc1
 have HR2 := Aside0.mk hr2
 have HC2 := Aside0.mk hc2
 clear hr2 hc2
 have HB := Aside0.mk (Below.refl w.heap.size w)
 have H : (if a3 = (-9223372036854775808) then ((w6_awake.f).bind fun t172 => (some t172)) else (w6_BagSums.l0 k l0 l1 l2 a3 ([] : List (S27)) ([] : List (S27)) 0)) = some r := h
 clear h
 by_cases c5 : a3 = (-9223372036854775808)
 · rw [if_pos c5] at H
   have c5b0 : (a3 == (-9223372036854775808)) = true := beq_iff_eq.mpr c5
   have c5b1 : (a3 != (-9223372036854775808)) = false := bne_eq_false_iff_eq.mpr c5
   clear c5
   replace H := Option.bind_eq_some_iff.mp H
   obtain ⟨t172, A60, H⟩ := H
   replace H : (some t172) = some r := H
   have A6 := Aside0.mk A60
   clear A60
   obtain rfl := Option.some.inj H
   go_enter Tryd.func3, Tryd.ntmps3
   go_wp2_with (first | ((with_reducible refine gate_callee (f := 11) rfl ?_); refine goesL_ (some 18) rfl rfl Tryd.func11 (by kernel_rfl) rfl #[] rfl (by (try simp only [List.map_toArray, List.map_cons, List.map_nil]); first | done | rfl | (simp only [List.length_drop, List.length_take]; rfl)) ?_; (with_reducible refine (w6_awake.calls  t172 _ ?sideT A6.out).mono ?_); (case sideT => exact LaidT.below HT.out (by repeat (first | (with_reducible first | exact HB.out | apply bA_ | apply bN_ | apply b1_ | refine below_set ?_ GE231.out | refine below_set ?_ GE236.out) | exact HB.out))); rintro e w7 ⟨rfl, hb⟩; refine ⟨_, rfl, ?_⟩; have n0_ := Aside0.mk (below_step (by repeat (first | (with_reducible first | exact HB.out | apply bA_ | apply bN_ | apply b1_) | exact HB.out)) hb); clear HB; have HB := n0_; clear n0_; (try clear hb); (try clear hb2); (try clear hk); (try clear hi)))
   go_ret
   exact ⟨by first | rfl | (simp [*, errW_none, errW_some] <;> rfl), by repeat (first | (with_reducible first | exact HB.out | apply bA_ | apply bN_ | apply b1_) | exact HB.out)⟩
 · rw [if_neg c5] at H
   have c5b0 : (a3 == (-9223372036854775808)) = false := beq_eq_false_iff_ne.mpr c5
   have c5b1 : (a3 != (-9223372036854775808)) = true := bne_iff_ne.mpr c5
   have H' := Aside0.mk H
   clear H
   go_enter Tryd.func3, Tryd.ntmps3
   go_wp2
   go_loopg [9, 10, 11] k (fun kq v9 v10 v11 w' => ∃ (x9_1 : List (S27)) (x10_1 : List (S27)) (x11_1 : Int), v11 = .int .i64 x11_1 ∧ Aside0 (w6_BagSums.l0 kq l0 l1 l2 a3 x9_1 x10_1 x11_1 = some r) ∧ Aside0 (kq ≤ k) ∧ Aside0 (Kd.R k27 27 w' w.heap.size (fun k_ => some k_ ≠ (v10 : Value).ownBlock) v9 x9_1) ∧ Aside0 (Kd.R k27 27 w' w.heap.size (fun k_ => some k_ ≠ (v9 : Value).ownBlock) v10 x10_1) ∧ Aside0 (Below w.heap.size w w'))
   case atStart => exact ⟨(([] : List (S27))), (([] : List (S27))), (0), (by first | rfl | (simp; done) | (simp [*]; done)), H', ⟨Nat.le_refl _⟩, ⟨by first | exact Kd.R_nil _ _ _ _ _ | exact Kd.N_nil _ _ _ _ _ | exact Kd.V_nil _ _ _ _ _ | exact Kd.Q_nil _ _ _ _ _ | exact Kd.S_nil _ _ _ _ _⟩, ⟨by first | exact Kd.R_nil _ _ _ _ _ | exact Kd.N_nil _ _ _ _ _ | exact Kd.V_nil _ _ _ _ _ | exact Kd.Q_nil _ _ _ _ _ | exact Kd.S_nil _ _ _ _ _⟩, ⟨by repeat (first | (with_reducible first | exact HB.out | apply bA_ | apply bN_ | apply b1_) | exact HB.out)⟩⟩
   case round =>
    clear H'
    try clear c1
    try clear c2
    try clear p2
    try clear c3
    try clear c5
    try clear c5b0
    try clear c5b1
    obtain ⟨x9_1, x10_1, x11_1, rfl, HA, HK1, HO_9, HO_10, HB⟩ := hrel
    cases gk with
    | zero => exact absurd HA.out (by simp [w6_BagSums.l0])
    | succ k1 =>
     have H := HA.out
     clear HA
     simp only [w6_BagSums.l0] at H
     by_cases c8 : x11_1 < (l0.length : Int)
     · rw [if_pos c8] at H
       have c8b0 : decide (x11_1 < (l0.length : Int)) = true := dT_ c8
       clear c8
       by_cases c9 : 0 ≤ x11_1
       · rw [if_pos c9] at H
         have c9b0 : decide (0 ≤ x11_1) = true := dT_ c9
         clear c9
         replace H := Option.bind_eq_some_iff.mp H
         obtain ⟨⟨t174, t175, t176⟩, A100, H⟩ := H
         replace H : (if x9_1.length < 4398046511104 then ((r1_Int.f (rd l0 x11_1)).bind fun bt181 => (if x10_1.length < 4398046511104 then (w6_BagSums.l0 k1 l0 l1 l2 a3 (x9_1 ++ [(⟨t174, t175, t176⟩ : S27)]) (x10_1 ++ [(⟨bt181.1, bt181.2.1, bt181.2.2⟩ : S27)]) (wrap64 (x11_1 + 1))) else (none))) else (none)) = some r := H
         have A10 := Aside0.mk A100
         clear A100
         by_cases c11 : x9_1.length < 4398046511104
         · rw [if_pos c11] at H
           have LMc11 := Aside0.mk c11
           clear c11
           obtain ⟨y177, hy177⟩ : ∃ y_ : List (S27), y_ = (x9_1 ++ [(⟨t174, t175, t176⟩ : S27)]) := ⟨_, rfl⟩
           replace H : ((r1_Int.f (rd l0 x11_1)).bind fun bt181 => (if x10_1.length < 4398046511104 then (w6_BagSums.l0 k1 l0 l1 l2 a3 y177 (x10_1 ++ [(⟨bt181.1, bt181.2.1, bt181.2.2⟩ : S27)]) (wrap64 (x11_1 + 1))) else (none))) = some r := by first | (rw [hy177]; with_reducible exact H) | (have H2_ := (Option.bind_some _ _).symm.trans H; rw [hy177]; with_reducible exact H2_) | (have H2_ := (Option.bind_some _ _).symm.trans H; with_reducible exact H2_) | with_reducible exact H | (rw [hy177]; exact H) | exact H
           have Ny177 := Aside0.mk hy177
           clear hy177
           replace H := Option.bind_eq_some_iff.mp H
           obtain ⟨⟨t181, t182, t183⟩, A120, H⟩ := H
           replace H : (if x10_1.length < 4398046511104 then (w6_BagSums.l0 k1 l0 l1 l2 a3 y177 (x10_1 ++ [(⟨t181, t182, t183⟩ : S27)]) (wrap64 (x11_1 + 1))) else (none)) = some r := H
           have A12 := Aside0.mk A120
           clear A120
           by_cases c13 : x10_1.length < 4398046511104
           · rw [if_pos c13] at H
             have LMc13 := Aside0.mk c13
             clear c13
             obtain ⟨y184, hy184⟩ : ∃ y_ : List (S27), y_ = (x10_1 ++ [(⟨t181, t182, t183⟩ : S27)]) := ⟨_, rfl⟩
             replace H : (w6_BagSums.l0 k1 l0 l1 l2 a3 y177 y184 (wrap64 (x11_1 + 1))) = some r := by first | (rw [hy184]; with_reducible exact H) | (have H2_ := (Option.bind_some _ _).symm.trans H; rw [hy184]; with_reducible exact H2_) | (have H2_ := (Option.bind_some _ _).symm.trans H; with_reducible exact H2_) | with_reducible exact H | (rw [hy184]; exact H) | exact H
             have Ny184 := Aside0.mk hy184
             clear hy184
             have H' := Aside0.mk H
             clear H
             have p173 : 0 ≤ (x11_1 : Int) := oT_ (by assumption)
             have q173 : x11_1 < (l0.length : Int) := oT_ (by assumption)
             obtain ⟨ad173, e173, hx173_0⟩ := Kd.at_int HR0.out x11_1 p173 q173
             cases e173
             replace hx173_0 := (HB.out.cell (bLC_ w _ hx173_0)).trans hx173_0
             replace p173 := eq_true p173
             replace q173 := eq_true q173
             go_wp2_with (first | ((with_reducible refine gate_callee (f := 12) rfl ?_); refine goesL_ (some 30) rfl rfl Tryd.func12 (by kernel_rfl) rfl #[.int .i64 (rd l0 x11_1)] rfl (by (try simp only [List.map_toArray, List.map_cons, List.map_nil]); first | done | rfl | (simp only [List.length_drop, List.length_take]; rfl)) ?_; (with_reducible refine (r1_Int.calls (rd l0 x11_1) t174 t175 t176 _ A10.out).mono ?_); rintro e w14 ⟨rfl, hb⟩; refine ⟨_, rfl, ?_⟩; have n0_ := Aside0.mk (Kd.R_below (by (with_reducible repeat (first | apply Kd.R_alloc | apply Kd.R_drewN | apply Kd.R_drew)); exact HO_9.out) hb); have n1_ := Aside0.mk (Kd.R_below (by (with_reducible repeat (first | apply Kd.R_alloc | apply Kd.R_drewN | apply Kd.R_drew)); exact HO_10.out) hb); have n2_ := Aside0.mk (below_step (by repeat (first | (with_reducible first | exact HB.out | apply bA_ | apply bN_ | apply b1_) | exact HB.out)) hb); clear HO_9; clear HO_10; clear HB; have HO_9 := n0_; have HO_10 := n1_; have HB := n2_; clear n0_ n1_ n2_; (try clear hb); (try clear hb2); (try clear hk); (try clear hi)) | ((with_reducible refine gate_builtin (b := .append) (xs := #[.tmp 25, .tmp 31]) rfl ?_); at_builtin; refine Kd.R_append k27 (w0 := w) w.heap.size rfl (.tmp 25) (.tmp 31) 24 27 (.agg #[(.int .u8 0), (.int .i64 0), (.string ⟨#[]⟩)]) 32 rfl Tryd.underlying24 info27 rfl (by decide) (by omega) u9 x9_1 (⟨t174, t175, t176⟩ : S27) [.int .u8 t174, .int .i64 t175, .string t176] (fun k_ => some k_ ≠ (u10 : Value).ownBlock) (fun _ => False) rfl rfl ?aP (fun _ hk => hk.elim) ?aF ?aO ?aB ?aS ?aL ?_; (case aP => exact k27_mkM _ _ _ (⟨t174, t175, t176⟩ : S27)); (case aB => exact (by repeat (first | (with_reducible first | exact HB.out | apply bA_ | apply bN_ | apply b1_) | exact HB.out))); (case aF => exact (fun k_ hk => Kd.fresh' (Kd.R_lt (by (with_reducible repeat (first | apply Kd.R_alloc | apply Kd.R_drewN | apply Kd.R_drew)); exact HO_10.out)) k_ hk)); (case aO => exact (by (with_reducible repeat (first | apply Kd.R_alloc | apply Kd.R_drewN | apply Kd.R_drew)); exact HO_9.out)); (case aS => exact (below_size (by repeat (first | (with_reducible first | exact HB.out | apply bA_ | apply bN_ | apply b1_) | exact HB.out)))); (case aL => have := LMc11.out; omega); intro v178 w15 ho hb hg hat; rw [← Ny177.out] at ho; have n0_ := Aside0.mk (Kd.R_after (ok := (fun _ => True)) (by (with_reducible repeat (first | apply Kd.R_alloc | apply Kd.R_drewN | apply Kd.R_drew)); exact Kd.R_mono HO_10.out (fun _ hk => ⟨trivial, hk⟩)) hg hat); have n1_ := Aside0.mk (hb); have n2_ := Aside0.mk (ho); clear HO_10; clear HB; clear HO_9; have HO_10 := n0_; have HB := n1_; have HO179 := n2_; clear n0_ n1_ n2_; clear ho hb hg hat; have p180 : 0 ≤ (x11_1 : Int) := oT_ (by assumption); have q180 : x11_1 < (l0.length : Int) := oT_ (by assumption); obtain ⟨ad180, e180, hx180_0⟩ := Kd.at_int HR0.out x11_1 p180 q180; obtain rfl : ad173 = ad180 := (by injection e180); replace hx180_0 := (HB.out.cell (bLC_ w _ hx180_0)).trans hx180_0; replace p180 := eq_true p180; replace q180 := eq_true q180) | ((with_reducible refine gate_callee (f := 12) rfl ?_); refine goesL_ (some 38) rfl rfl Tryd.func12 (by kernel_rfl) rfl #[.int .i64 (rd l0 x11_1)] rfl (by (try simp only [List.map_toArray, List.map_cons, List.map_nil]); first | done | rfl | (simp only [List.length_drop, List.length_take]; rfl)) ?_; (with_reducible refine (r1_Int.calls (rd l0 x11_1) t181 t182 t183 _ A12.out).mono ?_); rintro e w16 ⟨rfl, hb⟩; refine ⟨_, rfl, ?_⟩; have n0_ := Aside0.mk (Kd.R_below (by (with_reducible repeat (first | apply Kd.R_alloc | apply Kd.R_drewN | apply Kd.R_drew)); exact HO_10.out) hb); have n1_ := Aside0.mk (Kd.R_below (by (with_reducible repeat (first | apply Kd.R_alloc | apply Kd.R_drewN | apply Kd.R_drew)); exact HO179.out) hb); have n2_ := Aside0.mk (below_step (by repeat (first | (with_reducible first | exact HB.out | apply bA_ | apply bN_ | apply b1_) | exact HB.out)) hb); clear HO_10; clear HO179; clear HB; have HO_10 := n0_; have HO179 := n1_; have HB := n2_; clear n0_ n1_ n2_; (try clear hb); (try clear hb2); (try clear hk); (try clear hi)) | ((with_reducible refine gate_builtin (b := .append) (xs := #[.tmp 33, .tmp 39]) rfl ?_); at_builtin; refine Kd.R_append k27 (w0 := w) w.heap.size rfl (.tmp 33) (.tmp 39) 24 27 (.agg #[(.int .u8 0), (.int .i64 0), (.string ⟨#[]⟩)]) 32 rfl Tryd.underlying24 info27 rfl (by decide) (by omega) u10 x10_1 (⟨t181, t182, t183⟩ : S27) [.int .u8 t181, .int .i64 t182, .string t183] (fun k_ => some k_ ≠ (v178 : Value).ownBlock) (fun _ => False) rfl rfl ?aP (fun _ hk => hk.elim) ?aF ?aO ?aB ?aS ?aL ?_; (case aP => exact k27_mkM _ _ _ (⟨t181, t182, t183⟩ : S27)); (case aB => exact (by repeat (first | (with_reducible first | exact HB.out | apply bA_ | apply bN_ | apply b1_) | exact HB.out))); (case aF => exact (fun k_ hk => Kd.fresh' (Kd.R_lt (by (with_reducible repeat (first | apply Kd.R_alloc | apply Kd.R_drewN | apply Kd.R_drew)); exact HO179.out)) k_ hk)); (case aO => exact (by (with_reducible repeat (first | apply Kd.R_alloc | apply Kd.R_drewN | apply Kd.R_drew)); exact Kd.R_mono HO_10.out (fun _ hk => hk.2))); (case aS => exact (below_size (by repeat (first | (with_reducible first | exact HB.out | apply bA_ | apply bN_ | apply b1_) | exact HB.out)))); (case aL => have := LMc13.out; omega); intro v185 w17 ho hb hg hat; rw [← Ny184.out] at ho; have n0_ := Aside0.mk (Kd.R_after (ok := (fun _ => True)) (by (with_reducible repeat (first | apply Kd.R_alloc | apply Kd.R_drewN | apply Kd.R_drew)); exact Kd.R_mono HO179.out (fun _ hk => ⟨trivial, hk⟩)) hg hat); have n1_ := Aside0.mk (hb); have n2_ := Aside0.mk (ho); clear HO179; clear HB; clear HO_10; have HO179 := n0_; have HB := n1_; have HO186 := n2_; clear n0_ n1_ n2_; clear ho hb hg hat))
             go_roundg k1
             case measure => have := HK1.out; omega
             case rel => exact ⟨(y177), (y184), (wrap64 (x11_1 + 1)), (by first | rfl | (simp; done) | (simp [*]; done)), H', ⟨by have := HK1.out; omega⟩, ⟨by (with_reducible repeat (first | apply Kd.R_alloc | apply Kd.R_drewN | apply Kd.R_drew)); exact Kd.R_mono HO179.out (fun _ hk => hk.2)⟩, ⟨by (with_reducible repeat (first | apply Kd.R_alloc | apply Kd.R_drewN | apply Kd.R_drew)); exact HO186.out⟩, ⟨by repeat (first | (with_reducible first | exact HB.out | apply bA_ | apply bN_ | apply b1_) | exact HB.out)⟩⟩
           · rw [if_neg c13] at H
             exact absurd H (by simp)
         · rw [if_neg c11] at H
           exact absurd H (by simp)
       · rw [if_neg c9] at H
         exact absurd H (by simp)
     · rw [if_neg c8] at H
       have c8b0 : decide (x11_1 < (l0.length : Int)) = false := dF_ c8
       clear c8
       replace H := Option.bind_eq_some_iff.mp H
       obtain ⟨⟨t187, t188, t189⟩, A180, H⟩ := H
       replace H : (if x10_1.length < 4398046511104 then (w6_BagSums.l1 k1 l1 l2 a3 x9_1 (x10_1 ++ [(⟨t187, t188, t189⟩ : S27)]) 0) else (none)) = some r := H
       have A18 := Aside0.mk A180
       clear A180
       by_cases c19 : x10_1.length < 4398046511104
       · rw [if_pos c19] at H
         have LMc19 := Aside0.mk c19
         clear c19
         obtain ⟨y190, hy190⟩ : ∃ y_ : List (S27), y_ = (x10_1 ++ [(⟨t187, t188, t189⟩ : S27)]) := ⟨_, rfl⟩
         replace H : (w6_BagSums.l1 k1 l1 l2 a3 x9_1 y190 0) = some r := by first | (rw [hy190]; with_reducible exact H) | (have H2_ := (Option.bind_some _ _).symm.trans H; rw [hy190]; with_reducible exact H2_) | (have H2_ := (Option.bind_some _ _).symm.trans H; with_reducible exact H2_) | with_reducible exact H | (rw [hy190]; exact H) | exact H
         have Ny190 := Aside0.mk hy190
         clear hy190
         have H' := Aside0.mk H
         clear H
         go_wp2_with (first | ((with_reducible refine gate_callee (f := 12) rfl ?_); refine goesL_ (some 43) rfl rfl Tryd.func12 (by kernel_rfl) rfl #[.int .i64 a3] rfl (by (try simp only [List.map_toArray, List.map_cons, List.map_nil]); first | done | rfl | (simp only [List.length_drop, List.length_take]; rfl)) ?_; (with_reducible refine (r1_Int.calls a3 t187 t188 t189 _ A18.out).mono ?_); rintro e w20 ⟨rfl, hb⟩; refine ⟨_, rfl, ?_⟩; have n0_ := Aside0.mk (Kd.R_below (by (with_reducible repeat (first | apply Kd.R_alloc | apply Kd.R_drewN | apply Kd.R_drew)); exact HO_9.out) hb); have n1_ := Aside0.mk (Kd.R_below (by (with_reducible repeat (first | apply Kd.R_alloc | apply Kd.R_drewN | apply Kd.R_drew)); exact HO_10.out) hb); have n2_ := Aside0.mk (below_step (by repeat (first | (with_reducible first | exact HB.out | apply bA_ | apply bN_ | apply b1_) | exact HB.out)) hb); clear HO_9; clear HO_10; clear HB; have HO_9 := n0_; have HO_10 := n1_; have HB := n2_; clear n0_ n1_ n2_; (try clear hb); (try clear hb2); (try clear hk); (try clear hi)) | ((with_reducible refine gate_builtin (b := .append) (xs := #[.tmp 41, .tmp 44]) rfl ?_); at_builtin; refine Kd.R_append k27 (w0 := w) w.heap.size rfl (.tmp 41) (.tmp 44) 24 27 (.agg #[(.int .u8 0), (.int .i64 0), (.string ⟨#[]⟩)]) 32 rfl Tryd.underlying24 info27 rfl (by decide) (by omega) u10 x10_1 (⟨t187, t188, t189⟩ : S27) [.int .u8 t187, .int .i64 t188, .string t189] (fun k_ => some k_ ≠ (u9 : Value).ownBlock) (fun _ => False) rfl rfl ?aP (fun _ hk => hk.elim) ?aF ?aO ?aB ?aS ?aL ?_; (case aP => exact k27_mkM _ _ _ (⟨t187, t188, t189⟩ : S27)); (case aB => exact (by repeat (first | (with_reducible first | exact HB.out | apply bA_ | apply bN_ | apply b1_) | exact HB.out))); (case aF => exact (fun k_ hk => Kd.fresh' (Kd.R_lt (by (with_reducible repeat (first | apply Kd.R_alloc | apply Kd.R_drewN | apply Kd.R_drew)); exact HO_9.out)) k_ hk)); (case aO => exact (by (with_reducible repeat (first | apply Kd.R_alloc | apply Kd.R_drewN | apply Kd.R_drew)); exact HO_10.out)); (case aS => exact (below_size (by repeat (first | (with_reducible first | exact HB.out | apply bA_ | apply bN_ | apply b1_) | exact HB.out)))); (case aL => have := LMc19.out; omega); intro v191 w21 ho hb hg hat; rw [← Ny190.out] at ho; have n0_ := Aside0.mk (Kd.R_after (ok := (fun _ => True)) (by (with_reducible repeat (first | apply Kd.R_alloc | apply Kd.R_drewN | apply Kd.R_drew)); exact Kd.R_mono HO_9.out (fun _ hk => ⟨trivial, hk⟩)) hg hat); have n1_ := Aside0.mk (hb); have n2_ := Aside0.mk (ho); clear HO_9; clear HB; clear HO_10; have HO_9 := n0_; have HB := n1_; have HO192 := n2_; clear n0_ n1_ n2_; clear ho hb hg hat))
         go_loopg [9, 10, 12] k1 (fun kq v9 v10 v12 w' => ∃ (x9_2 : List (S27)) (x10_2 : List (S27)) (x12_2 : Int), v12 = .int .i64 x12_2 ∧ Aside0 (w6_BagSums.l1 kq l1 l2 a3 x9_2 x10_2 x12_2 = some r) ∧ Aside0 (kq ≤ k1) ∧ Aside0 (Kd.R k27 27 w' w.heap.size (fun k_ => some k_ ≠ (v10 : Value).ownBlock) v9 x9_2) ∧ Aside0 (Kd.R k27 27 w' w.heap.size (fun k_ => some k_ ≠ (v9 : Value).ownBlock) v10 x10_2) ∧ Aside0 (Below w.heap.size w w'))
         case atStart => exact ⟨(x9_1), (y190), (0), (by first | rfl | (simp; done) | (simp [*]; done)), H', ⟨Nat.le_refl _⟩, ⟨by (with_reducible repeat (first | apply Kd.R_alloc | apply Kd.R_drewN | apply Kd.R_drew)); exact Kd.R_mono HO_9.out (fun _ hk => hk.2)⟩, ⟨by (with_reducible repeat (first | apply Kd.R_alloc | apply Kd.R_drewN | apply Kd.R_drew)); exact HO192.out⟩, ⟨by repeat (first | (with_reducible first | exact HB.out | apply bA_ | apply bN_ | apply b1_) | exact HB.out)⟩⟩
         case round =>
          clear H'
          try clear c1
          try clear p1
          try clear q1
          try clear hx1
          try clear c2
          try clear p2
          try clear c3
          try clear c5
          try clear c5b0
          try clear c5b1
          try clear p6
          try clear c8
          try clear c8b0
          try clear c9
          try clear c9b0
          try clear c11
          try clear c12
          try clear c13
          try clear p17
          try clear q17
          try clear hx17
          try clear p18
          try clear q18
          try clear hx18
          try clear c19
          try clear hx173_0
          try clear hx180_0
          try clear p173
          try clear p180
          try clear p2
          try clear q173
          try clear q180
          obtain ⟨x9_2, x10_2, x12_2, rfl, HA, HK2, HO_9, HO_10, HB⟩ := hrel
          cases gk with
          | zero => exact absurd HA.out (by simp [w6_BagSums.l1])
          | succ k2 =>
           have H := HA.out
           clear HA
           simp only [w6_BagSums.l1] at H
           by_cases c22 : x12_2 < (l1.length : Int)
           · rw [if_pos c22] at H
             have c22b0 : decide (x12_2 < (l1.length : Int)) = true := dT_ c22
             clear c22
             by_cases c23 : 0 ≤ x12_2
             · rw [if_pos c23] at H
               have c23b0 : decide (0 ≤ x12_2) = true := dT_ c23
               clear c23
               replace H := Option.bind_eq_some_iff.mp H
               obtain ⟨⟨t194, t195, t196⟩, A240, H⟩ := H
               replace H : (if x9_2.length < 4398046511104 then ((r1_Int.f (rd l1 x12_2)).bind fun bt201 => (if x10_2.length < 4398046511104 then (w6_BagSums.l1 k2 l1 l2 a3 (x9_2 ++ [(⟨t194, t195, t196⟩ : S27)]) (x10_2 ++ [(⟨bt201.1, bt201.2.1, bt201.2.2⟩ : S27)]) (wrap64 (x12_2 + 1))) else (none))) else (none)) = some r := H
               have A24 := Aside0.mk A240
               clear A240
               by_cases c25 : x9_2.length < 4398046511104
               · rw [if_pos c25] at H
                 have LMc25 := Aside0.mk c25
                 clear c25
                 obtain ⟨y197, hy197⟩ : ∃ y_ : List (S27), y_ = (x9_2 ++ [(⟨t194, t195, t196⟩ : S27)]) := ⟨_, rfl⟩
                 replace H : ((r1_Int.f (rd l1 x12_2)).bind fun bt201 => (if x10_2.length < 4398046511104 then (w6_BagSums.l1 k2 l1 l2 a3 y197 (x10_2 ++ [(⟨bt201.1, bt201.2.1, bt201.2.2⟩ : S27)]) (wrap64 (x12_2 + 1))) else (none))) = some r := by first | (rw [hy197]; with_reducible exact H) | (have H2_ := (Option.bind_some _ _).symm.trans H; rw [hy197]; with_reducible exact H2_) | (have H2_ := (Option.bind_some _ _).symm.trans H; with_reducible exact H2_) | with_reducible exact H | (rw [hy197]; exact H) | exact H
                 have Ny197 := Aside0.mk hy197
                 clear hy197
                 replace H := Option.bind_eq_some_iff.mp H
                 obtain ⟨⟨t201, t202, t203⟩, A260, H⟩ := H
                 replace H : (if x10_2.length < 4398046511104 then (w6_BagSums.l1 k2 l1 l2 a3 y197 (x10_2 ++ [(⟨t201, t202, t203⟩ : S27)]) (wrap64 (x12_2 + 1))) else (none)) = some r := H
                 have A26 := Aside0.mk A260
                 clear A260
                 by_cases c27 : x10_2.length < 4398046511104
                 · rw [if_pos c27] at H
                   have LMc27 := Aside0.mk c27
                   clear c27
                   obtain ⟨y204, hy204⟩ : ∃ y_ : List (S27), y_ = (x10_2 ++ [(⟨t201, t202, t203⟩ : S27)]) := ⟨_, rfl⟩
                   replace H : (w6_BagSums.l1 k2 l1 l2 a3 y197 y204 (wrap64 (x12_2 + 1))) = some r := by first | (rw [hy204]; with_reducible exact H) | (have H2_ := (Option.bind_some _ _).symm.trans H; rw [hy204]; with_reducible exact H2_) | (have H2_ := (Option.bind_some _ _).symm.trans H; with_reducible exact H2_) | with_reducible exact H | (rw [hy204]; exact H) | exact H
                   have Ny204 := Aside0.mk hy204
                   clear hy204
                   have H' := Aside0.mk H
                   clear H
                   have p193 : 0 ≤ (x12_2 : Int) := oT_ (by assumption)
                   have q193 : x12_2 < (l1.length : Int) := oT_ (by assumption)
                   obtain ⟨ad193, e193, hx193_0⟩ := Kd.at_int HR1.out x12_2 p193 q193
                   cases e193
                   replace hx193_0 := (HB.out.cell (bLC_ w _ hx193_0)).trans hx193_0
                   replace p193 := eq_true p193
                   replace q193 := eq_true q193
                   go_wp2_with (first | ((with_reducible refine gate_callee (f := 12) rfl ?_); refine goesL_ (some 57) rfl rfl Tryd.func12 (by kernel_rfl) rfl #[.int .i64 (rd l1 x12_2)] rfl (by (try simp only [List.map_toArray, List.map_cons, List.map_nil]); first | done | rfl | (simp only [List.length_drop, List.length_take]; rfl)) ?_; (with_reducible refine (r1_Int.calls (rd l1 x12_2) t194 t195 t196 _ A24.out).mono ?_); rintro e w28 ⟨rfl, hb⟩; refine ⟨_, rfl, ?_⟩; have n0_ := Aside0.mk (Kd.R_below (by (with_reducible repeat (first | apply Kd.R_alloc | apply Kd.R_drewN | apply Kd.R_drew)); exact HO_9.out) hb); have n1_ := Aside0.mk (Kd.R_below (by (with_reducible repeat (first | apply Kd.R_alloc | apply Kd.R_drewN | apply Kd.R_drew)); exact HO_10.out) hb); have n2_ := Aside0.mk (below_step (by repeat (first | (with_reducible first | exact HB.out | apply bA_ | apply bN_ | apply b1_) | exact HB.out)) hb); clear HO_9; clear HO_10; clear HB; have HO_9 := n0_; have HO_10 := n1_; have HB := n2_; clear n0_ n1_ n2_; (try clear hb); (try clear hb2); (try clear hk); (try clear hi)) | ((with_reducible refine gate_builtin (b := .append) (xs := #[.tmp 52, .tmp 58]) rfl ?_); at_builtin; refine Kd.R_append k27 (w0 := w) w.heap.size rfl (.tmp 52) (.tmp 58) 24 27 (.agg #[(.int .u8 0), (.int .i64 0), (.string ⟨#[]⟩)]) 32 rfl Tryd.underlying24 info27 rfl (by decide) (by omega) u9 x9_2 (⟨t194, t195, t196⟩ : S27) [.int .u8 t194, .int .i64 t195, .string t196] (fun k_ => some k_ ≠ (u10 : Value).ownBlock) (fun _ => False) rfl rfl ?aP (fun _ hk => hk.elim) ?aF ?aO ?aB ?aS ?aL ?_; (case aP => exact k27_mkM _ _ _ (⟨t194, t195, t196⟩ : S27)); (case aB => exact (by repeat (first | (with_reducible first | exact HB.out | apply bA_ | apply bN_ | apply b1_) | exact HB.out))); (case aF => exact (fun k_ hk => Kd.fresh' (Kd.R_lt (by (with_reducible repeat (first | apply Kd.R_alloc | apply Kd.R_drewN | apply Kd.R_drew)); exact HO_10.out)) k_ hk)); (case aO => exact (by (with_reducible repeat (first | apply Kd.R_alloc | apply Kd.R_drewN | apply Kd.R_drew)); exact HO_9.out)); (case aS => exact (below_size (by repeat (first | (with_reducible first | exact HB.out | apply bA_ | apply bN_ | apply b1_) | exact HB.out)))); (case aL => have := LMc25.out; omega); intro v198 w29 ho hb hg hat; rw [← Ny197.out] at ho; have n0_ := Aside0.mk (Kd.R_after (ok := (fun _ => True)) (by (with_reducible repeat (first | apply Kd.R_alloc | apply Kd.R_drewN | apply Kd.R_drew)); exact Kd.R_mono HO_10.out (fun _ hk => ⟨trivial, hk⟩)) hg hat); have n1_ := Aside0.mk (hb); have n2_ := Aside0.mk (ho); clear HO_10; clear HB; clear HO_9; have HO_10 := n0_; have HB := n1_; have HO199 := n2_; clear n0_ n1_ n2_; clear ho hb hg hat; have p200 : 0 ≤ (x12_2 : Int) := oT_ (by assumption); have q200 : x12_2 < (l1.length : Int) := oT_ (by assumption); obtain ⟨ad200, e200, hx200_0⟩ := Kd.at_int HR1.out x12_2 p200 q200; obtain rfl : ad193 = ad200 := (by injection e200); replace hx200_0 := (HB.out.cell (bLC_ w _ hx200_0)).trans hx200_0; replace p200 := eq_true p200; replace q200 := eq_true q200) | ((with_reducible refine gate_callee (f := 12) rfl ?_); refine goesL_ (some 65) rfl rfl Tryd.func12 (by kernel_rfl) rfl #[.int .i64 (rd l1 x12_2)] rfl (by (try simp only [List.map_toArray, List.map_cons, List.map_nil]); first | done | rfl | (simp only [List.length_drop, List.length_take]; rfl)) ?_; (with_reducible refine (r1_Int.calls (rd l1 x12_2) t201 t202 t203 _ A26.out).mono ?_); rintro e w30 ⟨rfl, hb⟩; refine ⟨_, rfl, ?_⟩; have n0_ := Aside0.mk (Kd.R_below (by (with_reducible repeat (first | apply Kd.R_alloc | apply Kd.R_drewN | apply Kd.R_drew)); exact HO_10.out) hb); have n1_ := Aside0.mk (Kd.R_below (by (with_reducible repeat (first | apply Kd.R_alloc | apply Kd.R_drewN | apply Kd.R_drew)); exact HO199.out) hb); have n2_ := Aside0.mk (below_step (by repeat (first | (with_reducible first | exact HB.out | apply bA_ | apply bN_ | apply b1_) | exact HB.out)) hb); clear HO_10; clear HO199; clear HB; have HO_10 := n0_; have HO199 := n1_; have HB := n2_; clear n0_ n1_ n2_; (try clear hb); (try clear hb2); (try clear hk); (try clear hi)) | ((with_reducible refine gate_builtin (b := .append) (xs := #[.tmp 60, .tmp 66]) rfl ?_); at_builtin; refine Kd.R_append k27 (w0 := w) w.heap.size rfl (.tmp 60) (.tmp 66) 24 27 (.agg #[(.int .u8 0), (.int .i64 0), (.string ⟨#[]⟩)]) 32 rfl Tryd.underlying24 info27 rfl (by decide) (by omega) u10 x10_2 (⟨t201, t202, t203⟩ : S27) [.int .u8 t201, .int .i64 t202, .string t203] (fun k_ => some k_ ≠ (v198 : Value).ownBlock) (fun _ => False) rfl rfl ?aP (fun _ hk => hk.elim) ?aF ?aO ?aB ?aS ?aL ?_; (case aP => exact k27_mkM _ _ _ (⟨t201, t202, t203⟩ : S27)); (case aB => exact (by repeat (first | (with_reducible first | exact HB.out | apply bA_ | apply bN_ | apply b1_) | exact HB.out))); (case aF => exact (fun k_ hk => Kd.fresh' (Kd.R_lt (by (with_reducible repeat (first | apply Kd.R_alloc | apply Kd.R_drewN | apply Kd.R_drew)); exact HO199.out)) k_ hk)); (case aO => exact (by (with_reducible repeat (first | apply Kd.R_alloc | apply Kd.R_drewN | apply Kd.R_drew)); exact Kd.R_mono HO_10.out (fun _ hk => hk.2))); (case aS => exact (below_size (by repeat (first | (with_reducible first | exact HB.out | apply bA_ | apply bN_ | apply b1_) | exact HB.out)))); (case aL => have := LMc27.out; omega); intro v205 w31 ho hb hg hat; rw [← Ny204.out] at ho; have n0_ := Aside0.mk (Kd.R_after (ok := (fun _ => True)) (by (with_reducible repeat (first | apply Kd.R_alloc | apply Kd.R_drewN | apply Kd.R_drew)); exact Kd.R_mono HO199.out (fun _ hk => ⟨trivial, hk⟩)) hg hat); have n1_ := Aside0.mk (hb); have n2_ := Aside0.mk (ho); clear HO199; clear HB; clear HO_10; have HO199 := n0_; have HB := n1_; have HO206 := n2_; clear n0_ n1_ n2_; clear ho hb hg hat))
                   go_roundg k2
                   case measure => have := HK1.out; have := HK2.out; omega
                   case rel => exact ⟨(y197), (y204), (wrap64 (x12_2 + 1)), (by first | rfl | (simp; done) | (simp [*]; done)), H', ⟨by have := HK1.out; have := HK2.out; omega⟩, ⟨by (with_reducible repeat (first | apply Kd.R_alloc | apply Kd.R_drewN | apply Kd.R_drew)); exact Kd.R_mono HO199.out (fun _ hk => hk.2)⟩, ⟨by (with_reducible repeat (first | apply Kd.R_alloc | apply Kd.R_drewN | apply Kd.R_drew)); exact HO206.out⟩, ⟨by repeat (first | (with_reducible first | exact HB.out | apply bA_ | apply bN_ | apply b1_) | exact HB.out)⟩⟩
                 · rw [if_neg c27] at H
                   exact absurd H (by simp)
               · rw [if_neg c25] at H
                 exact absurd H (by simp)
             · rw [if_neg c23] at H
               exact absurd H (by simp)
           · rw [if_neg c22] at H
             have c22b0 : decide (x12_2 < (l1.length : Int)) = false := dF_ c22
             clear c22
             replace H := Option.bind_eq_some_iff.mp H
             obtain ⟨⟨t207, t208, t209⟩, A320, H⟩ := H
             replace H : (if x10_2.length < 4398046511104 then (w6_BagSums.l2 k2 l2 x9_2 (x10_2 ++ [(⟨t207, t208, t209⟩ : S27)]) 0) else (none)) = some r := H
             have A32 := Aside0.mk A320
             clear A320
             by_cases c33 : x10_2.length < 4398046511104
             · rw [if_pos c33] at H
               have LMc33 := Aside0.mk c33
               clear c33
               obtain ⟨y210, hy210⟩ : ∃ y_ : List (S27), y_ = (x10_2 ++ [(⟨t207, t208, t209⟩ : S27)]) := ⟨_, rfl⟩
               replace H : (w6_BagSums.l2 k2 l2 x9_2 y210 0) = some r := by first | (rw [hy210]; with_reducible exact H) | (have H2_ := (Option.bind_some _ _).symm.trans H; rw [hy210]; with_reducible exact H2_) | (have H2_ := (Option.bind_some _ _).symm.trans H; with_reducible exact H2_) | with_reducible exact H | (rw [hy210]; exact H) | exact H
               have Ny210 := Aside0.mk hy210
               clear hy210
               have H' := Aside0.mk H
               clear H
               go_wp2_with (first | ((with_reducible refine gate_callee (f := 12) rfl ?_); refine goesL_ (some 71) rfl rfl Tryd.func12 (by kernel_rfl) rfl #[.int .i64 (wrap64 (-a3))] rfl (by (try simp only [List.map_toArray, List.map_cons, List.map_nil]); first | done | rfl | (simp only [List.length_drop, List.length_take]; rfl)) ?_; (with_reducible refine (r1_Int.calls (wrap64 (-a3)) t207 t208 t209 _ A32.out).mono ?_); rintro e w34 ⟨rfl, hb⟩; refine ⟨_, rfl, ?_⟩; have n0_ := Aside0.mk (Kd.R_below (by (with_reducible repeat (first | apply Kd.R_alloc | apply Kd.R_drewN | apply Kd.R_drew)); exact HO_9.out) hb); have n1_ := Aside0.mk (Kd.R_below (by (with_reducible repeat (first | apply Kd.R_alloc | apply Kd.R_drewN | apply Kd.R_drew)); exact HO_10.out) hb); have n2_ := Aside0.mk (below_step (by repeat (first | (with_reducible first | exact HB.out | apply bA_ | apply bN_ | apply b1_) | exact HB.out)) hb); clear HO_9; clear HO_10; clear HB; have HO_9 := n0_; have HO_10 := n1_; have HB := n2_; clear n0_ n1_ n2_; (try clear hb); (try clear hb2); (try clear hk); (try clear hi)) | ((with_reducible refine gate_builtin (b := .append) (xs := #[.tmp 68, .tmp 72]) rfl ?_); at_builtin; refine Kd.R_append k27 (w0 := w) w.heap.size rfl (.tmp 68) (.tmp 72) 24 27 (.agg #[(.int .u8 0), (.int .i64 0), (.string ⟨#[]⟩)]) 32 rfl Tryd.underlying24 info27 rfl (by decide) (by omega) u10 x10_2 (⟨t207, t208, t209⟩ : S27) [.int .u8 t207, .int .i64 t208, .string t209] (fun k_ => some k_ ≠ (u9 : Value).ownBlock) (fun _ => False) rfl rfl ?aP (fun _ hk => hk.elim) ?aF ?aO ?aB ?aS ?aL ?_; (case aP => exact k27_mkM _ _ _ (⟨t207, t208, t209⟩ : S27)); (case aB => exact (by repeat (first | (with_reducible first | exact HB.out | apply bA_ | apply bN_ | apply b1_) | exact HB.out))); (case aF => exact (fun k_ hk => Kd.fresh' (Kd.R_lt (by (with_reducible repeat (first | apply Kd.R_alloc | apply Kd.R_drewN | apply Kd.R_drew)); exact HO_9.out)) k_ hk)); (case aO => exact (by (with_reducible repeat (first | apply Kd.R_alloc | apply Kd.R_drewN | apply Kd.R_drew)); exact HO_10.out)); (case aS => exact (below_size (by repeat (first | (with_reducible first | exact HB.out | apply bA_ | apply bN_ | apply b1_) | exact HB.out)))); (case aL => have := LMc33.out; omega); intro v211 w35 ho hb hg hat; rw [← Ny210.out] at ho; have n0_ := Aside0.mk (Kd.R_after (ok := (fun _ => True)) (by (with_reducible repeat (first | apply Kd.R_alloc | apply Kd.R_drewN | apply Kd.R_drew)); exact Kd.R_mono HO_9.out (fun _ hk => ⟨trivial, hk⟩)) hg hat); have n1_ := Aside0.mk (hb); have n2_ := Aside0.mk (ho); clear HO_9; clear HB; clear HO_10; have HO_9 := n0_; have HB := n1_; have HO212 := n2_; clear n0_ n1_ n2_; clear ho hb hg hat))
               go_loopg [9, 10, 13] k2 (fun kq v9 v10 v13 w' => ∃ (x9_3 : List (S27)) (x10_3 : List (S27)) (x13_3 : Int), v13 = .int .i64 x13_3 ∧ Aside0 (w6_BagSums.l2 kq l2 x9_3 x10_3 x13_3 = some r) ∧ Aside0 (kq ≤ k2) ∧ Aside0 (Kd.R k27 27 w' w.heap.size (fun k_ => some k_ ≠ (v10 : Value).ownBlock) v9 x9_3) ∧ Aside0 (Kd.R k27 27 w' w.heap.size (fun k_ => some k_ ≠ (v9 : Value).ownBlock) v10 x10_3) ∧ Aside0 (Below w.heap.size w w'))
               case atStart => exact ⟨(x9_2), (y210), (0), (by first | rfl | (simp; done) | (simp [*]; done)), H', ⟨Nat.le_refl _⟩, ⟨by (with_reducible repeat (first | apply Kd.R_alloc | apply Kd.R_drewN | apply Kd.R_drew)); exact Kd.R_mono HO_9.out (fun _ hk => hk.2)⟩, ⟨by (with_reducible repeat (first | apply Kd.R_alloc | apply Kd.R_drewN | apply Kd.R_drew)); exact HO212.out⟩, ⟨by repeat (first | (with_reducible first | exact HB.out | apply bA_ | apply bN_ | apply b1_) | exact HB.out)⟩⟩
               case round =>
                clear H'
                try clear c1
                try clear p1
                try clear q1
                try clear hx1
                try clear c2
                try clear p2
                try clear q2
                try clear hx2
                try clear c3
                try clear c5
                try clear c5b0
                try clear c5b1
                try clear p6
                try clear c8
                try clear c8b0
                try clear c9
                try clear c9b0
                try clear c11
                try clear c12
                try clear c13
                try clear p17
                try clear q17
                try clear hx17
                try clear p18
                try clear q18
                try clear hx18
                try clear c19
                try clear p19
                try clear q19
                try clear hx19
                try clear p20
                try clear q20
                try clear hx20
                try clear c22
                try clear c22b0
                try clear c23
                try clear c23b0
                try clear c25
                try clear c27
                try clear c33
                try clear hx173_0
                try clear hx180_0
                try clear hx193_0
                try clear hx200_0
                try clear p1
                try clear p17
                try clear p173
                try clear p18
                try clear p180
                try clear p193
                try clear p2
                try clear p200
                try clear p6
                try clear q1
                try clear q17
                try clear q173
                try clear q18
                try clear q180
                try clear q193
                try clear q200
                obtain ⟨x9_3, x10_3, x13_3, rfl, HA, HK3, HO_9, HO_10, HB⟩ := hrel
                cases gk with
                | zero => exact absurd HA.out (by simp [w6_BagSums.l2])
                | succ k3 =>
                 have H := HA.out
                 clear HA
                 simp only [w6_BagSums.l2] at H
                 by_cases c36 : x13_3 < (l2.length : Int)
                 · rw [if_pos c36] at H
                   have c36b0 : decide (x13_3 < (l2.length : Int)) = true := dT_ c36
                   clear c36
                   by_cases c37 : 0 ≤ x13_3
                   · rw [if_pos c37] at H
                     have c37b0 : decide (0 ≤ x13_3) = true := dT_ c37
                     clear c37
                     replace H := Option.bind_eq_some_iff.mp H
                     obtain ⟨⟨t214, t215, t216⟩, A380, H⟩ := H
                     replace H : (if x9_3.length < 4398046511104 then ((r1_Int.f (rd l2 x13_3)).bind fun bt221 => (if x10_3.length < 4398046511104 then (w6_BagSums.l2 k3 l2 (x9_3 ++ [(⟨t214, t215, t216⟩ : S27)]) (x10_3 ++ [(⟨bt221.1, bt221.2.1, bt221.2.2⟩ : S27)]) (wrap64 (x13_3 + 1))) else (none))) else (none)) = some r := H
                     have A38 := Aside0.mk A380
                     clear A380
                     by_cases c39 : x9_3.length < 4398046511104
                     · rw [if_pos c39] at H
                       have LMc39 := Aside0.mk c39
                       clear c39
                       obtain ⟨y217, hy217⟩ : ∃ y_ : List (S27), y_ = (x9_3 ++ [(⟨t214, t215, t216⟩ : S27)]) := ⟨_, rfl⟩
                       replace H : ((r1_Int.f (rd l2 x13_3)).bind fun bt221 => (if x10_3.length < 4398046511104 then (w6_BagSums.l2 k3 l2 y217 (x10_3 ++ [(⟨bt221.1, bt221.2.1, bt221.2.2⟩ : S27)]) (wrap64 (x13_3 + 1))) else (none))) = some r := by first | (rw [hy217]; with_reducible exact H) | (have H2_ := (Option.bind_some _ _).symm.trans H; rw [hy217]; with_reducible exact H2_) | (have H2_ := (Option.bind_some _ _).symm.trans H; with_reducible exact H2_) | with_reducible exact H | (rw [hy217]; exact H) | exact H
                       have Ny217 := Aside0.mk hy217
                       clear hy217
                       replace H := Option.bind_eq_some_iff.mp H
                       obtain ⟨⟨t221, t222, t223⟩, A400, H⟩ := H
                       replace H : (if x10_3.length < 4398046511104 then (w6_BagSums.l2 k3 l2 y217 (x10_3 ++ [(⟨t221, t222, t223⟩ : S27)]) (wrap64 (x13_3 + 1))) else (none)) = some r := H
                       have A40 := Aside0.mk A400
                       clear A400
                       by_cases c41 : x10_3.length < 4398046511104
                       · rw [if_pos c41] at H
                         have LMc41 := Aside0.mk c41
                         clear c41
                         obtain ⟨y224, hy224⟩ : ∃ y_ : List (S27), y_ = (x10_3 ++ [(⟨t221, t222, t223⟩ : S27)]) := ⟨_, rfl⟩
                         replace H : (w6_BagSums.l2 k3 l2 y217 y224 (wrap64 (x13_3 + 1))) = some r := by first | (rw [hy224]; with_reducible exact H) | (have H2_ := (Option.bind_some _ _).symm.trans H; rw [hy224]; with_reducible exact H2_) | (have H2_ := (Option.bind_some _ _).symm.trans H; with_reducible exact H2_) | with_reducible exact H | (rw [hy224]; exact H) | exact H
                         have Ny224 := Aside0.mk hy224
                         clear hy224
                         have H' := Aside0.mk H
                         clear H
                         have p213 : 0 ≤ (x13_3 : Int) := oT_ (by assumption)
                         have q213 : x13_3 < (l2.length : Int) := oT_ (by assumption)
                         obtain ⟨ad213, e213, hx213_0⟩ := Kd.at_int HR2.out x13_3 p213 q213
                         cases e213
                         replace hx213_0 := (HB.out.cell (bLC_ w _ hx213_0)).trans hx213_0
                         replace p213 := eq_true p213
                         replace q213 := eq_true q213
                         go_wp2_with (first | ((with_reducible refine gate_callee (f := 12) rfl ?_); refine goesL_ (some 85) rfl rfl Tryd.func12 (by kernel_rfl) rfl #[.int .i64 (rd l2 x13_3)] rfl (by (try simp only [List.map_toArray, List.map_cons, List.map_nil]); first | done | rfl | (simp only [List.length_drop, List.length_take]; rfl)) ?_; (with_reducible refine (r1_Int.calls (rd l2 x13_3) t214 t215 t216 _ A38.out).mono ?_); rintro e w42 ⟨rfl, hb⟩; refine ⟨_, rfl, ?_⟩; have n0_ := Aside0.mk (Kd.R_below (by (with_reducible repeat (first | apply Kd.R_alloc | apply Kd.R_drewN | apply Kd.R_drew)); exact HO_9.out) hb); have n1_ := Aside0.mk (Kd.R_below (by (with_reducible repeat (first | apply Kd.R_alloc | apply Kd.R_drewN | apply Kd.R_drew)); exact HO_10.out) hb); have n2_ := Aside0.mk (below_step (by repeat (first | (with_reducible first | exact HB.out | apply bA_ | apply bN_ | apply b1_) | exact HB.out)) hb); clear HO_9; clear HO_10; clear HB; have HO_9 := n0_; have HO_10 := n1_; have HB := n2_; clear n0_ n1_ n2_; (try clear hb); (try clear hb2); (try clear hk); (try clear hi)) | ((with_reducible refine gate_builtin (b := .append) (xs := #[.tmp 80, .tmp 86]) rfl ?_); at_builtin; refine Kd.R_append k27 (w0 := w) w.heap.size rfl (.tmp 80) (.tmp 86) 24 27 (.agg #[(.int .u8 0), (.int .i64 0), (.string ⟨#[]⟩)]) 32 rfl Tryd.underlying24 info27 rfl (by decide) (by omega) u9 x9_3 (⟨t214, t215, t216⟩ : S27) [.int .u8 t214, .int .i64 t215, .string t216] (fun k_ => some k_ ≠ (u10 : Value).ownBlock) (fun _ => False) rfl rfl ?aP (fun _ hk => hk.elim) ?aF ?aO ?aB ?aS ?aL ?_; (case aP => exact k27_mkM _ _ _ (⟨t214, t215, t216⟩ : S27)); (case aB => exact (by repeat (first | (with_reducible first | exact HB.out | apply bA_ | apply bN_ | apply b1_) | exact HB.out))); (case aF => exact (fun k_ hk => Kd.fresh' (Kd.R_lt (by (with_reducible repeat (first | apply Kd.R_alloc | apply Kd.R_drewN | apply Kd.R_drew)); exact HO_10.out)) k_ hk)); (case aO => exact (by (with_reducible repeat (first | apply Kd.R_alloc | apply Kd.R_drewN | apply Kd.R_drew)); exact HO_9.out)); (case aS => exact (below_size (by repeat (first | (with_reducible first | exact HB.out | apply bA_ | apply bN_ | apply b1_) | exact HB.out)))); (case aL => have := LMc39.out; omega); intro v218 w43 ho hb hg hat; rw [← Ny217.out] at ho; have n0_ := Aside0.mk (Kd.R_after (ok := (fun _ => True)) (by (with_reducible repeat (first | apply Kd.R_alloc | apply Kd.R_drewN | apply Kd.R_drew)); exact Kd.R_mono HO_10.out (fun _ hk => ⟨trivial, hk⟩)) hg hat); have n1_ := Aside0.mk (hb); have n2_ := Aside0.mk (ho); clear HO_10; clear HB; clear HO_9; have HO_10 := n0_; have HB := n1_; have HO219 := n2_; clear n0_ n1_ n2_; clear ho hb hg hat; have p220 : 0 ≤ (x13_3 : Int) := oT_ (by assumption); have q220 : x13_3 < (l2.length : Int) := oT_ (by assumption); obtain ⟨ad220, e220, hx220_0⟩ := Kd.at_int HR2.out x13_3 p220 q220; obtain rfl : ad213 = ad220 := (by injection e220); replace hx220_0 := (HB.out.cell (bLC_ w _ hx220_0)).trans hx220_0; replace p220 := eq_true p220; replace q220 := eq_true q220) | ((with_reducible refine gate_callee (f := 12) rfl ?_); refine goesL_ (some 93) rfl rfl Tryd.func12 (by kernel_rfl) rfl #[.int .i64 (rd l2 x13_3)] rfl (by (try simp only [List.map_toArray, List.map_cons, List.map_nil]); first | done | rfl | (simp only [List.length_drop, List.length_take]; rfl)) ?_; (with_reducible refine (r1_Int.calls (rd l2 x13_3) t221 t222 t223 _ A40.out).mono ?_); rintro e w44 ⟨rfl, hb⟩; refine ⟨_, rfl, ?_⟩; have n0_ := Aside0.mk (Kd.R_below (by (with_reducible repeat (first | apply Kd.R_alloc | apply Kd.R_drewN | apply Kd.R_drew)); exact HO_10.out) hb); have n1_ := Aside0.mk (Kd.R_below (by (with_reducible repeat (first | apply Kd.R_alloc | apply Kd.R_drewN | apply Kd.R_drew)); exact HO219.out) hb); have n2_ := Aside0.mk (below_step (by repeat (first | (with_reducible first | exact HB.out | apply bA_ | apply bN_ | apply b1_) | exact HB.out)) hb); clear HO_10; clear HO219; clear HB; have HO_10 := n0_; have HO219 := n1_; have HB := n2_; clear n0_ n1_ n2_; (try clear hb); (try clear hb2); (try clear hk); (try clear hi)) | ((with_reducible refine gate_builtin (b := .append) (xs := #[.tmp 88, .tmp 94]) rfl ?_); at_builtin; refine Kd.R_append k27 (w0 := w) w.heap.size rfl (.tmp 88) (.tmp 94) 24 27 (.agg #[(.int .u8 0), (.int .i64 0), (.string ⟨#[]⟩)]) 32 rfl Tryd.underlying24 info27 rfl (by decide) (by omega) u10 x10_3 (⟨t221, t222, t223⟩ : S27) [.int .u8 t221, .int .i64 t222, .string t223] (fun k_ => some k_ ≠ (v218 : Value).ownBlock) (fun _ => False) rfl rfl ?aP (fun _ hk => hk.elim) ?aF ?aO ?aB ?aS ?aL ?_; (case aP => exact k27_mkM _ _ _ (⟨t221, t222, t223⟩ : S27)); (case aB => exact (by repeat (first | (with_reducible first | exact HB.out | apply bA_ | apply bN_ | apply b1_) | exact HB.out))); (case aF => exact (fun k_ hk => Kd.fresh' (Kd.R_lt (by (with_reducible repeat (first | apply Kd.R_alloc | apply Kd.R_drewN | apply Kd.R_drew)); exact HO219.out)) k_ hk)); (case aO => exact (by (with_reducible repeat (first | apply Kd.R_alloc | apply Kd.R_drewN | apply Kd.R_drew)); exact Kd.R_mono HO_10.out (fun _ hk => hk.2))); (case aS => exact (below_size (by repeat (first | (with_reducible first | exact HB.out | apply bA_ | apply bN_ | apply b1_) | exact HB.out)))); (case aL => have := LMc41.out; omega); intro v225 w45 ho hb hg hat; rw [← Ny224.out] at ho; have n0_ := Aside0.mk (Kd.R_after (ok := (fun _ => True)) (by (with_reducible repeat (first | apply Kd.R_alloc | apply Kd.R_drewN | apply Kd.R_drew)); exact Kd.R_mono HO219.out (fun _ hk => ⟨trivial, hk⟩)) hg hat); have n1_ := Aside0.mk (hb); have n2_ := Aside0.mk (ho); clear HO219; clear HB; clear HO_10; have HO219 := n0_; have HB := n1_; have HO226 := n2_; clear n0_ n1_ n2_; clear ho hb hg hat))
                         go_roundg k3
                         case measure => have := HK1.out; have := HK2.out; have := HK3.out; omega
                         case rel => exact ⟨(y217), (y224), (wrap64 (x13_3 + 1)), (by first | rfl | (simp; done) | (simp [*]; done)), H', ⟨by have := HK1.out; have := HK2.out; have := HK3.out; omega⟩, ⟨by (with_reducible repeat (first | apply Kd.R_alloc | apply Kd.R_drewN | apply Kd.R_drew)); exact Kd.R_mono HO219.out (fun _ hk => hk.2)⟩, ⟨by (with_reducible repeat (first | apply Kd.R_alloc | apply Kd.R_drewN | apply Kd.R_drew)); exact HO226.out⟩, ⟨by repeat (first | (with_reducible first | exact HB.out | apply bA_ | apply bN_ | apply b1_) | exact HB.out)⟩⟩
                       · rw [if_neg c41] at H
                         exact absurd H (by simp)
                     · rw [if_neg c39] at H
                       exact absurd H (by simp)
                   · rw [if_neg c37] at H
                     exact absurd H (by simp)
                 · rw [if_neg c36] at H
                   have c36b0 : decide (x13_3 < (l2.length : Int)) = false := dF_ c36
                   clear c36
                   replace H := Option.bind_eq_some_iff.mp H
                   obtain ⟨⟨t227, t228, t229, t230⟩, A460, H⟩ := H
                   replace H : ((bag_Aggregate.f 2 false x9_3).bind fun bt232 => (if (x9_3.length : Int) = 0 then (if t230 = 0 then ((r1_Int.f 0).bind fun bt237 => ((r1_Same.f t227 t228 t229 bt237.1 bt237.2.1 bt237.2.2).bind fun t240 => (if t240 = true then (if bt232.2.2.2 = 0 then (if bt232.1 = 0 then ((w6_awake.f).bind fun t241 => (some t241)) else (some false)) else (some false)) else (some false)))) else (some false)) else (if t230 = bt232.2.2.2 then ((r1_Same.f t227 t228 t229 bt232.1 bt232.2.1 bt232.2.2.1).bind fun t242 => (if t242 = true then ((w6_awake.f).bind fun t243 => (some t243)) else (some false))) else (some false)))) = some r := H
                   have A46 := Aside0.mk A460
                   clear A460
                   replace H := Option.bind_eq_some_iff.mp H
                   obtain ⟨⟨t232, t233, t234, t235⟩, A470, H⟩ := H
                   replace H : (if (x9_3.length : Int) = 0 then (if t230 = 0 then ((r1_Int.f 0).bind fun bt237 => ((r1_Same.f t227 t228 t229 bt237.1 bt237.2.1 bt237.2.2).bind fun t240 => (if t240 = true then (if t235 = 0 then (if t232 = 0 then ((w6_awake.f).bind fun t241 => (some t241)) else (some false)) else (some false)) else (some false)))) else (some false)) else (if t230 = t235 then ((r1_Same.f t227 t228 t229 t232 t233 t234).bind fun t242 => (if t242 = true then ((w6_awake.f).bind fun t243 => (some t243)) else (some false))) else (some false))) = some r := H
                   have A47 := Aside0.mk A470
                   clear A470
                   by_cases c48 : (x9_3.length : Int) = 0
                   · rw [if_pos c48] at H
                     have c48b0 : ((x9_3.length : Int) == 0) = true := beq_iff_eq.mpr c48
                     have c48b1 : ((x9_3.length : Int) != 0) = false := bne_eq_false_iff_eq.mpr c48
                     clear c48
                     by_cases c49 : t230 = 0
                     · rw [if_pos c49] at H
                       have c49b0 : (t230 == 0) = true := beq_iff_eq.mpr c49
                       have c49b1 : (t230 != 0) = false := bne_eq_false_iff_eq.mpr c49
                       clear c49
                       replace H := Option.bind_eq_some_iff.mp H
                       obtain ⟨⟨t237, t238, t239⟩, A500, H⟩ := H
                       replace H : ((r1_Same.f t227 t228 t229 t237 t238 t239).bind fun t240 => (if t240 = true then (if t235 = 0 then (if t232 = 0 then ((w6_awake.f).bind fun t241 => (some t241)) else (some false)) else (some false)) else (some false))) = some r := H
                       have A50 := Aside0.mk A500
                       clear A500
                       replace H := Option.bind_eq_some_iff.mp H
                       obtain ⟨t240, A510, H⟩ := H
                       replace H : (if t240 = true then (if t235 = 0 then (if t232 = 0 then ((w6_awake.f).bind fun t241 => (some t241)) else (some false)) else (some false)) else (some false)) = some r := H
                       have A51 := Aside0.mk A510
                       clear A510
                       by_cases c52 : t240 = true
                       · subst c52
                         have H1 : (if t235 = 0 then (if t232 = 0 then ((w6_awake.f).bind fun t241 => (some t241)) else (some false)) else (some false)) = some r := by rw [if_pos rfl] at H; exact H
                         clear H
                         have H := H1
                         clear H1
                         by_cases c53 : t235 = 0
                         · rw [if_pos c53] at H
                           have c53b0 : (t235 == 0) = true := beq_iff_eq.mpr c53
                           have c53b1 : (t235 != 0) = false := bne_eq_false_iff_eq.mpr c53
                           clear c53
                           by_cases c54 : t232 = 0
                           · rw [if_pos c54] at H
                             have c54b0 : (t232 == 0) = true := beq_iff_eq.mpr c54
                             have c54b1 : (t232 != 0) = false := bne_eq_false_iff_eq.mpr c54
                             clear c54
                             replace H := Option.bind_eq_some_iff.mp H
                             obtain ⟨t241, A550, H⟩ := H
                             replace H : (some t241) = some r := H
                             have A55 := Aside0.mk A550
                             clear A550
                             obtain rfl := Option.some.inj H
                             obtain ⟨Ao56, co56, eo56⟩ := Kd.R_slice HO_10.out
                             subst eo56
                             try go_wp2_with (first | ((with_reducible refine gate_callee (f := 13) rfl ?_); refine goesL_ (some 97) rfl rfl Tryd.func13 (by kernel_rfl) rfl #[.int .u8 2, .bool false, .slice Ao56 x10_3.length co56] rfl (by (try simp only [List.map_toArray, List.map_cons, List.map_nil]); first | done | rfl | (simp only [List.length_drop, List.length_take]; rfl)) ?_; (with_reducible refine (bag_Aggregate.calls 2 false _ _ x10_3 t227 t228 t229 t230 _ ?side1 ?side2 ?sideT A46.out).mono ?_); (case sideT => exact LaidT.below HT.out (by repeat (first | (with_reducible first | exact HB.out | apply bA_ | apply bN_ | apply b1_ | refine below_set ?_ GE231.out | refine below_set ?_ GE236.out) | exact HB.out))); (case side1 => repeat (first | exact (Kd.R_reads' HO_10.out).2.2 | (with_reducible refine Kd.cA_ ?_ _) | (with_reducible refine Kd.cN_ ?_ _) | (with_reducible refine Kd.cD_ ?_))); (case side2 => exact (Kd.R_reads' HO_10.out).2.1); rintro e w57 ⟨rfl, hb⟩; refine ⟨_, rfl, ?_⟩; have n0_ := Aside0.mk (Kd.R_below (by (with_reducible repeat (first | apply Kd.R_alloc | apply Kd.R_drewN | apply Kd.R_drew)); exact HO_9.out) hb); have n1_ := Aside0.mk (Kd.R_below (by (with_reducible repeat (first | apply Kd.R_alloc | apply Kd.R_drewN | apply Kd.R_drew)); exact HO_10.out) hb); have n2_ := Aside0.mk (below_step (by repeat (first | (with_reducible first | exact HB.out | apply bA_ | apply bN_ | apply b1_) | exact HB.out)) hb); clear HO_9; clear HO_10; clear HB; have HO_9 := n0_; have HO_10 := n1_; have HB := n2_; clear n0_ n1_ n2_; (try clear hb); (try clear hb2); (try clear hk); (try clear hi)) | ((with_reducible refine gate_dst (N := 14) rfl ?_); refine box_event ?hg (N := 14) ?hd (cs := #[.int .u8 0, .int .i64 0, .string (⟨#[]⟩ : ByteArray), .int .i64 0]) (t := 31) ?hr ?_; (case hd => rfl); (case hg => rfl); (case hr => first | (go_simp; done) | (go_simp; rfl)); intro gb231 hg w58 hbox hb; have n0_ := Aside0.mk (Kd.R_below (by (with_reducible repeat (first | apply Kd.R_alloc | apply Kd.R_drewN | apply Kd.R_drew)); exact HO_9.out) hb); have n1_ := Aside0.mk (Kd.R_below (by (with_reducible repeat (first | apply Kd.R_alloc | apply Kd.R_drewN | apply Kd.R_drew)); exact HO_10.out) hb); have n2_ := Aside0.mk (below_step (by repeat (first | (with_reducible first | exact HB.out | apply bA_ | apply bN_ | apply b1_) | exact HB.out)) hb); have n3_ := Aside0.mk (hbox); have n4_ := Aside0.mk ((by rw [hg]; exact (below_size (by repeat (first | (with_reducible first | exact HB.out | apply bA_ | apply bN_ | apply b1_) | exact HB.out))) : w.heap.size ≤ gb231)); have n5_ := Aside0.mk ((by rw [hg]; exact (below_size (by repeat (first | (with_reducible first | exact HB.out | apply bA_ | apply bN_ | apply b1_) | exact HB.out))) : w.heap.size ≤ gb231)); clear HO_9; clear HO_10; clear HB; have HO_9 := n0_; have HO_10 := n1_; have HB := n2_; have BK231 := n3_; have GW231 := n4_; have GE231 := n5_; clear n0_ n1_ n2_ n3_ n4_ n5_; clear hb hbox hg; have hcz59_0 : w58.cell? ⟨gb231, 0, none⟩ = some (.int .u8 0) := (blk_cell BK231.out 0).trans rfl; have hcz59_1 : w58.cell? ⟨gb231, 1, none⟩ = some (.int .i64 0) := (blk_cell BK231.out 1).trans rfl; have hcz59_2 : w58.cell? ⟨gb231, 2, none⟩ = some (.string (⟨#[]⟩ : ByteArray)) := (blk_cell BK231.out 2).trans rfl; have hcz59_3 : w58.cell? ⟨gb231, 3, none⟩ = some (.int .i64 0) := (blk_cell BK231.out 3).trans rfl; have hfz59_0 := blk_frozen BK231.out 0; have hfz59_1 := blk_frozen BK231.out 1; have hfz59_2 := blk_frozen BK231.out 2; have hfz59_3 := blk_frozen BK231.out 3; obtain ⟨Ao60, co60, eo60⟩ := Kd.R_slice HO_9.out; subst eo60) | ((with_reducible refine gate_callee (f := 13) rfl ?_); refine goesL_ (some 99) rfl rfl Tryd.func13 (by kernel_rfl) rfl #[.int .u8 2, .bool false, .slice Ao60 x9_3.length co60] rfl (by (try simp only [List.map_toArray, List.map_cons, List.map_nil]); first | done | rfl | (simp only [List.length_drop, List.length_take]; rfl)) ?_; (with_reducible refine (bag_Aggregate.calls 2 false _ _ x9_3 t232 t233 t234 t235 _ ?side1 ?side2 ?sideT A47.out).mono ?_); (case sideT => exact LaidT.below HT.out (by repeat (first | (with_reducible first | exact HB.out | apply bA_ | apply bN_ | apply b1_ | refine below_set ?_ GE231.out | refine below_set ?_ GE236.out) | exact HB.out))); (case side1 => refine (Kd.R_reads' (e := 27) (base := w.heap.size) (ok := fun k_ => some k_ ≠ (.slice Ao56 x10_3.length co56 : Value).ownBlock) (n := x9_3.length) (c := co60) ?_).2.2; exact (by (with_reducible repeat (first | apply Kd.R_alloc | apply Kd.R_drewN | apply Kd.R_drew)); exact (Kd.R_mono (Kd.R_far (p := ⟨gb231, 3, none⟩) (Kd.R_far (p := ⟨gb231, 2, none⟩) (Kd.R_far (p := ⟨gb231, 1, none⟩) (Kd.R_far (p := ⟨gb231, 0, none⟩) (Kd.R_types HO_9.out BK231.out (by decide)) (fun _ hk => hk.2) (.int .u8 t227)) (fun _ hk => hk.2) (.int .i64 t228)) (fun _ hk => hk.2) (.string t229)) (fun _ hk => hk.2) (.int .i64 t230)) (fun _ h_ => h_.1)))); (case side2 => exact (Kd.R_reads' HO_9.out).2.1); rintro e w61 ⟨rfl, hb⟩; refine ⟨_, rfl, ?_⟩; have n0_ := Aside0.mk (Kd.R_below (by (with_reducible repeat (first | apply Kd.R_alloc | apply Kd.R_drewN | apply Kd.R_drew)); exact (Kd.R_mono (Kd.R_far (p := ⟨gb231, 3, none⟩) (Kd.R_far (p := ⟨gb231, 2, none⟩) (Kd.R_far (p := ⟨gb231, 1, none⟩) (Kd.R_far (p := ⟨gb231, 0, none⟩) (Kd.R_types HO_9.out BK231.out (by decide)) (fun _ hk => hk.2) (.int .u8 t227)) (fun _ hk => hk.2) (.int .i64 t228)) (fun _ hk => hk.2) (.string t229)) (fun _ hk => hk.2) (.int .i64 t230)) (fun _ h_ => h_.1))) hb); have n1_ := Aside0.mk (Kd.R_below (by (with_reducible repeat (first | apply Kd.R_alloc | apply Kd.R_drewN | apply Kd.R_drew)); exact (Kd.R_mono (Kd.R_far (p := ⟨gb231, 3, none⟩) (Kd.R_far (p := ⟨gb231, 2, none⟩) (Kd.R_far (p := ⟨gb231, 1, none⟩) (Kd.R_far (p := ⟨gb231, 0, none⟩) (Kd.R_types HO_10.out BK231.out (by decide)) (fun _ hk => hk.2) (.int .u8 t227)) (fun _ hk => hk.2) (.int .i64 t228)) (fun _ hk => hk.2) (.string t229)) (fun _ hk => hk.2) (.int .i64 t230)) (fun _ h_ => h_.1))) hb); have n2_ := Aside0.mk (blk_below (g := gb231) (o := .cells #[.int .u8 t227, .int .i64 t228, .string t229, .int .i64 t230] 31 (0, 0)) (by (with_reducible repeat (first | refine blk_drewN ?_ _ | refine blk_drew ?_ | refine blk_alloc ?_ _)); refine blk_put (cs := #[.int .u8 t227, .int .i64 t228, .string t229, .int .i64 0]) ?_ 3 _ rfl; (with_reducible repeat (first | refine blk_drewN ?_ _ | refine blk_drew ?_ | refine blk_alloc ?_ _)); refine blk_put (cs := #[.int .u8 t227, .int .i64 t228, .string (⟨#[]⟩ : ByteArray), .int .i64 0]) ?_ 2 _ rfl; (with_reducible repeat (first | refine blk_drewN ?_ _ | refine blk_drew ?_ | refine blk_alloc ?_ _)); refine blk_put (cs := #[.int .u8 t227, .int .i64 0, .string (⟨#[]⟩ : ByteArray), .int .i64 0]) ?_ 1 _ rfl; (with_reducible repeat (first | refine blk_drewN ?_ _ | refine blk_drew ?_ | refine blk_alloc ?_ _)); refine blk_put (cs := #[.int .u8 0, .int .i64 0, .string (⟨#[]⟩ : ByteArray), .int .i64 0]) ?_ 0 _ rfl; (with_reducible repeat (first | refine blk_drewN ?_ _ | refine blk_drew ?_ | refine blk_alloc ?_ _)); exact BK231.out) hb); have n3_ := Aside0.mk (below_step (by repeat (first | (with_reducible first | exact HB.out | apply bA_ | apply bN_ | apply b1_ | refine below_set ?_ GE231.out) | exact HB.out)) hb); clear HO_9; clear HO_10; clear BK231; clear HB; have HO_9 := n0_; have HO_10 := n1_; have BK231 := n2_; have HB := n3_; clear n0_ n1_ n2_ n3_; (try clear hb); (try clear hb2); (try clear hk); (try clear hi)) | ((with_reducible refine gate_dst (N := 15) rfl ?_); refine box_event ?hg (N := 15) ?hd (cs := #[.int .u8 0, .int .i64 0, .string (⟨#[]⟩ : ByteArray), .int .i64 0]) (t := 31) ?hr ?_; (case hd => rfl); (case hg => rfl); (case hr => first | (go_simp; done) | (go_simp; rfl)); intro gb236 hg w62 hbox hb; have n0_ := Aside0.mk (Kd.R_below (by (with_reducible repeat (first | apply Kd.R_alloc | apply Kd.R_drewN | apply Kd.R_drew)); exact HO_9.out) hb); have n1_ := Aside0.mk (Kd.R_below (by (with_reducible repeat (first | apply Kd.R_alloc | apply Kd.R_drewN | apply Kd.R_drew)); exact HO_10.out) hb); have n2_ := Aside0.mk (blk_below (g := gb231) (o := .cells #[.int .u8 t227, .int .i64 t228, .string t229, .int .i64 t230] 31 (0, 0)) (by (with_reducible repeat (first | refine blk_drewN ?_ _ | refine blk_drew ?_ | refine blk_alloc ?_ _)); exact BK231.out) hb); have n3_ := Aside0.mk (below_step (by repeat (first | (with_reducible first | exact HB.out | apply bA_ | apply bN_ | apply b1_ | refine below_set ?_ GE231.out) | exact HB.out)) hb); have n4_ := Aside0.mk (hbox); have n5_ := Aside0.mk ((by rw [hg]; exact (below_size (by repeat (first | (with_reducible first | exact HB.out | apply bA_ | apply bN_ | apply b1_ | refine below_set ?_ GE231.out) | exact HB.out))) : w.heap.size ≤ gb236)); have n6_ := Aside0.mk ((by rw [hg]; exact (below_size (by repeat (first | (with_reducible first | exact HB.out | apply bA_ | apply bN_ | apply b1_ | refine below_set ?_ GE231.out) | exact HB.out))) : w.heap.size ≤ gb236)); have n7_ := Aside0.mk ((by rw [hg]; exact Nat.ne_of_lt (blk_lt (g := gb231) (o := .cells #[.int .u8 t227, .int .i64 t228, .string t229, .int .i64 t230] 31 (0, 0)) (by (with_reducible repeat (first | refine blk_drewN ?_ _ | refine blk_drew ?_ | refine blk_alloc ?_ _)); exact BK231.out)) : gb231 ≠ gb236)); have n8_ := Aside0.mk ((by rw [hg]; exact Nat.ne_of_gt (blk_lt (g := gb231) (o := .cells #[.int .u8 t227, .int .i64 t228, .string t229, .int .i64 t230] 31 (0, 0)) (by (with_reducible repeat (first | refine blk_drewN ?_ _ | refine blk_drew ?_ | refine blk_alloc ?_ _)); exact BK231.out)) : gb236 ≠ gb231)); clear HO_9; clear HO_10; clear BK231; clear HB; have HO_9 := n0_; have HO_10 := n1_; have BK231 := n2_; have HB := n3_; have BK236 := n4_; have GW236 := n5_; have GE236 := n6_; have NB231_236 := n7_; have NB236_231 := n8_; clear n0_ n1_ n2_ n3_ n4_ n5_ n6_ n7_ n8_; clear hb hbox hg; have hnb63 := NB236_231.out; have hnc63 := NB231_236.out; have hcz64_0 : w62.cell? ⟨gb236, 0, none⟩ = some (.int .u8 0) := (blk_cell BK236.out 0).trans rfl; have hcz64_1 : w62.cell? ⟨gb236, 1, none⟩ = some (.int .i64 0) := (blk_cell BK236.out 1).trans rfl; have hcz64_2 : w62.cell? ⟨gb236, 2, none⟩ = some (.string (⟨#[]⟩ : ByteArray)) := (blk_cell BK236.out 2).trans rfl; have hcz64_3 : w62.cell? ⟨gb236, 3, none⟩ = some (.int .i64 0) := (blk_cell BK236.out 3).trans rfl; have hfz64_0 := blk_frozen BK236.out 0; have hfz64_1 := blk_frozen BK236.out 1; have hfz64_2 := blk_frozen BK236.out 2; have hfz64_3 := blk_frozen BK236.out 3))
                             have n0_ : Aside0 (Kd.R k27 27 ((((w62.setCell ⟨gb236, 0, none⟩ (.int .u8 t232)).setCell ⟨gb236, 1, none⟩ (.int .i64 t233)).setCell ⟨gb236, 2, none⟩ (.string t234)).setCell ⟨gb236, 3, none⟩ (.int .i64 t235)) w.heap.size (fun k_ => some k_ ≠ (.slice Ao56 x10_3.length co56 : Value).ownBlock) (.slice Ao60 x9_3.length co60) x9_3) := ⟨by (with_reducible repeat (first | apply Kd.R_alloc | apply Kd.R_drewN | apply Kd.R_drew)); exact Kd.R_mono (Kd.R_far (p := ⟨gb236, 3, none⟩) (Kd.R_far (p := ⟨gb236, 2, none⟩) (Kd.R_far (p := ⟨gb236, 1, none⟩) (Kd.R_far (p := ⟨gb236, 0, none⟩) (Kd.R_types HO_9.out BK236.out (by decide)) (fun _ hk => hk.2) (.int .u8 t232)) (fun _ hk => hk.2) (.int .i64 t233)) (fun _ hk => hk.2) (.string t234)) (fun _ hk => hk.2) (.int .i64 t235)) (fun _ hk => hk.1)⟩
                             have n1_ : Aside0 (Kd.R k27 27 ((((w62.setCell ⟨gb236, 0, none⟩ (.int .u8 t232)).setCell ⟨gb236, 1, none⟩ (.int .i64 t233)).setCell ⟨gb236, 2, none⟩ (.string t234)).setCell ⟨gb236, 3, none⟩ (.int .i64 t235)) w.heap.size (fun k_ => some k_ ≠ (.slice Ao60 x9_3.length co60 : Value).ownBlock) (.slice Ao56 x10_3.length co56) x10_3) := ⟨by (with_reducible repeat (first | apply Kd.R_alloc | apply Kd.R_drewN | apply Kd.R_drew)); exact Kd.R_mono (Kd.R_far (p := ⟨gb236, 3, none⟩) (Kd.R_far (p := ⟨gb236, 2, none⟩) (Kd.R_far (p := ⟨gb236, 1, none⟩) (Kd.R_far (p := ⟨gb236, 0, none⟩) (Kd.R_types HO_10.out BK236.out (by decide)) (fun _ hk => hk.2) (.int .u8 t232)) (fun _ hk => hk.2) (.int .i64 t233)) (fun _ hk => hk.2) (.string t234)) (fun _ hk => hk.2) (.int .i64 t235)) (fun _ hk => hk.1)⟩
                             have n2_ : Aside0 (((((w62.setCell ⟨gb236, 0, none⟩ (.int .u8 t232)).setCell ⟨gb236, 1, none⟩ (.int .i64 t233)).setCell ⟨gb236, 2, none⟩ (.string t234)).setCell ⟨gb236, 3, none⟩ (.int .i64 t235)).heap[gb231]? = some (.cells #[.int .u8 t227, .int .i64 t228, .string t229, .int .i64 t230] 31 (0, 0))) := ⟨by (with_reducible repeat (first | refine blk_drewN ?_ _ | refine blk_drew ?_ | refine blk_alloc ?_ _)); refine blk_far ?_ NB231_236.out _; (with_reducible repeat (first | refine blk_drewN ?_ _ | refine blk_drew ?_ | refine blk_alloc ?_ _)); refine blk_far ?_ NB231_236.out _; (with_reducible repeat (first | refine blk_drewN ?_ _ | refine blk_drew ?_ | refine blk_alloc ?_ _)); refine blk_far ?_ NB231_236.out _; (with_reducible repeat (first | refine blk_drewN ?_ _ | refine blk_drew ?_ | refine blk_alloc ?_ _)); refine blk_far ?_ NB231_236.out _; (with_reducible repeat (first | refine blk_drewN ?_ _ | refine blk_drew ?_ | refine blk_alloc ?_ _)); exact BK231.out⟩
                             have n3_ : Aside0 (((((w62.setCell ⟨gb236, 0, none⟩ (.int .u8 t232)).setCell ⟨gb236, 1, none⟩ (.int .i64 t233)).setCell ⟨gb236, 2, none⟩ (.string t234)).setCell ⟨gb236, 3, none⟩ (.int .i64 t235)).heap[gb236]? = some (.cells #[.int .u8 t232, .int .i64 t233, .string t234, .int .i64 t235] 31 (0, 0))) := ⟨by (with_reducible repeat (first | refine blk_drewN ?_ _ | refine blk_drew ?_ | refine blk_alloc ?_ _)); refine blk_put (cs := #[.int .u8 t232, .int .i64 t233, .string t234, .int .i64 0]) ?_ 3 _ rfl; (with_reducible repeat (first | refine blk_drewN ?_ _ | refine blk_drew ?_ | refine blk_alloc ?_ _)); refine blk_put (cs := #[.int .u8 t232, .int .i64 t233, .string (⟨#[]⟩ : ByteArray), .int .i64 0]) ?_ 2 _ rfl; (with_reducible repeat (first | refine blk_drewN ?_ _ | refine blk_drew ?_ | refine blk_alloc ?_ _)); refine blk_put (cs := #[.int .u8 t232, .int .i64 0, .string (⟨#[]⟩ : ByteArray), .int .i64 0]) ?_ 1 _ rfl; (with_reducible repeat (first | refine blk_drewN ?_ _ | refine blk_drew ?_ | refine blk_alloc ?_ _)); refine blk_put (cs := #[.int .u8 0, .int .i64 0, .string (⟨#[]⟩ : ByteArray), .int .i64 0]) ?_ 0 _ rfl; (with_reducible repeat (first | refine blk_drewN ?_ _ | refine blk_drew ?_ | refine blk_alloc ?_ _)); exact BK236.out⟩
                             have n4_ : Aside0 (Below w.heap.size w ((((w62.setCell ⟨gb236, 0, none⟩ (.int .u8 t232)).setCell ⟨gb236, 1, none⟩ (.int .i64 t233)).setCell ⟨gb236, 2, none⟩ (.string t234)).setCell ⟨gb236, 3, none⟩ (.int .i64 t235))) := ⟨by repeat (first | (with_reducible first | exact HB.out | apply bA_ | apply bN_ | apply b1_ | refine below_set ?_ GE231.out | refine below_set ?_ GE236.out) | exact HB.out)⟩
                             (try clear HO_9)
                             (try clear HO_10)
                             (try clear BK231)
                             (try clear BK236)
                             (try clear HB)
                             generalize ((((w62.setCell ⟨gb236, 0, none⟩ (.int .u8 t232)).setCell ⟨gb236, 1, none⟩ (.int .i64 t233)).setCell ⟨gb236, 2, none⟩ (.string t234)).setCell ⟨gb236, 3, none⟩ (.int .i64 t235)) = w65 at n0_ n1_ n2_ n3_ n4_ ⊢
                             have HO_9 := n0_
                             have HO_10 := n1_
                             have BK231 := n2_
                             have BK236 := n3_
                             have HB := n4_
                             clear n0_ n1_ n2_ n3_ n4_
                             have n0_ := Aside0.mk (Kd.R_drew HO_9.out)
                             have n1_ := Aside0.mk (Kd.R_drew HO_10.out)
                             have n2_ := Aside0.mk (blk_drew BK231.out)
                             have n3_ := Aside0.mk (blk_drew BK236.out)
                             have n4_ := Aside0.mk (b1_ HB.out)
                             clear HO_9
                             clear HO_10
                             clear BK231
                             clear BK236
                             clear HB
                             have HO_9 := n0_
                             have HO_10 := n1_
                             have BK231 := n2_
                             have BK236 := n3_
                             have HB := n4_
                             clear n0_ n1_ n2_ n3_ n4_
                             refine start_ (n := 24) (S := fun w' => w'.cell? ⟨gb231, 0, none⟩ = some (.int .u8 t227) ∧ w'.cell? ⟨gb231, 1, none⟩ = some (.int .i64 t228) ∧ w'.cell? ⟨gb231, 2, none⟩ = some (.string t229) ∧ w'.cell? ⟨gb231, 3, none⟩ = some (.int .i64 t230) ∧ w'.cell? ⟨gb236, 0, none⟩ = some (.int .u8 t232) ∧ w'.cell? ⟨gb236, 1, none⟩ = some (.int .i64 t233) ∧ w'.cell? ⟨gb236, 2, none⟩ = some (.string t234) ∧ w'.cell? ⟨gb236, 3, none⟩ = some (.int .i64 t235)) (ds := []) #[X_,X_,X_,X_,X_,X_,X_,X_,X_,X_,X_,X_,X_,X_,X_,X_,X_,X_,X_,X_,X_,X_,X_,X_] (by kernel_rfl) rfl rfl ⟨(blk_cell BK231.out 0).trans rfl, (blk_cell BK231.out 1).trans rfl, (blk_cell BK231.out 2).trans rfl, (blk_cell BK231.out 3).trans rfl, (blk_cell BK236.out 0).trans rfl, (blk_cell BK236.out 1).trans rfl, (blk_cell BK236.out 2).trans rfl, (blk_cell BK236.out 3).trans rfl⟩ (fun hHeld => ?_); refine with_tabW w6_BagSums.tab24 w6_BagSums.bits24 (fun HT_ HW_ => ?_)
                             generalize w65.drew = w66 at HO_9 HO_10 BK231 BK236 HB hHeld ⊢
                             refine pure_ (i := 0) (N := some 103) (v := ?_) (a' := ?_) #[Y_,X_,X_,X_,X_,X_,X_,X_,X_,X_,X_,X_,X_,X_,X_,X_,X_,X_,X_,X_,X_,X_,X_,X_] rfl rfl (any_of HT_.out (by kernel_rfl)) (fun _ _ _ h => h) (Or.inl ⟨by rfl, ?_⟩) ?_ ?_
                             rotate_left
                             · intro w'
                               go_simp
                               with_reducible rfl
                             rotate_left
                             · simp only [Act.put, sTA_, sCZ_, sCS_, i64_w, i32_w]
                               rfl
                             refine take_ (i := 1) (N := some 104) (v := ?_) (a' := ?_) #[Y_,Y_,X_,X_,X_,X_,X_,X_,X_,X_,X_,X_,X_,X_,X_,X_,X_,X_,X_,X_,X_,X_,X_,X_] rfl rfl (take_ofW HT_.out HW_.out (by kernel_rfl)) (fun _ _ _ h => h) (Or.inl ⟨by rfl, ?_⟩) hHeld ?_ ?_
                             rotate_left
                             · rintro w' ⟨s0, s1, s2, s3, s4, s5, s6, s7⟩
                               go_simp
                               with_reducible rfl
                             rotate_left
                             · simp only [Act.put, sTA_, sCZ_, sCS_, i64_w, i32_w]
                               rfl
                             refine pure_ (i := 2) (N := some 105) (v := ?_) (a' := ?_) #[Y_,Y_,Y_,X_,X_,X_,X_,X_,X_,X_,X_,X_,X_,X_,X_,X_,X_,X_,X_,X_,X_,X_,X_,X_] rfl rfl (any_of HT_.out (by kernel_rfl)) (fun _ _ _ h => h) (Or.inl ⟨by rfl, ?_⟩) ?_ ?_
                             rotate_left
                             · intro w'
                               go_simp
                               with_reducible rfl
                             rotate_left
                             · simp only [Act.put, sTA_, sCZ_, sCS_, i64_w, i32_w]
                               rfl
                             refine pure_ (i := 3) (N := some 106) (v := ?_) (a' := ?_) #[Y_,Y_,Y_,Y_,X_,X_,X_,X_,X_,X_,X_,X_,X_,X_,X_,X_,X_,X_,X_,X_,X_,X_,X_,X_] rfl rfl (any_of HT_.out (by kernel_rfl)) (fun _ _ _ h => h) (Or.inl ⟨by rfl, ?_⟩) ?_ ?_
                             rotate_left
                             · intro w'
                               go_simp
                               with_reducible rfl
                             rotate_left
                             · simp only [Act.put, sTA_, sCZ_, sCS_, i64_w, i32_w]
                               rfl
                             refine pure_ (i := 4) (N := some 107) (v := ?_) (a' := ?_) #[Y_,Y_,Y_,Y_,Y_,X_,X_,X_,X_,X_,X_,X_,X_,X_,X_,X_,X_,X_,X_,X_,X_,X_,X_,X_] rfl rfl (any_of HT_.out (by kernel_rfl)) (fun _ _ _ h => h) (Or.inl ⟨by rfl, ?_⟩) ?_ ?_
                             rotate_left
                             · intro w'
                               go_simp
                               with_reducible rfl
                             rotate_left
                             · simp only [Act.put, sTA_, sCZ_, sCS_, i64_w, i32_w]
                               rfl
                             refine take_ (i := 5) (N := some 108) (v := ?_) (a' := ?_) #[Y_,Y_,Y_,Y_,Y_,Y_,X_,X_,X_,X_,X_,X_,X_,X_,X_,X_,X_,X_,X_,X_,X_,X_,X_,X_] rfl rfl (take_ofW HT_.out HW_.out (by kernel_rfl)) (fun _ _ _ h => h) (Or.inl ⟨by rfl, ?_⟩) hHeld ?_ ?_
                             rotate_left
                             · rintro w' ⟨s0, s1, s2, s3, s4, s5, s6, s7⟩
                               go_simp
                               with_reducible rfl
                             rotate_left
                             · simp only [Act.put, sTA_, sCZ_, sCS_, i64_w, i32_w]
                               rfl
                             refine one_ (i := 6) (N := some 109) #[Y_,Y_,Y_,Y_,Y_,Y_,Y_,X_,X_,X_,X_,X_,X_,X_,X_,X_,X_,X_,X_,X_,X_,X_,X_,X_] rfl rfl (one_of HT_.out (by kernel_rfl)) (by decide) (fun K hK => ?_)
                             refine goes_ Tryd.func12 (by kernel_rfl) rfl #[.int .i64 0] (by rfl) rfl rfl (by (try simp only [List.map_toArray, List.map_cons, List.map_nil]); first | done | rfl | (simp only [List.length_drop, List.length_take]; rfl)) ?_
                             with_reducible refine (r1_Int.calls 0 t237 t238 t239 _ A50.out).mono ?_
                             rintro e w67 ⟨rfl, hb⟩
                             refine ⟨_, rfl, ?_⟩
                             have n0_ := Aside0.mk (Kd.R_below (by (with_reducible repeat (first | apply Kd.R_alloc | apply Kd.R_drewN | apply Kd.R_drew)); exact HO_9.out) hb)
                             have n1_ := Aside0.mk (Kd.R_below (by (with_reducible repeat (first | apply Kd.R_alloc | apply Kd.R_drewN | apply Kd.R_drew)); exact HO_10.out) hb)
                             have n2_ := Aside0.mk (blk_below (g := gb231) (o := .cells #[.int .u8 t227, .int .i64 t228, .string t229, .int .i64 t230] 31 (0, 0)) (by (with_reducible repeat (first | refine blk_drewN ?_ _ | refine blk_drew ?_ | refine blk_alloc ?_ _)); exact BK231.out) hb)
                             have n3_ := Aside0.mk (blk_below (g := gb236) (o := .cells #[.int .u8 t232, .int .i64 t233, .string t234, .int .i64 t235] 31 (0, 0)) (by (with_reducible repeat (first | refine blk_drewN ?_ _ | refine blk_drew ?_ | refine blk_alloc ?_ _)); exact BK236.out) hb)
                             have n4_ := Aside0.mk (below_step (by repeat (first | (with_reducible first | exact HB.out | apply bA_ | apply bN_ | apply b1_ | refine below_set ?_ GE231.out | refine below_set ?_ GE236.out) | exact HB.out)) hb)
                             clear HO_9
                             clear HO_10
                             clear BK231
                             clear BK236
                             clear HB
                             have HO_9 := n0_
                             have HO_10 := n1_
                             have BK231 := n2_
                             have BK236 := n3_
                             have HB := n4_
                             clear n0_ n1_ n2_ n3_ n4_
                             (try clear hb)
                             (try clear hb2)
                             (try clear hk)
                             (try clear hi)
                             refine hK.out _ _ ⟨(blk_cell BK231.out 0).trans rfl, (blk_cell BK231.out 1).trans rfl, (blk_cell BK231.out 2).trans rfl, (blk_cell BK231.out 3).trans rfl, (blk_cell BK236.out 0).trans rfl, (blk_cell BK236.out 1).trans rfl, (blk_cell BK236.out 2).trans rfl, (blk_cell BK236.out 3).trans rfl⟩ (fun hHeld => ?_)
                             clear hK K
                             refine norm_ (a' := ?_) ?_ ?_
                             rotate_left
                             · show Act.put _ (some 109) _ = _
                               simp only [Act.put, sTA_, sCZ_, sCS_, i64_w, i32_w]
                               rfl
                             refine one_ (i := 7) (N := some 110) #[Y_,Y_,Y_,Y_,Y_,Y_,Y_,Y_,X_,X_,X_,X_,X_,X_,X_,X_,X_,X_,X_,X_,X_,X_,X_,X_] rfl rfl (one_of HT_.out (by kernel_rfl)) (by decide) (fun K hK => ?_)
                             refine goes_ Tryd.func14 (by kernel_rfl) rfl #[.agg #[.int .u8 t227, .int .i64 t228, .string t229], .agg #[.int .u8 t237, .int .i64 t238, .string t239]] (by rfl) rfl rfl (by (try simp only [List.map_toArray, List.map_cons, List.map_nil]); first | done | rfl | (simp only [List.length_drop, List.length_take]; rfl)) ?_
                             with_reducible refine (r1_Same.calls t227 t228 t229 t237 t238 t239 true _ A51.out).mono ?_
                             rintro e w68 ⟨rfl, hb⟩
                             refine ⟨_, rfl, ?_⟩
                             have n0_ := Aside0.mk (Kd.R_below (by (with_reducible repeat (first | apply Kd.R_alloc | apply Kd.R_drewN | apply Kd.R_drew)); exact HO_9.out) hb)
                             have n1_ := Aside0.mk (Kd.R_below (by (with_reducible repeat (first | apply Kd.R_alloc | apply Kd.R_drewN | apply Kd.R_drew)); exact HO_10.out) hb)
                             have n2_ := Aside0.mk (blk_below (g := gb231) (o := .cells #[.int .u8 t227, .int .i64 t228, .string t229, .int .i64 t230] 31 (0, 0)) (by (with_reducible repeat (first | refine blk_drewN ?_ _ | refine blk_drew ?_ | refine blk_alloc ?_ _)); exact BK231.out) hb)
                             have n3_ := Aside0.mk (blk_below (g := gb236) (o := .cells #[.int .u8 t232, .int .i64 t233, .string t234, .int .i64 t235] 31 (0, 0)) (by (with_reducible repeat (first | refine blk_drewN ?_ _ | refine blk_drew ?_ | refine blk_alloc ?_ _)); exact BK236.out) hb)
                             have n4_ := Aside0.mk (below_step (by repeat (first | (with_reducible first | exact HB.out | apply bA_ | apply bN_ | apply b1_ | refine below_set ?_ GE231.out | refine below_set ?_ GE236.out) | exact HB.out)) hb)
                             clear HO_9
                             clear HO_10
                             clear BK231
                             clear BK236
                             clear HB
                             have HO_9 := n0_
                             have HO_10 := n1_
                             have BK231 := n2_
                             have BK236 := n3_
                             have HB := n4_
                             clear n0_ n1_ n2_ n3_ n4_
                             (try clear hb)
                             (try clear hb2)
                             (try clear hk)
                             (try clear hi)
                             refine hK.out _ _ ⟨(blk_cell BK231.out 0).trans rfl, (blk_cell BK231.out 1).trans rfl, (blk_cell BK231.out 2).trans rfl, (blk_cell BK231.out 3).trans rfl, (blk_cell BK236.out 0).trans rfl, (blk_cell BK236.out 1).trans rfl, (blk_cell BK236.out 2).trans rfl, (blk_cell BK236.out 3).trans rfl⟩ (fun hHeld => ?_)
                             clear hK K
                             refine norm_ (a' := ?_) ?_ ?_
                             rotate_left
                             · show Act.put _ (some 110) _ = _
                               simp only [Act.put, sTA_, sCZ_, sCS_, i64_w, i32_w]
                               rfl
                             refine pure_ (i := 8) (N := some 111) (v := ?_) (a' := ?_) #[Y_,Y_,Y_,Y_,Y_,Y_,Y_,Y_,Y_,X_,X_,X_,X_,X_,X_,X_,X_,X_,X_,X_,X_,X_,X_,X_] rfl rfl (any_of HT_.out (by kernel_rfl)) (fun _ _ _ h => h) (Or.inl ⟨by rfl, ?_⟩) ?_ ?_
                             rotate_left
                             · intro w'
                               go_simp
                               with_reducible rfl
                             rotate_left
                             · simp only [Act.put, sTA_, sCZ_, sCS_, i64_w, i32_w]
                               rfl
                             refine pure_ (i := 9) (N := some 112) (v := ?_) (a' := ?_) #[Y_,Y_,Y_,Y_,Y_,Y_,Y_,Y_,Y_,Y_,X_,X_,X_,X_,X_,X_,X_,X_,X_,X_,X_,X_,X_,X_] rfl rfl (any_of HT_.out (by kernel_rfl)) (fun _ _ _ h => h) (Or.inl ⟨by rfl, ?_⟩) ?_ ?_
                             rotate_left
                             · intro w'
                               go_simp
                               with_reducible rfl
                             rotate_left
                             · simp only [Act.put, sTA_, sCZ_, sCS_, i64_w, i32_w]
                               rfl
                             refine pure_ (i := 10) (N := some 113) (v := ?_) (a' := ?_) #[Y_,Y_,Y_,Y_,Y_,Y_,Y_,Y_,Y_,Y_,Y_,X_,X_,X_,X_,X_,X_,X_,X_,X_,X_,X_,X_,X_] rfl rfl (any_of HT_.out (by kernel_rfl)) (fun _ _ _ h => h) (Or.inl ⟨by rfl, ?_⟩) ?_ ?_
                             rotate_left
                             · intro w'
                               go_simp
                               with_reducible rfl
                             rotate_left
                             · simp only [Act.put, sTA_, sCZ_, sCS_, i64_w, i32_w]
                               rfl
                             refine take_ (i := 11) (N := some 114) (v := ?_) (a' := ?_) #[Y_,Y_,Y_,Y_,Y_,Y_,Y_,Y_,Y_,Y_,Y_,Y_,X_,X_,X_,X_,X_,X_,X_,X_,X_,X_,X_,X_] rfl rfl (take_ofW HT_.out HW_.out (by kernel_rfl)) (fun _ _ _ h => h) (Or.inl ⟨by rfl, ?_⟩) hHeld ?_ ?_
                             rotate_left
                             · rintro w' ⟨s0, s1, s2, s3, s4, s5, s6, s7⟩
                               go_simp
                               with_reducible rfl
                             rotate_left
                             · simp only [Act.put, sTA_, sCZ_, sCS_, i64_w, i32_w]
                               rfl
                             refine pure_ (i := 12) (N := some 115) (v := ?_) (a' := ?_) #[Y_,Y_,Y_,Y_,Y_,Y_,Y_,Y_,Y_,Y_,Y_,Y_,Y_,X_,X_,X_,X_,X_,X_,X_,X_,X_,X_,X_] rfl rfl (any_of HT_.out (by kernel_rfl)) (fun _ _ _ h => h) (Or.inl ⟨by rfl, ?_⟩) ?_ ?_
                             rotate_left
                             · intro w'
                               go_simp
                               with_reducible rfl
                             rotate_left
                             · simp only [Act.put, sTA_, sCZ_, sCS_, i64_w, i32_w]
                               rfl
                             refine pure_ (i := 13) (N := some 116) (v := ?_) (a' := ?_) #[Y_,Y_,Y_,Y_,Y_,Y_,Y_,Y_,Y_,Y_,Y_,Y_,Y_,Y_,X_,X_,X_,X_,X_,X_,X_,X_,X_,X_] rfl rfl (any_of HT_.out (by kernel_rfl)) (fun _ _ _ h => h) (Or.inl ⟨by rfl, ?_⟩) ?_ ?_
                             rotate_left
                             · intro w'
                               go_simp
                               with_reducible rfl
                             rotate_left
                             · simp only [Act.put, sTA_, sCZ_, sCS_, i64_w, i32_w]
                               rfl
                             refine pure_ (i := 14) (N := some 117) (v := ?_) (a' := ?_) #[Y_,Y_,Y_,Y_,Y_,Y_,Y_,Y_,Y_,Y_,Y_,Y_,Y_,Y_,Y_,X_,X_,X_,X_,X_,X_,X_,X_,X_] rfl rfl (any_of HT_.out (by kernel_rfl)) (fun _ _ _ h => h) (Or.inl ⟨by rfl, ?_⟩) ?_ ?_
                             rotate_left
                             · intro w'
                               go_simp
                               with_reducible rfl
                             rotate_left
                             · simp only [Act.put, sTA_, sCZ_, sCS_, i64_w, i32_w]
                               rfl
                             refine pure_ (i := 15) (N := some 118) (v := ?_) (a' := ?_) #[Y_,Y_,Y_,Y_,Y_,Y_,Y_,Y_,Y_,Y_,Y_,Y_,Y_,Y_,Y_,Y_,X_,X_,X_,X_,X_,X_,X_,X_] rfl rfl (any_of HT_.out (by kernel_rfl)) (fun _ _ _ h => h) (Or.inl ⟨by rfl, ?_⟩) ?_ ?_
                             rotate_left
                             · intro w'
                               go_simp
                               with_reducible rfl
                             rotate_left
                             · simp only [Act.put, sTA_, sCZ_, sCS_, i64_w, i32_w]
                               rfl
                             refine pure_ (i := 16) (N := some 119) (v := ?_) (a' := ?_) #[Y_,Y_,Y_,Y_,Y_,Y_,Y_,Y_,Y_,Y_,Y_,Y_,Y_,Y_,Y_,Y_,Y_,X_,X_,X_,X_,X_,X_,X_] rfl rfl (any_of HT_.out (by kernel_rfl)) (fun _ _ _ h => h) (Or.inl ⟨by rfl, ?_⟩) ?_ ?_
                             rotate_left
                             · intro w'
                               go_simp
                               with_reducible rfl
                             rotate_left
                             · simp only [Act.put, sTA_, sCZ_, sCS_, i64_w, i32_w]
                               rfl
                             refine take_ (i := 17) (N := some 120) (v := ?_) (a' := ?_) #[Y_,Y_,Y_,Y_,Y_,Y_,Y_,Y_,Y_,Y_,Y_,Y_,Y_,Y_,Y_,Y_,Y_,Y_,X_,X_,X_,X_,X_,X_] rfl rfl (take_ofW HT_.out HW_.out (by kernel_rfl)) (fun _ _ _ h => h) (Or.inl ⟨by rfl, ?_⟩) hHeld ?_ ?_
                             rotate_left
                             · rintro w' ⟨s0, s1, s2, s3, s4, s5, s6, s7⟩
                               go_simp
                               with_reducible rfl
                             rotate_left
                             · simp only [Act.put, sTA_, sCZ_, sCS_, i64_w, i32_w]
                               rfl
                             refine pure_ (i := 18) (N := some 121) (v := ?_) (a' := ?_) #[Y_,Y_,Y_,Y_,Y_,Y_,Y_,Y_,Y_,Y_,Y_,Y_,Y_,Y_,Y_,Y_,Y_,Y_,Y_,X_,X_,X_,X_,X_] rfl rfl (any_of HT_.out (by kernel_rfl)) (fun _ _ _ h => h) (Or.inl ⟨by rfl, ?_⟩) ?_ ?_
                             rotate_left
                             · intro w'
                               go_simp
                               with_reducible rfl
                             rotate_left
                             · simp only [Act.put, sTA_, sCZ_, sCS_, i64_w, i32_w]
                               rfl
                             refine pure_ (i := 19) (N := some 122) (v := ?_) (a' := ?_) #[Y_,Y_,Y_,Y_,Y_,Y_,Y_,Y_,Y_,Y_,Y_,Y_,Y_,Y_,Y_,Y_,Y_,Y_,Y_,Y_,X_,X_,X_,X_] rfl rfl (any_of HT_.out (by kernel_rfl)) (fun _ _ _ h => h) (Or.inl ⟨by rfl, ?_⟩) ?_ ?_
                             rotate_left
                             · intro w'
                               go_simp
                               with_reducible rfl
                             rotate_left
                             · simp only [Act.put, sTA_, sCZ_, sCS_, i64_w, i32_w]
                               rfl
                             refine pure_ (i := 20) (N := some 123) (v := ?_) (a' := ?_) #[Y_,Y_,Y_,Y_,Y_,Y_,Y_,Y_,Y_,Y_,Y_,Y_,Y_,Y_,Y_,Y_,Y_,Y_,Y_,Y_,Y_,X_,X_,X_] rfl rfl (any_of HT_.out (by kernel_rfl)) (fun _ _ _ h => h) (Or.inl ⟨by rfl, ?_⟩) ?_ ?_
                             rotate_left
                             · intro w'
                               go_simp
                               with_reducible rfl
                             rotate_left
                             · simp only [Act.put, sTA_, sCZ_, sCS_, i64_w, i32_w]
                               rfl
                             refine one_ (i := 21) (N := some 124) #[Y_,Y_,Y_,Y_,Y_,Y_,Y_,Y_,Y_,Y_,Y_,Y_,Y_,Y_,Y_,Y_,Y_,Y_,Y_,Y_,Y_,Y_,X_,X_] rfl rfl (one_of HT_.out (by kernel_rfl)) (by decide) (fun K hK => ?_)
                             refine goes_ Tryd.func11 (by kernel_rfl) rfl #[] (by rfl) rfl rfl (by (try simp only [List.map_toArray, List.map_cons, List.map_nil]); first | done | rfl | (simp only [List.length_drop, List.length_take]; rfl)) ?_
                             with_reducible refine (w6_awake.calls  t241 _ ?sideT A55.out).mono ?_
                             case sideT => exact LaidT.below HT.out (by repeat (first | (with_reducible first | exact HB.out | apply bA_ | apply bN_ | apply b1_) | exact HB.out))
                             rintro e w69 ⟨rfl, hb⟩
                             refine ⟨_, rfl, ?_⟩
                             have n0_ := Aside0.mk (Kd.R_below (by (with_reducible repeat (first | apply Kd.R_alloc | apply Kd.R_drewN | apply Kd.R_drew)); exact HO_9.out) hb)
                             have n1_ := Aside0.mk (Kd.R_below (by (with_reducible repeat (first | apply Kd.R_alloc | apply Kd.R_drewN | apply Kd.R_drew)); exact HO_10.out) hb)
                             have n2_ := Aside0.mk (blk_below (g := gb231) (o := .cells #[.int .u8 t227, .int .i64 t228, .string t229, .int .i64 t230] 31 (0, 0)) (by (with_reducible repeat (first | refine blk_drewN ?_ _ | refine blk_drew ?_ | refine blk_alloc ?_ _)); exact BK231.out) hb)
                             have n3_ := Aside0.mk (blk_below (g := gb236) (o := .cells #[.int .u8 t232, .int .i64 t233, .string t234, .int .i64 t235] 31 (0, 0)) (by (with_reducible repeat (first | refine blk_drewN ?_ _ | refine blk_drew ?_ | refine blk_alloc ?_ _)); exact BK236.out) hb)
                             have n4_ := Aside0.mk (below_step (by repeat (first | (with_reducible first | exact HB.out | apply bA_ | apply bN_ | apply b1_ | refine below_set ?_ GE231.out | refine below_set ?_ GE236.out) | exact HB.out)) hb)
                             clear HO_9
                             clear HO_10
                             clear BK231
                             clear BK236
                             clear HB
                             have HO_9 := n0_
                             have HO_10 := n1_
                             have BK231 := n2_
                             have BK236 := n3_
                             have HB := n4_
                             clear n0_ n1_ n2_ n3_ n4_
                             (try clear hb)
                             (try clear hb2)
                             (try clear hk)
                             (try clear hi)
                             refine hK.out _ _ ⟨(blk_cell BK231.out 0).trans rfl, (blk_cell BK231.out 1).trans rfl, (blk_cell BK231.out 2).trans rfl, (blk_cell BK231.out 3).trans rfl, (blk_cell BK236.out 0).trans rfl, (blk_cell BK236.out 1).trans rfl, (blk_cell BK236.out 2).trans rfl, (blk_cell BK236.out 3).trans rfl⟩ (fun hHeld => ?_)
                             clear hK K
                             refine norm_ (a' := ?_) ?_ ?_
                             rotate_left
                             · show Act.put _ (some 124) _ = _
                               simp only [Act.put, sTA_, sCZ_, sCS_, i64_w, i32_w]
                               rfl
                             refine pure_ (i := 22) (N := some 125) (v := ?_) (a' := ?_) #[Y_,Y_,Y_,Y_,Y_,Y_,Y_,Y_,Y_,Y_,Y_,Y_,Y_,Y_,Y_,Y_,Y_,Y_,Y_,Y_,Y_,Y_,Y_,X_] rfl rfl (any_of HT_.out (by kernel_rfl)) (fun _ _ _ h => h) (Or.inl ⟨by rfl, ?_⟩) ?_ ?_
                             rotate_left
                             · intro w'
                               go_simp
                               with_reducible rfl
                             rotate_left
                             · simp only [Act.put, sTA_, sCZ_, sCS_, i64_w, i32_w]
                               rfl
                             refine pure_ (i := 23) (N := some 8) (v := ?_) (a' := ?_) #[Y_,Y_,Y_,Y_,Y_,Y_,Y_,Y_,Y_,Y_,Y_,Y_,Y_,Y_,Y_,Y_,Y_,Y_,Y_,Y_,Y_,Y_,Y_,Y_] rfl rfl (any_of HT_.out (by kernel_rfl)) (fun _ _ _ h => h) (Or.inl ⟨by rfl, ?_⟩) ?_ ?_
                             rotate_left
                             · intro w'
                               go_simp
                               with_reducible rfl
                             rotate_left
                             · simp only [Act.put, sTA_, sCZ_, sCS_, i64_w, i32_w]
                               rfl
                             refine done_ (done_of HT_.out (by kernel_rfl)) ?_
                             try go_wp2
                             go_ret
                             exact ⟨by first | rfl | (simp [*, errW_none, errW_some] <;> rfl), by repeat (first | (with_reducible first | exact HB.out | apply bA_ | apply bN_ | apply b1_ | refine below_set ?_ GE231.out | refine below_set ?_ GE236.out) | exact HB.out)⟩
                           · rw [if_neg c54] at H
                             have c54b0 : (t232 == 0) = false := beq_eq_false_iff_ne.mpr c54
                             have c54b1 : (t232 != 0) = true := bne_iff_ne.mpr c54
                             exact absurd ((Option.some.inj H).trans HRT.out) (by decide)
                         · rw [if_neg c53] at H
                           have c53b0 : (t235 == 0) = false := beq_eq_false_iff_ne.mpr c53
                           have c53b1 : (t235 != 0) = true := bne_iff_ne.mpr c53
                           exact absurd ((Option.some.inj H).trans HRT.out) (by decide)
                       · replace c52 := Bool.eq_false_iff.mpr c52
                         subst c52
                         have H1 : (some false) = some r := by rw [if_neg (show ¬ (false = true) by decide)] at H; exact H
                         clear H
                         have H := H1
                         clear H1
                         exact absurd ((Option.some.inj H).trans HRT.out) (by decide)
                     · rw [if_neg c49] at H
                       have c49b0 : (t230 == 0) = false := beq_eq_false_iff_ne.mpr c49
                       have c49b1 : (t230 != 0) = true := bne_iff_ne.mpr c49
                       exact absurd ((Option.some.inj H).trans HRT.out) (by decide)
                   · rw [if_neg c48] at H
                     have c48b0 : ((x9_3.length : Int) == 0) = false := beq_eq_false_iff_ne.mpr c48
                     have c48b1 : ((x9_3.length : Int) != 0) = true := bne_iff_ne.mpr c48
                     have c48b2 : ¬ (x9_3 = []) := fun h_ => c48 (by rw [h_]; rfl)
                     by_cases c120 : t230 = t235
                     · rw [if_pos c120] at H
                       have c120b0 : (t230 == t235) = true := beq_iff_eq.mpr c120
                       have c120b1 : (t230 != t235) = false := bne_eq_false_iff_eq.mpr c120
                       clear c120
                       replace H := Option.bind_eq_some_iff.mp H
                       obtain ⟨t242, A1210, H⟩ := H
                       replace H : (if t242 = true then ((w6_awake.f).bind fun t243 => (some t243)) else (some false)) = some r := H
                       have A121 := Aside0.mk A1210
                       clear A1210
                       by_cases c122 : t242 = true
                       · subst c122
                         have H1 : ((w6_awake.f).bind fun t243 => (some t243)) = some r := by rw [if_pos rfl] at H; exact H
                         clear H
                         have H := H1
                         clear H1
                         replace H := Option.bind_eq_some_iff.mp H
                         obtain ⟨t243, A1230, H⟩ := H
                         replace H : (some t243) = some r := H
                         have A123 := Aside0.mk A1230
                         clear A1230
                         obtain rfl := Option.some.inj H
                         obtain ⟨Ao124, co124, eo124⟩ := Kd.R_slice HO_10.out
                         subst eo124
                         go_wp2_with (first | ((with_reducible refine gate_callee (f := 13) rfl ?_); refine goesL_ (some 97) rfl rfl Tryd.func13 (by kernel_rfl) rfl #[.int .u8 2, .bool false, .slice Ao124 x10_3.length co124] rfl (by (try simp only [List.map_toArray, List.map_cons, List.map_nil]); first | done | rfl | (simp only [List.length_drop, List.length_take]; rfl)) ?_; (with_reducible refine (bag_Aggregate.calls 2 false _ _ x10_3 t227 t228 t229 t230 _ ?side1 ?side2 ?sideT A46.out).mono ?_); (case sideT => exact LaidT.below HT.out (by repeat (first | (with_reducible first | exact HB.out | apply bA_ | apply bN_ | apply b1_ | refine below_set ?_ GE231.out | refine below_set ?_ GE236.out) | exact HB.out))); (case side1 => repeat (first | exact (Kd.R_reads' HO_10.out).2.2 | (with_reducible refine Kd.cA_ ?_ _) | (with_reducible refine Kd.cN_ ?_ _) | (with_reducible refine Kd.cD_ ?_))); (case side2 => exact (Kd.R_reads' HO_10.out).2.1); rintro e w125 ⟨rfl, hb⟩; refine ⟨_, rfl, ?_⟩; have n0_ := Aside0.mk (Kd.R_below (by (with_reducible repeat (first | apply Kd.R_alloc | apply Kd.R_drewN | apply Kd.R_drew)); exact HO_9.out) hb); have n1_ := Aside0.mk (Kd.R_below (by (with_reducible repeat (first | apply Kd.R_alloc | apply Kd.R_drewN | apply Kd.R_drew)); exact HO_10.out) hb); have n2_ := Aside0.mk (below_step (by repeat (first | (with_reducible first | exact HB.out | apply bA_ | apply bN_ | apply b1_) | exact HB.out)) hb); clear HO_9; clear HO_10; clear HB; have HO_9 := n0_; have HO_10 := n1_; have HB := n2_; clear n0_ n1_ n2_; (try clear hb); (try clear hb2); (try clear hk); (try clear hi)) | ((with_reducible refine gate_dst (N := 14) rfl ?_); refine box_event ?hg (N := 14) ?hd (cs := #[.int .u8 0, .int .i64 0, .string (⟨#[]⟩ : ByteArray), .int .i64 0]) (t := 31) ?hr ?_; (case hd => rfl); (case hg => rfl); (case hr => first | (go_simp; done) | (go_simp; rfl)); intro gb231 hg w126 hbox hb; have n0_ := Aside0.mk (Kd.R_below (by (with_reducible repeat (first | apply Kd.R_alloc | apply Kd.R_drewN | apply Kd.R_drew)); exact HO_9.out) hb); have n1_ := Aside0.mk (Kd.R_below (by (with_reducible repeat (first | apply Kd.R_alloc | apply Kd.R_drewN | apply Kd.R_drew)); exact HO_10.out) hb); have n2_ := Aside0.mk (below_step (by repeat (first | (with_reducible first | exact HB.out | apply bA_ | apply bN_ | apply b1_) | exact HB.out)) hb); have n3_ := Aside0.mk (hbox); have n4_ := Aside0.mk ((by rw [hg]; exact (below_size (by repeat (first | (with_reducible first | exact HB.out | apply bA_ | apply bN_ | apply b1_) | exact HB.out))) : w.heap.size ≤ gb231)); have n5_ := Aside0.mk ((by rw [hg]; exact (below_size (by repeat (first | (with_reducible first | exact HB.out | apply bA_ | apply bN_ | apply b1_) | exact HB.out))) : w.heap.size ≤ gb231)); clear HO_9; clear HO_10; clear HB; have HO_9 := n0_; have HO_10 := n1_; have HB := n2_; have BK231 := n3_; have GW231 := n4_; have GE231 := n5_; clear n0_ n1_ n2_ n3_ n4_ n5_; clear hb hbox hg; have hcz127_0 : w126.cell? ⟨gb231, 0, none⟩ = some (.int .u8 0) := (blk_cell BK231.out 0).trans rfl; have hcz127_1 : w126.cell? ⟨gb231, 1, none⟩ = some (.int .i64 0) := (blk_cell BK231.out 1).trans rfl; have hcz127_2 : w126.cell? ⟨gb231, 2, none⟩ = some (.string (⟨#[]⟩ : ByteArray)) := (blk_cell BK231.out 2).trans rfl; have hcz127_3 : w126.cell? ⟨gb231, 3, none⟩ = some (.int .i64 0) := (blk_cell BK231.out 3).trans rfl; have hfz127_0 := blk_frozen BK231.out 0; have hfz127_1 := blk_frozen BK231.out 1; have hfz127_2 := blk_frozen BK231.out 2; have hfz127_3 := blk_frozen BK231.out 3; obtain ⟨Ao128, co128, eo128⟩ := Kd.R_slice HO_9.out; subst eo128) | ((with_reducible refine gate_callee (f := 13) rfl ?_); refine goesL_ (some 99) rfl rfl Tryd.func13 (by kernel_rfl) rfl #[.int .u8 2, .bool false, .slice Ao128 x9_3.length co128] rfl (by (try simp only [List.map_toArray, List.map_cons, List.map_nil]); first | done | rfl | (simp only [List.length_drop, List.length_take]; rfl)) ?_; (with_reducible refine (bag_Aggregate.calls 2 false _ _ x9_3 t232 t233 t234 t235 _ ?side1 ?side2 ?sideT A47.out).mono ?_); (case sideT => exact LaidT.below HT.out (by repeat (first | (with_reducible first | exact HB.out | apply bA_ | apply bN_ | apply b1_ | refine below_set ?_ GE231.out | refine below_set ?_ GE236.out) | exact HB.out))); (case side1 => refine (Kd.R_reads' (e := 27) (base := w.heap.size) (ok := fun k_ => some k_ ≠ (.slice Ao124 x10_3.length co124 : Value).ownBlock) (n := x9_3.length) (c := co128) ?_).2.2; exact (by (with_reducible repeat (first | apply Kd.R_alloc | apply Kd.R_drewN | apply Kd.R_drew)); exact (Kd.R_mono (Kd.R_far (p := ⟨gb231, 3, none⟩) (Kd.R_far (p := ⟨gb231, 2, none⟩) (Kd.R_far (p := ⟨gb231, 1, none⟩) (Kd.R_far (p := ⟨gb231, 0, none⟩) (Kd.R_types HO_9.out BK231.out (by decide)) (fun _ hk => hk.2) (.int .u8 t227)) (fun _ hk => hk.2) (.int .i64 t228)) (fun _ hk => hk.2) (.string t229)) (fun _ hk => hk.2) (.int .i64 t230)) (fun _ h_ => h_.1)))); (case side2 => exact (Kd.R_reads' HO_9.out).2.1); rintro e w129 ⟨rfl, hb⟩; refine ⟨_, rfl, ?_⟩; have n0_ := Aside0.mk (Kd.R_below (by (with_reducible repeat (first | apply Kd.R_alloc | apply Kd.R_drewN | apply Kd.R_drew)); exact (Kd.R_mono (Kd.R_far (p := ⟨gb231, 3, none⟩) (Kd.R_far (p := ⟨gb231, 2, none⟩) (Kd.R_far (p := ⟨gb231, 1, none⟩) (Kd.R_far (p := ⟨gb231, 0, none⟩) (Kd.R_types HO_9.out BK231.out (by decide)) (fun _ hk => hk.2) (.int .u8 t227)) (fun _ hk => hk.2) (.int .i64 t228)) (fun _ hk => hk.2) (.string t229)) (fun _ hk => hk.2) (.int .i64 t230)) (fun _ h_ => h_.1))) hb); have n1_ := Aside0.mk (Kd.R_below (by (with_reducible repeat (first | apply Kd.R_alloc | apply Kd.R_drewN | apply Kd.R_drew)); exact (Kd.R_mono (Kd.R_far (p := ⟨gb231, 3, none⟩) (Kd.R_far (p := ⟨gb231, 2, none⟩) (Kd.R_far (p := ⟨gb231, 1, none⟩) (Kd.R_far (p := ⟨gb231, 0, none⟩) (Kd.R_types HO_10.out BK231.out (by decide)) (fun _ hk => hk.2) (.int .u8 t227)) (fun _ hk => hk.2) (.int .i64 t228)) (fun _ hk => hk.2) (.string t229)) (fun _ hk => hk.2) (.int .i64 t230)) (fun _ h_ => h_.1))) hb); have n2_ := Aside0.mk (blk_below (g := gb231) (o := .cells #[.int .u8 t227, .int .i64 t228, .string t229, .int .i64 t230] 31 (0, 0)) (by (with_reducible repeat (first | refine blk_drewN ?_ _ | refine blk_drew ?_ | refine blk_alloc ?_ _)); refine blk_put (cs := #[.int .u8 t227, .int .i64 t228, .string t229, .int .i64 0]) ?_ 3 _ rfl; (with_reducible repeat (first | refine blk_drewN ?_ _ | refine blk_drew ?_ | refine blk_alloc ?_ _)); refine blk_put (cs := #[.int .u8 t227, .int .i64 t228, .string (⟨#[]⟩ : ByteArray), .int .i64 0]) ?_ 2 _ rfl; (with_reducible repeat (first | refine blk_drewN ?_ _ | refine blk_drew ?_ | refine blk_alloc ?_ _)); refine blk_put (cs := #[.int .u8 t227, .int .i64 0, .string (⟨#[]⟩ : ByteArray), .int .i64 0]) ?_ 1 _ rfl; (with_reducible repeat (first | refine blk_drewN ?_ _ | refine blk_drew ?_ | refine blk_alloc ?_ _)); refine blk_put (cs := #[.int .u8 0, .int .i64 0, .string (⟨#[]⟩ : ByteArray), .int .i64 0]) ?_ 0 _ rfl; (with_reducible repeat (first | refine blk_drewN ?_ _ | refine blk_drew ?_ | refine blk_alloc ?_ _)); exact BK231.out) hb); have n3_ := Aside0.mk (below_step (by repeat (first | (with_reducible first | exact HB.out | apply bA_ | apply bN_ | apply b1_ | refine below_set ?_ GE231.out) | exact HB.out)) hb); clear HO_9; clear HO_10; clear BK231; clear HB; have HO_9 := n0_; have HO_10 := n1_; have BK231 := n2_; have HB := n3_; clear n0_ n1_ n2_ n3_; (try clear hb); (try clear hb2); (try clear hk); (try clear hi)) | ((with_reducible refine gate_dst (N := 15) rfl ?_); refine box_event ?hg (N := 15) ?hd (cs := #[.int .u8 0, .int .i64 0, .string (⟨#[]⟩ : ByteArray), .int .i64 0]) (t := 31) ?hr ?_; (case hd => rfl); (case hg => rfl); (case hr => first | (go_simp; done) | (go_simp; rfl)); intro gb236 hg w130 hbox hb; have n0_ := Aside0.mk (Kd.R_below (by (with_reducible repeat (first | apply Kd.R_alloc | apply Kd.R_drewN | apply Kd.R_drew)); exact HO_9.out) hb); have n1_ := Aside0.mk (Kd.R_below (by (with_reducible repeat (first | apply Kd.R_alloc | apply Kd.R_drewN | apply Kd.R_drew)); exact HO_10.out) hb); have n2_ := Aside0.mk (blk_below (g := gb231) (o := .cells #[.int .u8 t227, .int .i64 t228, .string t229, .int .i64 t230] 31 (0, 0)) (by (with_reducible repeat (first | refine blk_drewN ?_ _ | refine blk_drew ?_ | refine blk_alloc ?_ _)); exact BK231.out) hb); have n3_ := Aside0.mk (below_step (by repeat (first | (with_reducible first | exact HB.out | apply bA_ | apply bN_ | apply b1_ | refine below_set ?_ GE231.out) | exact HB.out)) hb); have n4_ := Aside0.mk (hbox); have n5_ := Aside0.mk ((by rw [hg]; exact (below_size (by repeat (first | (with_reducible first | exact HB.out | apply bA_ | apply bN_ | apply b1_ | refine below_set ?_ GE231.out) | exact HB.out))) : w.heap.size ≤ gb236)); have n6_ := Aside0.mk ((by rw [hg]; exact (below_size (by repeat (first | (with_reducible first | exact HB.out | apply bA_ | apply bN_ | apply b1_ | refine below_set ?_ GE231.out) | exact HB.out))) : w.heap.size ≤ gb236)); have n7_ := Aside0.mk ((by rw [hg]; exact Nat.ne_of_lt (blk_lt (g := gb231) (o := .cells #[.int .u8 t227, .int .i64 t228, .string t229, .int .i64 t230] 31 (0, 0)) (by (with_reducible repeat (first | refine blk_drewN ?_ _ | refine blk_drew ?_ | refine blk_alloc ?_ _)); exact BK231.out)) : gb231 ≠ gb236)); have n8_ := Aside0.mk ((by rw [hg]; exact Nat.ne_of_gt (blk_lt (g := gb231) (o := .cells #[.int .u8 t227, .int .i64 t228, .string t229, .int .i64 t230] 31 (0, 0)) (by (with_reducible repeat (first | refine blk_drewN ?_ _ | refine blk_drew ?_ | refine blk_alloc ?_ _)); exact BK231.out)) : gb236 ≠ gb231)); clear HO_9; clear HO_10; clear BK231; clear HB; have HO_9 := n0_; have HO_10 := n1_; have BK231 := n2_; have HB := n3_; have BK236 := n4_; have GW236 := n5_; have GE236 := n6_; have NB231_236 := n7_; have NB236_231 := n8_; clear n0_ n1_ n2_ n3_ n4_ n5_ n6_ n7_ n8_; clear hb hbox hg; have hnb131 := NB236_231.out; have hnc131 := NB231_236.out; have hcz132_0 : w130.cell? ⟨gb236, 0, none⟩ = some (.int .u8 0) := (blk_cell BK236.out 0).trans rfl; have hcz132_1 : w130.cell? ⟨gb236, 1, none⟩ = some (.int .i64 0) := (blk_cell BK236.out 1).trans rfl; have hcz132_2 : w130.cell? ⟨gb236, 2, none⟩ = some (.string (⟨#[]⟩ : ByteArray)) := (blk_cell BK236.out 2).trans rfl; have hcz132_3 : w130.cell? ⟨gb236, 3, none⟩ = some (.int .i64 0) := (blk_cell BK236.out 3).trans rfl; have hfz132_0 := blk_frozen BK236.out 0; have hfz132_1 := blk_frozen BK236.out 1; have hfz132_2 := blk_frozen BK236.out 2; have hfz132_3 := blk_frozen BK236.out 3; have hcz133_0 : w130.cell? ⟨gb231, 0, none⟩ = some (.int .u8 t227) := (blk_cell BK231.out 0).trans rfl; have hcz133_1 : w130.cell? ⟨gb231, 1, none⟩ = some (.int .i64 t228) := (blk_cell BK231.out 1).trans rfl; have hcz133_2 : w130.cell? ⟨gb231, 2, none⟩ = some (.string t229) := (blk_cell BK231.out 2).trans rfl; have hcz133_3 : w130.cell? ⟨gb231, 3, none⟩ = some (.int .i64 t230) := (blk_cell BK231.out 3).trans rfl; have hfz133_0 := blk_frozen BK231.out 0; have hfz133_1 := blk_frozen BK231.out 1; have hfz133_2 := blk_frozen BK231.out 2; have hfz133_3 := blk_frozen BK231.out 3) | (go_at_call 14; (with_reducible refine (r1_Same.calls t227 t228 t229 t232 t233 t234 true _ A121.out).mono ?_); rintro e w134 ⟨rfl, hb⟩; have n0_ := Aside0.mk (Kd.R_below (by (with_reducible repeat (first | apply Kd.R_alloc | apply Kd.R_drewN | apply Kd.R_drew)); exact (Kd.R_mono (Kd.R_far (p := ⟨gb236, 3, none⟩) (Kd.R_far (p := ⟨gb236, 2, none⟩) (Kd.R_far (p := ⟨gb236, 1, none⟩) (Kd.R_far (p := ⟨gb236, 0, none⟩) (Kd.R_types HO_9.out BK236.out (by decide)) (fun _ hk => hk.2) (.int .u8 t232)) (fun _ hk => hk.2) (.int .i64 t233)) (fun _ hk => hk.2) (.string t234)) (fun _ hk => hk.2) (.int .i64 t235)) (fun _ h_ => h_.1))) hb); have n1_ := Aside0.mk (Kd.R_below (by (with_reducible repeat (first | apply Kd.R_alloc | apply Kd.R_drewN | apply Kd.R_drew)); exact (Kd.R_mono (Kd.R_far (p := ⟨gb236, 3, none⟩) (Kd.R_far (p := ⟨gb236, 2, none⟩) (Kd.R_far (p := ⟨gb236, 1, none⟩) (Kd.R_far (p := ⟨gb236, 0, none⟩) (Kd.R_types HO_10.out BK236.out (by decide)) (fun _ hk => hk.2) (.int .u8 t232)) (fun _ hk => hk.2) (.int .i64 t233)) (fun _ hk => hk.2) (.string t234)) (fun _ hk => hk.2) (.int .i64 t235)) (fun _ h_ => h_.1))) hb); have n2_ := Aside0.mk (blk_below (g := gb231) (o := .cells #[.int .u8 t227, .int .i64 t228, .string t229, .int .i64 t230] 31 (0, 0)) (by (with_reducible repeat (first | refine blk_drewN ?_ _ | refine blk_drew ?_ | refine blk_alloc ?_ _)); refine blk_far ?_ NB231_236.out _; (with_reducible repeat (first | refine blk_drewN ?_ _ | refine blk_drew ?_ | refine blk_alloc ?_ _)); refine blk_far ?_ NB231_236.out _; (with_reducible repeat (first | refine blk_drewN ?_ _ | refine blk_drew ?_ | refine blk_alloc ?_ _)); refine blk_far ?_ NB231_236.out _; (with_reducible repeat (first | refine blk_drewN ?_ _ | refine blk_drew ?_ | refine blk_alloc ?_ _)); refine blk_far ?_ NB231_236.out _; (with_reducible repeat (first | refine blk_drewN ?_ _ | refine blk_drew ?_ | refine blk_alloc ?_ _)); exact BK231.out) hb); have n3_ := Aside0.mk (blk_below (g := gb236) (o := .cells #[.int .u8 t232, .int .i64 t233, .string t234, .int .i64 t235] 31 (0, 0)) (by (with_reducible repeat (first | refine blk_drewN ?_ _ | refine blk_drew ?_ | refine blk_alloc ?_ _)); refine blk_put (cs := #[.int .u8 t232, .int .i64 t233, .string t234, .int .i64 0]) ?_ 3 _ rfl; (with_reducible repeat (first | refine blk_drewN ?_ _ | refine blk_drew ?_ | refine blk_alloc ?_ _)); refine blk_put (cs := #[.int .u8 t232, .int .i64 t233, .string (⟨#[]⟩ : ByteArray), .int .i64 0]) ?_ 2 _ rfl; (with_reducible repeat (first | refine blk_drewN ?_ _ | refine blk_drew ?_ | refine blk_alloc ?_ _)); refine blk_put (cs := #[.int .u8 t232, .int .i64 0, .string (⟨#[]⟩ : ByteArray), .int .i64 0]) ?_ 1 _ rfl; (with_reducible repeat (first | refine blk_drewN ?_ _ | refine blk_drew ?_ | refine blk_alloc ?_ _)); refine blk_put (cs := #[.int .u8 0, .int .i64 0, .string (⟨#[]⟩ : ByteArray), .int .i64 0]) ?_ 0 _ rfl; (with_reducible repeat (first | refine blk_drewN ?_ _ | refine blk_drew ?_ | refine blk_alloc ?_ _)); exact BK236.out) hb); have n4_ := Aside0.mk (below_step (by repeat (first | (with_reducible first | exact HB.out | apply bA_ | apply bN_ | apply b1_ | refine below_set ?_ GE231.out | refine below_set ?_ GE236.out) | exact HB.out)) hb); clear HO_9; clear HO_10; clear BK231; clear BK236; clear HB; have HO_9 := n0_; have HO_10 := n1_; have BK231 := n2_; have BK236 := n3_; have HB := n4_; clear n0_ n1_ n2_ n3_ n4_; (try clear hb); (try clear hb2); (try clear hk); (try clear hi)) | (go_at_call 11; (with_reducible refine (w6_awake.calls  t243 _ ?sideT A123.out).mono ?_); (case sideT => exact LaidT.below HT.out (by repeat (first | (with_reducible first | exact HB.out | apply bA_ | apply bN_ | apply b1_ | refine below_set ?_ GE231.out | refine below_set ?_ GE236.out) | exact HB.out))); rintro e w135 ⟨rfl, hb⟩; have n0_ := Aside0.mk (Kd.R_below (by (with_reducible repeat (first | apply Kd.R_alloc | apply Kd.R_drewN | apply Kd.R_drew)); exact HO_9.out) hb); have n1_ := Aside0.mk (Kd.R_below (by (with_reducible repeat (first | apply Kd.R_alloc | apply Kd.R_drewN | apply Kd.R_drew)); exact HO_10.out) hb); have n2_ := Aside0.mk (blk_below (g := gb231) (o := .cells #[.int .u8 t227, .int .i64 t228, .string t229, .int .i64 t230] 31 (0, 0)) (by (with_reducible repeat (first | refine blk_drewN ?_ _ | refine blk_drew ?_ | refine blk_alloc ?_ _)); exact BK231.out) hb); have n3_ := Aside0.mk (blk_below (g := gb236) (o := .cells #[.int .u8 t232, .int .i64 t233, .string t234, .int .i64 t235] 31 (0, 0)) (by (with_reducible repeat (first | refine blk_drewN ?_ _ | refine blk_drew ?_ | refine blk_alloc ?_ _)); exact BK236.out) hb); have n4_ := Aside0.mk (below_step (by repeat (first | (with_reducible first | exact HB.out | apply bA_ | apply bN_ | apply b1_ | refine below_set ?_ GE231.out | refine below_set ?_ GE236.out) | exact HB.out)) hb); clear HO_9; clear HO_10; clear BK231; clear BK236; clear HB; have HO_9 := n0_; have HO_10 := n1_; have BK231 := n2_; have BK236 := n3_; have HB := n4_; clear n0_ n1_ n2_ n3_ n4_; (try clear hb); (try clear hb2); (try clear hk); (try clear hi)))
                         go_ret
                         exact ⟨by first | rfl | (simp [*, errW_none, errW_some] <;> rfl), by repeat (first | (with_reducible first | exact HB.out | apply bA_ | apply bN_ | apply b1_ | refine below_set ?_ GE231.out | refine below_set ?_ GE236.out) | exact HB.out)⟩
                       · replace c122 := Bool.eq_false_iff.mpr c122
                         subst c122
                         have H1 : (some false) = some r := by rw [if_neg (show ¬ (false = true) by decide)] at H; exact H
                         clear H
                         have H := H1
                         clear H1
                         exact absurd ((Option.some.inj H).trans HRT.out) (by decide)
                     · rw [if_neg c120] at H
                       have c120b0 : (t230 == t235) = false := beq_eq_false_iff_ne.mpr c120
                       have c120b1 : (t230 != t235) = true := bne_iff_ne.mpr c120
                       exact absurd ((Option.some.inj H).trans HRT.out) (by decide)
             · rw [if_neg c33] at H
               exact absurd H (by simp)
       · rw [if_neg c19] at H
         exact absurd H (by simp)
end
end Go.Proofs.YtecgkcgfeghhgaaDoor.PAll
set_option linter.unusedVariables false
namespace Go.Proofs.YtecgkcgfeghhgaaDoor.PAll
open Go.RowKit Go.Proofs.YtecgkcgfeghhgaaDoorW.PrintWords Go.Proofs.YtecgkcgfeghhgaaDoorW.PrintLast Go.Proofs.YtecgkcgfeghhgaaDoorW.PrintMore
theorem ints_f (n : Int) : r1_Int.f n = some (1, n, ⟨#[]⟩) := rfl
theorem sums_nums (i n : Nat) (hi : i < n) (hn : n ≤ 1048576) : (i : Int) < n ∧ 0 ≤ (i : Int) ∧ wrap64 ((i : Int) + 1) = ((i + 1 : Nat) : Int) := by unfold wrap64; omega
def InR (l : List Int) : Prop := ∀ x ∈ l, -9223372036854775808 ≤ x ∧ x ≤ 9223372036854775807
theorem agg_sums (l : List Int) : aggR 2 false (ivs l) = sumR (ivs l) := by
 rw [ivs_aggR 2 (by omega) (by omega)]
 unfold aggV
 rw [if_pos rfl]
theorem sums_fin (x y : List Int) (hx : InR x) (hy : InR y) (hxn : x.length ≤ 4194304) (hyn : y.length ≤ 4194304) (hs : y.sum = x.sum) (hy0 : y ≠ []) (k : Nat) : w6_BagSums.l2 (k + 1) [] (ivs x) (ivs y) 0 = some true := by
 have e1 := ivs_ok 2 (by omega) y hy hyn
 have e2 := ivs_ok 2 (by omega) x hx hxn
 rw [agg_sums] at e1 e2
 have n0 : ivs y ≠ [] := fun e => hy0 (List.map_eq_nil_iff.1 e)
 rw [w6_BagSums.l2, if_neg (by simp), e1, e2]
 simp only [Option.bind_some]
 by_cases h0 : x = []
 · subst h0
   have e3 : sumR (ivs y) = (1, 0, ⟨#[]⟩, 0) := by
    unfold sumR
    rw [if_neg n0, ivs_sum, hs]
    rfl
   rw [e3]
   have hz := sameV_eq (⟨1, 0, ⟨#[]⟩⟩ : V) ⟨1, 0, ⟨#[]⟩⟩
   simp only [decide_true] at hz
   rw [if_pos (by simp [ivs]), ints_f]
   simp only [Option.bind_some, if_true]
   rw [hz]
   rfl
 · have m0 : ivs x ≠ [] := fun e => h0 (List.map_eq_nil_iff.1 e)
   have e3 : sumR (ivs y) = sumR (ivs x) := by
    unfold sumR
    rw [if_neg n0, if_neg m0, ivs_sum, ivs_sum, hs]
   rw [e3]
   have hz := sameV_eq (⟨(sumR (ivs x)).1, (sumR (ivs x)).2.1, (sumR (ivs x)).2.2.1⟩ : V) ⟨(sumR (ivs x)).1, (sumR (ivs x)).2.1, (sumR (ivs x)).2.2.1⟩
   simp only [decide_true] at hz
   rw [if_neg (by rw [ivs_len]; have := List.length_pos_iff.2 h0; omega), if_pos rfl, hz]
   rfl
theorem l2_end (z : List Int) (X Y : List V) (k : Nat) : w6_BagSums.l2 (k + 1) z X Y (z.length : Int) = w6_BagSums.l2 (k + 1) [] X Y 0 := by
 simp only [w6_BagSums.l2]
 rw [if_neg (by omega), if_neg (by simp)]
theorem sums_l2 (z x y : List Int) (hx : InR (x ++ z)) (hy : InR (y ++ z)) (hxn : (x ++ z).length ≤ 4194304) (hyn : (y ++ z).length ≤ 4194304) (hz : z.length ≤ 1048576) (hs : (y ++ z).sum = (x ++ z).sum) (hy0 : y ≠ []) :
 ∀ (d i : Nat), i + d = z.length → Ev (fun k => w6_BagSums.l2 k z (ivs (x ++ z.take i)) (ivs (y ++ z.take i)) (i : Int)) true
 | 0, i, h => by
  have hi : i = z.length := by omega
  subst hi
  rw [List.take_length]
  refine Ev.step (f := fun _ => some true) (fun k => ?_) (Ev.now _)
  rw [l2_end]
  exact sums_fin _ _ hx hy hxn hyn hs (by simp [hy0]) k
 | d + 1, i, h => by
  have hi : i < z.length := by omega
  have ih := sums_l2 z x y hx hy hxn hyn hz hs hy0 d (i + 1) (by omega)
  obtain ⟨c1, c2, c4⟩ := sums_nums i z.length hi hz
  rw [List.take_succ_eq_append_getElem hi, ← List.append_assoc, ← List.append_assoc, ivs_app, ivs_app (y ++ z.take i)] at ih
  refine Ev.step (f := fun k => w6_BagSums.l2 k z (ivs (x ++ z.take i) ++ ivs [z[i]]) (ivs (y ++ z.take i) ++ ivs [z[i]]) ((i + 1 : Nat) : Int)) (fun k => ?_) ih
  have q1 : (ivs (x ++ z.take i)).length < 4398046511104 := by
   rw [List.length_append] at hxn
   rw [ivs_len, List.length_append, List.length_take]; omega
  have q2 : (ivs (y ++ z.take i)).length < 4398046511104 := by
   rw [List.length_append] at hyn
   rw [ivs_len, List.length_append, List.length_take]; omega
  rw [w6_BagSums.l2, if_pos c1, if_pos c2, rd_at hi, ints_f]
  simp only [Option.bind_some]
  rw [if_pos q1, if_pos q2, c4]
  rfl
theorem sums_l1 (t z : List Int) (n : Int) (x y : List Int) (hn : n ≠ -9223372036854775808) (hnr : -9223372036854775808 ≤ n ∧ n ≤ 9223372036854775807) (hx : InR (x ++ t ++ z)) (hy : InR (y ++ t ++ [-n] ++ z)) (hxn : (x ++ t ++ z).length ≤ 4194304) (hyn : (y ++ t ++ [-n] ++ z).length ≤ 4194304) (ht : t.length ≤ 1048576) (hz : z.length ≤ 1048576) (hs : (y ++ t ++ [-n] ++ z).sum = (x ++ t ++ z).sum) :
 ∀ (d i : Nat), i + d = t.length → Ev (fun k => w6_BagSums.l1 k t z n (ivs (x ++ t.take i)) (ivs (y ++ t.take i)) (i : Int)) true
 | 0, i, h => by
  have hi : i = t.length := by omega
  subst hi
  rw [List.take_length]
  have ih := sums_l2 z (x ++ t) (y ++ t ++ [-n]) hx hy hxn hyn hz hs (by simp) z.length 0 (by omega)
  simp only [List.take_zero, List.append_nil] at ih
  rw [ivs_app (y ++ t)] at ih
  refine Ev.step (f := fun k => w6_BagSums.l2 k z (ivs (x ++ t)) (ivs (y ++ t) ++ ivs [-n]) ((0 : Nat) : Int)) (fun k => ?_) ih
  have q2 : (ivs (y ++ t)).length < 4398046511104 := by
   rw [List.length_append, List.length_append] at hyn
   rw [ivs_len]; omega
  have w : wrap64 (-n) = -n := by unfold wrap64; omega
  rw [w6_BagSums.l1, if_neg (by omega), w, ints_f]
  simp only [Option.bind_some]
  rw [if_pos q2]
  rfl
 | d + 1, i, h => by
  have hi : i < t.length := by omega
  have ih := sums_l1 t z n x y hn hnr hx hy hxn hyn ht hz hs d (i + 1) (by omega)
  obtain ⟨c1, c2, c4⟩ := sums_nums i t.length hi ht
  rw [List.take_succ_eq_append_getElem hi, ← List.append_assoc, ← List.append_assoc, ivs_app, ivs_app (y ++ t.take i)] at ih
  refine Ev.step (f := fun k => w6_BagSums.l1 k t z n (ivs (x ++ t.take i) ++ ivs [t[i]]) (ivs (y ++ t.take i) ++ ivs [t[i]]) ((i + 1 : Nat) : Int)) (fun k => ?_) ih
  have q1 : (ivs (x ++ t.take i)).length < 4398046511104 := by
   simp only [List.length_append] at hxn
   rw [ivs_len, List.length_append, List.length_take]; omega
  have q2 : (ivs (y ++ t.take i)).length < 4398046511104 := by
   simp only [List.length_append] at hyn
   rw [ivs_len, List.length_append, List.length_take]; omega
  rw [w6_BagSums.l1, if_pos c1, if_pos c2, rd_at hi, ints_f]
  simp only [Option.bind_some]
  rw [if_pos q1, if_pos q2, c4]
  rfl
theorem sums_l0 (b t z : List Int) (n : Int) (hn : n ≠ -9223372036854775808) (hnr : -9223372036854775808 ≤ n ∧ n ≤ 9223372036854775807) (hx : InR (b ++ t ++ z)) (hy : InR (b ++ [n] ++ t ++ [-n] ++ z)) (hb : b.length ≤ 1048576) (ht : t.length ≤ 1048576) (hz : z.length ≤ 1048576) :
 ∀ (d i : Nat), i + d = b.length → Ev (fun k => w6_BagSums.l0 k b t z n (ivs (b.take i)) (ivs (b.take i)) (i : Int)) true
 | 0, i, h => by
  have hi : i = b.length := by omega
  subst hi
  rw [List.take_length]
  have ih := sums_l1 t z n b (b ++ [n]) hn hnr hx hy (by simp only [List.length_append]; omega) (by simp only [List.length_append, List.length_cons, List.length_nil]; omega) ht hz (by simp only [List.sum_append, List.sum_cons, List.sum_nil]; omega) t.length 0 (by omega)
  simp only [List.take_zero, List.append_nil] at ih
  rw [ivs_app] at ih
  refine Ev.step (f := fun k => w6_BagSums.l1 k t z n (ivs b) (ivs b ++ ivs [n]) ((0 : Nat) : Int)) (fun k => ?_) ih
  have q2 : (ivs b).length < 4398046511104 := by rw [ivs_len]; omega
  rw [w6_BagSums.l0, if_neg (by omega), ints_f]
  simp only [Option.bind_some]
  rw [if_pos q2]
  rfl
 | d + 1, i, h => by
  have hi : i < b.length := by omega
  have ih := sums_l0 b t z n hn hnr hx hy hb ht hz d (i + 1) (by omega)
  obtain ⟨c1, c2, c4⟩ := sums_nums i b.length hi hb
  rw [List.take_succ_eq_append_getElem hi, ivs_app] at ih
  refine Ev.step (f := fun k => w6_BagSums.l0 k b t z n (ivs (b.take i) ++ ivs [b[i]]) (ivs (b.take i) ++ ivs [b[i]]) ((i + 1 : Nat) : Int)) (fun k => ?_) ih
  have q1 : (ivs (b.take i)).length < 4398046511104 := by rw [ivs_len, List.length_take]; omega
  rw [w6_BagSums.l0, if_pos c1, if_pos c2, rd_at hi, ints_f]
  simp only [Option.bind_some]
  rw [if_pos q1, if_pos q1, c4]
  rfl
theorem law_sums (b t z : List Int) (n : Int) (hb : InR b) (ht : InR t) (hz : InR z) (hnr : -9223372036854775808 ≤ n ∧ n ≤ 9223372036854775807) (h1 : b.length ≤ 1048576) (h2 : t.length ≤ 1048576) (h3 : z.length ≤ 1048576) : ∃ k, w6_BagSums.f k b t z n = some true := by
 have h : Ev (fun k => w6_BagSums.f k b t z n) true := by
  unfold w6_BagSums.f
  by_cases hn : n = -9223372036854775808
  · subst hn
    exact Ev.now true
  · simp only [if_neg hn]
    refine sums_l0 b t z n hn hnr (fun x hx => ?_) (fun x hx => ?_) h1 h2 h3 b.length 0 (by omega)
    · simp only [List.mem_append] at hx
      rcases hx with (hx | hx) | hx
      · exact hb x hx
      · exact ht x hx
      · exact hz x hx
    · simp only [List.mem_append, List.mem_singleton] at hx
      rcases hx with (((hx | hx) | hx) | hx) | hx
      · exact hb x hx
      · rw [hx]; exact hnr
      · exact ht x hx
      · rw [hx]; omega
      · exact hz x hx
 exact h.rounds
end Go.Proofs.YtecgkcgfeghhgaaDoor.PAll
set_option linter.unusedVariables false
namespace Go.Proofs.YtecgkcgfeghhgaaDoor.bagSums
open Go.ChangeShapes Go.WideShapes Go.ChangeAt Go.RowKit Go.Proofs.YtecgkcgfeghhgaaDoor.PAll
open Go.Proofs.YtecgkcgfeghhgaaDoorW.PrintWords Go.Proofs.YtecgkcgfeghhgaaDoorW.PrintLast Go.Proofs.YtecgkcgfeghhgaaDoorW.PrintMore
theorem laidOut : laidOutB Tryd.prog = true := by kernel_rfl
theorem own : ownKnob Tryd.prog.godebug = none := by kernel_rfl
theorem gTab : Tryd.prog.globalNamed "internal/strconv.uint64pow10" = some 0 := by kernel_rfl
theorem gTabType : (Tryd.prog.globals[0]?).map (·.type) = some 151 := by kernel_rfl
theorem uTab : Tryd.prog.underlying 151 = some (.array 20 90) ∧ Tryd.prog.underlying 90 = some (.int .u64) ∧ Tryd.prog.cellsOf 90 = 1 := ⟨by kernel_rfl, by kernel_rfl, by kernel_rfl⟩
theorem cTab : Tryd.prog.cellsOf 151 = 20 := by kernel_rfl
theorem tabEq {H : Type} : Rows.laid_internal_strconv_uint64pow10 (H := H) = Lib.tabData .u64 Lib.pow10Tab := by
 simp [Rows.laid_internal_strconv_uint64pow10, Lib.tabData, Lib.pow10Tab, List.range_succ]
theorem table {W : World} (h : laidMetH Tryd.prog Rows.bagSumsUptoRow.laid W) : LaidT W := by
 have h : laidMet Tryd.prog Rows.bagSumsUptoRow.laid W := h
 obtain ⟨ps, ⟨_, _, _, _, _, _, _, _, _, _, ⟨_, _, _, _, _, _, _, _, _, _, ⟨g', t', cs, fuel, p, q, hg', ht', hvar, hd, _, _⟩, _⟩, _⟩, _⟩ := h
 obtain ⟨he, hi, hc⟩ := uTab
 obtain rfl := Option.some.inj (gTab.symm.trans hg')
 obtain rfl := Option.some.inj (gTabType.symm.trans ht')
 rw [tabEq] at hd
 unfold LaidT Lib.TabIs
 rw [hvar, ← Lib.cells_of_tab he hi hc cTab hd]
theorem contract (H : Type) (enc : TypeId × Value → H) (W : World) (base : Nat) (args : Array Value) (ds gs : List (DataW H)) (before : List MemPlace)
 (hval : ∀ (j : Nat) t v, Tryd.f3.params[j]? = some t → args[j]? = some v → Value.okWide Tryd.prog W .any base t v)
 (hW : DataW.Whole enc Tryd.prog Tryd.f3.params.toList Rows.bagSumsSpec.vars false W args.toList ds gs before) (hk : Rows.uptoSmall H (ds ++ gs) = true) (hL : laidMetH Tryd.prog Rows.bagSumsUptoRow.laid W) :
 Calls Tryd.prog 3 args W fun e W' => ∃ v, e = .returned v ∧ Rows.bagSumsSpec.post enc Tryd.prog Tryd.f3 false true false false W args v W' := by
 have hW' := hW
 obtain ⟨p, q, hA0, hV, rfl, hfz, hnd⟩ := hW
 have hA : DataW.TrodAll enc Tryd.prog W 0 (fun _ => true) true Tryd.f3.params.toList args.toList ds p := hA0
 rw [Tryd.params3] at hA hval
 obtain ⟨v0, vs0, d0, ds0, p0, q0, hargs, rfl, rfl, h0, r0⟩ := trodAll_cons hA
 obtain ⟨v1, vs1, d1, ds1, p1, q1, rfl, rfl, rfl, h1, r1⟩ := trodAll_cons r0
 obtain ⟨v2, vs2, d2, ds2, p2, q2, rfl, rfl, rfl, h2, r2⟩ := trodAll_cons r1
 obtain ⟨v3, vs3, d3, ds3, p3, q3, rfl, rfl, rfl, h3, r3⟩ := trodAll_cons r2
 obtain ⟨rfl, rfl, rfl⟩ := trodAll_nil r3
 obtain rfl : args = #[v0, v1, v2, v3] := by cases args; simp_all
 obtain ⟨rfl, rfl⟩ := trodVars_none hV
 have h0k := h0
 have h1k := h1
 have h2k := h2
 have h3k := h3
 obtain ⟨fuel0, hf0⟩ := h0
 obtain ⟨fuel1, hf1⟩ := h1
 obtain ⟨fuel2, hf2⟩ := h2
 obtain ⟨fuel3, hf3⟩ := h3
 obtain ⟨a0, len0, cap0, rfl⟩ := okWide_slice Tryd.underlying22 (hval 0 22 v0 (by simp) (by simp))
 obtain ⟨A0, cp0, l0, hcs0, hlc0, _, hC0, hv0, hb0⟩ := ints_of_trod (k := .i64) Tryd.underlying22 (e := 2) (by kernel_rfl) (by kernel_rfl) hf0
 simp [Value.cells] at hcs0
 obtain ⟨rfl, rfl, rfl⟩ := hcs0
 dsimp only at hb0
 obtain ⟨a1, len1, cap1, rfl⟩ := okWide_slice Tryd.underlying22 (hval 1 22 v1 (by simp) (by simp))
 obtain ⟨A1, cp1, l1, hcs1, hlc1, _, hC1, hv1, hb1⟩ := ints_of_trod (k := .i64) Tryd.underlying22 (e := 2) (by kernel_rfl) (by kernel_rfl) hf1
 simp [Value.cells] at hcs1
 obtain ⟨rfl, rfl, rfl⟩ := hcs1
 dsimp only at hb1
 obtain ⟨a2, len2, cap2, rfl⟩ := okWide_slice Tryd.underlying22 (hval 2 22 v2 (by simp) (by simp))
 obtain ⟨A2, cp2, l2, hcs2, hlc2, _, hC2, hv2, hb2⟩ := ints_of_trod (k := .i64) Tryd.underlying22 (e := 2) (by kernel_rfl) (by kernel_rfl) hf2
 simp [Value.cells] at hcs2
 obtain ⟨rfl, rfl, rfl⟩ := hcs2
 dsimp only at hb2
 obtain ⟨n3, rfl⟩ := okWide_int (k := .i64) Tryd.underlying2 (hval 3 2 v3 (by simp) (by simp))
 obtain ⟨m3, hcs3, _, hw3⟩ := DataW.trod_int (k := .i64) (by kernel_rfl) hf3
 simp [Value.cells] at hcs3
 subst hcs3
 have hv3 := wf_i64 hw3
 clear hA0
 simp only [List.append_nil] at hW' hk
 have hb : Rows.uptoBulkAll [d0, d1, d2, d3] ≤ 1048576 := of_decide_eq_true hk
 simp only [Rows.uptoBulkAll] at hb
 have hlt : ∀ x ∈ p0 ++ (p1 ++ (p2 ++ (p3))), x.block < W.heap.size := fun x hx => hW'.lt x hx
 obtain ⟨k, hlaw⟩ : ∃ k, w6_BagSums.f k l0 l1 l2 n3 = some true := (law_sums l0 l1 l2 n3 (fun z hz => wf_i64 (hv0 z hz)) (fun z hz => wf_i64 (hv1 z hz)) (fun z hz => wf_i64 (hv2 z hz)) hv3 (by omega) (by omega) (by omega))
 refine (w6_BagSums.calls k a0 cap0 l0 a1 cap1 l1 a2 cap2 l2 n3 true W hC0 hlc0 hC1 hlc1 hC2 hlc2 (table hL) hlaw).mono fun e W' ⟨he, hg⟩ => ?_
 subst he
 exact ⟨_, rfl, ⟨[d0, d1, d2, d3], [], _, [], _, [], hW', trodAll_mk1 (shut_bool Tryd.underlying4 _), trodAll_cons_mk (Below.trod laidOut (by kernel_rfl) (of_decide_eq_true (by kernel_rfl)) h0k hg (fun x hx => hlt x (List.mem_append_left _ hx))) (trodAll_cons_mk (Below.trod laidOut (by kernel_rfl) (of_decide_eq_true (by kernel_rfl)) h1k hg (fun x hx => hlt x (List.mem_append_right _ (List.mem_append_left _ hx)))) (trodAll_cons_mk (Below.trod laidOut (by kernel_rfl) (of_decide_eq_true (by kernel_rfl)) h2k hg (fun x hx => hlt x (List.mem_append_right _ (List.mem_append_right _ (List.mem_append_left _ hx))))) (trodAll_mk1 (Below.trod laidOut (by kernel_rfl) (of_decide_eq_true (by kernel_rfl)) h3k hg (fun x hx => hlt x (List.mem_append_right _ (List.mem_append_right _ (List.mem_append_right _ (hx))))))))), rfl, hg.frame _, fun h => by cases h⟩⟩
noncomputable def laidWorld (os : Os) : World :=
 let w := World.holding Tryd.prog os ⟨#[], #[], []⟩
 { w with heap := ((w.heap.modify 0 fun
  | .cells _ t frozen => .cells ((Lib.pow10Tab.map (Value.int .u64)).toArray) t frozen
  | o => o).modify 2 fun
  | .cells _ t frozen => .cells #[.int .u8 0, .int .u8 1, .int .u8 28, .int .u8 2, .int .u8 29, .int .u8 14, .int .u8 24, .int .u8 3, .int .u8 30, .int .u8 22, .int .u8 20, .int .u8 15, .int .u8 25, .int .u8 17, .int .u8 4, .int .u8 8, .int .u8 31, .int .u8 27, .int .u8 13, .int .u8 23, .int .u8 21, .int .u8 19, .int .u8 16, .int .u8 7, .int .u8 26, .int .u8 12, .int .u8 18, .int .u8 6, .int .u8 11, .int .u8 5, .int .u8 10, .int .u8 9] t frozen
  | o => o).modify 3 fun
  | .cells _ t frozen => .cells #[.int .u8 0, .int .u8 1, .int .u8 56, .int .u8 2, .int .u8 57, .int .u8 49, .int .u8 28, .int .u8 3, .int .u8 61, .int .u8 58, .int .u8 42, .int .u8 50, .int .u8 38, .int .u8 29, .int .u8 17, .int .u8 4, .int .u8 62, .int .u8 47, .int .u8 59, .int .u8 36, .int .u8 45, .int .u8 43, .int .u8 51, .int .u8 22, .int .u8 53, .int .u8 39, .int .u8 33, .int .u8 30, .int .u8 24, .int .u8 18, .int .u8 12, .int .u8 5, .int .u8 63, .int .u8 55, .int .u8 48, .int .u8 27, .int .u8 60, .int .u8 41, .int .u8 37, .int .u8 16, .int .u8 46, .int .u8 35, .int .u8 44, .int .u8 21, .int .u8 52, .int .u8 32, .int .u8 23, .int .u8 11, .int .u8 54, .int .u8 26, .int .u8 40, .int .u8 15, .int .u8 34, .int .u8 20, .int .u8 31, .int .u8 10, .int .u8 25, .int .u8 14, .int .u8 19, .int .u8 9, .int .u8 13, .int .u8 8, .int .u8 7, .int .u8 6] t frozen
  | o => o }
theorem laid_met (os : Os) : laidMet Tryd.prog Rows.bagSumsUptoRow.laid ((laidWorld os).forCall (fun _ _ => 0) ⟨#[], #[.slice none 0 0, .slice none 0 0, .slice none 0 0, .int .i64 0], []⟩).memory :=
 laidMet_of_run' 8 (by kernel_rfl) (by kernel_rfl)
theorem reads (os : Os) {H : Type} (enc : TypeId × Value → H) : ∃ places, DataW.whole enc Tryd.prog ((laidWorld os).forCall (fun _ _ => 0) ⟨#[], #[.slice none 0 0, .slice none 0 0, .slice none 0 0, .int .i64 0], []⟩).memory Tryd.f3.params.toList Rows.bagSumsSpec.vars false (#[.slice none 0 0, .slice none 0 0, .slice none 0 0, .int .i64 0] : Array Value).toList 8 = some ([.nil, .nil, .nil, .lit (.int .i64 0)], [], places) :=
 ⟨[], by kernel_rfl⟩
theorem liftedUpto (os : Os) (started : os.Started) (H : Type) (enc : TypeId × Value → H) (F : Stop.Interp) :
 ReturnsInHanded {} Tryd.checked os 3 .any ((Rows.OpenSpec.upto Rows.bagSumsSpec).preRow enc Tryd.prog Tryd.f3 Rows.bagSumsUptoRow.domain false Rows.bagSumsUptoRow.laid) (((Rows.OpenSpec.upto Rows.bagSumsSpec).at F).post enc Tryd.prog Tryd.f3 false true false false) := by
 obtain ⟨places, hx⟩ := reads os enc
 refine returnsInHanded_of_row (C := Tryd.checked) (s := Rows.OpenSpec.upto Rows.bagSumsSpec) own started (by kernel_rfl) Tryd.func3
  (witness_row_at (enc := enc) (C := Tryd.checked) false (laidWorld os) #[.slice none 0 0, .slice none 0 0, .slice none 0 0, .int .i64 0] rfl (by kernel_rfl) (by kernel_rfl) (by kernel_rfl)
   (OpenSpec.preRow_of_cond 8 hx (by kernel_rfl) (fun k hk => by cases hk; kernel_rfl) (by kernel_rfl) (laid_met os))) ?_
 intro W base args ds gs before hval hW _ hcond _ hL _ _
 exact contract H enc W base args ds gs before hval hW (hcond _ rfl) hL
theorem saidUpto : Rows.BagSumsUptoSaid :=
 OpenClaim.holds_of_cond 3 Tryd.f3 rfl rfl rfl rfl rfl rfl rfl ⟨rfl, rfl, rfl, rfl, rfl⟩ rfl rfl rfl rfl rfl (by kernel_rfl) Tryd.func3 (by kernel_rfl)
  (of_decide_eq_true (by kernel_rfl)) (by unfold Func.isWrapper; first | (rw [if_pos (by decide +kernel)]; kernel_rfl) | (rw [if_neg (by decide +kernel)]; exact ⟨rfl, rfl⟩))
  (fun os started H enc _ F => by rw [OpenClaim.pre_eq_preRow]; exact liftedUpto os started H enc F)
theorem plain (f : FuncId) (fn : Func) (hf : Tryd.pinned.checked.prog.funcNamed "jointer/jointerlaw06.BagSums" = some f) (hfn : Tryd.pinned.checked.prog.funcs[f]? = some fn) :
 false = Tryd.pinned.checked.prog.looks [] ∧ ∀ (j : Nat) t, fn.params[j]? = some t → Tryd.pinned.checked.prog.wantsStandIn t = false := by
 obtain rfl : f = 3 := Option.some.inj ((show Tryd.prog.funcNamed "jointer/jointerlaw06.BagSums" = some 3 by kernel_rfl).symm.trans hf) |>.symm
 obtain rfl : fn = Tryd.f3 := (Option.some.inj (Tryd.func3.symm.trans hfn)).symm
 refine ⟨by kernel_rfl, fun j t ht => ?_⟩
 rw [Tryd.params3] at ht
 have hm := Array.mem_of_getElem? ht
 simp only [List.mem_toArray, List.mem_cons, List.not_mem_nil, or_false] at hm
 rcases hm with rfl | rfl | rfl | rfl
 · exact (show Tryd.prog.wantsStandIn 22 = false by kernel_rfl)
 · exact (show Tryd.prog.wantsStandIn 22 = false by kernel_rfl)
 · exact (show Tryd.prog.wantsStandIn 22 = false by kernel_rfl)
 · exact (show Tryd.prog.wantsStandIn 2 = false by kernel_rfl)
theorem card : Rows.BagSumsUptoCardSaid :=
 Claim7.holds_tied_plain_at .later [] _ _ _ _ saidUpto (fun _ h => by cases h) (by kernel_rfl) (fun _ h => by cases h) bagSumsUpto_row_tie rfl ⟨rfl, rfl⟩ (by kernel_rfl) rfl plain (by kernel_rfl)
end Go.Proofs.YtecgkcgfeghhgaaDoor.bagSums
