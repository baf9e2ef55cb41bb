/- The row of BagGroups (second form: what it reads is of bulk at most 2^20) and its card. Joined by a program of this session out of its texts. -/
import Derived.Test.YtecgkcgfeghhgaaGreatDoorQBagGroups5
import Derived.ProofKit
import Derived.OpenShut
import Derived.Carry
import Derived.Deep.DeepHandedRow
import Derived.Lib.LaidTab
set_option maxHeartbeats 8000000
set_option maxRecDepth 100000
set_option linter.unusedVariables false
set_option linter.unusedSimpArgs false
namespace Go.Proofs.YtecgkcgfeghhgaaGreatDoor.PAll
open Go.RowKit Go.Proofs.YtecgkcgfeghhgaaGreatDoorW.PrintWords Go.Proofs.YtecgkcgfeghhgaaGreatDoorW.PrintLast Go.Proofs.YtecgkcgfeghhgaaGreatDoorW.PrintMore
theorem cellsA {W W1 : World} {p q r : Addr} {u0 u1 u2 : Value} (hb : Below W.heap.size W W1) (h : W.cell? p = some u0 ∧ W.cell? q = some u1 ∧ W.cell? r = some u2) : W1.cell? p = some u0 ∧ W1.cell? q = some u1 ∧ W1.cell? r = some u2 :=
 ⟨cB_ hb h.1, cB_ hb h.2.1, cB_ hb h.2.2⟩
theorem out_farA {W : World} {b : Nat} {p : Addr} (hne : p.block ≠ b) (x0 x1 x2 x3 : Value) : ((((W.setCell ⟨b, 0, none⟩ x0).setCell ⟨b, 1, none⟩ x1).setCell ⟨b, 2, none⟩ x2).setCell ⟨b, 3, none⟩ x3).cell? p = W.cell? p := by
 have h : ((((W.setCell ⟨b, 0, none⟩ x0).setCell ⟨b, 1, none⟩ x1).setCell ⟨b, 2, none⟩ x2).setCell ⟨b, 3, none⟩ x3).heap[p.block]? = W.heap[p.block]? :=
  (Below.heap_setCell _ _ _ p.block hne).trans ((Below.heap_setCell _ _ _ p.block hne).trans ((Below.heap_setCell _ _ _ p.block hne).trans (Below.heap_setCell _ _ _ p.block hne)))
 simp only [World.cell?, h]
theorem farA {W0 W : World} {b : Nat} {p q r : Addr} {u0 u1 u2 x0 x1 x2 x3 : Value} (hb : W0.heap.size ≤ b) (h0 : W0.cell? p = some u0 ∧ W0.cell? q = some u1 ∧ W0.cell? r = some u2) (h : W.cell? p = some u0 ∧ W.cell? q = some u1 ∧ W.cell? r = some u2) :
 ((((W.setCell ⟨b, 0, none⟩ x0).setCell ⟨b, 1, none⟩ x1).setCell ⟨b, 2, none⟩ x2).setCell ⟨b, 3, none⟩ x3).cell? p = some u0 ∧ ((((W.setCell ⟨b, 0, none⟩ x0).setCell ⟨b, 1, none⟩ x1).setCell ⟨b, 2, none⟩ x2).setCell ⟨b, 3, none⟩ x3).cell? q = some u1 ∧ ((((W.setCell ⟨b, 0, none⟩ x0).setCell ⟨b, 1, none⟩ x1).setCell ⟨b, 2, none⟩ x2).setCell ⟨b, 3, none⟩ x3).cell? r = some u2 :=
 ⟨(out_farA (Nat.ne_of_lt (Nat.lt_of_lt_of_le (World.block_lt_of_cell? _ _ h0.1) hb)) _ _ _ _).trans h.1, (out_farA (Nat.ne_of_lt (Nat.lt_of_lt_of_le (World.block_lt_of_cell? _ _ h0.2.1) hb)) _ _ _ _).trans h.2.1, (out_farA (Nat.ne_of_lt (Nat.lt_of_lt_of_le (World.block_lt_of_cell? _ _ h0.2.2) hb)) _ _ _ _).trans h.2.2⟩
theorem rGroupRow_calls (A0 : Option Addr) (c0 : Nat) (key : List V) (A1 : Option Addr) (c1 : Nat) (ls : List (List V)) (A2 : Option Addr) (c2 : Nat) (aggs : List AggT) (w : World) (hr0 : Kd.C kV w A0 key.length key) (hc0 : key.length ≤ c0) (hr1 : Kd.C kRow w A1 ls.length ls) (hc1 : ls.length ≤ c1) (hr2 : Kd.C kAgg w A2 aggs.length aggs) (hk : key.length ≤ 1048576) (hn : ls.length ≤ 1073741824) (ha : aggs.length ≤ 1048576) (hf : ∀ a ∈ aggs, 0 ≤ a.f0 ∧ 0 ≤ a.f1) (hv : ∀ a ∈ aggs, ∀ row ∈ ls, okInt (rd_T36 row a.f1)) (R : List V) (er : Int) (hG : rowOf ls aggs key = (R, er)) :
 Calls Tryz.prog 61 #[.slice A0 key.length c0, .slice A1 ls.length c1, .slice A2 aggs.length c2] w fun e w' => ∃ v0_ : Value, e = .returned (.tuple #[v0_, .int .i64 er]) ∧ Kd.R kV 36 w' w.heap.size (fun _ => True) v0_ R ∧ Below w.heap.size w w' := by
 obtain ⟨kc0, hkc0⟩ := (copyOf_ev key (by omega)).rounds
 have HK0 := kA_ hkc0
 have HR0 := kA_ hr0
 have HC0 := kA_ hc0
 have HR1 := kA_ hr1
 have HC1 := kA_ hc1
 have HR2 := kA_ hr2
 have HKL := kA_ hk
 have HN := kA_ hn
 have HA := kA_ ha
 have HF := kA_ hf
 have HV := kA_ hv
 have HG := kA_ hG
 clear hkc0 hr0 hc0 hr1 hc1 hr2 hk hn ha hf hv hG
 go_enter Tryz.func61, Tryz.ntmps61
 go_wp2_with fail
 refine (r6_copyOf.calls kc0 A0 c0 key key w HR0.out HC0.out HK0.out).mono ?_
 rintro e w1 ⟨v1, rfl, hR1, hb1⟩
 have HRK := kA_ hR1
 have HB1 := kA_ hb1
 clear hR1 hb1
 go_wp2
 go_loopg [8, 9] aggs.length (fun kq v8 v9 W => ∃ x : Int, v9 = .int .i64 x ∧ Aside0 (0 ≤ x ∧ x ≤ aggs.length ∧ (kq : Int) = aggs.length - x) ∧ Aside0 (∃ r : List V, kV.R 36 W w.heap.size (fun _ => True) v8 r ∧ rowOf ls (aggs.drop x.toNat) r = (R, er) ∧ (r.length : Int) = key.length + x) ∧ Aside0 (Below w.heap.size w W))
 case atStart => exact ⟨0, rfl, ⟨by omega⟩, ⟨key, HRK.out, HG.out, by omega⟩, HB1⟩
 case round =>
  clear HRK HB1 HG
  obtain ⟨x, rfl, HX, HE, HB⟩ := hrel
  obtain ⟨r, hR, hro, hrl⟩ := HE.out
  have HKR := kA_ hR
  have HRO := kA_ hro
  have HRL := kA_ hrl
  clear HE hR hro hrl
  obtain ⟨hx0, hx1, hkq⟩ := HX.out
  by_cases hlt : x < (aggs.length : Int)
  rotate_left
  · have d1 : decide (x < (aggs.length : Int)) = false := decide_eq_false hlt
    obtain ⟨hf1, hf2⟩ : r = R ∧ 0 = er := by
     have h := HRO.out
     rw [List.drop_of_length_le (by omega)] at h
     simpa [rowOf] using h
    subst hf1
    subst hf2
    clear hx0 hx1 hkq hlt HX HRO HRL
    go_wp2
    go_ret2
    exact ⟨_, rfl, HKR.out, HB.out⟩
  have d1 : decide (x < (aggs.length : Int)) = true := decide_eq_true hlt
  have d2 : decide (0 ≤ x) = true := decide_eq_true hx0
  obtain ⟨ad, e, hx_0, hx_1, hx_2⟩ := at_T55 HR2.out x hx0 hlt
  cases e
  replace hx_0 := cB_ HB.out hx_0
  replace hx_1 := cB_ HB.out hx_1
  replace hx_2 := cB_ HB.out hx_2
  have hj : x.toNat < aggs.length := by omega
  have hrd : rd_T55 aggs x = aggs[x.toNat] := by simp [rd_T55, List.getElem?_eq_getElem hj]
  have hmem : rd_T55 aggs x ∈ aggs := by rw [hrd]; exact List.getElem_mem hj
  have hdr : aggs.drop x.toNat = rd_T55 aggs x :: aggs.drop (x + 1).toNat := by
   rw [drop_cons _ _ hj, hrd, show (x + 1).toNat = x.toNat + 1 by omega]
  have hfa := HF.out _ hmem
  have hva := HV.out _ hmem
  obtain ⟨a, hae⟩ : ∃ a, a = rd_T55 aggs x := ⟨_, rfl⟩
  rw [← hae] at hx_0 hx_1 hx_2 hdr hfa hva
  obtain ⟨⟨r0, r1, r2, r3⟩, hr⟩ : ∃ Q, aggR a.f0 a.f2 (columnR ls a.f1) = Q := ⟨_, rfl⟩
  have hro := HRO.out
  rw [hdr, rowOf_snoc hr] at hro
  obtain ⟨kc, hkc⟩ := (rcolumn_ev ls a.f1 hfa.2 (by have := HN.out; omega)).rounds
  obtain ⟨ka, hka⟩ := (raggregate_ev a.f0 a.f2 (columnR ls a.f1) hfa.1 (fun v hm => by
   obtain ⟨row, h1, rfl⟩ := List.mem_map.1 hm
   exact hva row h1) (by rw [columnR, List.length_map]; exact HN.out)).rounds
  rw [hr] at hka
  obtain ⟨f0, f1, f2⟩ := a
  dsimp only at hx_0 hx_1 hx_2 hkc hka
  have HRO2 := kA_ hro
  have HKC := kA_ hkc
  have HKA := kA_ hka
  have HLT := kA_ hlt
  have HKQ := kA_ hkq
  have HX0 := kA_ hx0
  have HWR : Aside0 (wrap64 (x + 1) = x + 1) := ⟨by have := HA.out; unfold wrap64; omega⟩
  have HLEN : Aside0 ((r.length + 1) * 32 ≤ 140737488355328) := ⟨by
   have h1 := HKL.out
   have h2 := HA.out
   have h4 := HRL.out
   omega⟩
  clear hkc hka hro hr hae hdr hmem hfa hva hrd hj hkq HRO
  have HD5 : Aside0 (wr.cell? (ad.add (x.toNat * 3)) = some (.int .u8 f0) ∧ wr.cell? ⟨(ad.add (x.toNat * 3)).block, (ad.add (x.toNat * 3)).off + 1, none⟩ = some (.int .i64 f1) ∧ wr.cell? ⟨(ad.add (x.toNat * 3)).block, (ad.add (x.toNat * 3)).off + 2, none⟩ = some (.bool f2)) := ⟨⟨hx_0, hx_1, hx_2⟩⟩
  have HE5 : Aside0 (wr.drew.cell? (ad.add (x.toNat * 3)) = some (.int .u8 f0) ∧ wr.drew.cell? ⟨(ad.add (x.toNat * 3)).block, (ad.add (x.toNat * 3)).off + 1, none⟩ = some (.int .i64 f1) ∧ wr.drew.cell? ⟨(ad.add (x.toNat * 3)).block, (ad.add (x.toNat * 3)).off + 2, none⟩ = some (.bool f2)) := ⟨HD5.out⟩
  have HE6 : Aside0 (∀ o, (wr.alloc o).cell? (ad.add (x.toNat * 3)) = some (.int .u8 f0) ∧ (wr.alloc o).cell? ⟨(ad.add (x.toNat * 3)).block, (ad.add (x.toNat * 3)).off + 1, none⟩ = some (.int .i64 f1) ∧ (wr.alloc o).cell? ⟨(ad.add (x.toNat * 3)).block, (ad.add (x.toNat * 3)).off + 2, none⟩ = some (.bool f2)) := ⟨fun o => cellsA ((Below.refl _ wr).alloc (Nat.le_refl _) o) HD5.out⟩
  have HE7 : Aside0 (∀ o, (wr.alloc o).drew.cell? (ad.add (x.toNat * 3)) = some (.int .u8 f0) ∧ (wr.alloc o).drew.cell? ⟨(ad.add (x.toNat * 3)).block, (ad.add (x.toNat * 3)).off + 1, none⟩ = some (.int .i64 f1) ∧ (wr.alloc o).drew.cell? ⟨(ad.add (x.toNat * 3)).block, (ad.add (x.toNat * 3)).off + 2, none⟩ = some (.bool f2)) := ⟨fun o => HE6.out o⟩
  have HX5 : Aside0 ((wr.alloc (.cells #[.int .u8 0, .int .i64 0, .string ⟨#[]⟩, .int .i64 0] 38)).drew.heap[wr.heap.size]? = some (.cells #[.int .u8 0, .int .i64 0, .string ⟨#[]⟩, .int .i64 0] 38 (0, 0)) ∧ wr.heap.size < (wr.alloc (.cells #[.int .u8 0, .int .i64 0, .string ⟨#[]⟩, .int .i64 0] 38)).drew.heap.size) := ⟨heap_alloc_new wr _, blk_lt (heap_alloc_new wr (.cells #[.int .u8 0, .int .i64 0, .string ⟨#[]⟩, .int .i64 0] 38))⟩
  have HBEL : Aside0 (Below wr.heap.size wr (wr.alloc (.cells #[.int .u8 0, .int .i64 0, .string ⟨#[]⟩, .int .i64 0] 38)).drew) := ⟨((Below.refl _ wr).alloc (Nat.le_refl _) _).drew⟩
  have HBE : Aside0 (Below wr.heap.size wr wr.drew) := ⟨(Below.refl _ wr).drew⟩
  have HLIST : Aside0 (∀ W', Below wr.heap.size wr W' → kRow.C W' A1 ls.length ls) := ⟨fun W' hb => Kd.C_below HR1.out (HB.out.trans (hb.mono HB.out.size))⟩
  go_wp2_with fail
  go_region_held3 (fun W' => (W'.cell? (ad.add (x.toNat * 3)) = some (.int .u8 f0) ∧ W'.cell? ⟨(ad.add (x.toNat * 3)).block, (ad.add (x.toNat * 3)).off + 1, none⟩ = some (.int .i64 f1) ∧ W'.cell? ⟨(ad.add (x.toNat * 3)).block, (ad.add (x.toNat * 3)).off + 2, none⟩ = some (.bool f2))) (first | (with_reducible exact HD5.out) | (with_reducible exact HE5.out) | (with_reducible exact HE7.out _) | (with_reducible exact HE6.out _) | (with_reducible exact HR7.out) | (with_reducible exact HR7a.out _) | (with_reducible exact HS8.out) | (with_reducible exact HS8a.out _) | (with_reducible exact farA HSZ7.out HD5.out HS8.out) | (with_reducible exact farA (Nat.le_refl _) HD5.out HS8.out)) (first
   | (go_at_call 87; (with_reducible refine (r6_column.calls kc A1 c1 ls f1 (columnR ls f1) wr.drew (HLIST.out _ HBE.out) HC1.out HKC.out).mono ?_); rintro e w7 ⟨vc, rfl, hRc, hb7⟩; obtain ⟨Ac, cc, ec, hcc, hCc⟩ := Kd.R_reads hRc; subst ec; have hb57 : Below wr.heap.size wr w7 := HBE.out.trans (hb7.mono HBE.out.size); have HR7 := kA_ (cellsA hb57 HD5.out); have HR7a : Aside0 (∀ o, _) := ⟨fun o => cellsA ((Below.refl _ w7).alloc (Nat.le_refl _) o) HR7.out⟩; have HCC := kA_ hCc; have HCN := kA_ hcc; have HB7 := kA_ hb57; have HSZ7 := kA_ hb57.size; clear hb57 hRc hb7 hcc hCc)
   | (go_at_call 87; (with_reducible refine (r6_column.calls kc A1 c1 ls f1 (columnR ls f1) (wr.alloc (.cells #[.int .u8 0, .int .i64 0, .string ⟨#[]⟩, .int .i64 0] 38)).drew (HLIST.out _ HBEL.out) HC1.out HKC.out).mono ?_); rintro e w7 ⟨vc, rfl, hRc, hb7⟩; obtain ⟨Ac, cc, ec, hcc, hCc⟩ := Kd.R_reads hRc; subst ec; have hb57 : Below wr.heap.size wr w7 := HBEL.out.trans (hb7.mono HBEL.out.size); have HR7 := kA_ (cellsA hb57 HD5.out); have HR7a : Aside0 (∀ o, _) := ⟨fun o => cellsA ((Below.refl _ w7).alloc (Nat.le_refl _) o) HR7.out⟩; have HCC := kA_ hCc; have HCN := kA_ hcc; have HX7 := kA_ ((hb7.block wr.heap.size HX5.out.2).trans HX5.out.1); have HB7 := kA_ hb57; have HSZ7 := kA_ hb57.size; clear hb57 hRc hb7 hcc hCc)
   | (go_at_call 20; have hx7 := HX7.out; (with_reducible refine (r6_Aggregate.calls ka f0 f2 Ac cc (columnR ls f1) r0 r1 r2 r3 w7 HCC.out HCN.out HKA.out).mono ?_); rintro e w8 ⟨rfl, hb8⟩; have HS8 := kA_ (cellsA hb8 HR7.out); have HS8a : Aside0 (∀ o, _) := ⟨fun o => cellsA ((Below.refl _ w8).alloc (Nat.le_refl _) o) HS8.out⟩; have HB8 := kA_ (HB7.out.trans (hb8.mono HB7.out.size)); have hX8 := (hb8.block wr.heap.size (blk_lt hx7)).trans hx7; have x0 : w8.cell? ⟨wr.heap.size, 0, none⟩ = some (.int .u8 0) := (blk_cell hX8 0).trans rfl; have x1 : w8.cell? ⟨wr.heap.size, 1, none⟩ = some (.int .i64 0) := (blk_cell hX8 1).trans rfl; have x2 : w8.cell? ⟨wr.heap.size, 2, none⟩ = some (.string ⟨#[]⟩) := (blk_cell hX8 2).trans rfl; have x3 : w8.cell? ⟨wr.heap.size, 3, none⟩ = some (.int .i64 0) := (blk_cell hX8 3).trans rfl; have xf : ∀ j, w8.frozen? ⟨wr.heap.size, j, none⟩ = false := (fun j => by simp [World.frozen?, hX8]); have HX8 := kA_ hX8; clear hX8; clear hb8 hx7)
   | (go_at_call 20; have hb9 : Below w7.heap.size w7 (w7.alloc (.cells #[.int .u8 0, .int .i64 0, .string ⟨#[]⟩, .int .i64 0] 38)) := (Below.refl _ w7).alloc (Nat.le_refl _) _; (with_reducible refine (r6_Aggregate.calls ka f0 f2 Ac cc (columnR ls f1) r0 r1 r2 r3 (w7.alloc (.cells #[.int .u8 0, .int .i64 0, .string ⟨#[]⟩, .int .i64 0] 38)) (Kd.C_below HCC.out hb9) HCN.out HKA.out).mono ?_); rintro e w8 ⟨rfl, hb8⟩; have hb78 : Below w7.heap.size w7 w8 := hb9.trans (hb8.mono hb9.size); have HS8 := kA_ (cellsA hb78 HR7.out); have HS8a : Aside0 (∀ o, _) := ⟨fun o => cellsA ((Below.refl _ w8).alloc (Nat.le_refl _) o) HS8.out⟩; have hX8 := (hb8.block w7.heap.size (blk_lt (heap_alloc_new w7 _))).trans (heap_alloc_new w7 _); have x0 : w8.cell? ⟨w7.heap.size, 0, none⟩ = some (.int .u8 0) := (blk_cell hX8 0).trans rfl; have x1 : w8.cell? ⟨w7.heap.size, 1, none⟩ = some (.int .i64 0) := (blk_cell hX8 1).trans rfl; have x2 : w8.cell? ⟨w7.heap.size, 2, none⟩ = some (.string ⟨#[]⟩) := (blk_cell hX8 2).trans rfl; have x3 : w8.cell? ⟨w7.heap.size, 3, none⟩ = some (.int .i64 0) := (blk_cell hX8 3).trans rfl; have xf : ∀ j, w8.frozen? ⟨w7.heap.size, j, none⟩ = false := (fun j => by simp [World.frozen?, hX8]); have HX8 := kA_ hX8; clear hX8; have HB8 := kA_ (HB7.out.trans (hb78.mono HB7.out.size)); clear hb8 hb9 hb78)
   | (go_at_call 20; (with_reducible refine (r6_Aggregate.calls ka f0 f2 Ac cc (columnR ls f1) r0 r1 r2 r3 w7 HCC.out HCN.out HKA.out).mono ?_); rintro e w8 ⟨rfl, hb8⟩; have HS8 := kA_ (cellsA hb8 HR7.out); have HS8a : Aside0 (∀ o, _) := ⟨fun o => cellsA ((Below.refl _ w8).alloc (Nat.le_refl _) o) HS8.out⟩; have HB8 := kA_ (HB7.out.trans (hb8.mono HB7.out.size)); clear hb8))
  · obtain ⟨W9, hW9⟩ : ∃ W9, W9 = (w8.alloc (.cells #[.int .u8 r0, .int .i64 r1, .string r2, .int .i64 r3] 38)) := ⟨_, rfl⟩
    rw [← hW9]
    have hO9 : W9.heap[w8.heap.size]? = some (.cells #[.int .u8 r0, .int .i64 r1, .string r2, .int .i64 r3] 38 (0, 0)) := by rw [hW9]; exact heap_alloc_new _ _
    have HB9 : Aside0 (Below wr.heap.size wr W9) := ⟨by rw [hW9]; exact HB8.out.alloc HB8.out.size _⟩
    have o0 : W9.cell? ⟨w8.heap.size, 0, none⟩ = some (.int .u8 r0) := (blk_cell hO9 0).trans rfl
    have o1 : W9.cell? ⟨w8.heap.size, 1, none⟩ = some (.int .i64 r1) := (blk_cell hO9 1).trans rfl
    have o2 : W9.cell? ⟨w8.heap.size, 2, none⟩ = some (.string r2) := (blk_cell hO9 2).trans rfl
    have o3 : W9.cell? ⟨w8.heap.size, 3, none⟩ = some (.int .i64 r3) := (blk_cell hO9 3).trans rfl
    clear hO9 hW9 hx_0 hx_1 hx_2
    try clear x0 x1 x2 x3 xf
    have HK9 := kA_ (Kd.R_below HKR.out HB9.out)
    have HI9 := kA_ (HB.out.trans (HB9.out.mono HB.out.size))
    by_cases hr3 : r3 = 0
    rotate_left
    · obtain ⟨hgr, hge⟩ : [] = R ∧ r3 = er := by
       have h := HRO2.out
       rw [if_neg hr3] at h
       simpa using h
      subst hgr
      subst hge
      have z3 : (r3 != 0) = true := by simp [hr3]
      have z4 : decide (r3 = 0) = false := decide_eq_false hr3
      have HO3 := kA_ o3
      have HO3d : Aside0 (W9.drew.cell? ⟨w8.heap.size, 3, none⟩ = some (.int .i64 r3)) := ⟨o3⟩
      clear hr3
      go_wp2_with fail
      go_region_held3 (fun W' => W'.cell? ⟨w8.heap.size, 3, none⟩ = some (.int .i64 r3)) (first | (with_reducible exact HO3.out) | (with_reducible exact HO3d.out)) (fail)
      go_wp2
      go_ret2
      exact ⟨_, rfl, Kd.R_nil _ _ _ _ _, bN_ HI9.out 1⟩
    subst hr3
    go_wp2_with (at_builtin; refine Kd.R_append kV (w0 := w) w.heap.size rfl (.tmp 42) (.tmp 45) 53 36 (.agg #[(.int .u8 0), (.int .i64 0), (.string ⟨#[]⟩)]) 32 rfl Tryz.underlying53 infoV rfl (by decide) (by decide) _ _ (⟨r0, r1, r2⟩ : V) [.int .u8 r0, .int .i64 r1, .string r2] (fun _ => True) (fun _ => False) rfl rfl (k36_mkM _ _ _ (⟨r0, r1, r2⟩ : V)) (fun _ h => h.elim) (fun _ _ => trivial) HK9.out HI9.out HI9.out.size HLEN.out ?_; intro v6 w6 hR4 hb4 hg4 hat4; have HO4 := kA_ hR4; have HB4 := kA_ hb4; clear hR4 hb4 hg4 hat4)
    have hk := HKQ.out
    have hlt := HLT.out
    have hx0 := HX0.out
    cases gk with
    | zero => omega
    | succ k1 =>
     go_roundg k1
     case measure => omega
     case rel => exact ⟨x + 1, by rw [HWR.out], ⟨by omega⟩, ⟨_, HO4.out, a76_, a48_⟩, HB4⟩
  · obtain ⟨W9, hW9⟩ : ∃ W9, W9 = ((((w8.setCell ⟨w7.heap.size, 0, none⟩ (.int .u8 r0)).setCell ⟨w7.heap.size, 1, none⟩ (.int .i64 r1)).setCell ⟨w7.heap.size, 2, none⟩ (.string r2)).setCell ⟨w7.heap.size, 3, none⟩ (.int .i64 r3)) := ⟨_, rfl⟩
    rw [← hW9]
    have hO9 : W9.heap[w7.heap.size]? = some (.cells #[.int .u8 r0, .int .i64 r1, .string r2, .int .i64 r3] 38 (0, 0)) := by rw [hW9]; exact out_cells HX8.out _ _ _ _
    have HB9 : Aside0 (Below wr.heap.size wr W9) := ⟨by rw [hW9]; exact out_belowB HB8.out HB7.out.size _ _ _ _⟩
    have o0 : W9.cell? ⟨w7.heap.size, 0, none⟩ = some (.int .u8 r0) := (blk_cell hO9 0).trans rfl
    have o1 : W9.cell? ⟨w7.heap.size, 1, none⟩ = some (.int .i64 r1) := (blk_cell hO9 1).trans rfl
    have o2 : W9.cell? ⟨w7.heap.size, 2, none⟩ = some (.string r2) := (blk_cell hO9 2).trans rfl
    have o3 : W9.cell? ⟨w7.heap.size, 3, none⟩ = some (.int .i64 r3) := (blk_cell hO9 3).trans rfl
    clear hO9 hW9 hx_0 hx_1 hx_2
    try clear x0 x1 x2 x3 xf
    have HK9 := kA_ (Kd.R_below HKR.out HB9.out)
    have HI9 := kA_ (HB.out.trans (HB9.out.mono HB.out.size))
    by_cases hr3 : r3 = 0
    rotate_left
    · obtain ⟨hgr, hge⟩ : [] = R ∧ r3 = er := by
       have h := HRO2.out
       rw [if_neg hr3] at h
       simpa using h
      subst hgr
      subst hge
      have z3 : (r3 != 0) = true := by simp [hr3]
      have z4 : decide (r3 = 0) = false := decide_eq_false hr3
      have HO3 := kA_ o3
      have HO3d : Aside0 (W9.drew.cell? ⟨w7.heap.size, 3, none⟩ = some (.int .i64 r3)) := ⟨o3⟩
      clear hr3
      go_wp2_with fail
      go_region_held3 (fun W' => W'.cell? ⟨w7.heap.size, 3, none⟩ = some (.int .i64 r3)) (first | (with_reducible exact HO3.out) | (with_reducible exact HO3d.out)) (fail)
      go_wp2
      go_ret2
      exact ⟨_, rfl, Kd.R_nil _ _ _ _ _, bN_ HI9.out 1⟩
    subst hr3
    go_wp2_with (at_builtin; refine Kd.R_append kV (w0 := w) w.heap.size rfl (.tmp 42) (.tmp 45) 53 36 (.agg #[(.int .u8 0), (.int .i64 0), (.string ⟨#[]⟩)]) 32 rfl Tryz.underlying53 infoV rfl (by decide) (by decide) _ _ (⟨r0, r1, r2⟩ : V) [.int .u8 r0, .int .i64 r1, .string r2] (fun _ => True) (fun _ => False) rfl rfl (k36_mkM _ _ _ (⟨r0, r1, r2⟩ : V)) (fun _ h => h.elim) (fun _ _ => trivial) HK9.out HI9.out HI9.out.size HLEN.out ?_; intro v6 w6 hR4 hb4 hg4 hat4; have HO4 := kA_ hR4; have HB4 := kA_ hb4; clear hR4 hb4 hg4 hat4)
    have hk := HKQ.out
    have hlt := HLT.out
    have hx0 := HX0.out
    cases gk with
    | zero => omega
    | succ k1 =>
     go_roundg k1
     case measure => omega
     case rel => exact ⟨x + 1, by rw [HWR.out], ⟨by omega⟩, ⟨_, HO4.out, a76_, a48_⟩, HB4⟩
  obtain ⟨W9, hW9⟩ : ∃ W9, W9 = ((((w8.setCell ⟨wr.heap.size, 0, none⟩ (.int .u8 r0)).setCell ⟨wr.heap.size, 1, none⟩ (.int .i64 r1)).setCell ⟨wr.heap.size, 2, none⟩ (.string r2)).setCell ⟨wr.heap.size, 3, none⟩ (.int .i64 r3)) := ⟨_, rfl⟩
  rw [← hW9]
  have hO9 : W9.heap[wr.heap.size]? = some (.cells #[.int .u8 r0, .int .i64 r1, .string r2, .int .i64 r3] 38 (0, 0)) := by rw [hW9]; exact out_cells HX8.out _ _ _ _
  have HB9 : Aside0 (Below wr.heap.size wr W9) := ⟨by rw [hW9]; exact out_belowB HB8.out (Nat.le_refl _) _ _ _ _⟩
  have o0 : W9.cell? ⟨wr.heap.size, 0, none⟩ = some (.int .u8 r0) := (blk_cell hO9 0).trans rfl
  have o1 : W9.cell? ⟨wr.heap.size, 1, none⟩ = some (.int .i64 r1) := (blk_cell hO9 1).trans rfl
  have o2 : W9.cell? ⟨wr.heap.size, 2, none⟩ = some (.string r2) := (blk_cell hO9 2).trans rfl
  have o3 : W9.cell? ⟨wr.heap.size, 3, none⟩ = some (.int .i64 r3) := (blk_cell hO9 3).trans rfl
  clear hO9 hW9 hx_0 hx_1 hx_2
  try clear x0 x1 x2 x3 xf
  have HK9 := kA_ (Kd.R_below HKR.out HB9.out)
  have HI9 := kA_ (HB.out.trans (HB9.out.mono HB.out.size))
  by_cases hr3 : r3 = 0
  rotate_left
  · obtain ⟨hgr, hge⟩ : [] = R ∧ r3 = er := by
     have h := HRO2.out
     rw [if_neg hr3] at h
     simpa using h
    subst hgr
    subst hge
    have z3 : (r3 != 0) = true := by simp [hr3]
    have z4 : decide (r3 = 0) = false := decide_eq_false hr3
    have HO3 := kA_ o3
    have HO3d : Aside0 (W9.drew.cell? ⟨wr.heap.size, 3, none⟩ = some (.int .i64 r3)) := ⟨o3⟩
    clear hr3
    go_wp2_with fail
    go_region_held3 (fun W' => W'.cell? ⟨wr.heap.size, 3, none⟩ = some (.int .i64 r3)) (first | (with_reducible exact HO3.out) | (with_reducible exact HO3d.out)) (fail)
    go_wp2
    go_ret2
    exact ⟨_, rfl, Kd.R_nil _ _ _ _ _, bN_ HI9.out 1⟩
  subst hr3
  go_wp2_with (at_builtin; refine Kd.R_append kV (w0 := w) w.heap.size rfl (.tmp 42) (.tmp 45) 53 36 (.agg #[(.int .u8 0), (.int .i64 0), (.string ⟨#[]⟩)]) 32 rfl Tryz.underlying53 infoV rfl (by decide) (by decide) _ _ (⟨r0, r1, r2⟩ : V) [.int .u8 r0, .int .i64 r1, .string r2] (fun _ => True) (fun _ => False) rfl rfl (k36_mkM _ _ _ (⟨r0, r1, r2⟩ : V)) (fun _ h => h.elim) (fun _ _ => trivial) HK9.out HI9.out HI9.out.size HLEN.out ?_; intro v6 w6 hR4 hb4 hg4 hat4; have HO4 := kA_ hR4; have HB4 := kA_ hb4; clear hR4 hb4 hg4 hat4)
  have hk := HKQ.out
  have hlt := HLT.out
  have hx0 := HX0.out
  cases gk with
  | zero => omega
  | succ k1 =>
   go_roundg k1
   case measure => omega
   case rel => exact ⟨x + 1, by rw [HWR.out], ⟨by omega⟩, ⟨_, HO4.out, a76_, a48_⟩, HB4⟩
theorem drawn_below {w w' : World} (h : Drawn0 w w') : Below w.heap.size w w' := h.below
theorem rGroupable_calls (A0 : Option Addr) (c0 : Nat) (l0 : List (List V)) (A1 : Option Addr) (c1 : Nat) (l1 : List Int) (A2 : Option Addr) (c2 : Nat) (l2 : List AggT) (w : World) (hr0 : Kd.C kRow w A0 l0.length l0) (hc0 : l0.length ≤ c0) (hr1 : Kd.C (Kd.int .i64) w A1 l1.length l1) (hr2 : Kd.C kAgg w A2 l2.length l2) (hok : GroupOk l0 l1 l2) (B : Bool) (hG : groupableB l0 l1 l2 = B) :
 Calls Tryz.prog 58 #[.slice A0 l0.length c0, .slice A1 l1.length c1, .slice A2 l2.length c2] w fun e w' => e = .returned (.bool B) ∧ Below w.heap.size w w' := by
 obtain ⟨k, hk⟩ := (rvalid_ev l0 hok.rows.v).rounds
 have HK := kA_ hk
 have HG := kA_ hG
 have HOK := kA_ hok
 have HR0 := kA_ hr0
 have HC0 := kA_ hc0
 have HR1 := kA_ hr1
 have HR2 := kA_ hr2
 clear hk hG hok hr0 hc0 hr1 hr2
 go_enter Tryz.func58, Tryz.ntmps58
 go_wp2_with fail
 refine (r6_Valid.calls k A0 c0 l0 (validB l0) w HR0.out HC0.out HK.out).mono ?_
 rintro e w1 ⟨rfl, hb1⟩
 have HB1 := kA_ hb1
 clear hb1
 cases hvb : validB l0 with
 | false =>
  have hB : B = false := by
   rw [← HG.out]
   unfold groupableB
   rw [hvb]
   rfl
  subst hB
  clear hvb HG HK
  go_wp2
  go_ret
  exact ⟨rfl, HB1.out⟩
 | true =>
  have HE : Aside0 ((l1.all (hasB l0) && l2.all (aggOkB l0)) = B) := ⟨by
   rw [← HG.out]
   unfold groupableB
   rw [hvb, Bool.true_and]⟩
  clear hvb HG HK
  go_wp2
  go_loopg [7] l1.length (fun kq v7 W => ∃ x : Int, v7 = .int .i64 x ∧ Aside0 (0 ≤ x ∧ x ≤ l1.length ∧ (kq : Int) = l1.length - x) ∧ Aside0 (((l1.drop x.toNat).all (hasB l0) && l2.all (aggOkB l0)) = B) ∧ Aside0 (Below w.heap.size w W))
  case atStart => exact ⟨0, rfl, ⟨by omega⟩, HE, HB1⟩
  case round =>
   clear HE HB1
   obtain ⟨x, rfl, HX, HE, HB⟩ := hrel
   obtain ⟨hx0, hx1, hkq⟩ := HX.out
   by_cases hlt : x < (l1.length : Int)
   · have d1 : decide (x < (l1.length : Int)) = true := decide_eq_true hlt
     have d2 : decide (0 ≤ x) = true := decide_eq_true hx0
     obtain ⟨ad, e, hx_0⟩ := Kd.at_int HR1.out x hx0 hlt
     cases e
     replace hx_0 := cB_ HB.out hx_0
     have hj : x.toNat < l1.length := by omega
     have hrd : rd l1 x = l1[x.toNat] := by simp [rd, List.getElem?_eq_getElem hj]
     have he := HE.out
     rw [drop_cons l1 x.toNat hj, List.all_cons, ← hrd, show x.toNat + 1 = (x + 1).toNat by omega, Bool.and_assoc] at he
     obtain ⟨n, hn⟩ : ∃ n, n = rd l1 x := ⟨_, rfl⟩
     rw [← hn] at hx_0 he
     have HE2 := kA_ he
     have HLT := kA_ hlt
     have HKQ := kA_ hkq
     have HX0 := kA_ hx0
     have HWR : Aside0 (wrap64 (x + 1) = x + 1) := ⟨by have := HOK.out.cn; unfold wrap64; omega⟩
     clear hn hrd hj he hkq HE
     go_wp2_with fail
     refine (r6_Column.calls A0 c0 l0 n (hasB l0 n) wr (Kd.C_below HR0.out HB.out) HC0.out (column_eq l0 n)).mono ?_
     rintro e w5 ⟨rfl, hd5⟩
     have HB5 := kA_ (HB.out.trans ((drawn_below hd5).mono HB.out.size))
     clear hd5
     cases hh : hasB l0 n with
     | true =>
      have HE3 : Aside0 (((l1.drop (x + 1).toNat).all (hasB l0) && l2.all (aggOkB l0)) = B) := ⟨by
       have h := HE2.out
       rw [hh, Bool.true_and] at h
       exact h⟩
      clear hh HE2
      go_wp2
      have hlt := HLT.out
      have hk := HKQ.out
      have hx0 := HX0.out
      cases gk with
      | zero => omega
      | succ k1 =>
       go_roundg k1
       case measure => omega
       case rel => exact ⟨x + 1, by rw [HWR.out], ⟨by omega⟩, HE3, HB5⟩
     | false =>
      have hB : B = false := by
       have h := HE2.out
       rw [hh, Bool.false_and] at h
       exact h.symm
      subst hB
      clear hh HE2
      go_wp2
      go_ret
      exact ⟨rfl, HB5.out⟩
   have d1 : decide (x < (l1.length : Int)) = false := decide_eq_false hlt
   have HE2 : Aside0 (l2.all (aggOkB l0) = B) := ⟨by
    have h := HE.out
    rw [List.drop_of_length_le (by omega)] at h
    simpa using h⟩
   clear HX hx0 hx1 hkq hlt HE
   go_wp2
   go_loopg [8] l2.length (fun kq v8 W => ∃ x : Int, v8 = .int .i64 x ∧ Aside0 (0 ≤ x ∧ x ≤ l2.length ∧ (kq : Int) = l2.length - x) ∧ Aside0 ((l2.drop x.toNat).all (aggOkB l0) = B) ∧ Aside0 (Below w.heap.size w W))
   case atStart => exact ⟨0, rfl, ⟨by omega⟩, HE2, HB⟩
   case round =>
    clear HE2 HB
    obtain ⟨x, rfl, HX, HE, HB⟩ := hrel
    obtain ⟨hx0, hx1, hkq⟩ := HX.out
    by_cases hlt : x < (l2.length : Int)
    rotate_left
    · have d1 : decide (x < (l2.length : Int)) = false := decide_eq_false hlt
      have hB : true = B := by
       have h := HE.out
       rw [List.drop_of_length_le (by omega)] at h
       simpa using h
      subst hB
      clear HX hx0 hx1 hkq hlt HE
      go_wp2
      go_ret
      exact ⟨rfl, HB.out⟩
    have d1 : decide (x < (l2.length : Int)) = true := decide_eq_true hlt
    have d2 : decide (0 ≤ x) = true := decide_eq_true hx0
    obtain ⟨ad, e, hx_0, hx_1, hx_2⟩ := at_T55 HR2.out x hx0 hlt
    cases e
    replace hx_0 := cB_ HB.out hx_0
    replace hx_1 := cB_ HB.out hx_1
    replace hx_2 := cB_ HB.out hx_2
    have hj : x.toNat < l2.length := by omega
    have hrd : rd_T55 l2 x = l2[x.toNat] := by simp [rd_T55, List.getElem?_eq_getElem hj]
    have he := HE.out
    rw [drop_cons l2 x.toNat hj, List.all_cons, ← hrd, show x.toNat + 1 = (x + 1).toNat by omega] at he
    obtain ⟨a, ha⟩ : ∃ a, a = rd_T55 l2 x := ⟨_, rfl⟩
    rw [← ha] at hx_0 hx_1 hx_2 he
    obtain ⟨f0, f1, f2⟩ := a
    dsimp only at hx_0 hx_1 hx_2
    have HE2 := kA_ he
    have HLT := kA_ hlt
    have HKQ := kA_ hkq
    have HX0 := kA_ hx0
    have HWR : Aside0 (wrap64 (x + 1) = x + 1) := ⟨by have := HOK.out.an; unfold wrap64; omega⟩
    clear hrd hj hkq ha he HE
    obtain ⟨W5, hW5⟩ : ∃ W5, W5 = wr.alloc (.cells #[.int .u8 f0, .int .i64 f1, .bool f2] 55) := ⟨_, rfl⟩
    have HD5 : Aside0 (W5.cell? ⟨wr.heap.size, 0, none⟩ = some (.int .u8 f0) ∧ W5.cell? ⟨wr.heap.size, 1, none⟩ = some (.int .i64 f1) ∧ W5.cell? ⟨wr.heap.size, 2, none⟩ = some (.bool f2)) := ⟨by
     rw [hW5]
     exact ⟨(blk_cell (heap_alloc_new _ _) 0).trans rfl, (blk_cell (heap_alloc_new _ _) 1).trans rfl, (blk_cell (heap_alloc_new _ _) 2).trans rfl⟩⟩
    have HB5 : Aside0 (Below wr.heap.size wr W5) := ⟨a80_⟩
    have HW5B : Aside0 (∀ W', Below W5.heap.size W5 W' → Below w.heap.size w W') := ⟨fun W' hb => HB.out.trans ((HB5.out.trans (hb.mono HB5.out.size)).mono HB.out.size)⟩
    by_cases h0 : f0 = 0
    · subst h0
      by_cases h12 : f1 = 0 ∧ f2 = false
      · obtain ⟨rfl, rfl⟩ := h12
        have HE3 : Aside0 ((l2.drop (x + 1).toNat).all (aggOkB l0) = B) := ⟨by
         have h := HE2.out
         rw [show aggOkB l0 ⟨0, 0, false⟩ = true from rfl, Bool.true_and] at h
         exact h⟩
        clear HE2
        subst hW5
        go_wp2
        have hlt := HLT.out
        have hk := HKQ.out
        have hx0 := HX0.out
        cases gk with
        | zero => omega
        | succ k1 =>
         go_roundg k1
         case measure => omega
         case rel => exact ⟨x + 1, by rw [HWR.out], ⟨by omega⟩, HE3, ⟨HW5B.out _ (Below.refl _ _)⟩⟩
      have hB : B = false := by
       have h := HE2.out
       have e : aggOkB l0 ⟨0, f1, f2⟩ = false := by
        unfold aggOkB
        rw [if_pos rfl]
        exact decide_eq_false h12
       rw [e, Bool.false_and] at h
       exact h.symm
      subst hB
      have HB9 := kA_ (HW5B.out _ (Below.refl _ _))
      clear HE2
      by_cases h1 : f1 = 0
      rotate_left
      · have z3 : (f1 != 0) = true := by simp [h1]
        have z4 : decide (f1 = 0) = false := decide_eq_false h1
        clear h12
        subst hW5
        go_wp2
        go_ret
        exact ⟨rfl, HB9.out⟩
      subst h1
      obtain rfl : f2 = true := by
       cases f2 with
       | true => rfl
       | false => exact absurd ⟨rfl, rfl⟩ h12
      clear h12
      subst hW5
      go_wp2
      go_ret
      exact ⟨rfl, HB9.out⟩
    have z1 : (f0 == 0) = false := by simp [h0]
    have z2 : decide (f0 = 0) = false := decide_eq_false h0
    have HE5 : Aside0 (W5.drew.cell? ⟨wr.heap.size, 0, none⟩ = some (.int .u8 f0) ∧ W5.drew.cell? ⟨wr.heap.size, 1, none⟩ = some (.int .i64 f1) ∧ W5.drew.cell? ⟨wr.heap.size, 2, none⟩ = some (.bool f2)) := ⟨HD5.out⟩
    have HC5 : Aside0 (∀ W', Below W5.heap.size W5 W' → kRow.C W' A0 l0.length l0) := ⟨fun W' hb => Kd.C_below HR0.out (HW5B.out W' hb)⟩
    have HBE : Aside0 (Below W5.heap.size W5 W5.drew) := ⟨(Below.refl _ W5).drew⟩
    have he : ((hasB l0 f1 && allowedB f0 f2 (columnR l0 f1)) && (l2.drop (x + 1).toNat).all (aggOkB l0)) = B := by
     have h := HE2.out
     rw [show aggOkB l0 ⟨f0, f1, f2⟩ = (hasB l0 f1 && allowedB f0 f2 (columnR l0 f1)) from if_neg h0] at h
     exact h
    clear HE2 h0
    cases hhas : hasB l0 f1 with
    | false =>
     rw [hhas, Bool.false_and, Bool.false_and] at he
     subst he
     have HHE : Aside0 (r6_Column.f l0 f1 = some false) := ⟨by rw [column_eq]; exact congrArg some hhas⟩
     clear hhas
     go_wp2_with fail
     rw [← hW5]
     clear hW5
     refine wp_region_held_drew (S := (fun W' => (W'.cell? ⟨wr.heap.size, 0, none⟩ = some (.int .u8 f0) ∧ W'.cell? ⟨wr.heap.size, 1, none⟩ = some (.int .i64 f1) ∧ W'.cell? ⟨wr.heap.size, 2, none⟩ = some (.bool f2)))) a3_ HE5.out (fun hHeld => ?_)
     refine wpAnyH_take (i := 0) (oi := ⟨some 46, _, _, _, _, _⟩) (v := ?_) rfl a3_ a3_ a3_ (fun _ _ _ h => h) (Or.inl ⟨by rfl, ?_⟩) (by assumption) ?_
     rotate_left
     · intro w' hSw
       try dsimp only at hSw
       go_simp
       try with_reducible rfl
     try simp only [Act.put, tA, tZ, tS]
     refine wpAnyH_take (i := 1) (oi := ⟨some 47, _, _, _, _, _⟩) (v := ?_) rfl a3_ a3_ a3_ (fun _ _ _ h => h) (Or.inl ⟨by rfl, ?_⟩) (by assumption) ?_
     rotate_left
     · intro w' hSw
       try dsimp only at hSw
       go_simp
       try with_reducible rfl
     try simp only [Act.put, tA, tZ, tS]
     refine wpAnyH_take (i := 2) (oi := ⟨some 48, _, _, _, _, _⟩) (v := ?_) rfl a3_ a3_ a3_ (fun _ _ _ h => h) (Or.inl ⟨by rfl, ?_⟩) (by assumption) ?_
     rotate_left
     · intro w' hSw
       try dsimp only at hSw
       go_simp
       try with_reducible rfl
     try simp only [Act.put, tA, tZ, tS]
     refine wpAnyH_ready (rs := [3]) a3_ (by simp) ?_
     refine AllReadyH.cons (o := ⟨some 49, _, _, _, _, _⟩) rfl (fun K hK => ?_) AllReadyH.nil
     go_simp
     (go_at_call 86; (with_reducible refine (r6_Column.calls A0 c0 l0 f1 false W5.drew (HC5.out _ HBE.out) HC0.out HHE.out).mono ?_); rintro e w6 ⟨rfl, hd6⟩; have HB6 : Aside0 (Below W5.heap.size W5 w6) := ⟨HBE.out.trans ((drawn_below hd6).mono HBE.out.size)⟩; have HS6 : Aside0 (w6.cell? ⟨wr.heap.size, 0, none⟩ = some (.int .u8 f0) ∧ w6.cell? ⟨wr.heap.size, 1, none⟩ = some (.int .i64 f1) ∧ w6.cell? ⟨wr.heap.size, 2, none⟩ = some (.bool f2)) := ⟨cells3 HB6.out HD5.out⟩; clear hd6)
     refine hK.out _ _ HS6.out (fun hHeld => ?_)
     clear hK K
     try simp only [Act.put, tA, tZ, tS]
     refine wpAnyH_take (i := 4) (oi := ⟨some 50, _, _, _, _, _⟩) (v := ?_) rfl a3_ a3_ a3_ (fun _ _ _ h => h) (Or.inl ⟨by rfl, ?_⟩) (by assumption) ?_
     rotate_left
     · intro w' hSw
       try dsimp only at hSw
       go_simp
       try with_reducible rfl
     try simp only [Act.put, tA, tZ, tS]
     refine wpAnyH_take (i := 5) (oi := ⟨some 51, _, _, _, _, _⟩) (v := ?_) rfl a3_ a3_ a3_ (fun _ _ _ h => h) (Or.inl ⟨by rfl, ?_⟩) (by assumption) ?_
     rotate_left
     · intro w' hSw
       try dsimp only at hSw
       go_simp
       try with_reducible rfl
     try simp only [Act.put, tA, tZ, tS]
     refine wpAnyH_take (i := 6) (oi := ⟨some 52, _, _, _, _, _⟩) (v := undef) rfl a3_ a3_ a3_ (fun _ _ _ h => h) (Or.inr ⟨by rfl, rfl⟩) (by assumption) ?_
     try simp only [Act.put, tA, tZ, tS]
     refine wpAnyH_take (i := 7) (oi := ⟨some 53, _, _, _, _, _⟩) (v := undef) rfl a3_ a3_ a3_ (fun _ _ _ h => h) (Or.inr ⟨by rfl, rfl⟩) (by assumption) ?_
     try simp only [Act.put, tA, tZ, tS]
     refine wpAnyH_take (i := 8) (oi := ⟨some 54, _, _, _, _, _⟩) (v := undef) rfl a3_ a3_ a3_ (fun _ _ _ h => h) (Or.inr ⟨by rfl, rfl⟩) (by assumption) ?_
     try simp only [Act.put, tA, tZ, tS]
     refine wpAnyH_take (i := 9) (oi := ⟨some 55, _, _, _, _, _⟩) (v := undef) rfl a3_ a3_ a3_ (fun _ _ _ h => h) (Or.inr ⟨by rfl, rfl⟩) (by assumption) ?_
     try simp only [Act.put, tA, tZ, tS]
     refine wpAnyH_take (i := 10) (oi := ⟨some 56, _, _, _, _, _⟩) (v := undef) rfl a3_ a3_ a3_ (fun _ _ _ h => h) (Or.inr ⟨by rfl, rfl⟩) (by assumption) ?_
     try simp only [Act.put, tA, tZ, tS]
     refine wpAnyH_take (i := 11) (oi := ⟨some 57, _, _, _, _, _⟩) (v := undef) rfl a3_ a3_ a3_ (fun _ _ _ h => h) (Or.inr ⟨by rfl, rfl⟩) (by assumption) ?_
     try simp only [Act.put, tA, tZ, tS]
     refine wpAnyH_take (i := 12) (oi := ⟨some 58, _, _, _, _, _⟩) (v := undef) rfl a3_ a3_ a3_ (fun _ _ _ h => h) (Or.inr ⟨by rfl, rfl⟩) (by assumption) ?_
     try simp only [Act.put, tA, tZ, tS]
     refine wpAnyH_take (i := 13) (oi := ⟨some 59, _, _, _, _, _⟩) (v := undef) rfl a3_ a3_ a3_ (fun _ _ _ h => h) (Or.inr ⟨by rfl, rfl⟩) (by assumption) ?_
     try simp only [Act.put, tA, tZ, tS]
     refine wpAnyH_take (i := 14) (oi := ⟨some 60, _, _, _, _, _⟩) (v := undef) rfl a3_ a3_ a3_ (fun _ _ _ h => h) (Or.inr ⟨by rfl, rfl⟩) (by assumption) ?_
     try simp only [Act.put, tA, tZ, tS]
     refine wpAnyH_take (i := 15) (oi := ⟨some 61, _, _, _, _, _⟩) (v := undef) rfl a3_ a3_ a3_ (fun _ _ _ h => h) (Or.inr ⟨by rfl, rfl⟩) (by assumption) ?_
     try simp only [Act.put, tA, tZ, tS]
     refine wpAnyH_take (i := 16) (oi := ⟨some 62, _, _, _, _, _⟩) (v := ?_) rfl a3_ a3_ a3_ (fun _ _ _ h => h) (Or.inl ⟨by rfl, ?_⟩) (by assumption) ?_
     rotate_left
     · intro w' hSw
       try dsimp only at hSw
       go_simp
       try with_reducible rfl
     try simp only [Act.put, tA, tZ, tS]
     refine wpAnyH_done a3_ ?_ _
     go_wp2
     go_ret
     exact ⟨rfl, HW5B.out _ HB6.out⟩
    | true =>
     rw [hhas, Bool.true_and] at he
     have HHE : Aside0 (r6_Column.f l0 f1 = some true) := ⟨by rw [column_eq]; exact congrArg some hhas⟩
     obtain ⟨kc, hkc⟩ := (rcolumn_ev l0 f1 (hasB_nonneg hhas) HOK.out.rows.2).rounds
     obtain ⟨ka, hka⟩ := (raggregable_ev f0 f2 (columnR l0 f1) (by rw [columnR, List.length_map]; exact HOK.out.rows.2)).rounds
     have HKC2 := kA_ hkc
     cases hall : allowedB f0 f2 (columnR l0 f1) with
     | false =>
      rw [hall, Bool.false_and] at he
      subst he
      rw [hall] at hka
      have HKA := kA_ hka
      clear hkc hka hall hhas
      go_wp2_with fail
      rw [← hW5]
      clear hW5
      go_region_held3 (fun W' => (W'.cell? ⟨wr.heap.size, 0, none⟩ = some (.int .u8 f0) ∧ W'.cell? ⟨wr.heap.size, 1, none⟩ = some (.int .i64 f1) ∧ W'.cell? ⟨wr.heap.size, 2, none⟩ = some (.bool f2))) (first | (with_reducible exact HD5.out) | (with_reducible exact HE5.out) | (with_reducible exact HS6.out) | (with_reducible exact HS7.out) | (with_reducible exact HS8.out)) (first
       | (go_at_call 86; (with_reducible refine (r6_Column.calls A0 c0 l0 f1 true W5.drew (HC5.out _ HBE.out) HC0.out HHE.out).mono ?_); rintro e w6 ⟨rfl, hd6⟩; have HB6 : Aside0 (Below W5.heap.size W5 w6) := ⟨HBE.out.trans ((drawn_below hd6).mono HBE.out.size)⟩; have HS6 : Aside0 (w6.cell? ⟨wr.heap.size, 0, none⟩ = some (.int .u8 f0) ∧ w6.cell? ⟨wr.heap.size, 1, none⟩ = some (.int .i64 f1) ∧ w6.cell? ⟨wr.heap.size, 2, none⟩ = some (.bool f2)) := ⟨cells3 HB6.out HD5.out⟩; clear hd6)
       | (go_at_call 87; (with_reducible refine (r6_column.calls kc A0 c0 l0 f1 (columnR l0 f1) w6 (HC5.out _ HB6.out) HC0.out HKC2.out).mono ?_); rintro e w7 ⟨vc, rfl, hRc, hb7⟩; obtain ⟨Ac, cc, ec, hcc, hCc⟩ := Kd.R_reads hRc; subst ec; have hb57 : Below W5.heap.size W5 w7 := HB6.out.trans (hb7.mono HB6.out.size); have HS7 : Aside0 (w7.cell? ⟨wr.heap.size, 0, none⟩ = some (.int .u8 f0) ∧ w7.cell? ⟨wr.heap.size, 1, none⟩ = some (.int .i64 f1) ∧ w7.cell? ⟨wr.heap.size, 2, none⟩ = some (.bool f2)) := ⟨cells3 hb57 HD5.out⟩; have HCC := kA_ hCc; have HCN := kA_ hcc; have HB7 := kA_ hb57; clear hb57 hRc hb7 hcc hCc)
       | (go_at_call 51; (with_reducible refine (r6_aggregable.calls ka f0 f2 Ac cc (columnR l0 f1) false w7 HCC.out HCN.out HKA.out).mono ?_); rintro e w8 ⟨rfl, hb8⟩; have hb58 : Below W5.heap.size W5 w8 := HB7.out.trans (hb8.mono HB7.out.size); have HS8 : Aside0 (w8.cell? ⟨wr.heap.size, 0, none⟩ = some (.int .u8 f0) ∧ w8.cell? ⟨wr.heap.size, 1, none⟩ = some (.int .i64 f1) ∧ w8.cell? ⟨wr.heap.size, 2, none⟩ = some (.bool f2)) := ⟨cells3 hb58 HD5.out⟩; have HB8 := kA_ hb58; clear hb58 hb8))
      go_wp2
      go_ret
      exact ⟨rfl, HW5B.out _ HB8.out⟩
     | true =>
      rw [hall, Bool.true_and] at he
      have HE3 := kA_ he
      rw [hall] at hka
      have HKA := kA_ hka
      clear hkc hka hall hhas he
      go_wp2_with fail
      rw [← hW5]
      clear hW5
      go_region_held3 (fun W' => (W'.cell? ⟨wr.heap.size, 0, none⟩ = some (.int .u8 f0) ∧ W'.cell? ⟨wr.heap.size, 1, none⟩ = some (.int .i64 f1) ∧ W'.cell? ⟨wr.heap.size, 2, none⟩ = some (.bool f2))) (first | (with_reducible exact HD5.out) | (with_reducible exact HE5.out) | (with_reducible exact HS6.out) | (with_reducible exact HS7.out) | (with_reducible exact HS8.out)) (first
       | (go_at_call 86; (with_reducible refine (r6_Column.calls A0 c0 l0 f1 true W5.drew (HC5.out _ HBE.out) HC0.out HHE.out).mono ?_); rintro e w6 ⟨rfl, hd6⟩; have HB6 : Aside0 (Below W5.heap.size W5 w6) := ⟨HBE.out.trans ((drawn_below hd6).mono HBE.out.size)⟩; have HS6 : Aside0 (w6.cell? ⟨wr.heap.size, 0, none⟩ = some (.int .u8 f0) ∧ w6.cell? ⟨wr.heap.size, 1, none⟩ = some (.int .i64 f1) ∧ w6.cell? ⟨wr.heap.size, 2, none⟩ = some (.bool f2)) := ⟨cells3 HB6.out HD5.out⟩; clear hd6)
       | (go_at_call 87; (with_reducible refine (r6_column.calls kc A0 c0 l0 f1 (columnR l0 f1) w6 (HC5.out _ HB6.out) HC0.out HKC2.out).mono ?_); rintro e w7 ⟨vc, rfl, hRc, hb7⟩; obtain ⟨Ac, cc, ec, hcc, hCc⟩ := Kd.R_reads hRc; subst ec; have hb57 : Below W5.heap.size W5 w7 := HB6.out.trans (hb7.mono HB6.out.size); have HS7 : Aside0 (w7.cell? ⟨wr.heap.size, 0, none⟩ = some (.int .u8 f0) ∧ w7.cell? ⟨wr.heap.size, 1, none⟩ = some (.int .i64 f1) ∧ w7.cell? ⟨wr.heap.size, 2, none⟩ = some (.bool f2)) := ⟨cells3 hb57 HD5.out⟩; have HCC := kA_ hCc; have HCN := kA_ hcc; have HB7 := kA_ hb57; clear hb57 hRc hb7 hcc hCc)
       | (go_at_call 51; (with_reducible refine (r6_aggregable.calls ka f0 f2 Ac cc (columnR l0 f1) true w7 HCC.out HCN.out HKA.out).mono ?_); rintro e w8 ⟨rfl, hb8⟩; have hb58 : Below W5.heap.size W5 w8 := HB7.out.trans (hb8.mono HB7.out.size); have HS8 : Aside0 (w8.cell? ⟨wr.heap.size, 0, none⟩ = some (.int .u8 f0) ∧ w8.cell? ⟨wr.heap.size, 1, none⟩ = some (.int .i64 f1) ∧ w8.cell? ⟨wr.heap.size, 2, none⟩ = some (.bool f2)) := ⟨cells3 hb58 HD5.out⟩; have HB8 := kA_ hb58; clear hb58 hb8))
      go_wp2
      have hlt := HLT.out
      have hk := HKQ.out
      have hx0 := HX0.out
      cases gk with
      | zero => omega
      | succ k1 =>
       go_roundg k1
       case measure => omega
       case rel => exact ⟨x + 1, by rw [HWR.out], ⟨by omega⟩, HE3, ⟨HW5B.out _ HB8.out⟩⟩
theorem cells2A {W W1 : World} {p q : Addr} {u0 u1 : Value} (hb : Below W.heap.size W W1) (h : W.cell? p = some u0 ∧ W.cell? q = some u1) : W1.cell? p = some u0 ∧ W1.cell? q = some u1 := ⟨cB_ hb h.1, cB_ hb h.2⟩
open Classical in
theorem list_step {cols : List Int} {l : List (List V)} {key : List V} {j : Nat} (hj : j < l.length) : listR cols (l.take (j + 1)) (nameOf key) = if keyOf cols l[j] = key then listR cols (l.take j) (nameOf key) ++ [l[j]] else listR cols (l.take j) (nameOf key) := by
 rw [List.take_succ_eq_append_getElem hj]
 unfold listR
 rw [List.filter_append]
 by_cases hk : keyOf cols l[j] = key
 · rw [if_pos hk, List.filter_cons, if_pos (by rw [hk]; simp)]
   rfl
 rw [if_neg hk, List.filter_cons, if_neg (by simp; exact fun e => hk (name_inj e))]
 simp
open Classical in
theorem rGroup_calls (A0 : Option Addr) (c0 : Nat) (l0 : List (List V)) (A1 : Option Addr) (c1 : Nat) (l1 : List Int) (A2 : Option Addr) (c2 : Nat) (l2 : List AggT) (w : World) (hr0 : Kd.C kRow w A0 l0.length l0) (hc0 : l0.length ≤ c0) (hr1 : Kd.C (Kd.int .i64) w A1 l1.length l1) (hc1 : l1.length ≤ c1) (hr2 : Kd.C kAgg w A2 l2.length l2) (hok : GroupOk l0 l1 l2) (hn : l0.length ≤ 1048586) (hcn : l1.length ≤ 1048576) (han : l2.length ≤ 1048576) (R : List (List V)) (er : Int) (hG : groupG l0 l1 l2 = (R, er)) :
 Calls Tryz.prog 23 #[.slice A0 l0.length c0, .slice A1 l1.length c1, .slice A2 l2.length c2] w fun e w' => ∃ v0_ : Value, e = .returned (.agg #[v0_, .int .i64 er]) ∧ Kd.V kRow 53 w' w.heap.size (fun k_ => (w.heap.size ≤ k_)) v0_ R ∧ Below w.heap.size w w' := by
 have HR0 := kA_ hr0
 have HC0 := kA_ hc0
 have HR1 := kA_ hr1
 have HC1 := kA_ hc1
 have HR2 := kA_ hr2
 have HOK := kA_ hok
 have HN := kA_ hn
 have HCN := kA_ hcn
 have HAN := kA_ han
 have HG := kA_ hG
 clear hr0 hc0 hr1 hc1 hr2 hok hn hcn han hG
 go_enter Tryz.func23, Tryz.ntmps23
 go_wp2_with (first | ((with_reducible refine gate_dst (N := 6) rfl ?_); refine box_event ?hg (N := 6) ?hd (cs := #[.slice none 0 0, .int .i64 0]) (t := 45) ?hr ?_; (case hd => rfl); (case hg => rfl); (case hr => first | (go_simp; done) | (go_simp; rfl)); intro q hq W hN hb1; have HB1 := kA_ hb1; have HQ := kA_ hq; have HN0 := kA_ hN; clear hb1 hq hN))
 refine (rGroupable_calls A0 c0 l0 A1 c1 l1 A2 c2 l2 W (Kd.C_below HR0.out HB1.out) HC0.out (Kd.C_below HR1.out HB1.out) (Kd.C_below HR2.out HB1.out) HOK.out _ rfl).mono ?_
 rintro e w3 ⟨rfl, hb3⟩
 have HN4 := kA_ ((hb3.block q (blk_lt HN0.out)).trans HN0.out)
 have HB4 := kA_ (HB1.out.trans (hb3.mono HB1.out.size))
 have HQW : Aside0 (w.heap.size ≤ q) := ⟨Nat.le_of_eq HQ.out.symm⟩
 clear hb3 HN0 HB1 HQ
 cases hgb : groupableB l0 l1 l2 with
 | false =>
  obtain ⟨hg1, hg2⟩ : [] = R ∧ 1 = er := by
   have h := HG.out
   unfold groupG at h
   rw [hgb, if_neg (by simp)] at h
   simpa using h
  subst hg1
  subst hg2
  clear hgb HG
  have y0 : w3.cell? ⟨q, 0, none⟩ = some (.slice none 0 0) := (blk_cell HN4.out 0).trans rfl
  have y1 : w3.cell? ⟨q, 1, none⟩ = some (.int .i64 0) := (blk_cell HN4.out 1).trans rfl
  have yf : ∀ j, w3.frozen? ⟨q, j, none⟩ = false := fun j => by have := HN4.out; simp [World.frozen?, this]
  go_wp2
  refine bodyPost_ret (results_cell_row rfl _ _ q 45 _ (0, 0) _ rfl (out2_cells HN4.out _ _) Tryz.underlying45 rfl a3_) rfl ?_
  exact ⟨_, rfl, Kd.V_nil _ _ _ _ _, out2_below HB4.out HQW.out _ _⟩
 | true =>
  have HRW : Aside0 (rowsOf l1 l0 l2 (keysR l1 l0) [] = (R, er)) := ⟨by
   have h := HG.out
   unfold groupG at h
   rw [hgb, if_pos rfl] at h
   exact h⟩
  obtain ⟨hv, hin, hag⟩ := groupable_parts hgb
  have HAG : Aside0 (∀ a ∈ l2, 0 ≤ a.f0 ∧ 0 ≤ a.f1) := ⟨fun a ha => ⟨HOK.out.fn a ha, aggOk_col (hag a ha)⟩⟩
  have HVAL : Aside0 (∀ a ∈ l2, ∀ row ∈ l0, okInt (rd_T36 row a.f1)) := ⟨fun a ha row hr => by
   have := (HOK.out.vals a ha row hr).1 _ (List.mem_singleton.2 rfl)
   exact ⟨this.2.2.1, this.2.2.2⟩⟩
  have HCOL : Aside0 (∀ row ∈ l0, ∀ n ∈ l1, 0 ≤ n ∧ n < (row.length : Int)) := ⟨has_cols hv hin⟩
  obtain ⟨kk, hkk⟩ := (rkeys_ev HOK.out hv hin).rounds
  have HKE := kA_ hkk
  clear hkk hv hin hag hgb HG
  go_wp2_with fail
  refine (r6_keysOf.calls kk A0 c0 l0 A1 c1 l1 (keysR l1 l0) w3 (Kd.C_below HR0.out HB4.out) HC0.out (Kd.C_below HR1.out HB4.out) HC1.out HKE.out).mono ?_
  rintro e wK ⟨vk, rfl, hVk, hbK⟩
  obtain ⟨Ak, ck, ek⟩ := Kd.V_slice hVk
  subst ek
  have HKC := kA_ (Kd.V_reads' hVk).2.2
  have HNK := kA_ ((hbK.block q (blk_lt HN4.out)).trans HN4.out)
  have HBK := kA_ (HB4.out.trans (hbK.mono HB4.out.size))
  clear hVk hbK HN4 HB4 HKE
  obtain ⟨keys, hkeys⟩ : ∃ keys, keys = keysR l1 l0 := ⟨_, rfl⟩
  have HKN := kA_ HOK.out.keysn
  have HKM : Aside0 (∀ key ∈ keys, key.length = l1.length) := ⟨fun key hk => by rw [hkeys] at hk; exact key_len hk⟩
  rw [← hkeys] at HKC HKN HRW
  rw [← hkeys]
  clear hkeys
  go_wp2
  go_loopg [8, 9] keys.length (fun kq v8 v9 W => ∃ x : Int, v9 = .int .i64 x ∧ Aside0 (0 ≤ x ∧ x ≤ keys.length ∧ (kq : Int) = keys.length - x) ∧ Aside0 (∃ acc : List (List V), kRow.R 53 W wK.heap.size (fun _ => True) v8 acc ∧ rowsOf l1 l0 l2 (keys.drop x.toNat) acc = (R, er) ∧ acc.length ≤ x.toNat) ∧ Aside0 (Below wK.heap.size wK W))
  case atStart => exact ⟨0, rfl, ⟨by omega⟩, ⟨[], Kd.R_nil _ _ _ _ _, by simpa using HRW.out, Nat.le_refl _⟩, ⟨Below.refl _ _⟩⟩
  case round =>
   clear HRW
   obtain ⟨x, rfl, HX, HE, HB⟩ := hrel
   obtain ⟨acc, hO, hacc, hal⟩ := HE.out
   have HO := kA_ hO
   have HACC := kA_ hacc
   have HAL := kA_ hal
   clear HE hO hacc hal
   obtain ⟨hx0, hx1, hkq⟩ := HX.out
   by_cases hlt : x < (keys.length : Int)
   rotate_left
   · have d1 : decide (x < (keys.length : Int)) = false := decide_eq_false hlt
     obtain ⟨hf1, hf2⟩ : acc = R ∧ 0 = er := by
      have h := HACC.out
      rw [List.drop_of_length_le (by omega)] at h
      simpa [rowsOf] using h
     subst hf1
     subst hf2
     have HN9 := kA_ ((HB.out.block q (blk_lt HNK.out)).trans HNK.out)
     have HB9 := kA_ (HBK.out.trans (HB.out.mono HBK.out.size))
     have HKS2 := kA_ HBK.out.size
     clear hx0 hx1 hkq hlt HX HACC HAL
     have y0 : wr.cell? ⟨q, 0, none⟩ = some (.slice none 0 0) := (blk_cell HN9.out 0).trans rfl
     have y1 : wr.cell? ⟨q, 1, none⟩ = some (.int .i64 0) := (blk_cell HN9.out 1).trans rfl
     have yf : ∀ j, wr.frozen? ⟨q, j, none⟩ = false := fun j => by have := HN9.out; simp [World.frozen?, this]
     obtain ⟨Ag, cg, eg, _⟩ := Kd.R_reads HO.out
     subst eg
     go_wp2
     refine bodyPost_ret (results_cell_row rfl _ _ q 45 _ (0, 0) _ rfl (out2_cells HN9.out _ _) Tryz.underlying45 rfl a3_) rfl ?_
     refine ⟨_, rfl, ?_, out2_below HB9.out HQW.out _ _⟩
     have hqk := blk_lt HNK.out
     have h1 := Kd.R_mono (Kd.R_bound HO.out) (ok' := fun k => wK.heap.size ≤ k) (fun k hk => hk.2.1)
     have h2 := Kd.R_far (p := ⟨q, 0, none⟩) h1 (fun k hk e => by
      have e : k = q := e
      omega) (Value.slice Ag acc.length cg)
     have h3 := Kd.R_far (p := ⟨q, 1, none⟩) h2 (fun k hk e => by
      have e : k = q := e
      omega) (Value.int .i64 0)
     exact Kd.R_V (base' := w.heap.size) (Kd.R_mono h3 (fun k hk => Nat.le_trans HKS2.out hk))
   have d1 : decide (x < (keys.length : Int)) = true := decide_eq_true hlt
   have d2 : decide (0 ≤ x) = true := decide_eq_true hx0
   obtain ⟨ak, Ar, cr, e, hx_0, hlc, hrow⟩ := at_L4 HKC.out x hx0 hlt
   cases e
   replace hx_0 := cB_ HB.out hx_0
   have hi : x.toNat < keys.length := by omega
   have hrd : rd_L4 keys x = keys[x.toNat] := by simp [rd_L4, List.getElem?_eq_getElem hi]
   have hkl := HKM.out (rd_L4 keys x) a65_
   have htk : keys.drop x.toNat = rd_L4 keys x :: keys.drop (x + 1).toNat := by
    rw [drop_cons _ _ hi, hrd, show (x + 1).toNat = x.toNat + 1 by omega]
   obtain ⟨key, hkey⟩ : ∃ key, key = rd_L4 keys x := ⟨_, rfl⟩
   rw [← hkey] at hx_0 hlc hrow hkl htk
   rw [htk] at HACC
   have HROW := kA_ (Kd.C_below hrow HB.out)
   have HLC := kA_ hlc
   have HKL := kA_ hkl
   have HXC := kA_ hx_0
   have HLT := kA_ hlt
   have HKQ := kA_ hkq
   have HX0 := kA_ hx0
   have HWR : Aside0 (wrap64 (x + 1) = x + 1) := ⟨by have := HKN.out; unfold wrap64; omega⟩
   have HBW := kA_ (HBK.out.trans (HB.out.mono HBK.out.size))
   clear hrow hlc htk hkey hrd hi hkq hkl hx_0
   go_wp2
   obtain ⟨wO, hwO⟩ : ∃ wO, wO = wr := ⟨_, rfl⟩
   subst hwO
   obtain ⟨gO, hgO⟩ : ∃ gO, gO = gk := ⟨_, rfl⟩
   subst hgO
   have HRI : Aside0 (kRow.C wO A0 l0.length l0) := ⟨Kd.C_below HR0.out HBW.out⟩
   go_loopg [10, 11] l0.length (fun kq v10 v11 W => ∃ y : Int, v11 = .int .i64 y ∧ Aside0 (0 ≤ y ∧ y ≤ l0.length ∧ (kq : Int) = l0.length - y) ∧ Aside0 ((relK wO).kd.R 53 W wO.heap.size (fun _ => True) v10 (listR l1 (l0.take y.toNat) (nameOf key))) ∧ Aside0 (Below wO.heap.size wO W))
   case atStart => exact ⟨0, rfl, ⟨by omega⟩, ⟨Kd.R_nil _ _ _ _ _⟩, ⟨Below.refl _ _⟩⟩
   case round =>
    obtain ⟨y, rfl, HY, HL, HBI⟩ := hrel
    obtain ⟨hy0, hy1, hkq⟩ := HY.out
    by_cases hly : y < (l0.length : Int)
    rotate_left
    · have d3 : decide (y < (l0.length : Int)) = false := decide_eq_false hly
      have hx_0 := cB_ HBI.out HXC.out
      have HL2 : Aside0 ((relK wO).kd.R 53 wr wO.heap.size (fun _ => True) u10 (listR l1 l0 (nameOf key))) := ⟨by
       have h := HL.out
       rw [List.take_of_length_le (by omega)] at h
       exact h⟩
      clear HY hy0 hy1 hkq hly HL
      obtain ⟨Ag, cg, eg, hlg, hCg⟩ := Kd.R_reads HL2.out
      subst eg
      have HLG := kA_ hlg
      have HCG := kA_ (relK_C hCg HBI.out)
      clear hlg hCg
      obtain ⟨⟨Rr, er2⟩, hrr⟩ : ∃ Q, rowOf (listR l1 l0 (nameOf key)) l2 key = Q := ⟨_, rfl⟩
      have HRR := kA_ hrr
      have hacc := HACC.out
      simp only [rowsOf] at hacc
      rw [hrr] at hacc
      have HACC2 := kA_ hacc
      have HBWI := kA_ (HBW.out.trans (HBI.out.mono HBW.out.size))
      clear hrr hacc HACC
      go_wp2_with fail
      refine (rGroupRow_calls Ar cr key Ag cg (listR l1 l0 (nameOf key)) A2 c2 l2 wr (Kd.C_below HROW.out HBI.out) HLC.out HCG.out HLG.out (Kd.C_below HR2.out HBWI.out) (by rw [HKL.out]; exact HCN.out) (Nat.le_trans (list_len _ _ _) (by have := HN.out; omega)) HAN.out HAG.out (fun a ha row hr => HVAL.out a ha row (list_sub row hr)) Rr er2 HRR.out).mono ?_
      rintro e wR ⟨vr, rfl, hRr, hbr⟩
      have HRT := kA_ hRr
      have HBR := kA_ hbr
      have HBOR := kA_ (HBI.out.trans (hbr.mono HBI.out.size))
      have HBKR := kA_ (HB.out.trans (HBOR.out.mono HB.out.size))
      clear hRr hbr hx_0
      by_cases hr3 : er2 = 0
      rotate_left
      · obtain ⟨hgr, hge⟩ : [] = R ∧ er2 = er := by
         have h := HACC2.out
         rw [if_neg hr3] at h
         simpa using h
        subst hgr
        subst hge
        have z3 : (er2 != 0) = true := by simp [hr3]
        have z4 : decide (er2 = 0) = false := decide_eq_false hr3
        have HN9 := kA_ ((HBKR.out.block q (blk_lt HNK.out)).trans HNK.out)
        have HBZ := kA_ (HBK.out.trans (HBKR.out.mono HBK.out.size))
        have y0 : wR.cell? ⟨q, 0, none⟩ = some (.slice none 0 0) := (blk_cell HN9.out 0).trans rfl
        have y1 : wR.cell? ⟨q, 1, none⟩ = some (.int .i64 0) := (blk_cell HN9.out 1).trans rfl
        have yf : ∀ j, wR.frozen? ⟨q, j, none⟩ = false := fun j => by have := HN9.out; simp [World.frozen?, this]
        clear hr3 HACC2
        go_wp2
        refine bodyPost_ret (results_cell_row rfl _ _ q 45 _ (0, 0) _ rfl (out2_cells HN9.out _ _) Tryz.underlying45 rfl a3_) rfl ?_
        exact ⟨_, rfl, Kd.V_nil _ _ _ _ _, out2_below HBZ.out HQW.out _ _⟩
      have HNX : Aside0 (rowsOf l1 l0 l2 (keys.drop (x + 1).toNat) (acc ++ [Rr]) = (R, er)) := ⟨by
       have h := HACC2.out
       rw [if_pos hr3] at h
       exact h⟩
      subst hr3
      clear HACC2
      obtain ⟨Az, cz, ez⟩ := Kd.R_slice HRT.out
      subst ez
      have HO9 := kA_ (Kd.R_below HO.out HBOR.out)
      have HM9 := kA_ (Kd.R_mono (Kd.R_lower (Kd.R_bound HRT.out) (Nat.le_trans HB.out.size HBI.out.size)) (ok' := fun k => wr.heap.size ≤ k) (fun k hk => hk.2.1))
      have HFR : Aside0 (∀ k, wr.heap.size ≤ k → True ∧ some k ≠ u8.ownBlock) := ⟨fun k hk => ⟨trivial, fun e => by have h1 := Kd.R_lt HO.out k e.symm; have h2 := HBI.out.size; omega⟩⟩
      have HLEN2 : Aside0 ((acc.length + 1) * 24 ≤ 140737488355328) := ⟨by
       have := HKN.out
       have := HAL.out
       have := HLT.out
       omega⟩
      go_wp2_with (at_builtin; refine Kd.R_append kRow (w0 := wK) wK.heap.size rfl (.tmp 67) (.tmp 69) 22 53 (.slice none 0 0) 24 rfl Tryz.underlying22 infoRow rfl (Nat.le_refl 1) (by decide) _ _ Rr [.slice Az Rr.length cz] (fun _ => True) (fun k => wr.heap.size ≤ k) rfl rfl ⟨_, rfl, HM9.out⟩ HFR.out (fun _ _ => trivial) HO9.out HBKR.out HBKR.out.size HLEN2.out ?_; intro v6 w6 hR4 hb4 hg4 hat4; have HO4 := kA_ hR4; have HB4 := kA_ hb4; clear hR4 hb4 hg4 hat4)
      have hk := HKQ.out
      have hlt := HLT.out
      have hx0 := HX0.out
      cases gO with
      | zero => omega
      | succ k1 =>
       go_roundg k1
       case measure => omega
       case rel => exact ⟨x + 1, by rw [HWR.out], ⟨by omega⟩, ⟨_, HO4.out, HNX.out, a94_⟩, HB4⟩
    have d3 : decide (y < (l0.length : Int)) = true := decide_eq_true hly
    have d4 : decide (0 ≤ y) = true := decide_eq_true hy0
    have hx_0 := cB_ HBI.out HXC.out
    obtain ⟨ad, Aw, cw, e, hy_0, hlw, hrw⟩ := at_L4 HRI.out y hy0 hly
    cases e
    have HMW : Aside0 ((relK wO).kd.M wO wO.heap.size (fun _ => False) (rd_L4 l0 y) [.slice Aw (rd_L4 l0 y).length cw]) := ⟨⟨Aw, cw, rfl, hlw, hrw⟩⟩
    replace hy_0 := cB_ HBI.out hy_0
    have hj : y.toNat < l0.length := by omega
    have hrd : rd_L4 l0 y = l0[y.toNat] := by simp [rd_L4, List.getElem?_eq_getElem hj]
    have hmem : rd_L4 l0 y ∈ l0 := by rw [hrd]; exact List.getElem_mem hj
    have hls := list_step (cols := l1) (key := key) hj
    rw [← hrd, show y.toNat + 1 = (y + 1).toNat by omega] at hls
    have hcol := HCOL.out _ hmem
    obtain ⟨row, hrow⟩ : ∃ row, row = rd_L4 l0 y := ⟨_, rfl⟩
    rw [← hrow] at hy_0 hlw hrw hls hcol HMW
    obtain ⟨kp, hkp⟩ := (rpick_ev (by have := HCN.out; omega) hcol).rounds
    obtain ⟨ks, hks⟩ := (sameRows_ev (keyOf l1 row) key (by rw [keyOf, List.length_map]; have := HCN.out; omega)).rounds
    have HKP := kA_ hkp
    have HLS := kA_ hls
    have HRWO := kA_ (Kd.C_below hrw HBI.out)
    have HLW := kA_ hlw
    have HLY := kA_ hly
    have HKQ2 := kA_ hkq
    have HY0 := kA_ hy0
    have HWY : Aside0 (wrap64 (y + 1) = y + 1) := ⟨by have := HN.out; unfold wrap64; omega⟩
    have HLEN : Aside0 (((listR l1 (l0.take y.toNat) (nameOf key)).length + 1) * 24 ≤ 140737488355328) := ⟨by
     have h1 := list_len l1 (l0.take y.toNat) (nameOf key)
     rw [List.length_take] at h1
     have := HN.out
     omega⟩
    clear hkp hls hrw hlw hkq hcol hmem hrd hj hrow
    have HD5 : Aside0 (wr.cell? (ad.add y.toNat) = some (.slice Aw row.length cw) ∧ wr.cell? (ak.add x.toNat) = some (.slice Ar key.length cr)) := ⟨⟨hy_0, hx_0⟩⟩
    have HE5 : Aside0 (wr.drew.cell? (ad.add y.toNat) = some (.slice Aw row.length cw) ∧ wr.drew.cell? (ak.add x.toNat) = some (.slice Ar key.length cr)) := ⟨HD5.out⟩
    have HBE : Aside0 (Below wr.heap.size wr wr.drew) := ⟨(Below.refl _ wr).drew⟩
    have HROW2 : Aside0 (∀ W', Below wr.heap.size wr W' → kV.C W' Ar key.length key) := ⟨fun W' hb => Kd.C_below HROW.out (HBI.out.trans (hb.mono HBI.out.size))⟩
    have HCOLS : Aside0 ((Kd.int .i64).C wr.drew A1 l1.length l1) := ⟨Kd.C_below HR1.out (HBW.out.trans ((HBI.out.trans (HBE.out.mono HBI.out.size)).mono HBW.out.size))⟩
    cases hsame : decide (keyOf l1 row = key) with
    | true =>
     rw [hsame] at hks
     have HKS := kA_ hks
     have HLS2 : Aside0 (listR l1 (l0.take (y + 1).toNat) (nameOf key) = listR l1 (l0.take y.toNat) (nameOf key) ++ [row]) := ⟨by rw [HLS.out, if_pos (of_decide_eq_true hsame)]⟩
     clear hks hsame HLS
     go_wp2_with fail
     go_region_held3 (fun W' => (W'.cell? (ad.add y.toNat) = some (.slice Aw row.length cw) ∧ W'.cell? (ak.add x.toNat) = some (.slice Ar key.length cr))) (first | (with_reducible exact HD5.out) | (with_reducible exact HE5.out) | (with_reducible exact HS7.out) | (with_reducible exact HS8.out)) (first
      | (go_at_call 60; (with_reducible refine (r6_Pick.calls kp Aw cw row A1 c1 l1 (keyOf l1 row) wr.drew (Kd.C_below HRWO.out HBE.out) HLW.out HCOLS.out HC1.out HKP.out).mono ?_); rintro e w7 ⟨vc, rfl, hRc, hb7⟩; obtain ⟨Ac, cc, ec, hcc, hCc⟩ := Kd.R_reads hRc; subst ec; have HB7 := kA_ (HBE.out.trans (hb7.mono HBE.out.size)); have HS7 := kA_ (cells2A HB7.out HD5.out); have HCC := kA_ hCc; have HCNN := kA_ hcc; clear hRc hb7 hcc hCc)
      | (go_at_call 50; (with_reducible refine (r1_SameRows.calls ks Ac cc (keyOf l1 row) Ar cr key true w7 HCC.out HCNN.out (HROW2.out _ HB7.out) HLC.out HKS.out).mono ?_); rintro e w8 ⟨rfl, hb8⟩; have HB8 := kA_ (HB7.out.trans (hb8.mono HB7.out.size)); have HS8 := kA_ (cells2A HB8.out HD5.out); clear hb8))
     have hy_0 := HS8.out.1
     have HK9 := kA_ (Kd.R_below HL.out HB8.out)
     have HI9 := kA_ (HBI.out.trans (HB8.out.mono HBI.out.size))
     go_wp2_with (at_builtin; refine Kd.R_append (relK wO).kd (w0 := wO) wO.heap.size rfl (.tmp 46) (.tmp 51) 22 53 (.slice none 0 0) 24 rfl Tryz.underlying22 infoRow rfl (Nat.le_refl 1) (by decide) _ (listR l1 (l0.take y.toNat) (nameOf key)) row [.slice Aw row.length cw] (fun _ => True) (fun _ => False) rfl rfl HMW.out (fun _ h => h.elim) (fun _ _ => trivial) HK9.out HI9.out HI9.out.size HLEN.out ?_; intro v6 w6 hR4 hb4 hg4 hat4; have HO4 := kA_ hR4; have HB4 := kA_ hb4; clear hR4 hb4 hg4 hat4)
     have hk := HKQ2.out
     have hly := HLY.out
     have hy0 := HY0.out
     cases gk with
     | zero => omega
     | succ k1 =>
      go_roundg k1
      case measure => omega
      case rel => exact ⟨y + 1, by rw [HWY.out], ⟨by omega⟩, ⟨by rw [HLS2.out]; exact HO4.out⟩, HB4⟩
    | false =>
     rw [hsame] at hks
     have HKS := kA_ hks
     have HLS2 : Aside0 (listR l1 (l0.take (y + 1).toNat) (nameOf key) = listR l1 (l0.take y.toNat) (nameOf key)) := ⟨by rw [HLS.out, if_neg (of_decide_eq_false hsame)]⟩
     clear hks hsame HLS
     go_wp2_with fail
     go_region_held3 (fun W' => (W'.cell? (ad.add y.toNat) = some (.slice Aw row.length cw) ∧ W'.cell? (ak.add x.toNat) = some (.slice Ar key.length cr))) (first | (with_reducible exact HD5.out) | (with_reducible exact HE5.out) | (with_reducible exact HS7.out) | (with_reducible exact HS8.out)) (first
      | (go_at_call 60; (with_reducible refine (r6_Pick.calls kp Aw cw row A1 c1 l1 (keyOf l1 row) wr.drew (Kd.C_below HRWO.out HBE.out) HLW.out HCOLS.out HC1.out HKP.out).mono ?_); rintro e w7 ⟨vc, rfl, hRc, hb7⟩; obtain ⟨Ac, cc, ec, hcc, hCc⟩ := Kd.R_reads hRc; subst ec; have HB7 := kA_ (HBE.out.trans (hb7.mono HBE.out.size)); have HS7 := kA_ (cells2A HB7.out HD5.out); have HCC := kA_ hCc; have HCNN := kA_ hcc; clear hRc hb7 hcc hCc)
      | (go_at_call 50; (with_reducible refine (r1_SameRows.calls ks Ac cc (keyOf l1 row) Ar cr key false w7 HCC.out HCNN.out (HROW2.out _ HB7.out) HLC.out HKS.out).mono ?_); rintro e w8 ⟨rfl, hb8⟩; have HB8 := kA_ (HB7.out.trans (hb8.mono HB7.out.size)); have HS8 := kA_ (cells2A HB8.out HD5.out); clear hb8))
     have HK9 := kA_ (Kd.R_below HL.out HB8.out)
     have HI9 := kA_ (HBI.out.trans (HB8.out.mono HBI.out.size))
     go_wp2
     have hk := HKQ2.out
     have hly := HLY.out
     have hy0 := HY0.out
     cases gk with
     | zero => omega
     | succ k1 =>
      go_roundg k1
      case measure => omega
      case rel => exact ⟨y + 1, by rw [HWY.out], ⟨by omega⟩, ⟨by rw [HLS2.out]; exact HK9.out⟩, HI9⟩
open Classical in
noncomputable def r6_Group.f (l0 : List (List V)) (l1 : List Int) (l2 : List AggT) : Option (List (List V) × Int) := if GroupOk l0 l1 l2 ∧ l0.length ≤ 1048586 ∧ l1.length ≤ 1048576 ∧ l2.length ≤ 1048576 then some (groupG l0 l1 l2) else none
theorem r6_Group.calls (A0 : Option Addr) (c0 : Nat) (l0 : List (List V)) (A1 : Option Addr) (c1 : Nat) (l1 : List Int) (A2 : Option Addr) (c2 : Nat) (l2 : List AggT) (r1 : List (List V)) (r2 : Int) (w : World) (hr0 : Kd.C kRow w A0 l0.length l0) (hc0 : l0.length ≤ c0) (hr1 : Kd.C (Kd.int .i64) w A1 l1.length l1) (hc1 : l1.length ≤ c1) (hr2 : Kd.C kAgg w A2 l2.length l2) (hc2 : l2.length ≤ c2) (h : r6_Group.f l0 l1 l2 = some (r1, r2)) :
 Calls Tryz.prog 23 #[.slice A0 l0.length c0, .slice A1 l1.length c1, .slice A2 l2.length c2] w fun e w' => ∃ v0_ : Value, e = .returned (.agg #[v0_, .int .i64 r2]) ∧ Kd.V kRow 53 w' w.heap.size (fun k_ => (w.heap.size ≤ k_)) v0_ r1 ∧ Below w.heap.size w w' := by
 unfold r6_Group.f at h
 split at h
 case isFalse => cases h
 rename_i hok
 exact rGroup_calls A0 c0 l0 A1 c1 l1 A2 c2 l2 w hr0 hc0 hr1 hc1 hr2 hok.1 hok.2.1 hok.2.2.1 hok.2.2.2 r1 r2 (Option.some.inj h)
section
attribute [local go_sem] max2_int min2_int max_two min_two max_three min_three max_four min_four
def r6_SameOutcomes.f (k : Nat) (l0_0 : List (List (S36))) (a0_1 : Int) (l1_0 : List (List (S36))) (a1_1 : Int) : Option (Bool) := if a0_1 = a1_1 then ((r6_SameLists.f k l0_0 l1_0).bind fun t341 => (some t341)) else (some false)
theorem r6_SameOutcomes.calls (k : Nat) (A0_0 : Option Addr) (c0_0 : Nat) (l0_0 : List (List (S36))) (a0_1 : Int) (A1_0 : Option Addr) (c1_0 : Nat) (l1_0 : List (List (S36))) (a1_1 : Int) (r : Bool) (w : World) (hr0_0 : Kd.C (Kd.slice 36 k36) w A0_0 l0_0.length l0_0) (hc0_0 : l0_0.length ≤ c0_0) (hr1_0 : Kd.C (Kd.slice 36 k36) w A1_0 l1_0.length l1_0) (hc1_0 : l1_0.length ≤ c1_0) (h : r6_SameOutcomes.f k l0_0 a0_1 l1_0 a1_1 = some r) :
 Calls Tryz.prog 24 #[.agg #[.slice A0_0 l0_0.length c0_0, .int .i64 a0_1], .agg #[.slice A1_0 l1_0.length c1_0, .int .i64 a1_1]] w fun e w' => e = .returned (.bool r) ∧ Below w.heap.size w w' := by
 have hu45 := Tryz.underlying45
 have HR0_0 := kA_ hr0_0
 have HC0_0 := kA_ hc0_0
 clear hr0_0 hc0_0
 have HR1_0 := kA_ hr1_0
 have HC1_0 := kA_ hc1_0
 clear hr1_0 hc1_0
 have HB := kA_ (Below.refl w.heap.size w)
 have H : (if a0_1 = a1_1 then ((r6_SameLists.f k l0_0 l1_0).bind fun t341 => (some t341)) else (some false)) = some r := h
 clear h
 by_cases c3 : a0_1 = a1_1
 rotate_left
 · rw [if_neg c3] at H
   have c3b0 : (a0_1 == a1_1) = false := beq_eq_false_iff_ne.mpr c3
   have c3b1 : (a0_1 != a1_1) = true := bne_iff_ne.mpr c3
   obtain rfl := Option.some.inj H
   go_enter Tryz.func24, Tryz.ntmps24
   go_wp2_with (first | ((with_reducible refine gate_dst (N := 2) rfl ?_); refine box_event ?hg (N := 2) ?hd (cs := #[.slice A0_0 l0_0.length c0_0, .int .i64 a0_1]) (t := 45) ?hr ?_; (case hd => rfl); (case hg => rfl); (case hr => first | (go_simp; done) | (go_simp; rfl)); intro gb339 hg w11 hbox hb; have n0_ := kA_ (below_step a0_ hb); have n1_ := kA_ (hbox); have n2_ := kA_ ((a7_ : w.heap.size ≤ gb339)); have n3_ := kA_ ((a7_ : w.heap.size ≤ gb339)); clear HB; have HB := n0_; have BK339 := n1_; have GW339 := n2_; have GE339 := n3_; clear n0_ n1_ n2_ n3_; clear hb hbox hg) | ((with_reducible refine gate_dst (N := 3) rfl ?_); refine box_event ?hg (N := 3) ?hd (cs := #[.slice A1_0 l1_0.length c1_0, .int .i64 a1_1]) (t := 45) ?hr ?_; (case hd => rfl); (case hg => rfl); (case hr => first | (go_simp; done) | (go_simp; rfl)); intro gb340 hg w12 hbox hb; have n0_ := kA_ (blk_below (g := gb339) (o := .cells #[.slice A0_0 l0_0.length c0_0, .int .i64 a0_1] 45 (0, 0)) a36_ hb); have n1_ := kA_ (below_step a39_ hb); have n2_ := kA_ (hbox); have n3_ := kA_ ((by rw [hg]; exact (below_size a39_) : w.heap.size ≤ gb340)); have n4_ := kA_ ((by rw [hg]; exact (below_size a39_) : w.heap.size ≤ gb340)); have n5_ := kA_ ((by rw [hg]; exact Nat.ne_of_lt (blk_lt (g := gb339) (o := .cells #[.slice A0_0 l0_0.length c0_0, .int .i64 a0_1] 45 (0, 0)) a36_) : gb339 ≠ gb340)); have n6_ := kA_ ((by rw [hg]; exact Nat.ne_of_gt (blk_lt (g := gb339) (o := .cells #[.slice A0_0 l0_0.length c0_0, .int .i64 a0_1] 45 (0, 0)) a36_) : gb340 ≠ gb339)); clear BK339; clear HB; have BK339 := n0_; have HB := n1_; have BK340 := n2_; have GW340 := n3_; have GE340 := n4_; have NB339_340 := n5_; have NB340_339 := n6_; clear n0_ n1_ n2_ n3_ n4_ n5_ n6_; clear hb hbox hg; have hnb13 := NB339_340.out; have hnc13 := NB340_339.out; have hcz14_0 : w12.cell? ⟨gb339, 0, none⟩ = some (.slice A0_0 l0_0.length c0_0) := (blk_cell BK339.out 0).trans rfl; have hcz14_1 : w12.cell? ⟨gb339, 1, none⟩ = some (.int .i64 a0_1) := (blk_cell BK339.out 1).trans rfl; have hfz14_0 := blk_frozen BK339.out 0; have hfz14_1 := blk_frozen BK339.out 1; have hcz15_0 : w12.cell? ⟨gb340, 0, none⟩ = some (.slice A1_0 l1_0.length c1_0) := (blk_cell BK340.out 0).trans rfl; have hcz15_1 : w12.cell? ⟨gb340, 1, none⟩ = some (.int .i64 a1_1) := (blk_cell BK340.out 1).trans rfl; have hfz15_0 := blk_frozen BK340.out 0; have hfz15_1 := blk_frozen BK340.out 1))
   go_ret
   exact ⟨a5_, a83_⟩
 rw [if_pos c3] at H
 have c3b0 : (a0_1 == a1_1) = true := beq_iff_eq.mpr c3
 have c3b1 : (a0_1 != a1_1) = false := bne_eq_false_iff_eq.mpr c3
 clear c3
 replace H := Option.bind_eq_some_iff.mp H
 obtain ⟨t341, A40, H⟩ := H
 replace H : (some t341) = some r := H
 have A4 := kA_ A40
 clear A40
 obtain rfl := Option.some.inj H
 go_enter Tryz.func24, Tryz.ntmps24
 go_wp2_with (first | ((with_reducible refine gate_dst (N := 2) rfl ?_); refine box_event ?hg (N := 2) ?hd (cs := #[.slice A0_0 l0_0.length c0_0, .int .i64 a0_1]) (t := 45) ?hr ?_; (case hd => rfl); (case hg => rfl); (case hr => first | (go_simp; done) | (go_simp; rfl)); intro gb339 hg w5 hbox hb; have n0_ := kA_ (below_step a0_ hb); have n1_ := kA_ (hbox); have n2_ := kA_ ((a7_ : w.heap.size ≤ gb339)); have n3_ := kA_ ((a7_ : w.heap.size ≤ gb339)); clear HB; have HB := n0_; have BK339 := n1_; have GW339 := n2_; have GE339 := n3_; clear n0_ n1_ n2_ n3_; clear hb hbox hg) | ((with_reducible refine gate_dst (N := 3) rfl ?_); refine box_event ?hg (N := 3) ?hd (cs := #[.slice A1_0 l1_0.length c1_0, .int .i64 a1_1]) (t := 45) ?hr ?_; (case hd => rfl); (case hg => rfl); (case hr => first | (go_simp; done) | (go_simp; rfl)); intro gb340 hg w6 hbox hb; have n0_ := kA_ (blk_below (g := gb339) (o := .cells #[.slice A0_0 l0_0.length c0_0, .int .i64 a0_1] 45 (0, 0)) a36_ hb); have n1_ := kA_ (below_step a39_ hb); have n2_ := kA_ (hbox); have n3_ := kA_ ((by rw [hg]; exact (below_size a39_) : w.heap.size ≤ gb340)); have n4_ := kA_ ((by rw [hg]; exact (below_size a39_) : w.heap.size ≤ gb340)); have n5_ := kA_ ((by rw [hg]; exact Nat.ne_of_lt (blk_lt (g := gb339) (o := .cells #[.slice A0_0 l0_0.length c0_0, .int .i64 a0_1] 45 (0, 0)) a36_) : gb339 ≠ gb340)); have n6_ := kA_ ((by rw [hg]; exact Nat.ne_of_gt (blk_lt (g := gb339) (o := .cells #[.slice A0_0 l0_0.length c0_0, .int .i64 a0_1] 45 (0, 0)) a36_) : gb340 ≠ gb339)); clear BK339; clear HB; have BK339 := n0_; have HB := n1_; have BK340 := n2_; have GW340 := n3_; have GE340 := n4_; have NB339_340 := n5_; have NB340_339 := n6_; clear n0_ n1_ n2_ n3_ n4_ n5_ n6_; clear hb hbox hg; have hnb7 := NB339_340.out; have hnc7 := NB340_339.out; have hcz8_0 : w6.cell? ⟨gb339, 0, none⟩ = some (.slice A0_0 l0_0.length c0_0) := (blk_cell BK339.out 0).trans rfl; have hcz8_1 : w6.cell? ⟨gb339, 1, none⟩ = some (.int .i64 a0_1) := (blk_cell BK339.out 1).trans rfl; have hfz8_0 := blk_frozen BK339.out 0; have hfz8_1 := blk_frozen BK339.out 1; have hcz9_0 : w6.cell? ⟨gb340, 0, none⟩ = some (.slice A1_0 l1_0.length c1_0) := (blk_cell BK340.out 0).trans rfl; have hcz9_1 : w6.cell? ⟨gb340, 1, none⟩ = some (.int .i64 a1_1) := (blk_cell BK340.out 1).trans rfl; have hfz9_0 := blk_frozen BK340.out 0; have hfz9_1 := blk_frozen BK340.out 1) | (go_at_call 19; (with_reducible refine (r6_SameLists.calls k _ _ l0_0 _ _ l1_0 t341 _ ?side1 ?side2 ?side3 ?side4 A4.out).mono ?_); (case side1 => repeat (first | exact (Kd.C_below HR0_0.out HB.out) | (with_reducible refine Kd.cA_ ?_ _) | (with_reducible refine Kd.cN_ ?_ _) | (with_reducible refine Kd.cD_ ?_))); (case side2 => exact HC0_0.out); (case side3 => repeat (first | exact (Kd.C_below HR1_0.out HB.out) | (with_reducible refine Kd.cA_ ?_ _) | (with_reducible refine Kd.cN_ ?_ _) | (with_reducible refine Kd.cD_ ?_))); (case side4 => exact HC1_0.out); rintro e w10 ⟨rfl, hb⟩; have n0_ := kA_ (blk_below (g := gb339) (o := .cells #[.slice A0_0 l0_0.length c0_0, .int .i64 a0_1] 45 (0, 0)) a36_ hb); have n1_ := kA_ (blk_below (g := gb340) (o := .cells #[.slice A1_0 l1_0.length c1_0, .int .i64 a1_1] 45 (0, 0)) (by (with_reducible repeat (first | refine blk_drewN ?_ _ | refine blk_drew ?_ | refine blk_alloc ?_ _)); exact BK340.out) hb); have n2_ := kA_ (below_step (by repeat (first | (with_reducible first | exact HB.out | apply bA_ | apply bN_ | apply b1_ | refine below_set ?_ GE339.out | refine below_set ?_ GE340.out) | exact HB.out)) hb); clear BK339; clear BK340; clear HB; have BK339 := n0_; have BK340 := n1_; have HB := n2_; clear n0_ n1_ n2_; (try clear hb); (try clear hb2); (try clear hk); (try clear hi)))
 go_ret
 exact ⟨a5_, a83_⟩
end
theorem sameOut_refl (a : List (List V)) (e : Int) (hn : a.length ≤ 1099511627776) (hr : ∀ r ∈ a, r.length ≤ 1099511627776) : Ev (fun k => r6_SameOutcomes.f k a e a e) true := by
 unfold r6_SameOutcomes.f
 simp only [if_true]
 exact Ev.bind (sameLists_refl a hn hr) (Ev.now true)
theorem group_good (A0 : Option Addr) (c0 : Nat) (l0 : List (List V)) (A1 : Option Addr) (c1 : Nat) (l1 : List Int) (A2 : Option Addr) (c2 : Nat) (l2 : List AggT) (w : World) (hr0 : Kd.C kRow w A0 l0.length l0) (hc0 : l0.length ≤ c0) (hr1 : Kd.C (Kd.int .i64) w A1 l1.length l1) (hr2 : Kd.C kAgg w A2 l2.length l2) (hT : LaidT w) (hok : GroupOk l0 l1 l2) (hg : groupableB l0 l1 l2 = true) (grs : List (List V)) (ger : Int) (hG : groupG l0 l1 l2 = (grs, ger)) :
 Calls Tryz.prog 25 #[.slice A0 l0.length c0, .slice A1 l1.length c1, .slice A2 l2.length c2] w fun e w' => ∃ v0_ : Value, e = .returned (.agg #[v0_, .int .i64 ger]) ∧ Kd.V kRow 53 w' w.heap.size (fun k_ => (w.heap.size ≤ k_)) v0_ grs ∧ Below w.heap.size w w' := by
 obtain ⟨hv, hin, hag⟩ := groupable_parts hg
 have HGG : Aside0 (rowsOf l1 l0 l2 (keysR l1 l0) [] = (grs, ger)) := ⟨by rw [← hG]; unfold groupG; rw [if_pos hg]⟩
 have HAG := kA_ hag
 clear hag hg hG
 obtain ⟨k, hk⟩ := (valid_ev l0 hok.rows.v).rounds
 rw [hv] at hk
 have HK := kA_ hk
 have HV := kA_ hv
 have HIN := kA_ hin
 have HOK := kA_ hok
 have HT := kA_ hT
 have HR0 := kA_ hr0
 have HC0 := kA_ hc0
 have HR1 := kA_ hr1
 have HR2 := kA_ hr2
 clear hk hv hin hok hT hr0 hc0 hr1 hr2
 go_enter Tryz.func25, Tryz.ntmps25
 go_wp2_with (first
  | ((with_reducible refine gate_dst (N := 6) rfl ?_); refine box_event ?hg (N := 6) ?hd (cs := #[.slice none 0 0, .int .i64 0]) (t := 45) ?hr ?_; (case hd => rfl); (case hg => rfl); (case hr => first | (go_simp; done) | (go_simp; rfl)); intro q hq W hN hb1; have HB1 := kA_ hb1; have HQ := kA_ hq; have HN0 := kA_ hN; clear hb1 hq hN)
  | ((with_reducible refine gate_dst (N := 7) rfl ?_); refine box_event ?hg (N := 7) ?hd (cs := #[.slice none 0 0, .int .i64 0]) (t := 45) ?hr ?_; (case hd => rfl); (case hg => rfl); (case hr => first | (go_simp; done) | (go_simp; rfl)); intro q2 hq2 W2 hN2 hb2; have HN1 := kA_ ((hb2.block q (blk_lt HN0.out)).trans HN0.out); have HB2 := kA_ (HB1.out.trans (hb2.mono HB1.out.size)); have HQ2 := kA_ hq2; have HN2 := kA_ hN2; have X0 : W2.cell? ⟨q2, 0, none⟩ = some (.slice none 0 0) := (blk_cell hN2 0).trans rfl; have X1 : W2.cell? ⟨q2, 1, none⟩ = some (.int .i64 0) := (blk_cell hN2 1).trans rfl; have X2 : ∀ j, W2.frozen? ⟨q2, j, none⟩ = false := (fun j => by simp [World.frozen?, hN2]); clear hb2 hq2 hN2))
 have hB3 : Below w.heap.size w ((W2.setCell ⟨q2, 0, none⟩ (.slice none 0 0)).setCell ⟨q2, 1, none⟩ (.int .i64 1)) := out2_below HB2.out (by rw [HQ2.out]; exact HB1.out.size) _ _
 have hq12 : q ≠ q2 := fun e => by have := blk_lt HN0.out; have := HQ2.out; omega
 have hN3 : ((W2.setCell ⟨q2, 0, none⟩ (.slice none 0 0)).setCell ⟨q2, 1, none⟩ (.int .i64 1)).heap[q]? = some (.cells #[.slice none 0 0, .int .i64 0] 45 (0, 0)) := (Below.heap_setCell _ _ _ q hq12).trans ((Below.heap_setCell _ _ _ q hq12).trans HN1.out)
 have HB3 := kA_ hB3
 have HN3 := kA_ hN3
 clear hB3 hq12 hN3 X0 X1 X2 HN1 HN2 HB2 HN0
 refine (bag_Valid.calls k _ _ l0 true _ (Kd.C_below HR0.out HB3.out) HC0.out HK.out).mono ?_
 rintro e w3 ⟨rfl, hb3⟩
 have HN4 := kA_ ((hb3.block q (blk_lt HN3.out)).trans HN3.out)
 have HB4 := kA_ (HB3.out.trans (hb3.mono HB3.out.size))
 have HQW : Aside0 (w.heap.size ≤ q) := ⟨Nat.le_of_eq HQ.out.symm⟩
 clear hb3 HN3 HB3 HB1 HQ2 HQ
 go_wp2
 go_loopg [29] l1.length (fun kq v29 W => ∃ x : Int, v29 = .int .i64 x ∧ Aside0 (0 ≤ x ∧ x ≤ l1.length ∧ (kq : Int) = l1.length - x) ∧ Aside0 (W.heap[q]? = some (.cells #[.slice none 0 0, .int .i64 0] 45 (0, 0))) ∧ Aside0 (Below w.heap.size w W))
 case atStart => exact ⟨0, rfl, ⟨by omega⟩, HN4, HB4⟩
 case round =>
  clear HN4 HB4
  obtain ⟨x, rfl, HX, HN, HB⟩ := hrel
  obtain ⟨hx0, hx1, hkq⟩ := HX.out
  by_cases hlt : x < (l1.length : Int)
  · have d1 : decide (x < (l1.length : Int)) = true := decide_eq_true hlt
    have d2 : decide (0 ≤ x) = true := decide_eq_true hx0
    obtain ⟨ad, e, hx_0⟩ := Kd.at_int HR1.out x hx0 hlt
    cases e
    replace hx_0 := cB_ HB.out hx_0
    have hj : x.toNat < l1.length := by omega
    have hrd : rd l1 x = l1[x.toNat] := by simp [rd, List.getElem?_eq_getElem hj]
    have hh := HIN.out (rd l1 x) a79_
    obtain ⟨n, hn⟩ : ∃ n, n = rd l1 x := ⟨_, rfl⟩
    rw [← hn] at hx_0 hh
    have HH := kA_ hh
    have HLT := kA_ hlt
    have HKQ := kA_ hkq
    have HX0 := kA_ hx0
    have HWR : Aside0 (wrap64 (x + 1) = x + 1) := ⟨by have := HOK.out.cn; unfold wrap64; omega⟩
    clear hn hrd hj hh hkq
    go_wp2_with fail
    refine (bag_has.calls A0 c0 l0 n true wr (Kd.C_below HR0.out HB.out) HC0.out (by rw [has_eq, HH.out])).mono ?_
    rintro e w5 ⟨rfl, ⟨nd, rfl⟩⟩
    go_wp2
    have hlt := HLT.out
    have hk := HKQ.out
    have hx0 := HX0.out
    cases gk with
    | zero => omega
    | succ k1 =>
     go_roundg k1
     case measure => omega
     case rel => exact ⟨x + 1, by rw [HWR.out], ⟨by omega⟩, HN, ⟨bN_ HB.out nd⟩⟩
  have d1 : decide (x < (l1.length : Int)) = false := decide_eq_false hlt
  clear HX hx0 hx1 hkq hlt
  go_wp2
  go_loopg [41] l2.length (fun kq v41 W => ∃ x : Int, v41 = .int .i64 x ∧ Aside0 (0 ≤ x ∧ x ≤ l2.length ∧ (kq : Int) = l2.length - x) ∧ Aside0 (W.heap[q]? = some (.cells #[.slice none 0 0, .int .i64 0] 45 (0, 0))) ∧ Aside0 (Below w.heap.size w W))
  case atStart => exact ⟨0, rfl, ⟨by omega⟩, HN, HB⟩
  case round =>
   clear HN HB
   obtain ⟨x, rfl, HX, HN, HB⟩ := hrel
   obtain ⟨hx0, hx1, hkq⟩ := HX.out
   by_cases hlt : x < (l2.length : Int)
   · have d1 : decide (x < (l2.length : Int)) = true := decide_eq_true hlt
     have d2 : decide (0 ≤ x) = true := decide_eq_true hx0
     obtain ⟨ad, e, hx_0, hx_1, hx_2⟩ := at_T55 HR2.out x hx0 hlt
     cases e
     replace hx_0 := cB_ HB.out hx_0
     replace hx_1 := cB_ HB.out hx_1
     replace hx_2 := cB_ HB.out hx_2
     have hj : x.toNat < l2.length := by omega
     have hrd : rd_T55 l2 x = l2[x.toNat] := by simp [rd_T55, List.getElem?_eq_getElem hj]
     have hao := HAG.out (rd_T55 l2 x) a79_
     have hfn := HOK.out.fn (rd_T55 l2 x) a79_
     have hvals := HOK.out.vals (rd_T55 l2 x) a79_
     obtain ⟨a, ha⟩ : ∃ a, a = rd_T55 l2 x := ⟨_, rfl⟩
     rw [← ha] at hx_0 hx_1 hx_2 hao hfn hvals
     obtain ⟨f0, f1, f2⟩ := a
     dsimp only at hx_0 hx_1 hx_2
     have HLT := kA_ hlt
     have HKQ := kA_ hkq
     have HX0 := kA_ hx0
     have HWR : Aside0 (wrap64 (x + 1) = x + 1) := ⟨by have := HOK.out.an; unfold wrap64; omega⟩
     clear hrd hj hkq ha
     by_cases h0 : f0 = 0
     · have h12 : f1 = 0 ∧ f2 = false := by
        unfold aggOkB at hao
        rw [if_pos h0] at hao
        exact of_decide_eq_true hao
       obtain ⟨rfl, rfl⟩ := h12
       subst h0
       clear hao hfn hvals
       go_wp2
       have hlt := HLT.out
       have hk := HKQ.out
       have hx0 := HX0.out
       cases gk with
       | zero => omega
       | succ k1 =>
        go_roundg k1
        case measure => omega
        case rel => exact ⟨x + 1, by rw [HWR.out], ⟨by omega⟩, ⟨(Below.heap_alloc wr _ q (blk_lt HN.out)).trans HN.out⟩, ⟨HB.out.alloc HB.out.size _⟩⟩
     unfold aggOkB at hao
     rw [if_neg h0, Bool.and_eq_true] at hao
     have HHE : Aside0 (bag_has.f l0 f1 = some true) := ⟨by rw [has_eq]; exact congrArg some hao.1⟩
     obtain ⟨kc, hkc⟩ := (columnOf_ev l0 f1 (by
      have h1 := hao.1
      unfold hasB at h1
      cases hl : l0 with
      | nil => rw [hl] at h1; exact (of_decide_eq_true h1).1
      | cons r rs => rw [hl] at h1; exact (of_decide_eq_true h1).1) HOK.out.rows.2).rounds
     obtain ⟨ka, hka⟩ := (allowed_ev f0 f2 (columnR l0 f1) (fun v hv => by
      obtain ⟨row, hrow, rfl⟩ := List.mem_map.1 hv
      exact (hvals row hrow).1 _ (by simp)) (by rw [columnR, List.length_map]; exact HOK.out.rows.2)).rounds
     rw [hao.2] at hka
     have HKC2 := kA_ hkc
     have HKA := kA_ hka
     have z1 : (f0 == 0) = false := by simp [h0]
     have z2 : decide (f0 = 0) = false := decide_eq_false h0
     clear hkc hka hao hfn hvals h0
     obtain ⟨W5, hW5⟩ : ∃ W5, W5 = wr.alloc (.cells #[.int .u8 f0, .int .i64 f1, .bool f2] 55) := ⟨_, rfl⟩
     have HD5 : Aside0 (W5.cell? ⟨wr.heap.size, 0, none⟩ = some (.int .u8 f0) ∧ W5.cell? ⟨wr.heap.size, 1, none⟩ = some (.int .i64 f1) ∧ W5.cell? ⟨wr.heap.size, 2, none⟩ = some (.bool f2)) := ⟨by
      rw [hW5]
      exact ⟨(blk_cell (heap_alloc_new _ _) 0).trans rfl, (blk_cell (heap_alloc_new _ _) 1).trans rfl, (blk_cell (heap_alloc_new _ _) 2).trans rfl⟩⟩
     have HB5 : Aside0 (Below wr.heap.size wr W5) := ⟨a80_⟩
     have HE5 : Aside0 (W5.drew.cell? ⟨wr.heap.size, 0, none⟩ = some (.int .u8 f0) ∧ W5.drew.cell? ⟨wr.heap.size, 1, none⟩ = some (.int .i64 f1) ∧ W5.drew.cell? ⟨wr.heap.size, 2, none⟩ = some (.bool f2)) := ⟨HD5.out⟩
     have HC5 : Aside0 (∀ W', Below W5.heap.size W5 W' → kRow.C W' A0 l0.length l0) := ⟨fun W' hb => Kd.C_below HR0.out (HB.out.trans ((HB5.out.trans (hb.mono HB5.out.size)).mono HB.out.size))⟩
     have HBE : Aside0 (Below W5.heap.size W5 W5.drew) := ⟨(Below.refl _ W5).drew⟩
     go_wp2_with fail
     rw [← hW5]
     have HW5 := kA_ hW5
     clear hW5
     go_region_held3 (fun W' => (W'.cell? ⟨wr.heap.size, 0, none⟩ = some (.int .u8 f0) ∧ W'.cell? ⟨wr.heap.size, 1, none⟩ = some (.int .i64 f1) ∧ W'.cell? ⟨wr.heap.size, 2, none⟩ = some (.bool f2))) (first | (with_reducible exact HD5.out) | (with_reducible exact HE5.out) | (with_reducible exact HS6.out) | (with_reducible exact HS7.out) | (with_reducible exact HS8.out)) (first
      | (go_at_call 62; (with_reducible refine (bag_has.calls A0 c0 l0 f1 true W5.drew (HC5.out _ HBE.out) HC0.out HHE.out).mono ?_); rintro e w6 ⟨rfl, ⟨nd, hd6⟩⟩; have HB6 : Aside0 (Below W5.heap.size W5 w6) := ⟨by rw [hd6]; exact bN_ HBE.out nd⟩; have HS6 : Aside0 (w6.cell? ⟨wr.heap.size, 0, none⟩ = some (.int .u8 f0) ∧ w6.cell? ⟨wr.heap.size, 1, none⟩ = some (.int .i64 f1) ∧ w6.cell? ⟨wr.heap.size, 2, none⟩ = some (.bool f2)) := ⟨cells3 HB6.out HD5.out⟩; clear hd6)
      | (go_at_call 63; (with_reducible refine (bag_columnOf.calls kc A0 c0 l0 f1 (columnR l0 f1) w6 (HC5.out _ HB6.out) HC0.out HKC2.out).mono ?_); rintro e w7 ⟨vc, rfl, hRc, hb7⟩; obtain ⟨Ac, cc, ec, hcc, hCc⟩ := Kd.R_reads hRc; subst ec; have hb57 : Below W5.heap.size W5 w7 := HB6.out.trans (hb7.mono HB6.out.size); have HS7 : Aside0 (w7.cell? ⟨wr.heap.size, 0, none⟩ = some (.int .u8 f0) ∧ w7.cell? ⟨wr.heap.size, 1, none⟩ = some (.int .i64 f1) ∧ w7.cell? ⟨wr.heap.size, 2, none⟩ = some (.bool f2)) := ⟨cells3 hb57 HD5.out⟩; have HCC := kA_ hCc; have HCN := kA_ hcc; have HB7 := kA_ hb57; clear hb57 hRc hb7 hcc hCc)
      | (go_at_call 56; (with_reducible refine (bag_allowed.calls ka f0 f2 Ac cc (columnR l0 f1) true w7 HCC.out HCN.out HKA.out).mono ?_); rintro e w8 ⟨rfl, hb8⟩; have hb58 : Below W5.heap.size W5 w8 := HB7.out.trans (hb8.mono HB7.out.size); have HS8 : Aside0 (w8.cell? ⟨wr.heap.size, 0, none⟩ = some (.int .u8 f0) ∧ w8.cell? ⟨wr.heap.size, 1, none⟩ = some (.int .i64 f1) ∧ w8.cell? ⟨wr.heap.size, 2, none⟩ = some (.bool f2)) := ⟨cells3 hb58 HD5.out⟩; have HB8 := kA_ hb58; clear hb58 hb8))
     go_wp2
     have hlt := HLT.out
     have hk := HKQ.out
     have hx0 := HX0.out
     have HBR := kA_ (HB5.out.trans (HB8.out.mono HB5.out.size))
     cases gk with
     | zero => omega
     | succ k1 =>
      go_roundg k1
      case measure => omega
      case rel => exact ⟨x + 1, by rw [HWR.out], ⟨by omega⟩, ⟨(HBR.out.block q (blk_lt HN.out)).trans HN.out⟩, ⟨HB.out.trans (HBR.out.mono HB.out.size)⟩⟩
   have d1 : decide (x < (l2.length : Int)) = false := decide_eq_false hlt
   clear HX hx0 hx1 hkq hlt
   have hlen : ∀ row ∈ l0, ∀ n ∈ l1, 0 ≤ n ∧ n < (row.length : Int) := fun row hrow n hn => by
    have h1 := HIN.out n hn
    cases hl : l0 with
    | nil => rw [hl] at hrow; cases hrow
    | cons r rs =>
     rw [hl] at h1 hrow
     have h2 := validB_len (hl ▸ HV.out) row hrow
     have := of_decide_eq_true h1
     omega
   have hval : ∀ row ∈ l0, ∀ v ∈ keyOf l1 row, validV v = true := fun row hrow v hv => by
    obtain ⟨n, hn, rfl⟩ := List.mem_map.1 hv
    have h1 := hlen row hrow n hn
    have h2 : n.toNat < row.length := by omega
    have : rd_T36 row n = row[n.toNat] := by simp [rd_T36, List.getElem?_eq_getElem h2]
    rw [this]
    exact validB_valid HV.out row hrow _ (List.getElem_mem h2)
   have HGC := kA_ (groups_all A0 c0 l0 A1 c1 l1 wr (HT.out.below HB.out) (Kd.C_below HR0.out HB.out) HC0.out (Kd.C_below HR1.out HB.out) HOK.out.rows.2 HOK.out.cn hlen (fun row hrow => ⟨HOK.out.keys row hrow, hval row hrow⟩))
   clear hlen hval
   go_wp2_with fail
   refine HGC.out.mono ?_
   rintro e wK ⟨vk, m, kv, rfl, hRk, hIs, hCk, hLk, hbK⟩
   have HRK := kA_ hRk
   have HIS := kA_ hIs
   have HCL : Aside0 (∀ s, ∃ A c, ((KV.get kv s).map (fun p : LV => p.1)).getD (.slice none 0 0) = .slice A (listR l1 l0 s).length c ∧ (listR l1 l0 s).length ≤ c ∧ kRow.C wK A (listR l1 l0 s).length (listR l1 l0 s)) := ⟨fun s => by
    rw [← hLk s]
    cases hg : KV.get kv s with
    | none => exact ⟨none, 0, rfl, Nat.le_refl _, Kd.C_nil _ _⟩
    | some p =>
     obtain ⟨A, c, h1, h2, h3⟩ := hCk s p hg
     exact ⟨A, c, h1, h2, h3⟩⟩
   have HNK := kA_ ((hbK.block q (blk_lt HN.out)).trans HN.out)
   have HBK := kA_ (HB.out.trans (hbK.mono HB.out.size))
   clear hRk hIs hCk hLk hbK HGC HN HB
   obtain ⟨Ak, ck, ek, hlk, hKC⟩ := Kd.R_reads HRK.out
   subst ek
   have HKC := kA_ hKC
   clear hlk hKC HRK
   obtain ⟨keys, hkeys⟩ : ∃ keys, keys = keysR l1 l0 := ⟨_, rfl⟩
   have HKO := kA_ HOK.out.keyn
   have HKN := kA_ HOK.out.keysn
   rw [← hkeys] at HKC HKO HKN HGG
   rw [← hkeys]
   have HKS := kA_ hkeys
   clear hkeys
   go_wp2
   go_loopg [91, 14] keys.length (fun kq v91 v14 W => ∃ x : Int, v91 = .int .i64 x ∧ Aside0 (0 ≤ x ∧ x ≤ keys.length ∧ (kq : Int) = keys.length - x) ∧ Aside0 (∃ acc : List (List V), kRow.R 53 W wK.heap.size (fun _ => True) v14 acc ∧ rowsOf l1 l0 l2 (keys.drop x.toNat) acc = (grs, ger) ∧ acc.length ≤ x.toNat) ∧ Aside0 (Below wK.heap.size wK W))
   case atStart => exact ⟨0, rfl, ⟨by omega⟩, ⟨[], Kd.R_nil _ _ _ _ _, by simpa using HGG.out, Nat.le_refl _⟩, ⟨Below.refl _ _⟩⟩
   case round =>
    clear HGG
    obtain ⟨x, rfl, HX, HE, HB⟩ := hrel
    obtain ⟨acc, hO, hacc, hal⟩ := HE.out
    have HO := kA_ hO
    have HACC := kA_ hacc
    have HAL := kA_ hal
    clear HE hO hacc hal
    obtain ⟨hx0, hx1, hkq⟩ := HX.out
    by_cases hlt : x < (keys.length : Int)
    rotate_left
    · have d1 : decide (x < (keys.length : Int)) = false := decide_eq_false hlt
      obtain ⟨hf1, hf2⟩ : acc = grs ∧ 0 = ger := by
       have h := HACC.out
       rw [List.drop_of_length_le (by omega)] at h
       simpa [rowsOf] using h
      subst hf1
      subst hf2
      have HN9 := kA_ ((HB.out.block q (blk_lt HNK.out)).trans HNK.out)
      have HB9 := kA_ (HBK.out.trans (HB.out.mono HBK.out.size))
      have HKS2 := kA_ HBK.out.size
      clear hx0 hx1 hkq hlt HX HACC HAL
      have y0 : wr.cell? ⟨q, 0, none⟩ = some (.slice none 0 0) := (blk_cell HN9.out 0).trans rfl
      have y1 : wr.cell? ⟨q, 1, none⟩ = some (.int .i64 0) := (blk_cell HN9.out 1).trans rfl
      have yf : ∀ j, wr.frozen? ⟨q, j, none⟩ = false := fun j => by have := HN9.out; simp [World.frozen?, this]
      obtain ⟨Ag, cg, eg, _⟩ := Kd.R_reads HO.out
      subst eg
      go_wp2
      refine bodyPost_ret (results_cell_row rfl _ _ q 45 _ (0, 0) _ rfl (out2_cells HN9.out _ _) Tryz.underlying45 rfl a3_) rfl ?_
      refine ⟨_, rfl, ?_, out2_below HB9.out HQW.out _ _⟩
      have hqk := blk_lt HNK.out
      have h1 := Kd.R_mono (Kd.R_bound HO.out) (ok' := fun k => wK.heap.size ≤ k) (fun k hk => hk.2.1)
      have h2 := Kd.R_far (p := ⟨q, 0, none⟩) h1 (fun k hk e => by
       have e : k = q := e
       omega) (Value.slice Ag acc.length cg)
      have h3 := Kd.R_far (p := ⟨q, 1, none⟩) h2 (fun k hk e => by
       have e : k = q := e
       omega) (Value.int .i64 0)
      exact Kd.R_V (base' := w.heap.size) (Kd.R_mono h3 (fun k hk => Nat.le_trans HKS2.out hk))
    have d1 : decide (x < (keys.length : Int)) = true := decide_eq_true hlt
    have d2 : decide (0 ≤ x) = true := decide_eq_true hx0
    obtain ⟨ad, Ar, cr, e, hx_0, hlc, hrow⟩ := at_L4 HKC.out x hx0 hlt
    cases e
    replace hx_0 := cB_ HB.out hx_0
    have hi : x.toNat < keys.length := by omega
    have hrd : rd_L4 keys x = keys[x.toNat] := by simp [rd_L4, List.getElem?_eq_getElem hi]
    have hky := HKO.out (rd_L4 keys x) a65_
    have htk : keys.drop x.toNat = rd_L4 keys x :: keys.drop (x + 1).toNat := by
     rw [drop_cons _ _ hi, hrd, show (x + 1).toNat = x.toNat + 1 by omega]
    obtain ⟨key, hkey⟩ : ∃ key, key = rd_L4 keys x := ⟨_, rfl⟩
    rw [← hkey] at hx_0 hlc hrow hky htk
    have HROW := kA_ hrow
    have HLC := kA_ hlc
    have HKY := kA_ hky
    rw [htk] at HACC
    have HLT := kA_ hlt
    have HKQ := kA_ hkq
    have HX0 := kA_ hx0
    have HWR : Aside0 (wrap64 (x + 1) = x + 1) := ⟨by have := HKN.out; unfold wrap64; omega⟩
    clear hrow hlc hky htk hkey hrd hi hkq
    have HBW := kA_ (HBK.out.trans (HB.out.mono HBK.out.size))
    go_wp2_with fail
    refine (name_calls Ar cr key wr (HT.out.below HBW.out) (Kd.C_below HROW.out HB.out) HLC.out HKY.out.1 HKY.out.2.1 HKY.out.2.2).mono ?_
    rintro e wN ⟨rfl, hbn⟩
    obtain ⟨wO, hwO⟩ : ∃ wO, wO = wr := ⟨_, rfl⟩
    subst hwO
    obtain ⟨gO, hgO⟩ : ∃ gO, gO = gk := ⟨_, rfl⟩
    subst hgO
    have HBN := kA_ hbn
    have HISN := kA_ (HIS.out.below (HB.out.trans (hbn.mono HB.out.size)))
    obtain ⟨Al, cl, hul, hlc2, hcl2⟩ := HCL.out (nameOf key)
    obtain ⟨ls, hls⟩ : ∃ ls, ls = listR l1 l0 (nameOf key) := ⟨_, rfl⟩
    rw [← hls] at hul hlc2 hcl2
    have HUL := kA_ hul
    have HLC2 := kA_ hlc2
    have HCL2 := kA_ hcl2
    have HLS := kA_ hls
    have HKEYN : Aside0 (kV.C wN Ar key.length key) := ⟨Kd.C_below HROW.out (HB.out.trans (hbn.mono HB.out.size))⟩
    clear hul hlc2 hcl2 hls hbn
    have HE0 : Aside0 (Kd.R kV 36 (wN.alloc (.cells #[] 36)) wN.heap.size (fun _ => True) (.slice (some ⟨wN.heap.size, 0, none⟩) 0 0) []) := ⟨R_empty kV 36 wN⟩
    have HE1 := kA_ ((Below.refl wN.heap.size wN).alloc (Nat.le_refl _) (.cells #[] 36))
    go_wp2_with (first
     | (at_lookup; refine KV.law_lookup _ rfl _ _ 87 rfl 9 22 Tryz.underlying9 Tryz.underlying87 (.slice none 0 0) (zeroRows _) m (fun p : LV => p.1) kv rfl HISN.out (nameOf key) rfl (.slice Al ls.length cl) HUL.out ?_)
     | (at_builtin; refine Kd.R_append_rows kV (w0 := wN) wN.heap.size rfl (.tmp 99) (.tmp 100) 53 36 (.agg #[(.int .u8 0), (.int .i64 0), (.string ⟨#[]⟩)]) 32 rfl Tryz.underlying53 infoV rfl (by decide) (by decide) _ [] key Ar key.length cr (fun _ => True) (fun _ => False) rfl rfl HE0.out (Kd.C_below HKEYN.out HE1.out) (fun x cs h => by obtain rfl := k36_open h; exact k36_mkM _ _ _ x) (fun _ h => h.elim) (fun _ _ => trivial) HE1.out HE1.out.size (by have := HKY.out.2.2; simp; omega) ?_; intro v1 w1 hR hb hg hat; have HK1 := kA_ hR; have HBI := kA_ hb; clear hR hb hg hat))
    have HLSUB : Aside0 (∀ row ∈ ls, row ∈ l0) := ⟨fun row hrow => by
     rw [HLS.out] at hrow
     exact (List.mem_filter.1 hrow).1⟩
    have HLLEN : Aside0 (ls.length ≤ l0.length) := ⟨by rw [HLS.out]; exact List.length_filter_le _ _⟩
    have HACC2 : Aside0 ((if (rowOf ls l2 key).2 = 0 then rowsOf l1 l0 l2 (keys.drop (x + 1).toNat) (acc ++ [(rowOf ls l2 key).1]) else ([], (rowOf ls l2 key).2)) = (grs, ger)) := ⟨by
     have := HACC.out
     simp only [rowsOf] at this
     rw [← HLS.out] at this
     exact this⟩
    clear HACC
    have HBO : Aside0 (Below wK.heap.size wK wN) := ⟨HB.out.trans (HBN.out.mono HB.out.size)⟩
    go_loopg [104, 18] l2.length (fun kq v104 v18 W => ∃ y : Int, v104 = .int .i64 y ∧ Aside0 (0 ≤ y ∧ y ≤ l2.length ∧ (kq : Int) = l2.length - y) ∧ Aside0 (∃ r : List V, kV.R 36 W wN.heap.size (fun _ => True) v18 r ∧ rowOf ls (l2.drop y.toNat) r = rowOf ls l2 key ∧ (r.length : Int) = key.length + y) ∧ Aside0 (Below wN.heap.size wN W))
    case atStart => exact ⟨0, rfl, ⟨by omega⟩, ⟨key, by simpa using HK1.out, rfl, by omega⟩, HBI⟩
    case round =>
     clear HK1 HBI
     obtain ⟨y, rfl, HY, HE, HBI⟩ := hrel
     obtain ⟨r, hR, hro, hrl⟩ := HE.out
     have HKR := kA_ hR
     have HRO := kA_ hro
     have HRL := kA_ hrl
     clear HE hR hro hrl
     obtain ⟨hy0, hy1, hkq⟩ := HY.out
     by_cases hly : y < (l2.length : Int)
     rotate_left
     · have d1 : decide (y < (l2.length : Int)) = false := decide_eq_false hly
       have HNX : Aside0 (rowsOf l1 l0 l2 (keys.drop (x + 1).toNat) (acc ++ [r]) = (grs, ger)) := ⟨by
        have h := HRO.out
        rw [List.drop_of_length_le (by omega)] at h
        have h2 := HACC2.out
        rw [← h] at h2
        exact h2⟩
       clear HY hy0 hy1 hkq hly HRO HACC2
       obtain ⟨Ag, cg, eg, _⟩ := Kd.R_reads HKR.out
       subst eg
       have hNW : Below wN.heap.size wN wr := HBI.out
       have HBOK := kA_ (HBO.out.trans (hNW.mono HBO.out.size))
       have HO9 := kA_ (Kd.R_below (Kd.R_below HO.out HBN.out) hNW)
       have HM9 := kA_ (Kd.R_mono (Kd.R_lower (Kd.R_bound HKR.out) HBO.out.size) (ok' := fun k => wN.heap.size ≤ k) (fun k hk => hk.2.1))
       have HFR : Aside0 (∀ k, wN.heap.size ≤ k → True ∧ some k ≠ u14.ownBlock) := ⟨fun k hk => ⟨trivial, fun e => by have h1 := Kd.R_lt HO.out k e.symm; have h2 := HBN.out.size; omega⟩⟩
       have HLEN2 : Aside0 ((acc.length + 1) * 24 ≤ 140737488355328) := ⟨by
        have := HKN.out
        have := HAL.out
        have := HLT.out
        omega⟩
       clear hNW
       go_wp2_with (at_builtin; refine Kd.R_append kRow (w0 := wK) wK.heap.size rfl (.tmp 129) (.tmp 131) 22 53 (.slice none 0 0) 24 rfl Tryz.underlying22 infoRow rfl (Nat.le_refl 1) (by decide) _ _ r [.slice Ag r.length cg] (fun _ => True) (fun k => wN.heap.size ≤ k) rfl rfl ⟨_, rfl, HM9.out⟩ HFR.out (fun _ _ => trivial) HO9.out HBOK.out HBOK.out.size HLEN2.out ?_; intro v6 w6 hR4 hb4 hg4 hat4; have HO4 := kA_ hR4; have HB4 := kA_ hb4; clear hR4 hb4 hg4 hat4)
       have hk := HKQ.out
       have hlt := HLT.out
       have hx0 := HX0.out
       cases gO with
       | zero => omega
       | succ k1 =>
        go_roundg k1
        case measure => omega
        case rel => exact ⟨x + 1, by rw [HWR.out], ⟨by omega⟩, ⟨_, HO4.out, HNX.out, a94_⟩, HB4⟩
     have d1 : decide (y < (l2.length : Int)) = true := decide_eq_true hly
     have d2 : decide (0 ≤ y) = true := decide_eq_true hy0
     have hbww : Below w.heap.size w wr := HBK.out.trans ((HBO.out.trans (HBI.out.mono HBO.out.size)).mono HBK.out.size)
     obtain ⟨ad2, e, hx_0, hx_1, hx_2⟩ := at_T55 HR2.out y hy0 hly
     cases e
     replace hx_0 := cB_ hbww hx_0
     replace hx_1 := cB_ hbww hx_1
     replace hx_2 := cB_ hbww hx_2
     have hj : y.toNat < l2.length := by omega
     have hrd : rd_T55 l2 y = l2[y.toNat] := by simp [rd_T55, List.getElem?_eq_getElem hj]
     have hmem : rd_T55 l2 y ∈ l2 := by rw [hrd]; exact List.getElem_mem hj
     have hdr : l2.drop y.toNat = rd_T55 l2 y :: l2.drop (y + 1).toNat := by
      rw [drop_cons _ _ hj, hrd, show (y + 1).toNat = y.toNat + 1 by omega]
     have hag := agg_ok HOK.out HV.out hmem HLSUB.out HLLEN.out
     have hcol := aggOk_col (HAG.out _ hmem)
     obtain ⟨a, ha⟩ : ∃ a, a = rd_T55 l2 y := ⟨_, rfl⟩
     rw [← ha] at hx_0 hx_1 hx_2 hag hcol hdr
     obtain ⟨⟨r0, r1, r2, r3⟩, hr⟩ : ∃ R, aggR a.f0 a.f2 (columnR ls a.f1) = R := ⟨_, rfl⟩
     have hro := HRO.out
     rw [hdr, rowOf_snoc hr] at hro
     rw [hr] at hag
     obtain ⟨f0, f1, f2⟩ := a
     dsimp only at hx_0 hx_1 hx_2 hag hcol
     have HAGG := kA_ hag
     have HRO2 := kA_ hro
     obtain ⟨kc, hkc⟩ := (columnOf_ev ls f1 hcol (Nat.le_trans HLLEN.out HOK.out.rows.2)).rounds
     have HKC2 := kA_ hkc
     clear hkc hag hro hr ha hdr hmem hcol HRO
     have HLY := kA_ hly
     have HKQ2 := kA_ hkq
     have HY0 := kA_ hy0
     have HWY : Aside0 (wrap64 (y + 1) = y + 1) := ⟨by have := HOK.out.an; unfold wrap64; omega⟩
     have HBWW := kA_ hbww
     clear hrd hj hkq hbww
     obtain ⟨W5, hW5⟩ : ∃ W5, W5 = wr.alloc (.cells #[.int .u8 f0, .int .i64 f1, .bool f2] 55) := ⟨_, rfl⟩
     have D0 : W5.cell? ⟨wr.heap.size, 0, none⟩ = some (.int .u8 f0) := by rw [hW5]; exact (blk_cell (heap_alloc_new _ _) 0).trans rfl
     have D1 : W5.cell? ⟨wr.heap.size, 1, none⟩ = some (.int .i64 f1) := by rw [hW5]; exact (blk_cell (heap_alloc_new _ _) 1).trans rfl
     have D2 : W5.cell? ⟨wr.heap.size, 2, none⟩ = some (.bool f2) := by rw [hW5]; exact (blk_cell (heap_alloc_new _ _) 2).trans rfl
     have HB5 : Aside0 (Below wr.heap.size wr W5) := ⟨a80_⟩
     have HLEN : Aside0 ((r.length + 1) * 32 ≤ 140737488355328) := ⟨by
      have h1 := HKY.out.2.2
      have h2 := HOK.out.an
      have h3 := HLY.out
      have h4 := HRL.out
      omega⟩
     have HS5 : Aside0 (W5.heap.size = wr.heap.size + 1) := ⟨by rw [hW5]; simp⟩
     have HNE5 : Aside0 (wr.heap.size ≠ W5.heap.size) := ⟨by have := HS5.out; omega⟩
     have HD5 : Aside0 (W5.cell? ⟨wr.heap.size, 0, none⟩ = some (.int .u8 f0) ∧ W5.cell? ⟨wr.heap.size, 1, none⟩ = some (.int .i64 f1) ∧ W5.cell? ⟨wr.heap.size, 2, none⟩ = some (.bool f2)) := ⟨⟨D0, D1, D2⟩⟩
     have HE5 : Aside0 (W5.drew.cell? ⟨wr.heap.size, 0, none⟩ = some (.int .u8 f0) ∧ W5.drew.cell? ⟨wr.heap.size, 1, none⟩ = some (.int .i64 f1) ∧ W5.drew.cell? ⟨wr.heap.size, 2, none⟩ = some (.bool f2)) := ⟨⟨D0, D1, D2⟩⟩
     have HE6 : Aside0 (∀ o, ((W5.alloc o).cell? ⟨wr.heap.size, 0, none⟩ = some (.int .u8 f0) ∧ (W5.alloc o).cell? ⟨wr.heap.size, 1, none⟩ = some (.int .i64 f1) ∧ (W5.alloc o).cell? ⟨wr.heap.size, 2, none⟩ = some (.bool f2))) := ⟨fun o => cells3 ((Below.refl _ W5).alloc (Nat.le_refl _) o) HD5.out⟩
     have HE7 : Aside0 (∀ o, ((W5.alloc o).drew.cell? ⟨wr.heap.size, 0, none⟩ = some (.int .u8 f0) ∧ (W5.alloc o).drew.cell? ⟨wr.heap.size, 1, none⟩ = some (.int .i64 f1) ∧ (W5.alloc o).drew.cell? ⟨wr.heap.size, 2, none⟩ = some (.bool f2))) := ⟨fun o => HE6.out o⟩
     clear D0 D1 D2
     have HX5 : Aside0 ((W5.alloc (.cells #[.int .u8 0, .int .i64 0, .string ⟨#[]⟩, .int .i64 0] 38)).drew.heap[W5.heap.size]? = some (.cells #[.int .u8 0, .int .i64 0, .string ⟨#[]⟩, .int .i64 0] 38 (0, 0)) ∧ W5.heap.size < (W5.alloc (.cells #[.int .u8 0, .int .i64 0, .string ⟨#[]⟩, .int .i64 0] 38)).drew.heap.size) := ⟨heap_alloc_new W5 _, blk_lt (heap_alloc_new W5 (.cells #[.int .u8 0, .int .i64 0, .string ⟨#[]⟩, .int .i64 0] 38))⟩
     have HBEL : Aside0 (Below W5.heap.size W5 (W5.alloc (.cells #[.int .u8 0, .int .i64 0, .string ⟨#[]⟩, .int .i64 0] 38)).drew) := ⟨((Below.refl _ W5).alloc (Nat.le_refl _) _).drew⟩
     have HBE : Aside0 (Below W5.heap.size W5 W5.drew) := ⟨(Below.refl _ W5).drew⟩
     have HLIST : Aside0 (∀ W', Below W5.heap.size W5 W' → kRow.C W' Al ls.length ls) := ⟨fun W' hb => Kd.C_below HCL2.out (HBO.out.trans ((HBI.out.trans ((HB5.out.trans (hb.mono HB5.out.size)).mono HBI.out.size)).mono HBO.out.size))⟩
     have HT5 : Aside0 (∀ W', Below W5.heap.size W5 W' → LaidT W') := ⟨fun W' hb => HT.out.below (HBWW.out.trans ((HB5.out.trans (hb.mono HB5.out.size)).mono HBWW.out.size))⟩
     go_wp2_with fail
     rw [← hW5]
     have HW5 := kA_ hW5
     clear hW5
     go_region_held3 (fun W' => (W'.cell? ⟨wr.heap.size, 0, none⟩ = some (.int .u8 f0) ∧ W'.cell? ⟨wr.heap.size, 1, none⟩ = some (.int .i64 f1) ∧ W'.cell? ⟨wr.heap.size, 2, none⟩ = some (.bool f2))) (first | (with_reducible exact HD5.out) | (with_reducible exact HE5.out) | (with_reducible exact HE7.out _) | (with_reducible exact HE6.out _) | (with_reducible exact HR7.out) | (with_reducible exact HR7a.out _) | (with_reducible exact HS8.out) | (with_reducible exact HS8a.out _) | (with_reducible exact far3 HNE7.out HS8.out) | (with_reducible exact far3 HNE5.out HS8.out)) (first
      | (go_at_call 63; (with_reducible refine (bag_columnOf.calls kc Al cl ls f1 (columnR ls f1) W5.drew (HLIST.out _ HBE.out) HLC2.out HKC2.out).mono ?_); rintro e w7 ⟨vc, rfl, hRc, hb7⟩; obtain ⟨Ac, cc, ec, hcc, hCc⟩ := Kd.R_reads hRc; subst ec; have hb57 : Below W5.heap.size W5 w7 := (HBE.out).trans (hb7.mono (HBE.out).size); have HR7 : Aside0 (w7.cell? ⟨wr.heap.size, 0, none⟩ = some (.int .u8 f0) ∧ w7.cell? ⟨wr.heap.size, 1, none⟩ = some (.int .i64 f1) ∧ w7.cell? ⟨wr.heap.size, 2, none⟩ = some (.bool f2)) := ⟨cells3 hb57 HD5.out⟩; have HR7a : Aside0 (∀ o, ((w7.alloc o).cell? ⟨wr.heap.size, 0, none⟩ = some (.int .u8 f0) ∧ (w7.alloc o).cell? ⟨wr.heap.size, 1, none⟩ = some (.int .i64 f1) ∧ (w7.alloc o).cell? ⟨wr.heap.size, 2, none⟩ = some (.bool f2))) := ⟨fun o => cells3 ((Below.refl _ w7).alloc (Nat.le_refl _) o) HR7.out⟩; have HCC := kA_ hCc; have HCN := kA_ hcc; have HB7 := kA_ hb57; have HNE7 : Aside0 (wr.heap.size ≠ w7.heap.size) := ⟨by have := HB7.out.size; have := HS5.out; omega⟩; clear hb57 hRc hb7 hcc hCc)
      | (go_at_call 63; (with_reducible refine (bag_columnOf.calls kc Al cl ls f1 (columnR ls f1) (W5.alloc (.cells #[.int .u8 0, .int .i64 0, .string ⟨#[]⟩, .int .i64 0] 38)).drew (HLIST.out _ HBEL.out) HLC2.out HKC2.out).mono ?_); rintro e w7 ⟨vc, rfl, hRc, hb7⟩; obtain ⟨Ac, cc, ec, hcc, hCc⟩ := Kd.R_reads hRc; subst ec; have hb57 : Below W5.heap.size W5 w7 := (HBEL.out).trans (hb7.mono (HBEL.out).size); have HR7 : Aside0 (w7.cell? ⟨wr.heap.size, 0, none⟩ = some (.int .u8 f0) ∧ w7.cell? ⟨wr.heap.size, 1, none⟩ = some (.int .i64 f1) ∧ w7.cell? ⟨wr.heap.size, 2, none⟩ = some (.bool f2)) := ⟨cells3 hb57 HD5.out⟩; have HR7a : Aside0 (∀ o, ((w7.alloc o).cell? ⟨wr.heap.size, 0, none⟩ = some (.int .u8 f0) ∧ (w7.alloc o).cell? ⟨wr.heap.size, 1, none⟩ = some (.int .i64 f1) ∧ (w7.alloc o).cell? ⟨wr.heap.size, 2, none⟩ = some (.bool f2))) := ⟨fun o => cells3 ((Below.refl _ w7).alloc (Nat.le_refl _) o) HR7.out⟩; have HCC := kA_ hCc; have HCN := kA_ hcc; have HX7 := kA_ ((hb7.block W5.heap.size HX5.out.2).trans HX5.out.1); have HB7 := kA_ hb57; have HNE7 : Aside0 (wr.heap.size ≠ w7.heap.size) := ⟨by have := HB7.out.size; have := HS5.out; omega⟩; clear hb57 hRc hb7 hcc hCc)
      | (go_at_call 21; have hx7 := HX7.out; (with_reducible refine (bag_Aggregate.calls f0 f2 Ac cc (columnR ls f1) r0 r1 r2 r3 w7 HCC.out HCN.out (HT5.out w7 HB7.out) HAGG.out).mono ?_); rintro e w8 ⟨rfl, hb8⟩; have hb78 : Below w7.heap.size w7 w8 := hb8; have HS8 : Aside0 (w8.cell? ⟨wr.heap.size, 0, none⟩ = some (.int .u8 f0) ∧ w8.cell? ⟨wr.heap.size, 1, none⟩ = some (.int .i64 f1) ∧ w8.cell? ⟨wr.heap.size, 2, none⟩ = some (.bool f2)) := ⟨cells3 hb78 HR7.out⟩; have HS8a : Aside0 (∀ o, ((w8.alloc o).cell? ⟨wr.heap.size, 0, none⟩ = some (.int .u8 f0) ∧ (w8.alloc o).cell? ⟨wr.heap.size, 1, none⟩ = some (.int .i64 f1) ∧ (w8.alloc o).cell? ⟨wr.heap.size, 2, none⟩ = some (.bool f2))) := ⟨fun o => cells3 ((Below.refl _ w8).alloc (Nat.le_refl _) o) HS8.out⟩; have HB8 := kA_ (HB7.out.trans (hb78.mono HB7.out.size)); have hX8 := (hb8.block W5.heap.size (blk_lt hx7)).trans hx7; have x0 : w8.cell? ⟨W5.heap.size, 0, none⟩ = some (.int .u8 0) := (blk_cell hX8 0).trans rfl; have x1 : w8.cell? ⟨W5.heap.size, 1, none⟩ = some (.int .i64 0) := (blk_cell hX8 1).trans rfl; have x2 : w8.cell? ⟨W5.heap.size, 2, none⟩ = some (.string ⟨#[]⟩) := (blk_cell hX8 2).trans rfl; have x3 : w8.cell? ⟨W5.heap.size, 3, none⟩ = some (.int .i64 0) := (blk_cell hX8 3).trans rfl; have xf : ∀ j, w8.frozen? ⟨W5.heap.size, j, none⟩ = false := (fun j => by simp [World.frozen?, hX8]); have HX8 := kA_ hX8; clear hX8; clear hb8 hb78 hx7)
      | (go_at_call 21; have hb9 : Below w7.heap.size w7 (w7.alloc (.cells #[.int .u8 0, .int .i64 0, .string ⟨#[]⟩, .int .i64 0] 38)) := (Below.refl _ w7).alloc (Nat.le_refl _) _; have hbx : Below W5.heap.size W5 (w7.alloc (.cells #[.int .u8 0, .int .i64 0, .string ⟨#[]⟩, .int .i64 0] 38)) := HB7.out.trans (hb9.mono HB7.out.size); (with_reducible refine (bag_Aggregate.calls f0 f2 Ac cc (columnR ls f1) r0 r1 r2 r3 (w7.alloc (.cells #[.int .u8 0, .int .i64 0, .string ⟨#[]⟩, .int .i64 0] 38)) (Kd.C_below HCC.out hb9) HCN.out (HT5.out _ hbx) HAGG.out).mono ?_); rintro e w8 ⟨rfl, hb8⟩; have hb78 : Below w7.heap.size w7 w8 := hb9.trans (hb8.mono hb9.size); have HS8 : Aside0 (w8.cell? ⟨wr.heap.size, 0, none⟩ = some (.int .u8 f0) ∧ w8.cell? ⟨wr.heap.size, 1, none⟩ = some (.int .i64 f1) ∧ w8.cell? ⟨wr.heap.size, 2, none⟩ = some (.bool f2)) := ⟨cells3 hb78 HR7.out⟩; have HS8a : Aside0 (∀ o, ((w8.alloc o).cell? ⟨wr.heap.size, 0, none⟩ = some (.int .u8 f0) ∧ (w8.alloc o).cell? ⟨wr.heap.size, 1, none⟩ = some (.int .i64 f1) ∧ (w8.alloc o).cell? ⟨wr.heap.size, 2, none⟩ = some (.bool f2))) := ⟨fun o => cells3 ((Below.refl _ w8).alloc (Nat.le_refl _) o) HS8.out⟩; have hX8 := (hb8.block w7.heap.size (blk_lt (heap_alloc_new w7 _))).trans (heap_alloc_new w7 _); have x0 : w8.cell? ⟨w7.heap.size, 0, none⟩ = some (.int .u8 0) := (blk_cell hX8 0).trans rfl; have x1 : w8.cell? ⟨w7.heap.size, 1, none⟩ = some (.int .i64 0) := (blk_cell hX8 1).trans rfl; have x2 : w8.cell? ⟨w7.heap.size, 2, none⟩ = some (.string ⟨#[]⟩) := (blk_cell hX8 2).trans rfl; have x3 : w8.cell? ⟨w7.heap.size, 3, none⟩ = some (.int .i64 0) := (blk_cell hX8 3).trans rfl; have xf : ∀ j, w8.frozen? ⟨w7.heap.size, j, none⟩ = false := (fun j => by simp [World.frozen?, hX8]); have HX8 := kA_ hX8; clear hX8; have HB8 := kA_ (HB7.out.trans (hb78.mono HB7.out.size)); clear hb8 hb9 hb78 hbx)
      | (go_at_call 21; (with_reducible refine (bag_Aggregate.calls f0 f2 Ac cc (columnR ls f1) r0 r1 r2 r3 w7 HCC.out HCN.out (HT5.out w7 HB7.out) HAGG.out).mono ?_); rintro e w8 ⟨rfl, hb8⟩; have hb78 : Below w7.heap.size w7 w8 := hb8; have HS8 : Aside0 (w8.cell? ⟨wr.heap.size, 0, none⟩ = some (.int .u8 f0) ∧ w8.cell? ⟨wr.heap.size, 1, none⟩ = some (.int .i64 f1) ∧ w8.cell? ⟨wr.heap.size, 2, none⟩ = some (.bool f2)) := ⟨cells3 hb78 HR7.out⟩; have HS8a : Aside0 (∀ o, ((w8.alloc o).cell? ⟨wr.heap.size, 0, none⟩ = some (.int .u8 f0) ∧ (w8.alloc o).cell? ⟨wr.heap.size, 1, none⟩ = some (.int .i64 f1) ∧ (w8.alloc o).cell? ⟨wr.heap.size, 2, none⟩ = some (.bool f2))) := ⟨fun o => cells3 ((Below.refl _ w8).alloc (Nat.le_refl _) o) HS8.out⟩; have HB8 := kA_ (HB7.out.trans (hb78.mono HB7.out.size)); clear hb8 hb78))
     · obtain ⟨W9, hW9⟩ : ∃ W9, W9 = (w8.alloc (.cells #[.int .u8 r0, .int .i64 r1, .string r2, .int .i64 r3] 38)) := ⟨_, rfl⟩
       rw [← hW9]
       have hO9 : W9.heap[w8.heap.size]? = some (.cells #[.int .u8 r0, .int .i64 r1, .string r2, .int .i64 r3] 38 (0, 0)) := by rw [hW9]; exact heap_alloc_new _ _
       have HB9 : Aside0 (Below wr.heap.size wr W9) := ⟨by rw [hW9]; exact (HB5.out.trans (HB8.out.mono HB5.out.size)).alloc (HB5.out.trans (HB8.out.mono HB5.out.size)).size _⟩
       have o0 : W9.cell? ⟨w8.heap.size, 0, none⟩ = some (.int .u8 r0) := (blk_cell hO9 0).trans rfl
       have o1 : W9.cell? ⟨w8.heap.size, 1, none⟩ = some (.int .i64 r1) := (blk_cell hO9 1).trans rfl
       have o2 : W9.cell? ⟨w8.heap.size, 2, none⟩ = some (.string r2) := (blk_cell hO9 2).trans rfl
       have o3 : W9.cell? ⟨w8.heap.size, 3, none⟩ = some (.int .i64 r3) := (blk_cell hO9 3).trans rfl
       clear hO9 hW9
       try clear x0 x1 x2 x3 xf
       have HK9 := kA_ (Kd.R_below HKR.out HB9.out)
       have HI9 := kA_ (HBI.out.trans (HB9.out.mono HBI.out.size))
       by_cases hr3 : r3 = 0
       · subst hr3
         go_wp2_with (at_builtin; refine Kd.R_append kV (w0 := wN) wN.heap.size rfl (.tmp 123) (.tmp 126) 53 36 (.agg #[(.int .u8 0), (.int .i64 0), (.string ⟨#[]⟩)]) 32 rfl Tryz.underlying53 infoV rfl (by decide) (by decide) _ _ (⟨r0, r1, r2⟩ : V) [.int .u8 r0, .int .i64 r1, .string r2] (fun _ => True) (fun _ => False) rfl rfl (k36_mkM _ _ _ (⟨r0, r1, r2⟩ : V)) (fun _ h => h.elim) (fun _ _ => trivial) HK9.out HI9.out HI9.out.size HLEN.out ?_; intro v6 w6 hR4 hb4 hg4 hat4; have HO4 := kA_ hR4; have HB4 := kA_ hb4; clear hR4 hb4 hg4 hat4)
         have hk := HKQ2.out
         have hly := HLY.out
         have hy0 := HY0.out
         cases gk with
         | zero => omega
         | succ k1 =>
          go_roundg k1
          case measure => omega
          case rel => exact ⟨y + 1, by rw [HWY.out], ⟨by omega⟩, ⟨_, HO4.out, a76_, a48_⟩, HB4⟩
       obtain ⟨hgr, hge⟩ : grs = [] ∧ r3 = ger := by
        have h := HRO2.out
        rw [if_neg hr3] at h
        have h2 := HACC2.out
        rw [← h, if_neg hr3] at h2
        simp only [Prod.mk.injEq] at h2
        exact ⟨h2.1.symm, h2.2⟩
       subst hgr
       have z3 : (r3 != 0) = true := by simp [hr3]
       have z4 : decide (r3 = 0) = false := decide_eq_false hr3
       have hbq : Below wK.heap.size wK W9 := HBO.out.trans ((HBI.out.trans (HB9.out.mono HBI.out.size)).mono HBO.out.size)
       have HN9 := kA_ ((hbq.block q (blk_lt HNK.out)).trans HNK.out)
       have HBZ := kA_ (HBK.out.trans (hbq.mono HBK.out.size))
       have y0 : W9.cell? ⟨q, 0, none⟩ = some (.slice none 0 0) := (blk_cell HN9.out 0).trans rfl
       have y1 : W9.cell? ⟨q, 1, none⟩ = some (.int .i64 0) := (blk_cell HN9.out 1).trans rfl
       have yf : ∀ j, W9.frozen? ⟨q, j, none⟩ = false := fun j => by have := HN9.out; simp [World.frozen?, this]
       clear hbq hr3
       have HGE := kA_ hge
       clear hge
       go_wp2
       refine bodyPost_ret (results_cell_row rfl _ _ q 45 _ (0, 0) _ rfl (out2_cells HN9.out _ _) Tryz.underlying45 rfl a3_) rfl ?_
       exact ⟨_, by rw [HGE.out], Kd.V_nil _ _ _ _ _, out2_below HBZ.out HQW.out _ _⟩
     · obtain ⟨W9, hW9⟩ : ∃ W9, W9 = ((((w8.setCell ⟨w7.heap.size, 0, none⟩ (.int .u8 r0)).setCell ⟨w7.heap.size, 1, none⟩ (.int .i64 r1)).setCell ⟨w7.heap.size, 2, none⟩ (.string r2)).setCell ⟨w7.heap.size, 3, none⟩ (.int .i64 r3)) := ⟨_, rfl⟩
       rw [← hW9]
       have hO9 : W9.heap[w7.heap.size]? = some (.cells #[.int .u8 r0, .int .i64 r1, .string r2, .int .i64 r3] 38 (0, 0)) := by rw [hW9]; exact out_cells HX8.out _ _ _ _
       have HB9 : Aside0 (Below wr.heap.size wr W9) := ⟨by rw [hW9]; exact out_belowB (HB5.out.trans (HB8.out.mono HB5.out.size)) (Nat.le_trans HB5.out.size HB7.out.size) _ _ _ _⟩
       have o0 : W9.cell? ⟨w7.heap.size, 0, none⟩ = some (.int .u8 r0) := (blk_cell hO9 0).trans rfl
       have o1 : W9.cell? ⟨w7.heap.size, 1, none⟩ = some (.int .i64 r1) := (blk_cell hO9 1).trans rfl
       have o2 : W9.cell? ⟨w7.heap.size, 2, none⟩ = some (.string r2) := (blk_cell hO9 2).trans rfl
       have o3 : W9.cell? ⟨w7.heap.size, 3, none⟩ = some (.int .i64 r3) := (blk_cell hO9 3).trans rfl
       clear hO9 hW9
       try clear x0 x1 x2 x3 xf
       have HK9 := kA_ (Kd.R_below HKR.out HB9.out)
       have HI9 := kA_ (HBI.out.trans (HB9.out.mono HBI.out.size))
       by_cases hr3 : r3 = 0
       · subst hr3
         go_wp2_with (at_builtin; refine Kd.R_append kV (w0 := wN) wN.heap.size rfl (.tmp 123) (.tmp 126) 53 36 (.agg #[(.int .u8 0), (.int .i64 0), (.string ⟨#[]⟩)]) 32 rfl Tryz.underlying53 infoV rfl (by decide) (by decide) _ _ (⟨r0, r1, r2⟩ : V) [.int .u8 r0, .int .i64 r1, .string r2] (fun _ => True) (fun _ => False) rfl rfl (k36_mkM _ _ _ (⟨r0, r1, r2⟩ : V)) (fun _ h => h.elim) (fun _ _ => trivial) HK9.out HI9.out HI9.out.size HLEN.out ?_; intro v6 w6 hR4 hb4 hg4 hat4; have HO4 := kA_ hR4; have HB4 := kA_ hb4; clear hR4 hb4 hg4 hat4)
         have hk := HKQ2.out
         have hly := HLY.out
         have hy0 := HY0.out
         cases gk with
         | zero => omega
         | succ k1 =>
          go_roundg k1
          case measure => omega
          case rel => exact ⟨y + 1, by rw [HWY.out], ⟨by omega⟩, ⟨_, HO4.out, a76_, a48_⟩, HB4⟩
       obtain ⟨hgr, hge⟩ : grs = [] ∧ r3 = ger := by
        have h := HRO2.out
        rw [if_neg hr3] at h
        have h2 := HACC2.out
        rw [← h, if_neg hr3] at h2
        simp only [Prod.mk.injEq] at h2
        exact ⟨h2.1.symm, h2.2⟩
       subst hgr
       have z3 : (r3 != 0) = true := by simp [hr3]
       have z4 : decide (r3 = 0) = false := decide_eq_false hr3
       have hbq : Below wK.heap.size wK W9 := HBO.out.trans ((HBI.out.trans (HB9.out.mono HBI.out.size)).mono HBO.out.size)
       have HN9 := kA_ ((hbq.block q (blk_lt HNK.out)).trans HNK.out)
       have HBZ := kA_ (HBK.out.trans (hbq.mono HBK.out.size))
       have y0 : W9.cell? ⟨q, 0, none⟩ = some (.slice none 0 0) := (blk_cell HN9.out 0).trans rfl
       have y1 : W9.cell? ⟨q, 1, none⟩ = some (.int .i64 0) := (blk_cell HN9.out 1).trans rfl
       have yf : ∀ j, W9.frozen? ⟨q, j, none⟩ = false := fun j => by have := HN9.out; simp [World.frozen?, this]
       clear hbq hr3
       have HGE := kA_ hge
       clear hge
       go_wp2
       refine bodyPost_ret (results_cell_row rfl _ _ q 45 _ (0, 0) _ rfl (out2_cells HN9.out _ _) Tryz.underlying45 rfl a3_) rfl ?_
       exact ⟨_, by rw [HGE.out], Kd.V_nil _ _ _ _ _, out2_below HBZ.out HQW.out _ _⟩
     obtain ⟨W9, hW9⟩ : ∃ W9, W9 = ((((w8.setCell ⟨W5.heap.size, 0, none⟩ (.int .u8 r0)).setCell ⟨W5.heap.size, 1, none⟩ (.int .i64 r1)).setCell ⟨W5.heap.size, 2, none⟩ (.string r2)).setCell ⟨W5.heap.size, 3, none⟩ (.int .i64 r3)) := ⟨_, rfl⟩
     rw [← hW9]
     have hO9 : W9.heap[W5.heap.size]? = some (.cells #[.int .u8 r0, .int .i64 r1, .string r2, .int .i64 r3] 38 (0, 0)) := by rw [hW9]; exact out_cells HX8.out _ _ _ _
     have HB9 : Aside0 (Below wr.heap.size wr W9) := ⟨by rw [hW9]; exact out_belowB (HB5.out.trans (HB8.out.mono HB5.out.size)) HB5.out.size _ _ _ _⟩
     have o0 : W9.cell? ⟨W5.heap.size, 0, none⟩ = some (.int .u8 r0) := (blk_cell hO9 0).trans rfl
     have o1 : W9.cell? ⟨W5.heap.size, 1, none⟩ = some (.int .i64 r1) := (blk_cell hO9 1).trans rfl
     have o2 : W9.cell? ⟨W5.heap.size, 2, none⟩ = some (.string r2) := (blk_cell hO9 2).trans rfl
     have o3 : W9.cell? ⟨W5.heap.size, 3, none⟩ = some (.int .i64 r3) := (blk_cell hO9 3).trans rfl
     clear hO9 hW9
     try clear x0 x1 x2 x3 xf
     have HK9 := kA_ (Kd.R_below HKR.out HB9.out)
     have HI9 := kA_ (HBI.out.trans (HB9.out.mono HBI.out.size))
     by_cases hr3 : r3 = 0
     · subst hr3
       go_wp2_with (at_builtin; refine Kd.R_append kV (w0 := wN) wN.heap.size rfl (.tmp 123) (.tmp 126) 53 36 (.agg #[(.int .u8 0), (.int .i64 0), (.string ⟨#[]⟩)]) 32 rfl Tryz.underlying53 infoV rfl (by decide) (by decide) _ _ (⟨r0, r1, r2⟩ : V) [.int .u8 r0, .int .i64 r1, .string r2] (fun _ => True) (fun _ => False) rfl rfl (k36_mkM _ _ _ (⟨r0, r1, r2⟩ : V)) (fun _ h => h.elim) (fun _ _ => trivial) HK9.out HI9.out HI9.out.size HLEN.out ?_; intro v6 w6 hR4 hb4 hg4 hat4; have HO4 := kA_ hR4; have HB4 := kA_ hb4; clear hR4 hb4 hg4 hat4)
       have hk := HKQ2.out
       have hly := HLY.out
       have hy0 := HY0.out
       cases gk with
       | zero => omega
       | succ k1 =>
        go_roundg k1
        case measure => omega
        case rel => exact ⟨y + 1, by rw [HWY.out], ⟨by omega⟩, ⟨_, HO4.out, a76_, a48_⟩, HB4⟩
     obtain ⟨hgr, hge⟩ : grs = [] ∧ r3 = ger := by
      have h := HRO2.out
      rw [if_neg hr3] at h
      have h2 := HACC2.out
      rw [← h, if_neg hr3] at h2
      simp only [Prod.mk.injEq] at h2
      exact ⟨h2.1.symm, h2.2⟩
     subst hgr
     have z3 : (r3 != 0) = true := by simp [hr3]
     have z4 : decide (r3 = 0) = false := decide_eq_false hr3
     have hbq : Below wK.heap.size wK W9 := HBO.out.trans ((HBI.out.trans (HB9.out.mono HBI.out.size)).mono HBO.out.size)
     have HN9 := kA_ ((hbq.block q (blk_lt HNK.out)).trans HNK.out)
     have HBZ := kA_ (HBK.out.trans (hbq.mono HBK.out.size))
     have y0 : W9.cell? ⟨q, 0, none⟩ = some (.slice none 0 0) := (blk_cell HN9.out 0).trans rfl
     have y1 : W9.cell? ⟨q, 1, none⟩ = some (.int .i64 0) := (blk_cell HN9.out 1).trans rfl
     have yf : ∀ j, W9.frozen? ⟨q, j, none⟩ = false := fun j => by have := HN9.out; simp [World.frozen?, this]
     clear hbq hr3
     have HGE := kA_ hge
     clear hge
     go_wp2
     refine bodyPost_ret (results_cell_row rfl _ _ q 45 _ (0, 0) _ rfl (out2_cells HN9.out _ _) Tryz.underlying45 rfl a3_) rfl ?_
     exact ⟨_, by rw [HGE.out], Kd.V_nil _ _ _ _ _, out2_below HBZ.out HQW.out _ _⟩
abbrev iV (n : Int) : V := ⟨1, n, ⟨#[]⟩⟩
abbrev oneA_ : List (List V) := [[iV 2], [iV 1], [iV 1]]
abbrev twoA_ : List (List V) := [[iV 1], [iV 3]]
theorem C_row1 {W : World} {b : Nat} {t : TypeId} (v : V) (h : W.heap[b]? = some (.cells #[.int .u8 v.f0, .int .i64 v.f1, .string v.f2] t (0, 0))) : Kd.C kV W (some ⟨b, 0, none⟩) [v].length [v] := by
 refine ⟨rfl, by simp, fun _ => ⟨⟨b, 0, none⟩, rfl, fun j p hj => ?_⟩⟩
 cases j with
 | succ j => simp at hj
 | zero =>
  obtain rfl : v = p := by simpa using hj
  refine ⟨[.int .u8 v.f0, .int .i64 v.f1, .string v.f2], rfl, kV.K_of_M (base := 0) (ok := fun _ => True) (k36_mkM _ _ _ v), fun i u hi => ?_⟩
  have h := blk_cell h i
  rw [add_plain, Nat.zero_mul, Nat.zero_add]
  refine h.trans ?_
  simpa using hi
theorem C_rows {W : World} {g : Nat} {cs : Array Value} {t : TypeId} {l : List (List V)} (h : W.heap[g]? = some (.cells cs t (0, 0))) (hn : l.length ≤ 9223372036854775807) (hr : ∀ (j : Nat) (row : List V), l[j]? = some row → ∃ A c, cs[j]? = some (Value.slice A row.length c) ∧ row.length ≤ c ∧ Kd.C kV W A row.length row) : Kd.C kRow W (some ⟨g, 0, none⟩) l.length l := by
 refine ⟨rfl, hn, fun _ => ⟨⟨g, 0, none⟩, rfl, fun j p hj => ?_⟩⟩
 obtain ⟨A, c, h1, h2, h3⟩ := hr j p hj
 refine ⟨[.slice A p.length c], rfl, ⟨A, c, rfl, h2, h3⟩, fun i u hi => ?_⟩
 cases i with
 | succ i => simp at hi
 | zero =>
  obtain rfl : Value.slice A p.length c = u := by simpa using hi
  rw [add_plain]
  show W.cell? ⟨g, j * 1 + 0, none⟩ = _
  rw [Nat.mul_one, Nat.add_zero]
  exact (blk_cell h j).trans h1
theorem valid_iV (n : Int) : validV (iV n) = true := by
 unfold validV noText
 simp [ByteArray.toList_eq]
theorem ok_iV (n : Int) (h : -9223372036854775808 ≤ n ∧ n ≤ 9223372036854775807) : VOk (iV n) := ⟨by simp, by simp, h.1, h.2⟩
theorem rowOk_iV (l : List V) (h : ∀ v ∈ l, ∃ n : Int, -9223372036854775808 ≤ n ∧ n ≤ 9223372036854775807 ∧ v = iV n) (hn : l.length ≤ 2) : RowOk l := by
 have len1 : ∀ n : Int, -9223372036854775808 ≤ n → n ≤ 9223372036854775807 → (nameV (iV n)).length ≤ 100 := fun n h0 h1 => by
  have i1 := Lib.itoa_length_le 1 (by omega) (by omega)
  have i2 := Lib.itoa_length_le n (by omega) (by omega)
  have i3 := Lib.itoa_length_le 0 (by omega) (by omega)
  show (Lib.itoa 1 ++ ([32] ++ (Lib.itoa n ++ ([32] ++ (Lib.itoa 0 ++ ([58] ++ ([] : List UInt8))))))).length ≤ 100
  simp only [List.length_append, List.length_cons, List.length_nil]
  omega
 refine ⟨fun v hv => ?_, ?_, by omega⟩
 · obtain ⟨n, h0, h1, rfl⟩ := h v hv
   exact ok_iV n ⟨h0, h1⟩
 match l, h, hn with
 | [], _, _ => simp [nameB]
 | [a], h, _ =>
  obtain ⟨n, h0, h1, rfl⟩ := h a (by simp)
  have := len1 n h0 h1
  simp only [nameB, List.append_nil]
  omega
 | [a, b], h, _ =>
  obtain ⟨n, h0, h1, rfl⟩ := h a (by simp)
  obtain ⟨m, h2, h3, rfl⟩ := h b (by simp)
  have e1 := len1 n h0 h1
  have e2 := len1 m h2 h3
  simp only [nameB, List.append_nil, List.length_append]
  omega
theorem one_ok : RowsOk oneA_ := ⟨fun r hr => by
 simp only [oneA_, List.mem_cons, List.not_mem_nil, or_false] at hr
 rcases hr with rfl | rfl | rfl
 · exact rowOk_iV _ (fun v hv => ⟨2, by omega, by omega, by simpa using hv⟩) (by simp)
 · exact rowOk_iV _ (fun v hv => ⟨1, by omega, by omega, by simpa using hv⟩) (by simp)
 exact rowOk_iV _ (fun v hv => ⟨1, by omega, by omega, by simpa using hv⟩) (by simp), by simp⟩
theorem two_ok : RowsOk twoA_ := ⟨fun r hr => by
 simp only [twoA_, List.mem_cons, List.not_mem_nil, or_false] at hr
 rcases hr with rfl | rfl
 · exact rowOk_iV _ (fun v hv => ⟨1, by omega, by omega, by simpa using hv⟩) (by simp)
 exact rowOk_iV _ (fun v hv => ⟨3, by omega, by omega, by simpa using hv⟩) (by simp), by simp⟩
theorem valid_ints (l : List (List V)) (h : ∀ r ∈ l, ∃ n, r = [iV n]) : validB l = true := by
 have key : ∀ (l : List (List V)) (k : Int), (k = 0 ∨ k = 1) → (∀ r ∈ l, ∃ n, r = [iV n]) → validFrom [k] l = true := by
  intro l
  induction l with
  | nil => intro k _ _; rfl
  | cons r rs ih =>
   intro k hk h
   obtain ⟨n, rfl⟩ := h r (by simp)
   have e : rowStep [k] [iV n] = some [1] := by
    simp only [rowStep]
    rw [if_pos ⟨valid_iV n, by show k = 0 ∨ k = 1 ∨ (1 : Int) = 0; omega⟩]
    rcases hk with rfl | rfl <;> rfl
   simp only [validFrom, e]
   exact ih 1 (.inr rfl) (fun r hr => h r (List.mem_cons_of_mem _ hr))
 cases l with
 | nil => rfl
 | cons r rs =>
  obtain ⟨n, hn⟩ := h r (by simp)
  unfold validB
  rw [hn]
  rw [hn] at h
  exact key _ 0 (.inl rfl) h
theorem one_valid : validB oneA_ = true := valid_ints _ (fun r hr => by
 simp only [oneA_, List.mem_cons, List.not_mem_nil, or_false] at hr
 rcases hr with rfl | rfl | rfl <;> exact ⟨_, rfl⟩)
theorem both_valid : validB (oneA_ ++ twoA_) = true := valid_ints _ (fun r hr => by
 simp only [oneA_, twoA_, List.cons_append, List.nil_append, List.mem_cons, List.not_mem_nil, or_false] at hr
 rcases hr with rfl | rfl | rfl | rfl | rfl <;> exact ⟨_, rfl⟩)
theorem ne_iV {a b : Int} (h : a ≠ b) : nameOf [iV a] ≠ nameOf [iV b] := fun e => by
 have h1 := name_inj e
 simp only [List.cons.injEq, and_true] at h1
 injection h1 with _ h2
 exact h h2
theorem awake_except : ∃ met left, bag_split.f oneA_ twoA_ = some (met, left, 0) ∧ left.length = 2 := by
 have hok : RowsOk (oneA_ ++ twoA_) := ⟨fun r hr => by
  rcases List.mem_append.1 hr with h | h
  · exact one_ok.1 r h
  exact two_ok.1 r h, by simp⟩
 refine ⟨_, _, by unfold bag_split.f; rw [if_pos hok, if_pos both_valid], ?_⟩
 rw [(sortR_perm _ _).length_eq]
 have h21 : nameOf [iV 2] ≠ nameOf [iV 1] := ne_iV (by decide)
 have h13 : nameOf [iV 1] ≠ nameOf [iV 3] := ne_iV (by decide)
 have h23 : nameOf [iV 2] ≠ nameOf [iV 3] := ne_iV (by decide)
 have e1 : cnt (twoA_.map nameOf) (nameOf [iV 2]) = 0 := by simp [twoA_, cnt, h21.symm, h23.symm]
 have e2 : cnt (twoA_.map nameOf) (nameOf [iV 1]) = 1 := by simp [twoA_, cnt, h13.symm]
 obtain ⟨c, hc⟩ : ∃ c, c = cnt (twoA_.map nameOf) := ⟨_, rfl⟩
 rw [← hc] at e1 e2 ⊢
 have e3 : decAt c (nameOf [iV 1]) (nameOf [iV 1]) = 0 := by simp [decAt, e2]
 simp only [oneA_, splitR, e1, e2, e3]
 simp [splitR, e3]
theorem cmp_iV (a b : Int) : compareV (iV a) (iV b) = cmpI a b := by
 unfold compareV
 have : cmpI (iV a).f0 (iV b).f0 = 0 := rfl
 rw [if_pos this, if_neg (by show ¬ (1 : Int) = 0; decide), if_neg (by show ¬ (1 : Int) = 2; decide)]
theorem awake_cut : bag_Cut.f oneA_ [⟨0, true⟩] 0 1 = some ([[iV 2]], 0) := by
 have hk : keysB oneA_ [⟨0, true⟩] = true := by decide
 have hf : fitsB oneA_ [⟨0, true⟩] = true := by unfold fitsB; rw [one_valid, hk]; rfl
 unfold bag_Cut.f
 rw [if_pos ⟨one_ok.v, by simp, by decide, by decide⟩, if_pos ⟨hf, by decide, by decide⟩]
 have hs : sortR [⟨0, true⟩] oneA_ = oneA_ := by
  refine (sortR_unique (fun row hrow => validB_valid one_valid row hrow) (List.Perm.refl _) ?_).symm
  have c : ∀ a b : Int, cmpFull [⟨0, true⟩] [iV a] [iV b] = if cmpI a b = 0 then 0 else -cmpI a b := fun a b => by
   unfold cmpFull
   have e1 : cmpBy [⟨0, true⟩] [iV a] [iV b] = if cmpI a b = 0 then 0 else -cmpI a b := by
    simp only [cmpBy]
    show (if compareV (iV a) (iV b) = 0 then 0 else if True then -compareV (iV a) (iV b) else _) = _
    rw [cmp_iV, if_pos trivial]
   rw [e1]
   by_cases h : cmpI a b = 0
   · rw [if_pos h, if_pos rfl]
     simp [cmpRows, cmp_iV, h]
   rw [if_neg h, if_neg (by omega)]
  refine List.Pairwise.cons (fun r hr => ?_) (List.Pairwise.cons (fun r hr => ?_) (List.Pairwise.cons (fun r hr => by cases hr) List.Pairwise.nil))
  · simp only [List.mem_cons, List.not_mem_nil, or_false] at hr
    rcases hr with rfl | rfl <;> (rw [c]; decide)
  simp only [List.mem_cons, List.not_mem_nil, or_false] at hr
  subst hr
  rw [c]; decide
 rw [hs]
 rfl
theorem awake_agg : bag_Aggregate.f 2 false [iV 9223372036854775807, iV 1, iV (-1)] = some (1, 9223372036854775807, ⟨#[]⟩, 0) := by
 have hok : AggOk 2 [iV 9223372036854775807, iV 1, iV (-1)] := by
  refine ⟨by omega, fun h => by omega, fun v hv => ?_, by simp⟩
  simp only [List.mem_cons, List.not_mem_nil, or_false] at hv
  refine rowOk_iV [v] (fun u hu => ?_) (by simp)
  obtain rfl : u = v := by simpa using hu
  rcases hv with rfl | rfl | rfl
  · exact ⟨_, by omega, by omega, rfl⟩
  · exact ⟨_, by omega, by omega, rfl⟩
  exact ⟨_, by omega, by omega, rfl⟩
 unfold bag_Aggregate.f
 rw [if_pos hok]
 have ha : allowedB 2 false [iV 9223372036854775807, iV 1, iV (-1)] = true := by
  unfold allowedB
  rw [if_neg (by simp)]
  simp only [kindFrom, valid_iV]
  rfl
 unfold aggR
 rw [if_pos ha]
 unfold aggV
 rw [if_pos rfl]
 have hp : pickV 2 false [] [iV 9223372036854775807, iV 1, iV (-1)] = [iV 9223372036854775807, iV 1, iV (-1)] := by
  simp [pickV]
 rw [hp]
 rfl
theorem awake_same : bag_Same.f oneA_ twoA_ = some false := by
 have hs : sameB oneA_ twoA_ = false := sameB_false (fun h => by have := h.1; simp at this)
 unfold bag_Same.f
 rw [if_pos ⟨one_ok, two_ok⟩, hs]
theorem awake_groupOk : GroupOk oneA_ [0] [⟨0, 0, false⟩] := by
 have hkeys : ∀ row ∈ oneA_, keyOf [0] row = row := fun row hrow => by
  simp only [oneA_, List.mem_cons, List.not_mem_nil, or_false] at hrow
  rcases hrow with rfl | rfl | rfl <;> rfl
 refine ⟨one_ok, by simp, by simp, by simp, fun a ha => ?_, fun row hrow => by rw [hkeys row hrow]; exact one_ok.1 row hrow, fun a ha row hrow => ?_⟩
 · obtain rfl : a = ⟨0, 0, false⟩ := by simpa using ha
   exact Int.le_refl _
 obtain rfl : a = ⟨0, 0, false⟩ := by simpa using ha
 have : [rd_T36 row 0] = row := by
  simp only [oneA_, List.mem_cons, List.not_mem_nil, or_false] at hrow
  rcases hrow with rfl | rfl | rfl <;> rfl
 rw [this]
 exact one_ok.1 row hrow
theorem awake_groupable : groupableB oneA_ [0] [⟨0, 0, false⟩] = true := by
 unfold groupableB
 simp only [Bool.and_eq_true, List.all_eq_true]
 exact ⟨⟨one_valid, fun n hn => by
  obtain rfl : n = 0 := by simpa using hn
  decide⟩, fun a ha => by
  obtain rfl : a = ⟨0, 0, false⟩ := by simpa using ha
  rfl⟩
theorem awake_group : groupG oneA_ [0] [⟨0, 0, false⟩] = ([[iV 1, iV 2], [iV 2, iV 1]], 0) := by
 have h21 : nameOf [iV 2] ≠ nameOf [iV 1] := ne_iV (by decide)
 have hm : oneA_.map (keyOf [0]) = oneA_ := rfl
 have hd : distR [] oneA_ = [[iV 2], [iV 1]] := by
  simp only [oneA_, distR]
  simp [h21.symm]
 have hk : keysR [0] oneA_ = [[iV 1], [iV 2]] := by
  unfold keysR
  rw [if_neg (by simp), hm, hd]
  refine (sortR_unique (fun row hrow => ?_) (List.Perm.swap _ _ _) ?_).symm
  · exact validB_valid (valid_ints [[iV 2], [iV 1]] (fun r hr => by
     simp only [List.mem_cons, List.not_mem_nil, or_false] at hr
     rcases hr with rfl | rfl <;> exact ⟨_, rfl⟩)) row hrow
  refine List.Pairwise.cons (fun r hr => ?_) (List.Pairwise.cons (fun r hr => by cases hr) List.Pairwise.nil)
  obtain rfl : r = [iV 2] := by simpa using hr
  unfold cmpFull
  simp only [cmpBy, cmpRows, cmp_iV]
  decide
 have l1 : (listR [0] oneA_ (nameOf [iV 1])).length = 2 := by
  unfold listR
  have e1 : nameOf (keyOf [0] [iV 2]) ≠ nameOf [iV 1] := h21
  have e2 : nameOf (keyOf [0] [iV 1]) = nameOf [iV 1] := rfl
  simp [oneA_, e1, e2]
 have l2 : (listR [0] oneA_ (nameOf [iV 2])).length = 1 := by
  unfold listR
  have e1 : nameOf (keyOf [0] [iV 2]) = nameOf [iV 2] := rfl
  have e2 : nameOf (keyOf [0] [iV 1]) ≠ nameOf [iV 2] := h21.symm
  simp [oneA_, e1, e2]
 rw [groupG_count one_valid (fun n hn => by
  obtain rfl : n = 0 := by simpa using hn
  decide), hk]
 simp only [List.map_cons, List.map_nil, l1, l2]
 rfl
theorem new_at (w : World) (cs : Array Value) (t : TypeId) : (w.alloc (.cells cs t)).heap[w.heap.size]? = some (.cells cs t (0, 0)) := heap_alloc_new _ _
theorem kept_at {w W : World} {b : Nat} {o : Obj} (h : w.heap[b]? = some o) (hb : Below w.heap.size w W) : W.heap[b]? = some o := (hb.block b (blk_lt h)).trans h
theorem new_at1 (w : World) (o : Obj) (cs : Array Value) (t : TypeId) : ((w.alloc o).alloc (.cells cs t)).heap[w.heap.size + 1]? = some (.cells cs t (0, 0)) := by
 have h := heap_alloc_new (w.alloc o) (.cells cs t)
 rw [show (w.alloc o).heap.size = w.heap.size + 1 by simp] at h
 exact h
theorem below2 (w : World) (o p : Obj) : Below w.heap.size w ((w.alloc o).alloc p) := ((Below.refl w.heap.size w).alloc (Nat.le_refl _) o).alloc (by simp) p
theorem kept_alloc {w : World} {b : Nat} {o : Obj} (h : w.heap[b]? = some o) (x : Obj) : (w.alloc x).heap[b]? = some o := (Below.heap_alloc w x b (blk_lt h)).trans h
theorem C_one {α : Type} {d : Kd α} {W : World} {b : Nat} {t : TypeId} {cs : Array Value} (x : α) (h : W.heap[b]? = some (.cells cs t (0, 0))) (hl : cs.toList.length = d.sz) (hk : d.K W x cs.toList) : Kd.C d W (some ⟨b, 0, none⟩) [x].length [x] := by
 refine ⟨rfl, by simp, fun _ => ⟨⟨b, 0, none⟩, rfl, fun j p hj => ?_⟩⟩
 cases j with
 | succ j => simp at hj
 | zero =>
  obtain rfl : x = p := by simpa using hj
  refine ⟨cs.toList, hl, hk, fun i u hi => ?_⟩
  have h := blk_cell h i
  rw [add_plain, Nat.zero_mul, Nat.zero_add]
  refine h.trans ?_
  simpa using hi
theorem C_three {W : World} {b : Nat} {t : TypeId} (x y z : Int) (h : W.heap[b]? = some (.cells #[.int .u8 1, .int .i64 x, .string ⟨#[]⟩, .int .u8 1, .int .i64 y, .string ⟨#[]⟩, .int .u8 1, .int .i64 z, .string ⟨#[]⟩] t (0, 0))) : Kd.C kV W (some ⟨b, 0, none⟩) [iV x, iV y, iV z].length [iV x, iV y, iV z] := by
 refine ⟨rfl, by simp, fun _ => ⟨⟨b, 0, none⟩, rfl, fun j p hj => ?_⟩⟩
 match j, hj with
 | 0, hj =>
  obtain rfl : iV x = p := by simpa using hj
  refine ⟨[.int .u8 1, .int .i64 x, .string ⟨#[]⟩], rfl, kV.K_of_M (base := 0) (ok := fun _ => True) (k36_mkM _ _ _ (iV x)), fun i u hi => ?_⟩
  have h := blk_cell h (0 * 3 + i)
  rw [add_plain]
  refine h.trans ?_
  match i, hi with
  | 0, hi => simpa using hi
  | 1, hi => simpa using hi
  | 2, hi => simpa using hi
  | i + 3, hi => simp at hi
 | 1, hj =>
  obtain rfl : iV y = p := by simpa using hj
  refine ⟨[.int .u8 1, .int .i64 y, .string ⟨#[]⟩], rfl, kV.K_of_M (base := 0) (ok := fun _ => True) (k36_mkM _ _ _ (iV y)), fun i u hi => ?_⟩
  have h := blk_cell h (1 * 3 + i)
  rw [add_plain]
  refine h.trans ?_
  match i, hi with
  | 0, hi => simpa using hi
  | 1, hi => simpa using hi
  | 2, hi => simpa using hi
  | i + 3, hi => simp at hi
 | 2, hj =>
  obtain rfl : iV z = p := by simpa using hj
  refine ⟨[.int .u8 1, .int .i64 z, .string ⟨#[]⟩], rfl, kV.K_of_M (base := 0) (ok := fun _ => True) (k36_mkM _ _ _ (iV z)), fun i u hi => ?_⟩
  have h := blk_cell h (2 * 3 + i)
  rw [add_plain]
  refine h.trans ?_
  match i, hi with
  | 0, hi => simpa using hi
  | 1, hi => simpa using hi
  | 2, hi => simpa using hi
  | i + 3, hi => simp at hi
 | j + 3, hj => simp at hj
theorem C_two {W : World} {b : Nat} {t : TypeId} (x y : Int) (h : W.heap[b]? = some (.cells #[.int .u8 1, .int .i64 x, .string ⟨#[]⟩, .int .u8 1, .int .i64 y, .string ⟨#[]⟩] t (0, 0))) : Kd.C kV W (some ⟨b, 0, none⟩) [iV x, iV y].length [iV x, iV y] := by
 refine ⟨rfl, by simp, fun _ => ⟨⟨b, 0, none⟩, rfl, fun j p hj => ?_⟩⟩
 match j, hj with
 | 0, hj =>
  obtain rfl : iV x = p := by simpa using hj
  refine ⟨[.int .u8 1, .int .i64 x, .string ⟨#[]⟩], rfl, kV.K_of_M (base := 0) (ok := fun _ => True) (k36_mkM _ _ _ (iV x)), fun i u hi => ?_⟩
  have h := blk_cell h (0 * 3 + i)
  rw [add_plain]
  refine h.trans ?_
  match i, hi with
  | 0, hi => simpa using hi
  | 1, hi => simpa using hi
  | 2, hi => simpa using hi
  | i + 3, hi => simp at hi
 | 1, hj =>
  obtain rfl : iV y = p := by simpa using hj
  refine ⟨[.int .u8 1, .int .i64 y, .string ⟨#[]⟩], rfl, kV.K_of_M (base := 0) (ok := fun _ => True) (k36_mkM _ _ _ (iV y)), fun i u hi => ?_⟩
  have h := blk_cell h (1 * 3 + i)
  rw [add_plain]
  refine h.trans ?_
  match i, hi with
  | 0, hi => simpa using hi
  | 1, hi => simpa using hi
  | 2, hi => simpa using hi
  | i + 3, hi => simp at hi
 | j + 2, hj => simp at hj
theorem awake_calls (w : World) (hT : LaidT w) : Calls Tryz.prog 13 #[] w fun e w' => e = .returned (.bool true) ∧ Below w.heap.size w w' := by
 have HT := kA_ hT
 clear hT
 go_enter Tryz.func13, Tryz.ntmps13
 go_wp2_with fail
 refine (r1_Int.calls 2 1 2 ⟨#[]⟩ w rfl).mono ?_
 rintro e w1 ⟨rfl, hb1⟩
 have HB1 := kA_ hb1; clear hb1
 go_wp2_with fail
 refine (r1_Int.calls 1 1 1 ⟨#[]⟩ _ rfl).mono ?_
 rintro e w2 ⟨rfl, hb2⟩
 have A1 := kA_ (kept_at (new_at w1 _ _) hb2)
 have HB2 := kA_ (HB1.out.trans (((Below.refl w1.heap.size w1).alloc (Nat.le_refl _) _ |>.trans (hb2.mono (by simp))).mono HB1.out.size)); clear hb2
 go_wp2_with fail
 refine (r1_Int.calls 1 1 1 ⟨#[]⟩ _ rfl).mono ?_
 rintro e w3 ⟨rfl, hb3⟩
 have A2 := kA_ (kept_at (new_at w2 _ _) hb3)
 have A1' := kA_ (kept_at (kept_alloc A1.out _) hb3)
 have HB3 := kA_ (HB2.out.trans (((Below.refl w2.heap.size w2).alloc (Nat.le_refl _) _ |>.trans (hb3.mono (by simp))).mono HB2.out.size)); clear hb3 A1
 go_wp2_with fail
 refine (r1_Int.calls 1 1 1 ⟨#[]⟩ _ rfl).mono ?_
 rintro e w4 ⟨rfl, hb4⟩
 have HG := kA_ (kept_at (new_at1 w3 (.cells #[.int .u8 1, .int .i64 1, .string ⟨#[]⟩] 36) _ _) hb4)
 have HA3 := kA_ (kept_at (kept_alloc (new_at w3 _ _) (.cells #[.slice (some ⟨w1.heap.size, 0, none⟩) 1 1, .slice (some ⟨w2.heap.size, 0, none⟩) 1 1, .slice (some ⟨w3.heap.size, 0, none⟩) 1 1] 53)) hb4)
 have HA2 := kA_ (kept_at (kept_alloc (kept_alloc A2.out (.cells #[.int .u8 1, .int .i64 1, .string ⟨#[]⟩] 36)) (.cells #[.slice (some ⟨w1.heap.size, 0, none⟩) 1 1, .slice (some ⟨w2.heap.size, 0, none⟩) 1 1, .slice (some ⟨w3.heap.size, 0, none⟩) 1 1] 53)) hb4)
 have HA1 := kA_ (kept_at (kept_alloc (kept_alloc A1'.out (.cells #[.int .u8 1, .int .i64 1, .string ⟨#[]⟩] 36)) (.cells #[.slice (some ⟨w1.heap.size, 0, none⟩) 1 1, .slice (some ⟨w2.heap.size, 0, none⟩) 1 1, .slice (some ⟨w3.heap.size, 0, none⟩) 1 1] 53)) hb4)
 have HB4 := kA_ (HB3.out.trans ((below2 w3 (.cells #[.int .u8 1, .int .i64 1, .string ⟨#[]⟩] 36) (.cells #[.slice (some ⟨w1.heap.size, 0, none⟩) 1 1, .slice (some ⟨w2.heap.size, 0, none⟩) 1 1, .slice (some ⟨w3.heap.size, 0, none⟩) 1 1] 53)).mono HB3.out.size |>.trans (hb4.mono (by have := HB3.out.size; simp; omega))))
 clear hb4 A1' A2
 have HONE : Aside0 (kRow.C w4 (some ⟨w3.heap.size + 1, 0, none⟩) oneA_.length oneA_) := ⟨C_rows HG.out (by simp) (fun j row hj => by
  match j, hj with
  | 0, hj =>
   obtain rfl : [iV 2] = row := by simpa [oneA_] using hj
   exact ⟨_, 1, rfl, by simp, C_row1 (iV 2) HA1.out⟩
  | 1, hj =>
   obtain rfl : [iV 1] = row := by simpa [oneA_] using hj
   exact ⟨_, 1, rfl, by simp, C_row1 (iV 1) HA2.out⟩
  | 2, hj =>
   obtain rfl : [iV 1] = row := by simpa [oneA_] using hj
   exact ⟨_, 1, rfl, by simp, C_row1 (iV 1) HA3.out⟩
  | j + 3, hj => simp [oneA_] at hj)⟩
 clear HG HA1 HA2 HA3
 obtain ⟨g1, hg1⟩ : ∃ g1, g1 = w3.heap.size + 1 := ⟨_, rfl⟩
 rw [← hg1] at HONE
 rw [← hg1]
 clear hg1
 go_wp2_with fail
 refine (r1_Int.calls 3 1 3 ⟨#[]⟩ _ rfl).mono ?_
 rintro e w5 ⟨rfl, hb5⟩
 have A4 := kA_ (kept_at (new_at w4 _ _) hb5)
 have HB5 := kA_ (HB4.out.trans (((Below.refl w4.heap.size w4).alloc (Nat.le_refl _) (.cells #[.int .u8 1, .int .i64 1, .string ⟨#[]⟩] 36) |>.trans (hb5.mono (by simp))).mono HB4.out.size))
 have HONE5 := kA_ (Kd.C_below HONE.out ((Below.refl w4.heap.size w4).alloc (Nat.le_refl _) (.cells #[.int .u8 1, .int .i64 1, .string ⟨#[]⟩] 36) |>.trans (hb5.mono (by simp))))
 clear hb5 HONE
 go_wp2_with fail
 have HG := kA_ (new_at1 w5 (.cells #[.int .u8 1, .int .i64 3, .string ⟨#[]⟩] 36) #[.slice (some ⟨w4.heap.size, 0, none⟩) 1 1, .slice (some ⟨w5.heap.size, 0, none⟩) 1 1] 53)
 have HA5 := kA_ (kept_alloc (new_at w5 #[.int .u8 1, .int .i64 3, .string ⟨#[]⟩] 36) (.cells #[.slice (some ⟨w4.heap.size, 0, none⟩) 1 1, .slice (some ⟨w5.heap.size, 0, none⟩) 1 1] 53))
 have HA4 := kA_ (kept_alloc (kept_alloc A4.out (.cells #[.int .u8 1, .int .i64 3, .string ⟨#[]⟩] 36)) (.cells #[.slice (some ⟨w4.heap.size, 0, none⟩) 1 1, .slice (some ⟨w5.heap.size, 0, none⟩) 1 1] 53))
 have HB6 := kA_ (HB5.out.trans ((below2 w5 (.cells #[.int .u8 1, .int .i64 3, .string ⟨#[]⟩] 36) (.cells #[.slice (some ⟨w4.heap.size, 0, none⟩) 1 1, .slice (some ⟨w5.heap.size, 0, none⟩) 1 1] 53)).mono HB5.out.size))
 have HONE6 := kA_ (Kd.C_below HONE5.out (below2 w5 (.cells #[.int .u8 1, .int .i64 3, .string ⟨#[]⟩] 36) (.cells #[.slice (some ⟨w4.heap.size, 0, none⟩) 1 1, .slice (some ⟨w5.heap.size, 0, none⟩) 1 1] 53)))
 have HTWO : Aside0 (kRow.C ((w5.alloc (.cells #[.int .u8 1, .int .i64 3, .string ⟨#[]⟩] 36)).alloc (.cells #[.slice (some ⟨w4.heap.size, 0, none⟩) 1 1, .slice (some ⟨w5.heap.size, 0, none⟩) 1 1] 53)) (some ⟨w5.heap.size + 1, 0, none⟩) twoA_.length twoA_) := ⟨C_rows HG.out (by simp) (fun j row hj => by
  match j, hj with
  | 0, hj =>
   obtain rfl : [iV 1] = row := by simpa [twoA_] using hj
   exact ⟨_, 1, rfl, by simp, C_row1 (iV 1) HA4.out⟩
  | 1, hj =>
   obtain rfl : [iV 3] = row := by simpa [twoA_] using hj
   exact ⟨_, 1, rfl, by simp, C_row1 (iV 3) HA5.out⟩
  | j + 2, hj => simp [twoA_] at hj)⟩
 clear HG HA4 HA5 A4 HONE5
 obtain ⟨g2, hg2⟩ : ∃ g2, g2 = w5.heap.size + 1 := ⟨_, rfl⟩
 rw [← hg2] at HTWO
 rw [← hg2]
 clear hg2
 obtain ⟨W6, hW6⟩ : ∃ W6, W6 = (w5.alloc (.cells #[.int .u8 1, .int .i64 3, .string ⟨#[]⟩] 36)).alloc (.cells #[.slice (some ⟨w4.heap.size, 0, none⟩) 1 1, .slice (some ⟨w5.heap.size, 0, none⟩) 1 1] 53) := ⟨_, rfl⟩
 rw [← hW6] at HTWO HONE6 HB6
 rw [← hW6]
 clear hW6
 obtain ⟨met, left, hsp, hll⟩ := awake_except
 have HLL := kA_ hll
 refine (split_Except _ _ oneA_ _ _ twoA_ met left 0 W6 HONE6.out (by simp) HTWO.out (by simp) (HT.out.below HB6.out) hsp).mono ?_
 rintro e w7 ⟨v0, rfl, ⟨Av, cv, hv0, hlv, hF⟩, hb7⟩
 rw [HLL.out] at hv0
 subst hv0
 have HB7 := kA_ (HB6.out.trans (hb7.mono HB6.out.size))
 have HONE7 := kA_ (Kd.C_below HONE6.out hb7)
 have HTWO7 := kA_ (Kd.C_below HTWO.out hb7)
 clear hsp hll hlv hF hb7 HONE6 HTWO
 go_wp2_with fail
 have hBK : Below w7.heap.size w7 (w7.alloc (.cells #[.int .i64 0, .bool true] 64)) := (Below.refl _ w7).alloc (Nat.le_refl _) _
 have HB8 := kA_ (HB7.out.trans (hBK.mono HB7.out.size))
 have HKY : Aside0 (kKey.C (w7.alloc (.cells #[.int .i64 0, .bool true] 64)) (some ⟨w7.heap.size, 0, none⟩) [(⟨0, true⟩ : KeyT)].length [⟨0, true⟩]) := ⟨C_one (⟨0, true⟩ : KeyT) (new_at w7 _ _) rfl (kKey.K_of_M (base := 0) (ok := fun _ => True) (k64_mkM _ _ _ ⟨0, true⟩))⟩
 have HONE8 := kA_ (Kd.C_below HONE7.out hBK)
 have HTWO8 := kA_ (Kd.C_below HTWO7.out hBK)
 clear HONE7 HTWO7 hBK
 refine (bag_Cut.calls (some ⟨g1, 0, none⟩) 3 oneA_ (some ⟨w7.heap.size, 0, none⟩) 1 [⟨0, true⟩] 0 1 [[iV 2]] 0 _ HONE8.out (by simp) HKY.out (by simp) awake_cut).mono ?_
 rintro e w9 ⟨v1, rfl, ⟨Ac, cc, hv1, hlc, hFc⟩, hb9⟩
 have hv1 : v1 = .slice Ac 1 cc := hv1
 subst hv1
 have HCUT := kA_ (Kd.F_now hFc)
 have HCL := kA_ hlc
 have HB9 := kA_ (HB8.out.trans (hb9.mono HB8.out.size))
 have HONE9 := kA_ (Kd.C_below HONE8.out hb9)
 have HTWO9 := kA_ (Kd.C_below HTWO8.out hb9)
 clear hlc hFc hb9 HONE8 HTWO8 HKY
 go_wp2_with fail
 have hBG : Below w9.heap.size w9 ((w9.alloc (.cells #[.int .i64 0] 3)).alloc (.cells #[.int .u8 0, .int .i64 0, .bool false] 55)) := below2 w9 _ _
 have HB10 := kA_ (HB9.out.trans (hBG.mono HB9.out.size))
 have HCO : Aside0 ((Kd.int .i64).C ((w9.alloc (.cells #[.int .i64 0] 3)).alloc (.cells #[.int .u8 0, .int .i64 0, .bool false] 55)) (some ⟨w9.heap.size, 0, none⟩) [(0 : Int)].length [0]) := ⟨C_one (d := Kd.int .i64) (0 : Int) (kept_alloc (new_at w9 _ _) _) rfl rfl⟩
 have HAG : Aside0 (kAgg.C ((w9.alloc (.cells #[.int .i64 0] 3)).alloc (.cells #[.int .u8 0, .int .i64 0, .bool false] 55)) (some ⟨w9.heap.size + 1, 0, none⟩) [(⟨0, 0, false⟩ : AggT)].length [⟨0, 0, false⟩]) := ⟨C_one (⟨0, 0, false⟩ : AggT) (new_at1 w9 _ _ _) rfl (kAgg.K_of_M (base := 0) (ok := fun _ => True) (k55_mkM _ _ _ ⟨0, 0, false⟩))⟩
 have HONE10 := kA_ (Kd.C_below HONE9.out hBG)
 have HTWO10 := kA_ (Kd.C_below HTWO9.out hBG)
 have HCUT10 := kA_ (Kd.C_below HCUT.out hBG)
 clear hBG HONE9 HTWO9 HCUT
 have hgr := group_good (some ⟨g1, 0, none⟩) 3 oneA_ (some ⟨w9.heap.size, 0, none⟩) 1 [0] (some ⟨w9.heap.size + 1, 0, none⟩) 1 [⟨0, 0, false⟩] _ HONE10.out (by simp) HCO.out HAG.out (HT.out.below HB10.out) awake_groupOk awake_groupable [[iV 1, iV 2], [iV 2, iV 1]] 0 awake_group
 clear HCO HAG
 refine hgr.mono ?_
 clear hgr
 rintro e w11 ⟨v2, rfl, ⟨Ag, cg, hv2, hlg, hFg⟩, hb11⟩
 have hg := Kd.F_now hFg
 have hv2 : v2 = .slice Ag 2 cg := hv2
 subst hv2
 have HGR := kA_ hg
 have HGL := kA_ hlg
 have HB11 := kA_ (HB10.out.trans (hb11.mono HB10.out.size))
 have HONE11 := kA_ (Kd.C_below HONE10.out hb11)
 have HTWO11 := kA_ (Kd.C_below HTWO10.out hb11)
 have HCUT11 := kA_ (Kd.C_below HCUT10.out hb11)
 clear hlg hFg hg hb11 HONE10 HTWO10 HCUT10
 go_wp2_with fail
 have hBO : Below w11.heap.size w11 (w11.alloc (.cells #[.slice Ag 2 cg, .int .i64 0] 45)) := (Below.refl _ w11).alloc (Nat.le_refl _) _
 have HOC := kA_ (new_at w11 #[.slice Ag 2 cg, .int .i64 0] 45)
 obtain ⟨W12, hW12⟩ : ∃ W12, W12 = w11.alloc (.cells #[.slice Ag 2 cg, .int .i64 0] 45) := ⟨_, rfl⟩
 obtain ⟨go, hgo⟩ : ∃ go, go = w11.heap.size := ⟨_, rfl⟩
 rw [← hW12] at hBO HOC
 rw [← hgo] at HOC
 rw [← hW12, ← hgo]
 have HB12 := kA_ (HB11.out.trans (hBO.mono HB11.out.size))
 have HBW : Aside0 (Below w11.heap.size w11 W12) := ⟨hBO⟩
 clear hBO hW12 hgo
 refine (r1_Int.calls 9223372036854775807 1 9223372036854775807 ⟨#[]⟩ _ rfl).mono ?_
 rintro e w13 ⟨rfl, hb13⟩
 have HB13 := kA_ hb13
 clear hb13
 go_wp2_with fail
 refine (r1_Int.calls 1 1 1 ⟨#[]⟩ _ rfl).mono ?_
 rintro e w14 ⟨rfl, hb14⟩
 have HB14 := kA_ (HB13.out.trans (hb14.mono HB13.out.size))
 clear hb14 HB13
 go_wp2_with fail
 refine (r1_Int.calls (-1) 1 (-1) ⟨#[]⟩ _ rfl).mono ?_
 rintro e w15 ⟨rfl, hb15⟩
 have HB15 := kA_ (HB14.out.trans (hb15.mono HB14.out.size))
 clear hb15 HB14
 go_wp2_with fail
 have hb16 : Below w15.heap.size w15 (w15.alloc (.cells #[.int .u8 1, .int .i64 9223372036854775807, .string ⟨#[]⟩, .int .u8 1, .int .i64 1, .string ⟨#[]⟩, .int .u8 1, .int .i64 (-1), .string ⟨#[]⟩] 36)) := (Below.refl _ w15).alloc (Nat.le_refl _) _
 have HB16 : Aside0 (Below W12.heap.size W12 (w15.alloc (.cells #[.int .u8 1, .int .i64 9223372036854775807, .string ⟨#[]⟩, .int .u8 1, .int .i64 1, .string ⟨#[]⟩, .int .u8 1, .int .i64 (-1), .string ⟨#[]⟩] 36))) := ⟨HB15.out.trans (hb16.mono HB15.out.size)⟩
 have hc3 := C_three 9223372036854775807 1 (-1) (new_at w15 #[.int .u8 1, .int .i64 9223372036854775807, .string ⟨#[]⟩, .int .u8 1, .int .i64 1, .string ⟨#[]⟩, .int .u8 1, .int .i64 (-1), .string ⟨#[]⟩] 36)
 clear hb16
 refine (bag_Aggregate.calls 2 false (some ⟨w15.heap.size, 0, none⟩) 3 [iV 9223372036854775807, iV 1, iV (-1)] 1 9223372036854775807 ⟨#[]⟩ 0 _ hc3 (by simp) (HT.out.below (HB12.out.trans (HB16.out.mono HB12.out.size))) awake_agg).mono ?_
 clear hc3
 rintro e w17 ⟨rfl, hb17⟩
 have HB17 := kA_ (HB16.out.trans (hb17.mono HB16.out.size))
 clear hb17 HB16 HB15
 have HOC17 := kA_ (kept_at HOC.out HB17.out)
 have o1 : w17.cell? ⟨go, 1, none⟩ = some (.int .i64 0) := (blk_cell HOC17.out 1).trans rfl
 have o0 : w17.cell? ⟨go, 0, none⟩ = some (.slice Ag 2 cg) := (blk_cell HOC17.out 0).trans rfl
 have hgs : go ≠ w17.heap.size := by have := blk_lt HOC17.out; omega
 have o2 : (w17.alloc (.cells #[.int .u8 1, .int .i64 9223372036854775807, .string ⟨#[]⟩, .int .i64 0] 38)).cell? ⟨go, 1, none⟩ = some (.int .i64 0) := (blk_cell (kept_alloc HOC17.out _) 1).trans rfl
 have o3 : (w17.alloc (.cells #[.int .u8 1, .int .i64 9223372036854775807, .string ⟨#[]⟩, .int .i64 0] 38)).cell? ⟨go, 0, none⟩ = some (.slice Ag 2 cg) := (blk_cell (kept_alloc HOC17.out _) 0).trans rfl
 go_wp2_with fail
 clear o0 o1 o2 o3 hgs
 have HOC20 := kA_ (kept_alloc HOC17.out (.cells #[.int .u8 1, .int .i64 9223372036854775807, .string ⟨#[]⟩, .int .i64 0] 38))
 have HSC20 := kA_ (new_at w17 #[.int .u8 1, .int .i64 9223372036854775807, .string ⟨#[]⟩, .int .i64 0] 38)
 have hb20 : Below w17.heap.size w17 (w17.alloc (.cells #[.int .u8 1, .int .i64 9223372036854775807, .string ⟨#[]⟩, .int .i64 0] 38)) := (Below.refl _ w17).alloc (Nat.le_refl _) _
 have hb1120 : Below w11.heap.size w11 (w17.alloc (.cells #[.int .u8 1, .int .i64 9223372036854775807, .string ⟨#[]⟩, .int .i64 0] 38)) := HBW.out.trans ((HB17.out.trans (hb20.mono HB17.out.size)).mono HBW.out.size)
 have HB20 := kA_ (HB11.out.trans (hb1120.mono HB11.out.size))
 have HONE20 := kA_ (Kd.C_below HONE11.out hb1120)
 have HTWO20 := kA_ (Kd.C_below HTWO11.out hb1120)
 have HCUT20 := kA_ (Kd.C_below HCUT11.out hb1120)
 have HGR20 := kA_ (Kd.C_below HGR.out hb1120)
 clear hb20 hb1120
 obtain ⟨W20, hW20⟩ : ∃ W20, W20 = w17.alloc (.cells #[.int .u8 1, .int .i64 9223372036854775807, .string ⟨#[]⟩, .int .i64 0] 38) := ⟨_, rfl⟩
 obtain ⟨so, hso⟩ : ∃ so, so = w17.heap.size := ⟨_, rfl⟩
 rw [← hW20] at HOC20 HSC20 HB20 HONE20 HTWO20 HCUT20 HGR20
 rw [← hso] at HSC20
 rw [← hW20, ← hso]
 clear hW20 hso
 have HKEEP : Aside0 (∀ W', Below W20.heap.size W20 W' → W'.cell? ⟨so, 1, none⟩ = some (.int .i64 9223372036854775807) ∧ W'.cell? ⟨go, 0, none⟩ = some (.slice Ag 2 cg)) := ⟨fun W' hb => ⟨(blk_cell (kept_at HSC20.out hb) 1).trans rfl, (blk_cell (kept_at HOC20.out hb) 0).trans rfl⟩⟩
 have HTAKE : Aside0 (kRow.C W20 (some ⟨g1, 0, none⟩) 1 [[iV 2]]) := ⟨Kd.C_take (m := 1) HONE20.out (by simp)⟩
 have HTAKG : Aside0 (kRow.C W20 Ag 1 [[iV 1, iV 2]]) := ⟨Kd.C_take (m := 1) HGR20.out (by simp)⟩
 have HC1 : Aside0 (∀ W', Below W20.heap.size W20 W' → Calls Tryz.prog 19 #[.slice Ac 1 cc, .slice (some ⟨g1, 0, none⟩) 1 3] W' fun e w' => e = .returned (.bool true) ∧ Below W'.heap.size W' w') := ⟨fun W' hb => by
  obtain ⟨k, hk⟩ := (sameLists_refl [[iV 2]] (by simp) (by simp)).rounds
  exact r6_SameLists.calls k Ac cc [[iV 2]] (some ⟨g1, 0, none⟩) 3 [[iV 2]] true W' (Kd.C_below HCUT20.out hb) HCL.out (Kd.C_below HTAKE.out hb) (by simp) hk⟩
 have HC4 : Aside0 (∀ W' b, Below W20.heap.size W20 W' → kRow.C W' (some ⟨b, 0, none⟩) 1 [[iV 1, iV 2]] → Calls Tryz.prog 19 #[.slice Ag 1 cg, .slice (some ⟨b, 0, none⟩) 1 1] W' fun e w' => e = .returned (.bool true) ∧ Below W'.heap.size W' w') := ⟨fun W' b hb hc => by
  obtain ⟨k, hk⟩ := (sameLists_refl [[iV 1, iV 2]] (by simp) (by simp)).rounds
  exact r6_SameLists.calls k Ag cg [[iV 1, iV 2]] (some ⟨b, 0, none⟩) 1 [[iV 1, iV 2]] true W' (Kd.C_below HTAKG.out hb) (Nat.le_trans (by simp) HGL.out) hc (by simp) hk⟩
 have HC5 : Aside0 (∀ W', Below W20.heap.size W20 W' → Calls Tryz.prog 12 #[.slice (some ⟨g1, 0, none⟩) 3 3] W' fun e w' => e = .returned (.bool true) ∧ Below W'.heap.size W' w') := ⟨fun W' hb => by
  obtain ⟨k, hk⟩ := (valid_ev oneA_ one_ok.v).rounds
  rw [one_valid] at hk
  exact bag_Valid.calls k (some ⟨g1, 0, none⟩) 3 oneA_ true W' (Kd.C_below HONE20.out hb) (by simp) hk⟩
 have HC6 : Aside0 (∀ W', Below W20.heap.size W20 W' → Calls Tryz.prog 15 #[.slice (some ⟨g1, 0, none⟩) 3 3, .slice (some ⟨g2, 0, none⟩) 2 2] W' fun e w' => e = .returned (.bool false) ∧ Below W'.heap.size W' w') := ⟨fun W' hb =>
  bag_Same.calls (some ⟨g1, 0, none⟩) 3 oneA_ (some ⟨g2, 0, none⟩) 2 twoA_ false W' (Kd.C_below HONE20.out hb) (by simp) (Kd.C_below HTWO20.out hb) (by simp) (HT.out.below (HB20.out.trans (hb.mono HB20.out.size))) awake_same⟩
 have HNEW : Aside0 (∀ (w : World), kRow.C ((w.alloc (.cells #[.int .u8 1, .int .i64 1, .string ⟨#[]⟩, .int .u8 1, .int .i64 2, .string ⟨#[]⟩] 36)).alloc (.cells #[.slice (some ⟨w.heap.size, 0, none⟩) 2 2] 53)) (some ⟨w.heap.size + 1, 0, none⟩) 1 [[iV 1, iV 2]]) := ⟨fun w => by
  have h1 := new_at1 w (.cells #[.int .u8 1, .int .i64 1, .string ⟨#[]⟩, .int .u8 1, .int .i64 2, .string ⟨#[]⟩] 36) #[.slice (some ⟨w.heap.size, 0, none⟩) 2 2] 53
  have h2 := kept_alloc (new_at w #[.int .u8 1, .int .i64 1, .string ⟨#[]⟩, .int .u8 1, .int .i64 2, .string ⟨#[]⟩] 36) (.cells #[.slice (some ⟨w.heap.size, 0, none⟩) 2 2] 53)
  exact C_rows (l := [[iV 1, iV 2]]) h1 (by simp) (fun j row hj => by
   match j, hj with
   | 0, hj =>
    obtain rfl : [iV 1, iV 2] = row := by simpa using hj
    exact ⟨_, 2, rfl, by simp, C_two 1 2 h2⟩
   | j + 1, hj => simp at hj)⟩
 obtain ⟨i0, hi0, hzz⟩ := Option.map_eq_some_iff.1 infoRow
 simp only [Prod.mk.injEq] at hzz
 have hsl : ∀ W, (Instr.slice 22 (.slice Ag 2 cg) none (some (.int .i64 1)) none).run Tryz.prog W = .ok (.slice Ag 1 cg) W := (print_take_of (P := Tryz.prog) (Value.int .i64) (0 : Int) 22 53 .i64 Tryz.underlying22 hi0 hzz.2.1 Ag cg [0, 0] 1 (by omega) (by simp) HGL.out).1
 clear hzz hi0
 have HE : Aside0 (Below W20.heap.size W20 W20.drew) := ⟨(Below.refl _ W20).drew⟩
 have HE0 : Aside0 (Below W20.heap.size W20 W20) := ⟨Below.refl _ W20⟩
 go_region_held3 (fun W' => W'.cell? ⟨so, 1, none⟩ = some (.int .i64 9223372036854775807) ∧ W'.cell? ⟨go, 0, none⟩ = some (.slice Ag 2 cg)) (first | (with_reducible exact HKEEP.out _ HE0.out) | (with_reducible exact HKEEP.out _ HE.out) | (with_reducible exact HKEEP.out _ HBa.out) | (with_reducible exact HKEEP.out _ HBb.out) | (with_reducible exact HKEEP.out _ HBc.out) | (with_reducible exact HKEEP.out _ (HBc1.out _)) | (with_reducible exact HKEEP.out _ (HBc2.out _ _)) | (with_reducible exact HKEEP.out _ HBd.out) | (with_reducible exact HKEEP.out _ HBe.out) | (with_reducible exact HKEEP.out _ HBf.out)) (first
  | (go_at_call 19; (with_reducible refine (HC1.out W20.drew HE.out).mono ?_); rintro e wa ⟨rfl, hba⟩; have HBa := kA_ (HE.out.trans (hba.mono HE.out.size)); clear hba)
  | (go_at_call 43; (with_reducible refine (r1_Int.calls 1 1 1 ⟨#[]⟩ wa rfl).mono ?_); rintro e wb ⟨rfl, hbb⟩; have HBb := kA_ (HBa.out.trans (hbb.mono HBa.out.size)); clear hbb)
  | (go_at_call 43; (with_reducible refine (r1_Int.calls 2 1 2 ⟨#[]⟩ wa rfl).mono ?_); rintro e wb ⟨rfl, hbb⟩; have HBb := kA_ (HBa.out.trans (hbb.mono HBa.out.size)); clear hbb)
  | (go_at_call 43; (with_reducible refine (r1_Int.calls 1 1 1 ⟨#[]⟩ wb rfl).mono ?_); rintro e wc ⟨rfl, hbc⟩; have HBc := kA_ (HBb.out.trans (hbc.mono HBb.out.size)); have HBc1 : Aside0 (∀ o, Below W20.heap.size W20 (wc.alloc o)) := ⟨fun o => HBc.out.alloc HBc.out.size o⟩; have HBc2 : Aside0 (∀ o p, Below W20.heap.size W20 ((wc.alloc o).alloc p)) := ⟨fun o p => (HBc1.out o).alloc (HBc1.out o).size p⟩; clear hbc)
  | (go_at_call 43; (with_reducible refine (r1_Int.calls 2 1 2 ⟨#[]⟩ wb rfl).mono ?_); rintro e wc ⟨rfl, hbc⟩; have HBc := kA_ (HBb.out.trans (hbc.mono HBb.out.size)); have HBc1 : Aside0 (∀ o, Below W20.heap.size W20 (wc.alloc o)) := ⟨fun o => HBc.out.alloc HBc.out.size o⟩; have HBc2 : Aside0 (∀ o p, Below W20.heap.size W20 ((wc.alloc o).alloc p)) := ⟨fun o p => (HBc1.out o).alloc (HBc1.out o).size p⟩; clear hbc)
  | (go_at_call 19; (with_reducible refine (HC4.out _ _ (HBc2.out _ _) (HNEW.out wc)).mono ?_); rintro e wd ⟨rfl, hbd⟩; have HBd := kA_ ((HBc2.out _ _).trans (hbd.mono (HBc2.out _ _).size)); clear hbd)
  | (go_at_call 12; (with_reducible refine (HC5.out wd HBd.out).mono ?_); rintro e we ⟨rfl, hbe⟩; have HBe := kA_ (HBd.out.trans (hbe.mono HBd.out.size)); clear hbe)
  | (go_at_call 15; (with_reducible refine (HC6.out we HBe.out).mono ?_); rintro e wf ⟨rfl, hbf⟩; have HBf := kA_ (HBe.out.trans (hbf.mono HBe.out.size)); clear hbf))
 all_goals (go_wp2; go_ret; exact ⟨rfl, HB20.out.trans (HBf.out.mono HB20.out.size)⟩)
def w6_awake.f : Option Bool := some true
theorem w6_awake.calls (r : Bool) (w : World) (hT : LaidT w) (h : w6_awake.f = some r) : Calls Tryz.prog 13 #[] w fun e w' => e = .returned (.bool r) ∧ Below w.heap.size w w' := by
 obtain rfl : true = r := Option.some.inj h
 exact awake_calls w hT
theorem group_bad (A0 : Option Addr) (c0 : Nat) (l0 : List (List V)) (A1 : Option Addr) (c1 : Nat) (l1 : List Int) (A2 : Option Addr) (c2 m2 : Nat) (w : World) (hr0 : Kd.C kRow w A0 l0.length l0) (hc0 : l0.length ≤ c0) (hr1 : Kd.C (Kd.int .i64) w A1 l1.length l1) (hok : RowsV l0) (hcn : l1.length ≤ 1099511627776) (hbad : validB l0 = false ∨ ∃ n ∈ l1, hasB l0 n = false) :
 Calls Tryz.prog 25 #[.slice A0 l0.length c0, .slice A1 l1.length c1, .slice A2 m2 c2] w fun e w' => e = .returned (.agg #[.slice none 0 0, .int .i64 1]) ∧ Below w.heap.size w w' := by
 obtain ⟨k, hk⟩ := (valid_ev l0 hok).rounds
 have HK := kA_ hk
 have HCN := kA_ hcn
 have HBAD := kA_ hbad
 have HR0 := kA_ hr0
 have HC0 := kA_ hc0
 have HR1 := kA_ hr1
 clear hk hbad hok hr0 hc0 hr1 hcn
 go_enter Tryz.func25, Tryz.ntmps25
 go_wp2_with (first
  | ((with_reducible refine gate_dst (N := 6) rfl ?_); refine box_event ?hg (N := 6) ?hd (cs := #[.slice none 0 0, .int .i64 0]) (t := 45) ?hr ?_; (case hd => rfl); (case hg => rfl); (case hr => first | (go_simp; done) | (go_simp; rfl)); intro q hq W hN hb1; have HB1 := kA_ hb1; have HQ := kA_ hq; have HN0 := kA_ hN; clear hb1 hq hN)
  | ((with_reducible refine gate_dst (N := 7) rfl ?_); refine box_event ?hg (N := 7) ?hd (cs := #[.slice none 0 0, .int .i64 0]) (t := 45) ?hr ?_; (case hd => rfl); (case hg => rfl); (case hr => first | (go_simp; done) | (go_simp; rfl)); intro q2 hq2 W2 hN2 hb2; have HN1 := kA_ ((hb2.block q (blk_lt HN0.out)).trans HN0.out); have HB2 := kA_ (HB1.out.trans (hb2.mono HB1.out.size)); have HQ2 := kA_ hq2; have HN2 := kA_ hN2; have X0 : W2.cell? ⟨q2, 0, none⟩ = some (.slice none 0 0) := (blk_cell hN2 0).trans rfl; have X1 : W2.cell? ⟨q2, 1, none⟩ = some (.int .i64 0) := (blk_cell hN2 1).trans rfl; have X2 : ∀ j, W2.frozen? ⟨q2, j, none⟩ = false := (fun j => by simp [World.frozen?, hN2]); clear hb2 hq2 hN2))
 have hB3 : Below w.heap.size w ((W2.setCell ⟨q2, 0, none⟩ (.slice none 0 0)).setCell ⟨q2, 1, none⟩ (.int .i64 1)) := out2_below HB2.out (by rw [HQ2.out]; exact HB1.out.size) _ _
 have hq12 : q ≠ q2 := fun e => by have := blk_lt HN0.out; have := HQ2.out; omega
 have hN3 : ((W2.setCell ⟨q2, 0, none⟩ (.slice none 0 0)).setCell ⟨q2, 1, none⟩ (.int .i64 1)).heap[q]? = some (.cells #[.slice none 0 0, .int .i64 0] 45 (0, 0)) := (Below.heap_setCell _ _ _ q hq12).trans ((Below.heap_setCell _ _ _ q hq12).trans HN1.out)
 have HB3 := kA_ hB3
 have HN3 := kA_ hN3
 have HM3 := kA_ (out2_cells HN2.out (.slice none 0 0) (.int .i64 1))
 have HQ2W : Aside0 (w.heap.size ≤ q2) := ⟨by rw [HQ2.out]; exact HB1.out.size⟩
 clear hB3 hq12 hN3 X0 X1 X2 HN1 HN2 HB2 HN0
 refine (bag_Valid.calls k _ _ l0 (validB l0) _ (Kd.C_below HR0.out HB3.out) HC0.out HK.out).mono ?_
 rintro e w3 ⟨rfl, hb3⟩
 have HN4 := kA_ ((hb3.block q (blk_lt HN3.out)).trans HN3.out)
 have HM4 := kA_ ((hb3.block q2 (blk_lt HM3.out)).trans HM3.out)
 have HB4 := kA_ (HB3.out.trans (hb3.mono HB3.out.size))
 have HQW : Aside0 (w.heap.size ≤ q) := ⟨Nat.le_of_eq HQ.out.symm⟩
 clear hb3 HN3 HM3 HB3 HB1 HQ2 HQ
 cases hvb : validB l0 with
 | false =>
  have y0 : w3.cell? ⟨q, 0, none⟩ = some (.slice none 0 0) := (blk_cell HN4.out 0).trans rfl
  have y1 : w3.cell? ⟨q, 1, none⟩ = some (.int .i64 0) := (blk_cell HN4.out 1).trans rfl
  have yf : ∀ j, w3.frozen? ⟨q, j, none⟩ = false := fun j => by have := HN4.out; simp [World.frozen?, this]
  have z0 : w3.cell? ⟨q2, 0, none⟩ = some (.slice none 0 0) := (blk_cell HM4.out 0).trans rfl
  have z1 : w3.cell? ⟨q2, 1, none⟩ = some (.int .i64 1) := (blk_cell HM4.out 1).trans rfl
  go_wp2
  refine bodyPost_ret (results_cell_row rfl _ _ q 45 _ (0, 0) _ rfl (out2_cells HN4.out _ _) Tryz.underlying45 rfl a3_) rfl ?_
  exact ⟨rfl, out2_below HB4.out HQW.out _ _⟩
 | true =>
  have HEX : Aside0 (∃ n ∈ l1, hasB l0 n = false) := ⟨HBAD.out.resolve_left (by rw [hvb]; simp)⟩
  clear HBAD hvb HK
  go_wp2
  go_loopg [29] l1.length (fun kq v29 W => ∃ x : Int, v29 = .int .i64 x ∧ Aside0 (0 ≤ x ∧ x ≤ l1.length ∧ (kq : Int) = l1.length - x) ∧ Aside0 (∃ n ∈ l1.drop x.toNat, hasB l0 n = false) ∧ Aside0 (W.heap[q]? = some (.cells #[.slice none 0 0, .int .i64 0] 45 (0, 0))) ∧ Aside0 (W.heap[q2]? = some (.cells #[.slice none 0 0, .int .i64 1] 45 (0, 0))) ∧ Aside0 (Below w.heap.size w W))
  case atStart => exact ⟨0, rfl, ⟨by omega⟩, HEX, HN4, HM4, HB4⟩
  case round =>
   clear HN4 HM4 HB4 HEX
   obtain ⟨x, rfl, HX, HEX, HN, HM, HB⟩ := hrel
   obtain ⟨hx0, hx1, hkq⟩ := HX.out
   have hlt : x < (l1.length : Int) := by
    obtain ⟨n, hn, _⟩ := HEX.out
    have := List.length_pos_of_mem hn
    rw [List.length_drop] at this
    omega
   have d1 : decide (x < (l1.length : Int)) = true := decide_eq_true hlt
   have d2 : decide (0 ≤ x) = true := decide_eq_true hx0
   obtain ⟨ad, e, hx_0⟩ := Kd.at_int HR1.out x hx0 hlt
   cases e
   replace hx_0 := cB_ HB.out hx_0
   have hj : x.toNat < l1.length := by omega
   have hrd : rd l1 x = l1[x.toNat] := by simp [rd, List.getElem?_eq_getElem hj]
   have hnext : hasB l0 (rd l1 x) = true → ∃ n ∈ l1.drop (x + 1).toNat, hasB l0 n = false := fun h => by
    obtain ⟨n, hn, hf⟩ := HEX.out
    rw [drop_cons l1 x.toNat hj] at hn
    rcases List.mem_cons.1 hn with rfl | hn
    · rw [← hrd, h] at hf; cases hf
    exact ⟨n, by rw [show (x + 1).toNat = x.toNat + 1 by omega]; exact hn, hf⟩
   obtain ⟨n, hn⟩ : ∃ n, n = rd l1 x := ⟨_, rfl⟩
   rw [← hn] at hx_0 hnext
   have HH := kA_ hnext
   have HLT := kA_ hlt
   have HKQ := kA_ hkq
   have HX0 := kA_ hx0
   have HWR : Aside0 (wrap64 (x + 1) = x + 1) := ⟨by have := HCN.out; unfold wrap64; omega⟩
   clear hn hrd hj hnext hkq
   go_wp2_with fail
   refine (bag_has.calls A0 c0 l0 n (hasB l0 n) wr (Kd.C_below HR0.out HB.out) HC0.out (has_eq _ _)).mono ?_
   rintro e w5 ⟨rfl, ⟨nd, rfl⟩⟩
   cases hhb : hasB l0 n with
   | true =>
    have HEX2 := kA_ (HH.out hhb)
    clear HH hhb
    go_wp2
    have hlt := HLT.out
    have hk := HKQ.out
    have hx0 := HX0.out
    cases gk with
    | zero => omega
    | succ k1 =>
     go_roundg k1
     case measure => omega
     case rel => exact ⟨x + 1, by rw [HWR.out], ⟨by omega⟩, HEX2, HN, HM, ⟨bN_ HB.out nd⟩⟩
   | false =>
    clear HH hhb
    have HN5 : Aside0 ((wr.drewN nd).heap[q]? = some (.cells #[.slice none 0 0, .int .i64 0] 45 (0, 0))) := HN
    have HM5 : Aside0 ((wr.drewN nd).heap[q2]? = some (.cells #[.slice none 0 0, .int .i64 1] 45 (0, 0))) := HM
    have HB5 : Aside0 (Below w.heap.size w (wr.drewN nd)) := ⟨bN_ HB.out nd⟩
    obtain ⟨w5, hw5⟩ : ∃ w5, w5 = wr.drewN nd := ⟨_, rfl⟩
    rw [← hw5] at HN5 HM5 HB5 ⊢
    have y0 : w5.cell? ⟨q, 0, none⟩ = some (.slice none 0 0) := (blk_cell HN5.out 0).trans rfl
    have y1 : w5.cell? ⟨q, 1, none⟩ = some (.int .i64 0) := (blk_cell HN5.out 1).trans rfl
    have yf : ∀ j, w5.frozen? ⟨q, j, none⟩ = false := fun j => by have := HN5.out; simp [World.frozen?, this]
    have z0 : w5.cell? ⟨q2, 0, none⟩ = some (.slice none 0 0) := (blk_cell HM5.out 0).trans rfl
    have z1 : w5.cell? ⟨q2, 1, none⟩ = some (.int .i64 1) := (blk_cell HM5.out 1).trans rfl
    clear hw5
    go_wp2
    refine bodyPost_ret (results_cell_row rfl _ _ q 45 _ (0, 0) _ rfl (out2_cells HN5.out _ _) Tryz.underlying45 rfl a3_) rfl ?_
    exact ⟨rfl, out2_below HB5.out HQW.out _ _⟩
theorem group_bad2 (A0 : Option Addr) (c0 : Nat) (l0 : List (List V)) (A1 : Option Addr) (c1 : Nat) (l1 : List Int) (A2 : Option Addr) (c2 : Nat) (l2 : List AggT) (w : World) (hr0 : Kd.C kRow w A0 l0.length l0) (hc0 : l0.length ≤ c0) (hr1 : Kd.C (Kd.int .i64) w A1 l1.length l1) (hr2 : Kd.C kAgg w A2 l2.length l2) (hok : GroupOk l0 l1 l2) (hv : validB l0 = true) (hin : ∀ n ∈ l1, hasB l0 n = true) (hbad : ∃ a ∈ l2, aggOkB l0 a = false) :
 Calls Tryz.prog 25 #[.slice A0 l0.length c0, .slice A1 l1.length c1, .slice A2 l2.length c2] w fun e w' => e = .returned (.agg #[.slice none 0 0, .int .i64 1]) ∧ Below w.heap.size w w' := by
 obtain ⟨k, hk⟩ := (valid_ev l0 hok.rows.v).rounds
 rw [hv] at hk
 have HK := kA_ hk
 have HIN := kA_ hin
 have HOK := kA_ hok
 have HEX := kA_ hbad
 have HR0 := kA_ hr0
 have HC0 := kA_ hc0
 have HR1 := kA_ hr1
 have HR2 := kA_ hr2
 clear hk hv hin hok hbad hr0 hc0 hr1 hr2
 go_enter Tryz.func25, Tryz.ntmps25
 go_wp2_with (first
  | ((with_reducible refine gate_dst (N := 6) rfl ?_); refine box_event ?hg (N := 6) ?hd (cs := #[.slice none 0 0, .int .i64 0]) (t := 45) ?hr ?_; (case hd => rfl); (case hg => rfl); (case hr => first | (go_simp; done) | (go_simp; rfl)); intro q hq W hN hb1; have HB1 := kA_ hb1; have HQ := kA_ hq; have HN0 := kA_ hN; clear hb1 hq hN)
  | ((with_reducible refine gate_dst (N := 7) rfl ?_); refine box_event ?hg (N := 7) ?hd (cs := #[.slice none 0 0, .int .i64 0]) (t := 45) ?hr ?_; (case hd => rfl); (case hg => rfl); (case hr => first | (go_simp; done) | (go_simp; rfl)); intro q2 hq2 W2 hN2 hb2; have HN1 := kA_ ((hb2.block q (blk_lt HN0.out)).trans HN0.out); have HB2 := kA_ (HB1.out.trans (hb2.mono HB1.out.size)); have HQ2 := kA_ hq2; have HN2 := kA_ hN2; have X0 : W2.cell? ⟨q2, 0, none⟩ = some (.slice none 0 0) := (blk_cell hN2 0).trans rfl; have X1 : W2.cell? ⟨q2, 1, none⟩ = some (.int .i64 0) := (blk_cell hN2 1).trans rfl; have X2 : ∀ j, W2.frozen? ⟨q2, j, none⟩ = false := (fun j => by simp [World.frozen?, hN2]); clear hb2 hq2 hN2))
 have hB3 : Below w.heap.size w ((W2.setCell ⟨q2, 0, none⟩ (.slice none 0 0)).setCell ⟨q2, 1, none⟩ (.int .i64 1)) := out2_below HB2.out (by rw [HQ2.out]; exact HB1.out.size) _ _
 have hq12 : q ≠ q2 := fun e => by have := blk_lt HN0.out; have := HQ2.out; omega
 have hN3 : ((W2.setCell ⟨q2, 0, none⟩ (.slice none 0 0)).setCell ⟨q2, 1, none⟩ (.int .i64 1)).heap[q]? = some (.cells #[.slice none 0 0, .int .i64 0] 45 (0, 0)) := (Below.heap_setCell _ _ _ q hq12).trans ((Below.heap_setCell _ _ _ q hq12).trans HN1.out)
 have HB3 := kA_ hB3
 have HN3 := kA_ hN3
 have HM3 := kA_ (out2_cells HN2.out (.slice none 0 0) (.int .i64 1))
 have HQ2W : Aside0 (w.heap.size ≤ q2) := ⟨by rw [HQ2.out]; exact HB1.out.size⟩
 clear hB3 hq12 hN3 X0 X1 X2 HN1 HN2 HB2 HN0
 refine (bag_Valid.calls k _ _ l0 true _ (Kd.C_below HR0.out HB3.out) HC0.out HK.out).mono ?_
 rintro e w3 ⟨rfl, hb3⟩
 have HN4 := kA_ ((hb3.block q (blk_lt HN3.out)).trans HN3.out)
 have HM4 := kA_ ((hb3.block q2 (blk_lt HM3.out)).trans HM3.out)
 have HB4 := kA_ (HB3.out.trans (hb3.mono HB3.out.size))
 have HQW : Aside0 (w.heap.size ≤ q) := ⟨Nat.le_of_eq HQ.out.symm⟩
 clear hb3 HN3 HM3 HB3 HB1 HQ2 HQ
 go_wp2
 go_loopg [29] l1.length (fun kq v29 W => ∃ x : Int, v29 = .int .i64 x ∧ Aside0 (0 ≤ x ∧ x ≤ l1.length ∧ (kq : Int) = l1.length - x) ∧ Aside0 (W.heap[q]? = some (.cells #[.slice none 0 0, .int .i64 0] 45 (0, 0))) ∧ Aside0 (W.heap[q2]? = some (.cells #[.slice none 0 0, .int .i64 1] 45 (0, 0))) ∧ Aside0 (Below w.heap.size w W))
 case atStart => exact ⟨0, rfl, ⟨by omega⟩, HN4, HM4, HB4⟩
 case round =>
  clear HN4 HM4 HB4
  obtain ⟨x, rfl, HX, HN, HM, HB⟩ := hrel
  obtain ⟨hx0, hx1, hkq⟩ := HX.out
  by_cases hlt : x < (l1.length : Int)
  · have d1 : decide (x < (l1.length : Int)) = true := decide_eq_true hlt
    have d2 : decide (0 ≤ x) = true := decide_eq_true hx0
    obtain ⟨ad, e, hx_0⟩ := Kd.at_int HR1.out x hx0 hlt
    cases e
    replace hx_0 := cB_ HB.out hx_0
    have hj : x.toNat < l1.length := by omega
    have hrd : rd l1 x = l1[x.toNat] := by simp [rd, List.getElem?_eq_getElem hj]
    have hh := HIN.out (rd l1 x) a79_
    obtain ⟨n, hn⟩ : ∃ n, n = rd l1 x := ⟨_, rfl⟩
    rw [← hn] at hx_0 hh
    have HH := kA_ hh
    have HLT := kA_ hlt
    have HKQ := kA_ hkq
    have HX0 := kA_ hx0
    have HWR : Aside0 (wrap64 (x + 1) = x + 1) := ⟨by have := HOK.out.cn; unfold wrap64; omega⟩
    clear hn hrd hj hh hkq
    go_wp2_with fail
    refine (bag_has.calls A0 c0 l0 n true wr (Kd.C_below HR0.out HB.out) HC0.out (by rw [has_eq, HH.out])).mono ?_
    rintro e w5 ⟨rfl, ⟨nd, rfl⟩⟩
    go_wp2
    have hlt := HLT.out
    have hk := HKQ.out
    have hx0 := HX0.out
    cases gk with
    | zero => omega
    | succ k1 =>
     go_roundg k1
     case measure => omega
     case rel => exact ⟨x + 1, by rw [HWR.out], ⟨by omega⟩, HN, HM, ⟨bN_ HB.out nd⟩⟩
  have d1 : decide (x < (l1.length : Int)) = false := decide_eq_false hlt
  clear HX hx0 hx1 hkq hlt
  go_wp2
  go_loopg [41] l2.length (fun kq v41 W => ∃ x : Int, v41 = .int .i64 x ∧ Aside0 (0 ≤ x ∧ x ≤ l2.length ∧ (kq : Int) = l2.length - x) ∧ Aside0 (∃ a ∈ l2.drop x.toNat, aggOkB l0 a = false) ∧ Aside0 (W.heap[q]? = some (.cells #[.slice none 0 0, .int .i64 0] 45 (0, 0))) ∧ Aside0 (W.heap[q2]? = some (.cells #[.slice none 0 0, .int .i64 1] 45 (0, 0))) ∧ Aside0 (Below w.heap.size w W))
  case atStart => exact ⟨0, rfl, ⟨by omega⟩, HEX, HN, HM, HB⟩
  case round =>
   clear HN HM HB HEX
   obtain ⟨x, rfl, HX, HEX, HN, HM, HB⟩ := hrel
   obtain ⟨hx0, hx1, hkq⟩ := HX.out
   have hlt : x < (l2.length : Int) := by
    obtain ⟨n, hn, _⟩ := HEX.out
    have := List.length_pos_of_mem hn
    rw [List.length_drop] at this
    omega
   have d1 : decide (x < (l2.length : Int)) = true := decide_eq_true hlt
   have d2 : decide (0 ≤ x) = true := decide_eq_true hx0
   obtain ⟨ad, e, hx_0, hx_1, hx_2⟩ := at_T55 HR2.out x hx0 hlt
   cases e
   replace hx_0 := cB_ HB.out hx_0
   replace hx_1 := cB_ HB.out hx_1
   replace hx_2 := cB_ HB.out hx_2
   have hj : x.toNat < l2.length := by omega
   have hrd : rd_T55 l2 x = l2[x.toNat] := by simp [rd_T55, List.getElem?_eq_getElem hj]
   have hvals := HOK.out.vals (rd_T55 l2 x) a79_
   have hnext : aggOkB l0 (rd_T55 l2 x) = true → ∃ a ∈ l2.drop (x + 1).toNat, aggOkB l0 a = false := fun h => by
    obtain ⟨n, hn, hf⟩ := HEX.out
    rw [drop_cons l2 x.toNat hj] at hn
    rcases List.mem_cons.1 hn with rfl | hn
    · rw [← hrd, h] at hf; cases hf
    exact ⟨n, by rw [show (x + 1).toNat = x.toNat + 1 by omega]; exact hn, hf⟩
   obtain ⟨a, ha⟩ : ∃ a, a = rd_T55 l2 x := ⟨_, rfl⟩
   rw [← ha] at hx_0 hx_1 hx_2 hnext hvals
   obtain ⟨f0, f1, f2⟩ := a
   dsimp only at hx_0 hx_1 hx_2
   have HNEXT := kA_ hnext
   have HLT := kA_ hlt
   have HKQ := kA_ hkq
   have HX0 := kA_ hx0
   have HWR : Aside0 (wrap64 (x + 1) = x + 1) := ⟨by have := HOK.out.an; unfold wrap64; omega⟩
   clear hrd hj hkq ha hnext
   obtain ⟨W5, hW5⟩ : ∃ W5, W5 = wr.alloc (.cells #[.int .u8 f0, .int .i64 f1, .bool f2] 55) := ⟨_, rfl⟩
   have hD5 : (W5.cell? ⟨wr.heap.size, 0, none⟩ = some (.int .u8 f0) ∧ W5.cell? ⟨wr.heap.size, 1, none⟩ = some (.int .i64 f1) ∧ W5.cell? ⟨wr.heap.size, 2, none⟩ = some (.bool f2)) := by
    rw [hW5]
    exact ⟨(blk_cell (heap_alloc_new _ _) 0).trans rfl, (blk_cell (heap_alloc_new _ _) 1).trans rfl, (blk_cell (heap_alloc_new _ _) 2).trans rfl⟩
   have HD5 := kA_ hD5
   have HB5 : Aside0 (Below wr.heap.size wr W5) := ⟨a80_⟩
   have HN5 : Aside0 (∀ W', Below W5.heap.size W5 W' → W'.heap[q]? = some (.cells #[.slice none 0 0, .int .i64 0] 45 (0, 0))) := ⟨fun W' hb => ((HB5.out.trans (hb.mono HB5.out.size)).block q (blk_lt HN.out)).trans HN.out⟩
   have HM5 : Aside0 (∀ W', Below W5.heap.size W5 W' → W'.heap[q2]? = some (.cells #[.slice none 0 0, .int .i64 1] 45 (0, 0))) := ⟨fun W' hb => ((HB5.out.trans (hb.mono HB5.out.size)).block q2 (blk_lt HM.out)).trans HM.out⟩
   have HW5B : Aside0 (∀ W', Below W5.heap.size W5 W' → Below w.heap.size w W') := ⟨fun W' hb => HB.out.trans ((HB5.out.trans (hb.mono HB5.out.size)).mono HB.out.size)⟩
   clear HN HM hD5
   by_cases h0 : f0 = 0
   · subst h0
     have HW5 := kA_ hW5
     by_cases h12 : f1 = 0 ∧ f2 = false
     · obtain ⟨rfl, rfl⟩ := h12
       have HEX2 := kA_ (HNEXT.out rfl)
       clear HNEXT hvals hW5
       go_wp2
       rw [← HW5.out]
       have hlt := HLT.out
       have hk := HKQ.out
       have hx0 := HX0.out
       cases gk with
       | zero => omega
       | succ k1 =>
        go_roundg k1
        case measure => omega
        case rel => exact ⟨x + 1, by rw [HWR.out], ⟨by omega⟩, HEX2, ⟨HN5.out _ (Below.refl _ _)⟩, ⟨HM5.out _ (Below.refl _ _)⟩, ⟨HW5B.out _ (Below.refl _ _)⟩⟩
     clear HNEXT hvals
     have HN9 := kA_ (HN5.out _ (Below.refl _ _))
     have HM9 := kA_ (HM5.out _ (Below.refl _ _))
     have HB9 := kA_ (HW5B.out _ (Below.refl _ _))
     by_cases h1 : f1 = 0
     rotate_left
     · have z3 : (f1 != 0) = true := by simp [h1]
       have z4 : decide (f1 = 0) = false := decide_eq_false h1
       clear h12 HW5
       subst hW5
       have y0 : (wr.alloc (.cells #[.int .u8 0, .int .i64 f1, .bool f2] 55)).cell? ⟨q, 0, none⟩ = some (.slice none 0 0) := (blk_cell HN9.out 0).trans rfl
       have y1 : (wr.alloc (.cells #[.int .u8 0, .int .i64 f1, .bool f2] 55)).cell? ⟨q, 1, none⟩ = some (.int .i64 0) := (blk_cell HN9.out 1).trans rfl
       have yf : ∀ j, (wr.alloc (.cells #[.int .u8 0, .int .i64 f1, .bool f2] 55)).frozen? ⟨q, j, none⟩ = false := fun j => by have := HN9.out; simp [World.frozen?, this]
       have z0 : (wr.alloc (.cells #[.int .u8 0, .int .i64 f1, .bool f2] 55)).cell? ⟨q2, 0, none⟩ = some (.slice none 0 0) := (blk_cell HM9.out 0).trans rfl
       have z1 : (wr.alloc (.cells #[.int .u8 0, .int .i64 f1, .bool f2] 55)).cell? ⟨q2, 1, none⟩ = some (.int .i64 1) := (blk_cell HM9.out 1).trans rfl
       go_wp2
       refine bodyPost_ret (results_cell_row rfl _ _ q 45 _ (0, 0) _ rfl (out2_cells HN9.out _ _) Tryz.underlying45 rfl a3_) rfl ?_
       exact ⟨rfl, out2_below HB9.out HQW.out _ _⟩
     subst h1
     obtain rfl : f2 = true := by
      cases f2 with
      | true => rfl
      | false => exact absurd ⟨rfl, rfl⟩ h12
     clear h12 HW5
     subst hW5
     have y0 : (wr.alloc (.cells #[.int .u8 0, .int .i64 0, .bool true] 55)).cell? ⟨q, 0, none⟩ = some (.slice none 0 0) := (blk_cell HN9.out 0).trans rfl
     have y1 : (wr.alloc (.cells #[.int .u8 0, .int .i64 0, .bool true] 55)).cell? ⟨q, 1, none⟩ = some (.int .i64 0) := (blk_cell HN9.out 1).trans rfl
     have yf : ∀ j, (wr.alloc (.cells #[.int .u8 0, .int .i64 0, .bool true] 55)).frozen? ⟨q, j, none⟩ = false := fun j => by have := HN9.out; simp [World.frozen?, this]
     have z0 : (wr.alloc (.cells #[.int .u8 0, .int .i64 0, .bool true] 55)).cell? ⟨q2, 0, none⟩ = some (.slice none 0 0) := (blk_cell HM9.out 0).trans rfl
     have z1 : (wr.alloc (.cells #[.int .u8 0, .int .i64 0, .bool true] 55)).cell? ⟨q2, 1, none⟩ = some (.int .i64 1) := (blk_cell HM9.out 1).trans rfl
     go_wp2
     refine bodyPost_ret (results_cell_row rfl _ _ q 45 _ (0, 0) _ rfl (out2_cells HN9.out _ _) Tryz.underlying45 rfl a3_) rfl ?_
     exact ⟨rfl, out2_below HB9.out HQW.out _ _⟩
   have z1 : (f0 == 0) = false := by simp [h0]
   have z2 : decide (f0 = 0) = false := decide_eq_false h0
   have HE5 : Aside0 (W5.drew.cell? ⟨wr.heap.size, 0, none⟩ = some (.int .u8 f0) ∧ W5.drew.cell? ⟨wr.heap.size, 1, none⟩ = some (.int .i64 f1) ∧ W5.drew.cell? ⟨wr.heap.size, 2, none⟩ = some (.bool f2)) := ⟨HD5.out⟩
   have HC5 : Aside0 (∀ W', Below W5.heap.size W5 W' → kRow.C W' A0 l0.length l0) := ⟨fun W' hb => Kd.C_below HR0.out (HW5B.out W' hb)⟩
   have HBE : Aside0 (Below W5.heap.size W5 W5.drew) := ⟨(Below.refl _ W5).drew⟩
   cases hhas : hasB l0 f1 with
   | false =>
    have HHE : Aside0 (bag_has.f l0 f1 = some false) := ⟨by rw [has_eq]; exact congrArg some hhas⟩
    clear hhas HNEXT hvals h0
    go_wp2_with fail
    rw [← hW5]
    clear hW5
    refine wp_region_held_drew (S := (fun W' => (W'.cell? ⟨wr.heap.size, 0, none⟩ = some (.int .u8 f0) ∧ W'.cell? ⟨wr.heap.size, 1, none⟩ = some (.int .i64 f1) ∧ W'.cell? ⟨wr.heap.size, 2, none⟩ = some (.bool f2)))) a3_ HE5.out (fun hHeld => ?_)
    refine wpAnyH_take (i := 0) (oi := ⟨some 64, _, _, _, _, _⟩) (v := ?_) rfl a3_ a3_ a3_ (fun _ _ _ h => h) (Or.inl ⟨by rfl, ?_⟩) (by assumption) ?_
    rotate_left
    · intro w' hSw
      try dsimp only at hSw
      go_simp
      try with_reducible rfl
    try simp only [Act.put, tA, tZ, tS]
    refine wpAnyH_take (i := 1) (oi := ⟨some 65, _, _, _, _, _⟩) (v := ?_) rfl a3_ a3_ a3_ (fun _ _ _ h => h) (Or.inl ⟨by rfl, ?_⟩) (by assumption) ?_
    rotate_left
    · intro w' hSw
      try dsimp only at hSw
      go_simp
      try with_reducible rfl
    try simp only [Act.put, tA, tZ, tS]
    refine wpAnyH_take (i := 2) (oi := ⟨some 66, _, _, _, _, _⟩) (v := ?_) rfl a3_ a3_ a3_ (fun _ _ _ h => h) (Or.inl ⟨by rfl, ?_⟩) (by assumption) ?_
    rotate_left
    · intro w' hSw
      try dsimp only at hSw
      go_simp
      try with_reducible rfl
    try simp only [Act.put, tA, tZ, tS]
    refine wpAnyH_ready (rs := [3]) a3_ (by simp) ?_
    refine AllReadyH.cons (o := ⟨some 67, _, _, _, _, _⟩) rfl (fun K hK => ?_) AllReadyH.nil
    go_simp
    (go_at_call 62; (with_reducible refine (bag_has.calls A0 c0 l0 f1 false W5.drew (HC5.out _ HBE.out) HC0.out HHE.out).mono ?_); rintro e w6 ⟨rfl, ⟨nd, hd6⟩⟩; have HB6 : Aside0 (Below W5.heap.size W5 w6) := ⟨by rw [hd6]; exact bN_ HBE.out nd⟩; have HS6 : Aside0 (w6.cell? ⟨wr.heap.size, 0, none⟩ = some (.int .u8 f0) ∧ w6.cell? ⟨wr.heap.size, 1, none⟩ = some (.int .i64 f1) ∧ w6.cell? ⟨wr.heap.size, 2, none⟩ = some (.bool f2)) := ⟨cells3 HB6.out HD5.out⟩; clear hd6)
    refine hK.out _ _ HS6.out (fun hHeld => ?_)
    clear hK K
    try simp only [Act.put, tA, tZ, tS]
    refine wpAnyH_take (i := 4) (oi := ⟨some 68, _, _, _, _, _⟩) (v := ?_) rfl a3_ a3_ a3_ (fun _ _ _ h => h) (Or.inl ⟨by rfl, ?_⟩) (by assumption) ?_
    rotate_left
    · intro w' hSw
      try dsimp only at hSw
      go_simp
      try with_reducible rfl
    try simp only [Act.put, tA, tZ, tS]
    refine wpAnyH_take (i := 5) (oi := ⟨some 69, _, _, _, _, _⟩) (v := ?_) rfl a3_ a3_ a3_ (fun _ _ _ h => h) (Or.inl ⟨by rfl, ?_⟩) (by assumption) ?_
    rotate_left
    · intro w' hSw
      try dsimp only at hSw
      go_simp
      try with_reducible rfl
    try simp only [Act.put, tA, tZ, tS]
    refine wpAnyH_take (i := 6) (oi := ⟨some 70, _, _, _, _, _⟩) (v := undef) rfl a3_ a3_ a3_ (fun _ _ _ h => h) (Or.inr ⟨by rfl, rfl⟩) (by assumption) ?_
    try simp only [Act.put, tA, tZ, tS]
    refine wpAnyH_take (i := 7) (oi := ⟨some 71, _, _, _, _, _⟩) (v := undef) rfl a3_ a3_ a3_ (fun _ _ _ h => h) (Or.inr ⟨by rfl, rfl⟩) (by assumption) ?_
    try simp only [Act.put, tA, tZ, tS]
    refine wpAnyH_take (i := 8) (oi := ⟨some 72, _, _, _, _, _⟩) (v := undef) rfl a3_ a3_ a3_ (fun _ _ _ h => h) (Or.inr ⟨by rfl, rfl⟩) (by assumption) ?_
    try simp only [Act.put, tA, tZ, tS]
    refine wpAnyH_take (i := 9) (oi := ⟨some 73, _, _, _, _, _⟩) (v := undef) rfl a3_ a3_ a3_ (fun _ _ _ h => h) (Or.inr ⟨by rfl, rfl⟩) (by assumption) ?_
    try simp only [Act.put, tA, tZ, tS]
    refine wpAnyH_take (i := 10) (oi := ⟨some 74, _, _, _, _, _⟩) (v := undef) rfl a3_ a3_ a3_ (fun _ _ _ h => h) (Or.inr ⟨by rfl, rfl⟩) (by assumption) ?_
    try simp only [Act.put, tA, tZ, tS]
    refine wpAnyH_take (i := 11) (oi := ⟨some 75, _, _, _, _, _⟩) (v := undef) rfl a3_ a3_ a3_ (fun _ _ _ h => h) (Or.inr ⟨by rfl, rfl⟩) (by assumption) ?_
    try simp only [Act.put, tA, tZ, tS]
    refine wpAnyH_take (i := 12) (oi := ⟨some 76, _, _, _, _, _⟩) (v := undef) rfl a3_ a3_ a3_ (fun _ _ _ h => h) (Or.inr ⟨by rfl, rfl⟩) (by assumption) ?_
    try simp only [Act.put, tA, tZ, tS]
    refine wpAnyH_take (i := 13) (oi := ⟨some 77, _, _, _, _, _⟩) (v := undef) rfl a3_ a3_ a3_ (fun _ _ _ h => h) (Or.inr ⟨by rfl, rfl⟩) (by assumption) ?_
    try simp only [Act.put, tA, tZ, tS]
    refine wpAnyH_take (i := 14) (oi := ⟨some 78, _, _, _, _, _⟩) (v := undef) rfl a3_ a3_ a3_ (fun _ _ _ h => h) (Or.inr ⟨by rfl, rfl⟩) (by assumption) ?_
    try simp only [Act.put, tA, tZ, tS]
    refine wpAnyH_take (i := 15) (oi := ⟨some 79, _, _, _, _, _⟩) (v := undef) rfl a3_ a3_ a3_ (fun _ _ _ h => h) (Or.inr ⟨by rfl, rfl⟩) (by assumption) ?_
    try simp only [Act.put, tA, tZ, tS]
    refine wpAnyH_take (i := 16) (oi := ⟨some 80, _, _, _, _, _⟩) (v := ?_) rfl a3_ a3_ a3_ (fun _ _ _ h => h) (Or.inl ⟨by rfl, ?_⟩) (by assumption) ?_
    rotate_left
    · intro w' hSw
      try dsimp only at hSw
      go_simp
      try with_reducible rfl
    try simp only [Act.put, tA, tZ, tS]
    refine wpAnyH_take (i := 17) (oi := ⟨some 63, _, _, _, _, _⟩) (v := ?_) rfl a3_ a3_ a3_ (fun _ _ _ h => h) (Or.inl ⟨by rfl, ?_⟩) (by assumption) ?_
    rotate_left
    · intro w' hSw
      try dsimp only at hSw
      go_simp
      try with_reducible rfl
    try simp only [Act.put, tA, tZ, tS]
    refine wpAnyH_done a3_ ?_ _
    have HN9 := kA_ (HN5.out _ HB6.out)
    have HM9 := kA_ (HM5.out _ HB6.out)
    have HB9 := kA_ (HW5B.out _ HB6.out)
    have y0 : w6.cell? ⟨q, 0, none⟩ = some (.slice none 0 0) := (blk_cell HN9.out 0).trans rfl
    have y1 : w6.cell? ⟨q, 1, none⟩ = some (.int .i64 0) := (blk_cell HN9.out 1).trans rfl
    have yf : ∀ j, w6.frozen? ⟨q, j, none⟩ = false := fun j => by have := HN9.out; simp [World.frozen?, this]
    have z0 : w6.cell? ⟨q2, 0, none⟩ = some (.slice none 0 0) := (blk_cell HM9.out 0).trans rfl
    have z1 : w6.cell? ⟨q2, 1, none⟩ = some (.int .i64 1) := (blk_cell HM9.out 1).trans rfl
    go_wp2
    refine bodyPost_ret (results_cell_row rfl _ _ q 45 _ (0, 0) _ rfl (out2_cells HN9.out _ _) Tryz.underlying45 rfl a3_) rfl ?_
    exact ⟨rfl, out2_below HB9.out HQW.out _ _⟩
   | true =>
    have HHE : Aside0 (bag_has.f l0 f1 = some true) := ⟨by rw [has_eq]; exact congrArg some hhas⟩
    obtain ⟨kc, hkc⟩ := (columnOf_ev l0 f1 (by
     have h1 := hhas
     unfold hasB at h1
     cases hl : l0 with
     | nil => rw [hl] at h1; exact (of_decide_eq_true h1).1
     | cons r rs => rw [hl] at h1; exact (of_decide_eq_true h1).1) HOK.out.rows.2).rounds
    obtain ⟨ka, hka⟩ := (allowed_ev f0 f2 (columnR l0 f1) (fun v hv => by
     obtain ⟨row, hrow, rfl⟩ := List.mem_map.1 hv
     exact (hvals row hrow).1 _ (by simp)) (by rw [columnR, List.length_map]; exact HOK.out.rows.2)).rounds
    have HKC2 := kA_ hkc
    cases hall : allowedB f0 f2 (columnR l0 f1) with
    | false =>
     rw [hall] at hka
     have HKA := kA_ hka
     clear hkc hka hall hhas hvals h0 HNEXT
     go_wp2_with fail
     rw [← hW5]
     clear hW5
     go_region_held3 (fun W' => (W'.cell? ⟨wr.heap.size, 0, none⟩ = some (.int .u8 f0) ∧ W'.cell? ⟨wr.heap.size, 1, none⟩ = some (.int .i64 f1) ∧ W'.cell? ⟨wr.heap.size, 2, none⟩ = some (.bool f2))) (first | (with_reducible exact HD5.out) | (with_reducible exact HE5.out) | (with_reducible exact HS6.out) | (with_reducible exact HS7.out) | (with_reducible exact HS8.out)) (first
      | (go_at_call 62; (with_reducible refine (bag_has.calls A0 c0 l0 f1 true W5.drew (HC5.out _ HBE.out) HC0.out HHE.out).mono ?_); rintro e w6 ⟨rfl, ⟨nd, hd6⟩⟩; have HB6 : Aside0 (Below W5.heap.size W5 w6) := ⟨by rw [hd6]; exact bN_ HBE.out nd⟩; have HS6 : Aside0 (w6.cell? ⟨wr.heap.size, 0, none⟩ = some (.int .u8 f0) ∧ w6.cell? ⟨wr.heap.size, 1, none⟩ = some (.int .i64 f1) ∧ w6.cell? ⟨wr.heap.size, 2, none⟩ = some (.bool f2)) := ⟨cells3 HB6.out HD5.out⟩; clear hd6)
      | (go_at_call 63; (with_reducible refine (bag_columnOf.calls kc A0 c0 l0 f1 (columnR l0 f1) w6 (HC5.out _ HB6.out) HC0.out HKC2.out).mono ?_); rintro e w7 ⟨vc, rfl, hRc, hb7⟩; obtain ⟨Ac, cc, ec, hcc, hCc⟩ := Kd.R_reads hRc; subst ec; have hb57 : Below W5.heap.size W5 w7 := HB6.out.trans (hb7.mono HB6.out.size); have HS7 : Aside0 (w7.cell? ⟨wr.heap.size, 0, none⟩ = some (.int .u8 f0) ∧ w7.cell? ⟨wr.heap.size, 1, none⟩ = some (.int .i64 f1) ∧ w7.cell? ⟨wr.heap.size, 2, none⟩ = some (.bool f2)) := ⟨cells3 hb57 HD5.out⟩; have HCC := kA_ hCc; have HCN := kA_ hcc; have HB7 := kA_ hb57; clear hb57 hRc hb7 hcc hCc)
      | (go_at_call 56; (with_reducible refine (bag_allowed.calls ka f0 f2 Ac cc (columnR l0 f1) false w7 HCC.out HCN.out HKA.out).mono ?_); rintro e w8 ⟨rfl, hb8⟩; have hb58 : Below W5.heap.size W5 w8 := HB7.out.trans (hb8.mono HB7.out.size); have HS8 : Aside0 (w8.cell? ⟨wr.heap.size, 0, none⟩ = some (.int .u8 f0) ∧ w8.cell? ⟨wr.heap.size, 1, none⟩ = some (.int .i64 f1) ∧ w8.cell? ⟨wr.heap.size, 2, none⟩ = some (.bool f2)) := ⟨cells3 hb58 HD5.out⟩; have HB8 := kA_ hb58; clear hb58 hb8))
     have HN9 := kA_ (HN5.out _ HB8.out)
     have HM9 := kA_ (HM5.out _ HB8.out)
     have HB9 := kA_ (HW5B.out _ HB8.out)
     have y0 : w8.cell? ⟨q, 0, none⟩ = some (.slice none 0 0) := (blk_cell HN9.out 0).trans rfl
     have y1 : w8.cell? ⟨q, 1, none⟩ = some (.int .i64 0) := (blk_cell HN9.out 1).trans rfl
     have yf : ∀ j, w8.frozen? ⟨q, j, none⟩ = false := fun j => by have := HN9.out; simp [World.frozen?, this]
     have z0 : w8.cell? ⟨q2, 0, none⟩ = some (.slice none 0 0) := (blk_cell HM9.out 0).trans rfl
     have z1 : w8.cell? ⟨q2, 1, none⟩ = some (.int .i64 1) := (blk_cell HM9.out 1).trans rfl
     go_wp2
     refine bodyPost_ret (results_cell_row rfl _ _ q 45 _ (0, 0) _ rfl (out2_cells HN9.out _ _) Tryz.underlying45 rfl a3_) rfl ?_
     exact ⟨rfl, out2_below HB9.out HQW.out _ _⟩
    | true =>
     rw [hall] at hka
     have HKA := kA_ hka
     have HEX2 := kA_ (HNEXT.out (by
      unfold aggOkB
      rw [if_neg h0]
      show (hasB l0 f1 && allowedB f0 f2 (columnR l0 f1)) = true
      rw [hhas, hall]; rfl))
     clear hkc hka hall hhas hvals h0 HNEXT
     go_wp2_with fail
     rw [← hW5]
     clear hW5
     go_region_held3 (fun W' => (W'.cell? ⟨wr.heap.size, 0, none⟩ = some (.int .u8 f0) ∧ W'.cell? ⟨wr.heap.size, 1, none⟩ = some (.int .i64 f1) ∧ W'.cell? ⟨wr.heap.size, 2, none⟩ = some (.bool f2))) (first | (with_reducible exact HD5.out) | (with_reducible exact HE5.out) | (with_reducible exact HS6.out) | (with_reducible exact HS7.out) | (with_reducible exact HS8.out)) (first
      | (go_at_call 62; (with_reducible refine (bag_has.calls A0 c0 l0 f1 true W5.drew (HC5.out _ HBE.out) HC0.out HHE.out).mono ?_); rintro e w6 ⟨rfl, ⟨nd, hd6⟩⟩; have HB6 : Aside0 (Below W5.heap.size W5 w6) := ⟨by rw [hd6]; exact bN_ HBE.out nd⟩; have HS6 : Aside0 (w6.cell? ⟨wr.heap.size, 0, none⟩ = some (.int .u8 f0) ∧ w6.cell? ⟨wr.heap.size, 1, none⟩ = some (.int .i64 f1) ∧ w6.cell? ⟨wr.heap.size, 2, none⟩ = some (.bool f2)) := ⟨cells3 HB6.out HD5.out⟩; clear hd6)
      | (go_at_call 63; (with_reducible refine (bag_columnOf.calls kc A0 c0 l0 f1 (columnR l0 f1) w6 (HC5.out _ HB6.out) HC0.out HKC2.out).mono ?_); rintro e w7 ⟨vc, rfl, hRc, hb7⟩; obtain ⟨Ac, cc, ec, hcc, hCc⟩ := Kd.R_reads hRc; subst ec; have hb57 : Below W5.heap.size W5 w7 := HB6.out.trans (hb7.mono HB6.out.size); have HS7 : Aside0 (w7.cell? ⟨wr.heap.size, 0, none⟩ = some (.int .u8 f0) ∧ w7.cell? ⟨wr.heap.size, 1, none⟩ = some (.int .i64 f1) ∧ w7.cell? ⟨wr.heap.size, 2, none⟩ = some (.bool f2)) := ⟨cells3 hb57 HD5.out⟩; have HCC := kA_ hCc; have HCN := kA_ hcc; have HB7 := kA_ hb57; clear hb57 hRc hb7 hcc hCc)
      | (go_at_call 56; (with_reducible refine (bag_allowed.calls ka f0 f2 Ac cc (columnR l0 f1) true w7 HCC.out HCN.out HKA.out).mono ?_); rintro e w8 ⟨rfl, hb8⟩; have hb58 : Below W5.heap.size W5 w8 := HB7.out.trans (hb8.mono HB7.out.size); have HS8 : Aside0 (w8.cell? ⟨wr.heap.size, 0, none⟩ = some (.int .u8 f0) ∧ w8.cell? ⟨wr.heap.size, 1, none⟩ = some (.int .i64 f1) ∧ w8.cell? ⟨wr.heap.size, 2, none⟩ = some (.bool f2)) := ⟨cells3 hb58 HD5.out⟩; have HB8 := kA_ hb58; clear hb58 hb8))
     go_wp2
     have hlt := HLT.out
     have hk := HKQ.out
     have hx0 := HX0.out
     cases gk with
     | zero => omega
     | succ k1 =>
      go_roundg k1
      case measure => omega
      case rel => exact ⟨x + 1, by rw [HWR.out], ⟨by omega⟩, HEX2, ⟨HN5.out _ HB8.out⟩, ⟨HM5.out _ HB8.out⟩, ⟨HW5B.out _ HB8.out⟩⟩
open Classical in
noncomputable def bag_Group.f (l0 : List (List V)) (l1 : List Int) (l2 : List AggT) : Option (List (List V) × Int) := if GroupOk l0 l1 l2 then some (groupG l0 l1 l2) else none
theorem bag_Group.calls (A0 : Option Addr) (c0 : Nat) (l0 : List (List V)) (A1 : Option Addr) (c1 : Nat) (l1 : List Int) (A2 : Option Addr) (c2 : Nat) (l2 : List AggT) (r1 : List (List V)) (r2 : Int) (w : World) (hr0 : Kd.C kRow w A0 l0.length l0) (hc0 : l0.length ≤ c0) (hr1 : Kd.C (Kd.int .i64) w A1 l1.length l1) (hc1 : l1.length ≤ c1) (hr2 : Kd.C kAgg w A2 l2.length l2) (hc2 : l2.length ≤ c2) (hT : LaidT w) (h : bag_Group.f l0 l1 l2 = some (r1, r2)) :
 Calls Tryz.prog 25 #[.slice A0 l0.length c0, .slice A1 l1.length c1, .slice A2 l2.length c2] w fun e w' => ∃ v0_ : Value, e = .returned (.agg #[v0_, .int .i64 r2]) ∧ Kd.V kRow 53 w' w.heap.size (fun k_ => (w.heap.size ≤ k_)) v0_ r1 ∧ Below w.heap.size w w' := by
 unfold bag_Group.f at h
 split at h
 case isFalse => cases h
 rename_i hok
 have h := Option.some.inj h
 by_cases hg : groupableB l0 l1 l2 = true
 · exact group_good A0 c0 l0 A1 c1 l1 A2 c2 l2 w hr0 hc0 hr1 hr2 hT hok hg r1 r2 h
 unfold groupG at h
 rw [if_neg hg] at h
 simp only [Prod.mk.injEq] at h
 obtain ⟨rfl, rfl⟩ := h
 by_cases hb : validB l0 = false ∨ ∃ n ∈ l1, hasB l0 n = false
 · refine (group_bad A0 c0 l0 A1 c1 l1 A2 c2 l2.length w hr0 hc0 hr1 hok.rows.v hok.cn hb).mono ?_
   rintro e w' ⟨rfl, hb'⟩
   exact ⟨_, rfl, Kd.V_nil _ _ _ _ _, hb'⟩
 have hv : validB l0 = true := by
  cases hq : validB l0 with
  | true => rfl
  | false => exact absurd (.inl hq) hb
 have hin : ∀ n ∈ l1, hasB l0 n = true := fun n hn => by
  cases hq : hasB l0 n with
  | true => rfl
  | false => exact absurd (.inr ⟨n, hn, hq⟩) hb
 have hex : ∃ a ∈ l2, aggOkB l0 a = false := by
  refine Classical.byContradiction (fun hne => hg ?_)
  unfold groupableB
  simp only [Bool.and_eq_true, List.all_eq_true]
  refine ⟨⟨hv, hin⟩, fun a ha => ?_⟩
  cases hq : aggOkB l0 a with
  | true => rfl
  | false => exact absurd ⟨a, ha, hq⟩ hne
 refine (group_bad2 A0 c0 l0 A1 c1 l1 A2 c2 l2 w hr0 hc0 hr1 hr2 hok hv hin hex).mono ?_
 rintro e w' ⟨rfl, hb'⟩
 exact ⟨_, rfl, Kd.V_nil _ _ _ _ _, hb'⟩
noncomputable section
attribute [local go_sem] max2_int min2_int max_two min_two max_three min_three max_four min_four
def w6_BagGroups.f (k : Nat) (l0 : List (List (S36))) (l1 : List Int) (l2 : List (S55)) : Option (Bool) := (r6_Group.f l0 l1 l2).bind fun bt342 => ((bag_Group.f l0 l1 l2).bind fun bt347 => ((r6_SameOutcomes.f k bt347.1 bt347.2 bt342.1 bt342.2).bind fun t351 => (if t351 = true then ((w6_awake.f).bind fun t352 => (some t352)) else (some false))))
def w6_BagGroups.T2 : Bool × List (List Nat × List Nat) := (true, [([], []), ([], []), ([], []), ([0, 1, 2], [0, 1, 2]), ([], []), ([3, 4, 3], [3, 4]), ([5, 5], [5]), ([6, 6], [6]), ([6, 7], [6, 7]), ([8, 7, 0, 1, 2, 3, 4, 5, 6, 7, 8], [8])])
def w6_BagGroups.B2 : List Nat := [0, 0, 0, 7, 0, 31, 63, 127, 255, 511]
theorem w6_BagGroups.tab2 : rtab .any (opsOf Tryz.f7 2) = w6_BagGroups.T2 := by kernel_rfl
theorem w6_BagGroups.bits2 : waitsOk w6_BagGroups.T2.2 w6_BagGroups.B2 = true := by kernel_rfl
theorem w6_BagGroups.calls (k : Nat) (A0 : Option Addr) (c0 : Nat) (l0 : List (List (S36))) (A1 : Option Addr) (c1 : Nat) (l1 : List Int) (A2 : Option Addr) (c2 : Nat) (l2 : List (S55)) (r : Bool) (w : World) (hr0 : Kd.C (Kd.slice 36 k36) w A0 l0.length l0) (hc0 : l0.length ≤ c0) (hr1 : Kd.C (Kd.int .i64) w A1 l1.length l1) (hc1 : l1.length ≤ c1) (hr2 : Kd.C k55 w A2 l2.length l2) (hc2 : l2.length ≤ c2) (hT : LaidT w) (h : w6_BagGroups.f k l0 l1 l2 = some r) (hrt : r = true := by rfl) :
 Calls Tryz.prog 7 #[.slice A0 l0.length c0, .slice A1 l1.length c1, .slice A2 l2.length c2] w fun e w' => e = .returned (.bool r) ∧ Below w.heap.size w w' := by
 have HRT := kA_ hrt
 clear hrt
 have HT := kA_ hT
 clear hT
 have hu45 := Tryz.underlying45
 have HR0 := kA_ hr0
 have HC0 := kA_ hc0
 clear hr0 hc0
 have HR1 := kA_ hr1
 have HC1 := kA_ hc1
 clear hr1 hc1
 have HR2 := kA_ hr2
 have HC2 := kA_ hc2
 clear hr2 hc2
 have HB := kA_ (Below.refl w.heap.size w)
 have H : ((r6_Group.f l0 l1 l2).bind fun bt342 => ((bag_Group.f l0 l1 l2).bind fun bt347 => ((r6_SameOutcomes.f k bt347.1 bt347.2 bt342.1 bt342.2).bind fun t351 => (if t351 = true then ((w6_awake.f).bind fun t352 => (some t352)) else (some false))))) = some r := h
 clear h
 replace H := Option.bind_eq_some_iff.mp H
 obtain ⟨⟨t342, t345⟩, A40, H⟩ := H
 replace H : ((bag_Group.f l0 l1 l2).bind fun bt347 => ((r6_SameOutcomes.f k bt347.1 bt347.2 t342 t345).bind fun t351 => (if t351 = true then ((w6_awake.f).bind fun t352 => (some t352)) else (some false)))) = some r := H
 have A4 := kA_ A40
 clear A40
 replace H := Option.bind_eq_some_iff.mp H
 obtain ⟨⟨t347, t350⟩, A50, H⟩ := H
 replace H : ((r6_SameOutcomes.f k t347 t350 t342 t345).bind fun t351 => (if t351 = true then ((w6_awake.f).bind fun t352 => (some t352)) else (some false))) = some r := H
 have A5 := kA_ A50
 clear A50
 replace H := Option.bind_eq_some_iff.mp H
 obtain ⟨t351, A60, H⟩ := H
 replace H : (if t351 = true then ((w6_awake.f).bind fun t352 => (some t352)) else (some false)) = some r := H
 have A6 := kA_ A60
 clear A60
 by_cases c7 : t351 = true
 rotate_left
 · replace c7 := Bool.eq_false_iff.mpr c7
   subst c7
   have H1 : (some false) = some r := by rw [if_neg (show ¬ (false = true) by decide)] at H; exact H
   clear H
   have H := H1
   clear H1
   exact absurd ((Option.some.inj H).trans HRT.out) (by decide)
 subst c7
 have H1 : ((w6_awake.f).bind fun t352 => (some t352)) = some r := by rw [if_pos rfl] at H; exact H
 clear H
 have H := H1
 clear H1
 replace H := Option.bind_eq_some_iff.mp H
 obtain ⟨t352, A80, H⟩ := H
 replace H : (some t352) = some r := H
 have A8 := kA_ A80
 clear A80
 obtain rfl := Option.some.inj H
 go_enter Tryz.func7, Tryz.ntmps7
 try go_wp2_with (first | ((with_reducible refine gate_callee (f := 23) rfl ?_); refine goesL_ (some 11) rfl rfl Tryz.func23 a3_ rfl #[.slice A0 l0.length c0, .slice A1 l1.length c1, .slice A2 l2.length c2] rfl a1_ ?_; (with_reducible refine (r6_Group.calls _ _ l0 _ _ l1 _ _ l2 t342 t345 _ ?side1 ?side2 ?side3 ?side4 ?side5 ?side6 A4.out).mono ?_); (case side1 => repeat (first | exact HR0.out | (with_reducible refine Kd.cA_ ?_ _) | (with_reducible refine Kd.cN_ ?_ _) | (with_reducible refine Kd.cD_ ?_))); (case side2 => exact HC0.out); (case side3 => repeat (first | exact HR1.out | (with_reducible refine Kd.cA_ ?_ _) | (with_reducible refine Kd.cN_ ?_ _) | (with_reducible refine Kd.cD_ ?_))); (case side4 => exact HC1.out); (case side5 => repeat (first | exact HR2.out | (with_reducible refine Kd.cA_ ?_ _) | (with_reducible refine Kd.cN_ ?_ _) | (with_reducible refine Kd.cD_ ?_))); (case side6 => exact HC2.out); rintro e w9 ⟨v343, rfl, ho0, hb⟩; refine ⟨_, rfl, ?_⟩; have n0_ := kA_ (Kd.V_lower (Kd.V_mono (ok' := fun k_ => True) ho0 (fun k_ hk_ => trivial)) (below_size a0_)); have n1_ := kA_ (below_step a0_ hb); clear HB; have HO344 := n0_; have HB := n1_; clear n0_ n1_; (try clear hb); (try clear hb2); (try clear hk); (try clear hi); (try clear ho0)) | ((with_reducible refine gate_dst (N := 7) rfl ?_); refine box_event ?hg (N := 7) ?hd (cs := #[.slice none 0 0, .int .i64 0]) (t := 45) ?hr ?_; (case hd => rfl); (case hg => rfl); (case hr => first | (go_simp; done) | (go_simp; rfl)); intro gb346 hg w10 hbox hb; have n0_ := kA_ (Kd.V_below (Kd.V_elderB a73_ gb346 (Nat.le_of_eq hg.symm)) hb); have n1_ := kA_ (below_step a0_ hb); have n2_ := kA_ (hbox); have n3_ := kA_ ((a7_ : w.heap.size ≤ gb346)); have n4_ := kA_ ((a7_ : w.heap.size ≤ gb346)); clear HO344; clear HB; have HO344 := n0_; have HB := n1_; have BK346 := n2_; have GW346 := n3_; have GE346 := n4_; clear n0_ n1_ n2_ n3_ n4_; clear hb hbox hg; obtain ⟨Ao11, co11, eo11⟩ := Kd.V_slice HO344.out; subst eo11; have hcz12_0 : w10.cell? ⟨gb346, 0, none⟩ = some (.slice none 0 0) := (blk_cell BK346.out 0).trans rfl; have hcz12_1 : w10.cell? ⟨gb346, 1, none⟩ = some (.int .i64 0) := (blk_cell BK346.out 1).trans rfl; have hfz12_0 := blk_frozen BK346.out 0; have hfz12_1 := blk_frozen BK346.out 1))
 have n0_ : Aside0 (Kd.V (Kd.slice 36 k36) 53 ((w10.setCell ⟨gb346, 0, none⟩ (.slice Ao11 t342.length co11)).setCell ⟨gb346, 1, none⟩ (.int .i64 t345)) w.heap.size (fun k_ => k_ ≠ gb346) (.slice Ao11 t342.length co11) t342) := ⟨by (with_reducible repeat (first | apply Kd.vA_ | apply Kd.vN_ | apply Kd.vD_)); exact Kd.V_mono (Kd.V_far (p := ⟨gb346, 1, none⟩) (Kd.V_far (p := ⟨gb346, 0, none⟩) (Kd.V_mono HO344.out (fun k_ hk => (⟨hk, hk.2⟩ : _ ∧ k_ ≠ gb346))) (fun _ hk => hk.2) (.slice Ao11 t342.length co11)) (fun _ hk => hk.2) (.int .i64 t345)) (fun _ hk => hk.1.2)⟩
 have n1_ : Aside0 (((w10.setCell ⟨gb346, 0, none⟩ (.slice Ao11 t342.length co11)).setCell ⟨gb346, 1, none⟩ (.int .i64 t345)).heap[gb346]? = some (.cells #[.slice Ao11 t342.length co11, .int .i64 t345] 45 (0, 0))) := ⟨by (with_reducible repeat (first | refine blk_drewN ?_ _ | refine blk_drew ?_ | refine blk_alloc ?_ _)); refine blk_put (cs := #[.slice Ao11 t342.length co11, .int .i64 0]) ?_ 1 _ rfl; (with_reducible repeat (first | refine blk_drewN ?_ _ | refine blk_drew ?_ | refine blk_alloc ?_ _)); refine blk_put (cs := #[.slice none 0 0, .int .i64 0]) ?_ 0 _ rfl; (with_reducible repeat (first | refine blk_drewN ?_ _ | refine blk_drew ?_ | refine blk_alloc ?_ _)); exact BK346.out⟩
 have n2_ : Aside0 (Below w.heap.size w ((w10.setCell ⟨gb346, 0, none⟩ (.slice Ao11 t342.length co11)).setCell ⟨gb346, 1, none⟩ (.int .i64 t345))) := ⟨by repeat (first | (with_reducible first | exact HB.out | apply bA_ | apply bN_ | apply b1_ | refine below_set ?_ GE346.out) | exact HB.out)⟩
 (try clear HO344)
 (try clear BK346)
 (try clear HB)
 generalize ((w10.setCell ⟨gb346, 0, none⟩ (.slice Ao11 t342.length co11)).setCell ⟨gb346, 1, none⟩ (.int .i64 t345)) = w13 at n0_ n1_ n2_ ⊢
 have HO344 := n0_
 have BK346 := n1_
 have HB := n2_
 clear n0_ n1_ n2_
 have n0_ := kA_ (Kd.vD_ HO344.out)
 have n1_ := kA_ (blk_drew BK346.out)
 have n2_ := kA_ (b1_ HB.out)
 clear HO344
 clear BK346
 clear HB
 have HO344 := n0_
 have BK346 := n1_
 have HB := n2_
 clear n0_ n1_ n2_
 refine start_ (n := 10) (S := fun w' => w'.cell? ⟨gb346, 0, none⟩ = some (.slice Ao11 t342.length co11) ∧ w'.cell? ⟨gb346, 1, none⟩ = some (.int .i64 t345)) (ds := []) #[X,X,X,X,X,X,X,X,X,X] a3_ rfl rfl ⟨(blk_cell BK346.out 0).trans rfl, (blk_cell BK346.out 1).trans rfl⟩ (fun hHeld => ?_); refine with_tabW w6_BagGroups.tab2 w6_BagGroups.bits2 (fun HT_ HW_ => ?_)
 generalize w13.drew = w14 at HO344 BK346 HB hHeld ⊢
 refine pure_ (i := 0) (N := some 12) (v := ?_) (a' := ?_) #[Y,X,X,X,X,X,X,X,X,X] rfl rfl (any_of HT_.out a3_) (fun _ _ _ h => h) (Or.inl ⟨by rfl, ?_⟩) ?_ ?_
 rotate_left
 · intro w'
   go_simp
   with_reducible rfl
 rotate_left
 · simp only [Act.put, tA, tZ, tS, iL, iW]
   rfl
 refine pure_ (i := 1) (N := some 13) (v := ?_) (a' := ?_) #[Y,Y,X,X,X,X,X,X,X,X] rfl rfl (any_of HT_.out a3_) (fun _ _ _ h => h) (Or.inl ⟨by rfl, ?_⟩) ?_ ?_
 rotate_left
 · intro w'
   go_simp
   with_reducible rfl
 rotate_left
 · simp only [Act.put, tA, tZ, tS, iL, iW]
   rfl
 refine pure_ (i := 2) (N := some 14) (v := ?_) (a' := ?_) #[Y,Y,Y,X,X,X,X,X,X,X] rfl rfl (any_of HT_.out a3_) (fun _ _ _ h => h) (Or.inl ⟨by rfl, ?_⟩) ?_ ?_
 rotate_left
 · intro w'
   go_simp
   with_reducible rfl
 rotate_left
 · simp only [Act.put, tA, tZ, tS, iL, iW]
   rfl
 refine take_ (i := 4) (N := some 16) (v := ?_) (a' := ?_) #[Y,Y,Y,X,Y,X,X,X,X,X] rfl rfl (take_ofW HT_.out HW_.out a3_) (fun _ _ _ h => h) (Or.inl ⟨by rfl, ?_⟩) hHeld ?_ ?_
 rotate_left
 · rintro w' ⟨s0, s1⟩
   go_simp
   with_reducible rfl
 rotate_left
 · simp only [Act.put, tA, tZ, tS, iL, iW]
   rfl
 refine one_ (i := 3) (N := some 15) #[Y,Y,Y,Y,Y,X,X,X,X,X] rfl rfl (one_of HT_.out a3_) (by decide) (fun K hK => ?_)
 refine goes_ Tryz.func25 a3_ rfl #[.slice A0 l0.length c0, .slice A1 l1.length c1, .slice A2 l2.length c2] (by rfl) rfl rfl a1_ ?_
 with_reducible refine (bag_Group.calls _ _ l0 _ _ l1 _ _ l2 t347 t350 _ ?side1 ?side2 ?side3 ?side4 ?side5 ?side6 ?sideT A5.out).mono ?_
 (case sideT => exact LaidT.below HT.out a40_); skip
 (case side1 => repeat (first | exact (Kd.C_below HR0.out HB.out) | (with_reducible refine Kd.cA_ ?_ _) | (with_reducible refine Kd.cN_ ?_ _) | (with_reducible refine Kd.cD_ ?_)))
 (case side2 => exact HC0.out)
 (case side3 => repeat (first | exact (Kd.C_below HR1.out HB.out) | (with_reducible refine Kd.cA_ ?_ _) | (with_reducible refine Kd.cN_ ?_ _) | (with_reducible refine Kd.cD_ ?_)))
 (case side4 => exact HC1.out)
 (case side5 => repeat (first | exact (Kd.C_below HR2.out HB.out) | (with_reducible refine Kd.cA_ ?_ _) | (with_reducible refine Kd.cN_ ?_ _) | (with_reducible refine Kd.cD_ ?_)))
 (case side6 => exact HC2.out)
 rintro e w15 ⟨v348, rfl, ho0, hb⟩
 refine ⟨_, rfl, ?_⟩
 have n0_ := kA_ (Kd.V_below a73_ hb)
 have n1_ := kA_ (Kd.V_lower (Kd.V_mono (ok' := fun k_ => k_ ≠ gb346) ho0 (fun k_ hk_ => (Kd.freshB (g := gb346) (o := .cells #[.slice Ao11 t342.length co11, .int .i64 t345] 45 (0, 0)) a63_ k_ hk_))) (below_size a40_))
 have n2_ := kA_ (blk_below (g := gb346) (o := .cells #[.slice Ao11 t342.length co11, .int .i64 t345] 45 (0, 0)) a63_ hb)
 have n3_ := kA_ (below_step a40_ hb)
 clear HO344
 clear BK346
 clear HB
 have HO344 := n0_
 have HO349 := n1_
 have BK346 := n2_
 have HB := n3_
 clear n0_ n1_ n2_ n3_
 (try clear hb)
 (try clear hb2)
 (try clear hk)
 (try clear hi)
 (try clear ho0)
 obtain ⟨Ao16, co16, eo16⟩ := Kd.V_slice HO349.out
 (first | subst eo16 | (injection eo16 with f1_ f2_ f3_; have f4_ := f1_.symm; have f5_ := f3_.symm; clear f1_ f2_ f3_; subst f4_; subst f5_))
 refine hK.out _ _ ⟨(blk_cell BK346.out 0).trans rfl, (blk_cell BK346.out 1).trans rfl⟩ (fun hHeld => ?_)
 clear hK K
 refine norm_ (a' := ?_) ?_ ?_
 rotate_left
 · show Act.put _ (some 15) _ = _
   simp only [Act.put, tA, tZ, tS, iL, iW]
   rfl
 refine one_ (i := 5) (N := some 17) #[Y,Y,Y,Y,Y,Y,X,X,X,X] rfl rfl (one_of HT_.out a3_) (by decide) (fun K hK => ?_)
 refine goes_ Tryz.func24 a3_ rfl #[.agg #[.slice Ao16 t347.length co16, .int .i64 t350], .agg #[.slice Ao11 t342.length co11, .int .i64 t345]] (by rfl) rfl rfl a1_ ?_
 with_reducible refine (r6_SameOutcomes.calls k _ _ t347 t350 _ _ t342 t345 true _ ?side1 ?side2 ?side3 ?side4 A6.out).mono ?_
 (case side1 => repeat (first | exact (Kd.V_reads' HO349.out).2.2 | (with_reducible refine Kd.cA_ ?_ _) | (with_reducible refine Kd.cN_ ?_ _) | (with_reducible refine Kd.cD_ ?_)))
 (case side2 => exact (Kd.V_reads' HO349.out).2.1)
 (case side3 => repeat (first | exact (Kd.V_reads' HO344.out).2.2 | (with_reducible refine Kd.cA_ ?_ _) | (with_reducible refine Kd.cN_ ?_ _) | (with_reducible refine Kd.cD_ ?_)))
 (case side4 => exact (Kd.V_reads' HO344.out).2.1)
 rintro e w17 ⟨rfl, hb⟩
 refine ⟨_, rfl, ?_⟩
 have n0_ := kA_ (Kd.V_below a73_ hb)
 have n1_ := kA_ (Kd.V_below (by (with_reducible repeat (first | apply Kd.vA_ | apply Kd.vN_ | apply Kd.vD_)); exact HO349.out) hb)
 have n2_ := kA_ (blk_below (g := gb346) (o := .cells #[.slice Ao11 t342.length co11, .int .i64 t345] 45 (0, 0)) a63_ hb)
 have n3_ := kA_ (below_step a40_ hb)
 clear HO344
 clear HO349
 clear BK346
 clear HB
 have HO344 := n0_
 have HO349 := n1_
 have BK346 := n2_
 have HB := n3_
 clear n0_ n1_ n2_ n3_
 (try clear hb)
 (try clear hb2)
 (try clear hk)
 (try clear hi)
 refine hK.out _ _ ⟨(blk_cell BK346.out 0).trans rfl, (blk_cell BK346.out 1).trans rfl⟩ (fun hHeld => ?_)
 clear hK K
 refine norm_ (a' := ?_) ?_ ?_
 rotate_left
 · show Act.put _ (some 17) _ = _
   simp only [Act.put, tA, tZ, tS, iL, iW]
   rfl
 refine pure_ (i := 6) (N := some 18) (v := ?_) (a' := ?_) #[Y,Y,Y,Y,Y,Y,Y,X,X,X] rfl rfl (any_of HT_.out a3_) (fun _ _ _ h => h) (Or.inl ⟨by rfl, ?_⟩) ?_ ?_
 rotate_left
 · intro w'
   go_simp
   with_reducible rfl
 rotate_left
 · simp only [Act.put, tA, tZ, tS, iL, iW]
   rfl
 refine one_ (i := 7) (N := some 19) #[Y,Y,Y,Y,Y,Y,Y,Y,X,X] rfl rfl (one_of HT_.out a3_) (by decide) (fun K hK => ?_)
 refine goes_ Tryz.func13 a3_ rfl #[] (by rfl) rfl rfl a1_ ?_
 with_reducible refine (w6_awake.calls  t352 _ ?sideT A8.out).mono ?_
 (case sideT => exact LaidT.below HT.out a40_); skip
 rintro e w18 ⟨rfl, hb⟩
 refine ⟨_, rfl, ?_⟩
 have n0_ := kA_ (Kd.V_below a73_ hb)
 have n1_ := kA_ (Kd.V_below (by (with_reducible repeat (first | apply Kd.vA_ | apply Kd.vN_ | apply Kd.vD_)); exact HO349.out) hb)
 have n2_ := kA_ (blk_below (g := gb346) (o := .cells #[.slice Ao11 t342.length co11, .int .i64 t345] 45 (0, 0)) a63_ hb)
 have n3_ := kA_ (below_step a40_ hb)
 clear HO344
 clear HO349
 clear BK346
 clear HB
 have HO344 := n0_
 have HO349 := n1_
 have BK346 := n2_
 have HB := n3_
 clear n0_ n1_ n2_ n3_
 (try clear hb)
 (try clear hb2)
 (try clear hk)
 (try clear hi)
 refine hK.out _ _ ⟨(blk_cell BK346.out 0).trans rfl, (blk_cell BK346.out 1).trans rfl⟩ (fun hHeld => ?_)
 clear hK K
 refine norm_ (a' := ?_) ?_ ?_
 rotate_left
 · show Act.put _ (some 19) _ = _
   simp only [Act.put, tA, tZ, tS, iL, iW]
   rfl
 refine pure_ (i := 8) (N := some 20) (v := ?_) (a' := ?_) #[Y,Y,Y,Y,Y,Y,Y,Y,Y,X] rfl rfl (any_of HT_.out a3_) (fun _ _ _ h => h) (Or.inl ⟨by rfl, ?_⟩) ?_ ?_
 rotate_left
 · intro w'
   go_simp
   with_reducible rfl
 rotate_left
 · simp only [Act.put, tA, tZ, tS, iL, iW]
   rfl
 refine pure_ (i := 9) (N := some 6) (v := ?_) (a' := ?_) #[Y,Y,Y,Y,Y,Y,Y,Y,Y,Y] rfl rfl (any_of HT_.out a3_) (fun _ _ _ h => h) (Or.inl ⟨by rfl, ?_⟩) ?_ ?_
 rotate_left
 · intro w'
   go_simp
   with_reducible rfl
 rotate_left
 · simp only [Act.put, tA, tZ, tS, iL, iW]
   rfl
 refine done_ (done_of HT_.out a3_) ?_
 try go_wp2
 go_ret
 exact ⟨a5_, by repeat (first | (with_reducible first | exact HB.out | apply bA_ | apply bN_ | apply b1_ | refine below_set ?_ GE346.out) | exact HB.out)⟩
end
theorem law_groups (l : List (List V)) (cols : List Int) (aggs : List AggT) (hok : GroupOk l cols aggs) (hn : l.length ≤ 1048586) (hc : cols.length ≤ 1048576) (ha : aggs.length ≤ 1048576) : ∃ k, w6_BagGroups.f k l cols aggs = some true := by
 have h : Ev (fun k => w6_BagGroups.f k l cols aggs) true := by
  unfold w6_BagGroups.f
  have e0 : r6_Group.f l cols aggs = some (groupG l cols aggs) := if_pos ⟨hok, hn, hc, ha⟩
  have e1 : bag_Group.f l cols aggs = some (groupG l cols aggs) := if_pos hok
  obtain ⟨g1, g2⟩ := groupG_len (aggs := aggs) hn hc ha
  obtain ⟨G, hG⟩ : ∃ G, G = groupG l cols aggs := ⟨_, rfl⟩
  rw [← hG] at e0 e1 g1 g2
  rw [e0, e1]
  simp only [Option.bind_some]
  exact Ev.bind (sameOut_refl G.1 G.2 g1 g2) (Ev.now true)
 exact h.rounds
section
open Go.ChangeShapes Go.WideShapes Go.Deep
section
variable {H : Type} {enc : TypeId × Value → H} {w : World} {base : Nat} {spare : Nat → Bool} {held : Bool}
instance : Inhabited AggT := ⟨⟨0, 0, false⟩⟩
theorem cellsAgg : (Tryz.prog).cellsOf 55 = 3 ∧ (Tryz.prog).cellsOf 32 = 1 := ⟨by kernel_rfl, by kernel_rfl⟩
theorem agg_of_trod {fuel : Nat} {cs : List Value} {x : DataW H × List MemPlace} (h : DataW.trod enc Tryz.prog w base spare held fuel 55 cs = some x) : ∃ v : AggT, cs = [.int .u8 v.f0, .int .i64 v.f1, .bool v.f2] ∧ 0 ≤ v.f0 ∧ 1 ≤ Rows.uptoBulk x.1 := by
 obtain ⟨y0, y1, y2, n, hx, hl, h0, h1, h2⟩ := trod_struct3 Tryz.underlying55 h
 rw [cellsAgg.1] at hl
 rw [cellsAgg.2] at h0
 rw [cellsI.1] at h1
 rw [cellsI.2] at h2
 match cs, hl with
 | [c0, c1, c2], _ =>
  obtain ⟨n0, e0, _, w0⟩ := DataW.trod_int (k := .u8) a3_ h0
  obtain ⟨n1, e1, _, w1⟩ := DataW.trod_int (k := .i64) a3_ h1
  obtain ⟨b2, e2, _⟩ := DataW.trod_bool a3_ h2
  have f0 : c0 = .int .u8 n0 := (List.cons.inj (show [c0] = [.int .u8 n0] from e0)).1
  have f1 : c1 = .int .i64 n1 := (List.cons.inj (show [c1] = [.int .i64 n1] from e1)).1
  have f2 : c2 = .bool b2 := (List.cons.inj (show [c2] = [.bool b2] from e2)).1
  exact ⟨⟨n0, n1, b2⟩, by rw [f0, f1, f2], (wf_u8 w0).1, bulks.one_le _⟩
theorem aggs_of_trod {fuel : Nat} {cs : List Value} {x : DataW H × List MemPlace} (h : DataW.trod enc Tryz.prog w base spare held fuel 43 cs = some x) :
 ∃ (A : Option Addr) (cap : Nat) (l : List AggT), cs = [.slice A l.length cap] ∧ l.length ≤ cap ∧ cap ≤ maxLen ∧ kAgg.C w A l.length l ∧ (∀ a ∈ l, 0 ≤ a.f0) ∧ l.length + 1 ≤ Rows.uptoBulk x.1 := by
 obtain ⟨A, cap, l, h1, h2, h3, h4, h5, h6⟩ := list_of_trod kAgg Tryz.underlying43 cellsAgg.1 (fun _ => 1) (fun a : AggT => 0 ≤ a.f0) (fun _ h => by
  obtain ⟨v, rfl, hv, hb⟩ := agg_of_trod h
  exact ⟨v, k55_mk w v, hv, hb⟩) h
 exact ⟨A, cap, l, h1, h2, h3, h4, h5, by have := sum_len (fun _ : AggT => 1) (fun _ => Nat.le_refl _) l; omega⟩
end
theorem bulkL_size {l : List (List V)} : ∀ row ∈ l, ∀ v ∈ row, v.f2.size + 3 ≤ bulkL l := fun row hr v hv => by
 have h1 := sum_mem (List.mem_map_of_mem (f := bulkR) hr)
 have h2 := sum_mem (List.mem_map_of_mem (f := bulkV) hv)
 have e1 : bulkR row = (row.map bulkV).sum + 1 := rfl
 have e2 : bulkV v = v.f2.size + 1 := rfl
 have e3 : bulkL l = (l.map bulkR).sum + 1 := rfl
 omega
theorem bulkL_len {l : List (List V)} : l.length ≤ bulkL l := by
 have h1 := sum_len bulkR (fun r => by unfold bulkR; omega) l
 unfold bulkL
 omega
end
end Go.Proofs.YtecgkcgfeghhgaaGreatDoor.PAll
set_option linter.unusedVariables false
namespace Go.Proofs.YtecgkcgfeghhgaaGreatDoor.bagGroups
open Go.ChangeShapes Go.WideShapes Go.ChangeAt Go.RowKit Go.Proofs.YtecgkcgfeghhgaaGreatDoor.PAll
open Go.Proofs.YtecgkcgfeghhgaaGreatDoorW.PrintWords Go.Proofs.YtecgkcgfeghhgaaGreatDoorW.PrintLast Go.Proofs.YtecgkcgfeghhgaaGreatDoorW.PrintMore
theorem laidOut : laidOutB Tryz.prog = true := by kernel_rfl
theorem own : ownKnob Tryz.prog.godebug = none := by kernel_rfl
theorem gTab : Tryz.prog.globalNamed "internal/strconv.uint64pow10" = some 0 := by kernel_rfl
theorem gTabType : (Tryz.prog.globals[0]?).map (·.type) = some 165 := by kernel_rfl
theorem uTab : Tryz.prog.underlying 165 = some (.array 20 99) ∧ Tryz.prog.underlying 99 = some (.int .u64) ∧ Tryz.prog.cellsOf 99 = 1 := ⟨by kernel_rfl, by kernel_rfl, by kernel_rfl⟩
theorem cTab : Tryz.prog.cellsOf 165 = 20 := by kernel_rfl
theorem tabEq {H : Type} : Rows.laid_internal_strconv_uint64pow10 (H := H) = Lib.tabData .u64 Lib.pow10Tab := by
 simp [Rows.laid_internal_strconv_uint64pow10, Lib.tabData, Lib.pow10Tab, List.range_succ]
theorem table {W : World} (h : laidMetH Tryz.prog Rows.bagGroupsUptoRow.laid W) : LaidT W := by
 have h : laidMet Tryz.prog Rows.bagGroupsUptoRow.laid W := h
 obtain ⟨ps, ⟨_, _, _, _, _, _, _, _, _, _, ⟨_, _, _, _, _, _, _, _, _, _, ⟨g', t', cs, fuel, p, q, hg', ht', hvar, hd, _, _⟩, _⟩, _⟩, _⟩ := h
 obtain ⟨he, hi, hc⟩ := uTab
 obtain rfl := Option.some.inj (gTab.symm.trans hg')
 obtain rfl := Option.some.inj (gTabType.symm.trans ht')
 rw [tabEq] at hd
 unfold LaidT Lib.TabIs
 rw [hvar, ← Lib.cells_of_tab he hi hc cTab hd]
theorem contract (H : Type) (enc : TypeId × Value → H) (W : World) (base : Nat) (args : Array Value) (ds gs : List (DataW H)) (before : List MemPlace)
 (hval : ∀ (j : Nat) t v, Tryz.f7.params[j]? = some t → args[j]? = some v → Value.okWide Tryz.prog W .any base t v)
 (hW : DataW.Whole enc Tryz.prog Tryz.f7.params.toList Rows.bagGroupsSpec.vars false W args.toList ds gs before) (hk : Rows.uptoSmall H (ds ++ gs) = true) (hL : laidMetH Tryz.prog Rows.bagGroupsUptoRow.laid W) :
 Calls Tryz.prog 7 args W fun e W' => ∃ v, e = .returned v ∧ Rows.bagGroupsSpec.post enc Tryz.prog Tryz.f7 false true false false W args v W' := by
 have hW' := hW
 obtain ⟨p, q, hA0, hV, rfl, hfz, hnd⟩ := hW
 have hA : DataW.TrodAll enc Tryz.prog W 0 (fun _ => true) true Tryz.f7.params.toList args.toList ds p := hA0
 rw [Tryz.params7] at hA hval
 obtain ⟨v0, vs0, d0, ds0, p0, q0, hargs, rfl, rfl, h0, r0⟩ := trodAll_cons hA
 obtain ⟨v1, vs1, d1, ds1, p1, q1, rfl, rfl, rfl, h1, r1⟩ := trodAll_cons r0
 obtain ⟨v2, vs2, d2, ds2, p2, q2, rfl, rfl, rfl, h2, r2⟩ := trodAll_cons r1
 obtain ⟨rfl, rfl, rfl⟩ := trodAll_nil r2
 obtain rfl : args = #[v0, v1, v2] := by cases args; simp_all
 obtain ⟨rfl, rfl⟩ := trodVars_none hV
 have h0k := h0
 have h1k := h1
 have h2k := h2
 obtain ⟨fuel0, hf0⟩ := h0
 obtain ⟨fuel1, hf1⟩ := h1
 obtain ⟨fuel2, hf2⟩ := h2
 obtain ⟨a0, len0, cap0, rfl⟩ := okWide_slice Tryz.underlying22 (hval 0 22 v0 (by simp) (by simp))
 obtain ⟨A0, cp0, l0, hcs0, hlc0, _, hC0, hv0, hb0⟩ := rows_of_trod hf0
 simp [Value.cells] at hcs0
 obtain ⟨rfl, rfl, rfl⟩ := hcs0
 dsimp only at hb0
 obtain ⟨a1, len1, cap1, rfl⟩ := okWide_slice Tryz.underlying42 (hval 1 42 v1 (by simp) (by simp))
 obtain ⟨A1, cp1, l1, hcs1, hlc1, _, hC1, hv1, hb1⟩ := ints_of_trod (k := .i64) Tryz.underlying42 (e := 3) a3_ a3_ hf1
 simp [Value.cells] at hcs1
 obtain ⟨rfl, rfl, rfl⟩ := hcs1
 dsimp only at hb1
 obtain ⟨a2, len2, cap2, rfl⟩ := okWide_slice Tryz.underlying43 (hval 2 43 v2 (by simp) (by simp))
 obtain ⟨A2, cp2, l2, hcs2, hlc2, _, hC2, hv2, hb2⟩ := aggs_of_trod hf2
 simp [Value.cells] at hcs2
 obtain ⟨rfl, rfl, rfl⟩ := hcs2
 dsimp only at hb2
 clear hA0
 simp only [List.append_nil] at hW' hk
 have hb : Rows.uptoBulkAll [d0, d1, d2] ≤ 1048576 := of_decide_eq_true hk
 simp only [Rows.uptoBulkAll] at hb
 have hlt : ∀ x ∈ p0 ++ (p1 ++ (p2)), x.block < W.heap.size := fun x hx => hW'.lt x hx
 obtain ⟨k, hlaw⟩ : ∃ k, w6_BagGroups.f k l0 l1 l2 = some true := (law_groups l0 l1 l2 (groupOk_short (S := bulkL l0 - 3) (bulkL_rowsOk hv0 (by omega)) (by have := bulkL_len (l := l0); omega) (fun row hr v hm => by have := bulkL_size row hr v hm; omega) (by omega) (by omega) hv2) (by have := bulkL_len (l := l0); omega) (by omega) (by omega))
 refine (w6_BagGroups.calls k a0 cap0 l0 a1 cap1 l1 a2 cap2 l2 true W hC0 hlc0 hC1 hlc1 hC2 hlc2 (table hL) hlaw).mono fun e W' ⟨he, hg⟩ => ?_
 subst he
 exact ⟨_, rfl, ⟨[d0, d1, d2], [], _, [], _, [], hW', trodAll_mk1 (shut_bool Tryz.underlying4 _), trodAll_cons_mk (Below.trod laidOut a3_ (of_decide_eq_true a3_) h0k hg (fun x hx => hlt x (List.mem_append_left _ hx))) (trodAll_cons_mk (Below.trod laidOut a3_ (of_decide_eq_true a3_) h1k hg (fun x hx => hlt x (List.mem_append_right _ (List.mem_append_left _ hx)))) (trodAll_mk1 (Below.trod laidOut a3_ (of_decide_eq_true a3_) h2k hg (fun x hx => hlt x (List.mem_append_right _ (List.mem_append_right _ (hx))))))), rfl, hg.frame _, fun h => by cases h⟩⟩
noncomputable def laidWorld (os : Os) : World :=
 let w := World.holding Tryz.prog os ⟨#[], #[], []⟩
 { w with heap := ((w.heap.modify 0 fun
  | .cells _ t frozen => .cells ((Lib.pow10Tab.map (Value.int .u64)).toArray) t frozen
  | o => o).modify 2 fun
  | .cells _ t frozen => .cells #[.int .u8 0, .int .u8 1, .int .u8 28, .int .u8 2, .int .u8 29, .int .u8 14, .int .u8 24, .int .u8 3, .int .u8 30, .int .u8 22, .int .u8 20, .int .u8 15, .int .u8 25, .int .u8 17, .int .u8 4, .int .u8 8, .int .u8 31, .int .u8 27, .int .u8 13, .int .u8 23, .int .u8 21, .int .u8 19, .int .u8 16, .int .u8 7, .int .u8 26, .int .u8 12, .int .u8 18, .int .u8 6, .int .u8 11, .int .u8 5, .int .u8 10, .int .u8 9] t frozen
  | o => o).modify 3 fun
  | .cells _ t frozen => .cells #[.int .u8 0, .int .u8 1, .int .u8 56, .int .u8 2, .int .u8 57, .int .u8 49, .int .u8 28, .int .u8 3, .int .u8 61, .int .u8 58, .int .u8 42, .int .u8 50, .int .u8 38, .int .u8 29, .int .u8 17, .int .u8 4, .int .u8 62, .int .u8 47, .int .u8 59, .int .u8 36, .int .u8 45, .int .u8 43, .int .u8 51, .int .u8 22, .int .u8 53, .int .u8 39, .int .u8 33, .int .u8 30, .int .u8 24, .int .u8 18, .int .u8 12, .int .u8 5, .int .u8 63, .int .u8 55, .int .u8 48, .int .u8 27, .int .u8 60, .int .u8 41, .int .u8 37, .int .u8 16, .int .u8 46, .int .u8 35, .int .u8 44, .int .u8 21, .int .u8 52, .int .u8 32, .int .u8 23, .int .u8 11, .int .u8 54, .int .u8 26, .int .u8 40, .int .u8 15, .int .u8 34, .int .u8 20, .int .u8 31, .int .u8 10, .int .u8 25, .int .u8 14, .int .u8 19, .int .u8 9, .int .u8 13, .int .u8 8, .int .u8 7, .int .u8 6] t frozen
  | o => o }
theorem laid_met (os : Os) : laidMet Tryz.prog Rows.bagGroupsUptoRow.laid ((laidWorld os).forCall (fun _ _ => 0) ⟨#[], #[.slice none 0 0, .slice none 0 0, .slice none 0 0], []⟩).memory :=
 laidMet_of_run' 8 a3_ a3_
theorem reads (os : Os) {H : Type} (enc : TypeId × Value → H) : ∃ places, DataW.whole enc Tryz.prog ((laidWorld os).forCall (fun _ _ => 0) ⟨#[], #[.slice none 0 0, .slice none 0 0, .slice none 0 0], []⟩).memory Tryz.f7.params.toList Rows.bagGroupsSpec.vars false (#[.slice none 0 0, .slice none 0 0, .slice none 0 0] : Array Value).toList 8 = some ([.nil, .nil, .nil], [], places) :=
 ⟨[], by kernel_rfl⟩
theorem liftedUpto (os : Os) (started : os.Started) (H : Type) (enc : TypeId × Value → H) (F : Stop.Interp) :
 ReturnsInHanded {} Tryz.checked os 7 .any ((Rows.OpenSpec.upto Rows.bagGroupsSpec).preRow enc Tryz.prog Tryz.f7 Rows.bagGroupsUptoRow.domain false Rows.bagGroupsUptoRow.laid) (((Rows.OpenSpec.upto Rows.bagGroupsSpec).at F).post enc Tryz.prog Tryz.f7 false true false false) := by
 obtain ⟨places, hx⟩ := reads os enc
 refine returnsInHanded_of_row (C := Tryz.checked) (s := Rows.OpenSpec.upto Rows.bagGroupsSpec) own started a3_ Tryz.func7
  (witness_row_at (enc := enc) (C := Tryz.checked) false (laidWorld os) #[.slice none 0 0, .slice none 0 0, .slice none 0 0] rfl a3_ a3_ a3_
   (OpenSpec.preRow_of_cond 8 hx a3_ (fun k hk => by cases hk; kernel_rfl) a3_ (laid_met os))) ?_
 intro W base args ds gs before hval hW _ hcond _ hL _ _
 exact contract H enc W base args ds gs before hval hW (hcond _ rfl) hL
theorem saidUpto : Rows.BagGroupsUptoSaid :=
 OpenClaim.holds_of_cond 7 Tryz.f7 rfl rfl rfl rfl rfl rfl rfl ⟨rfl, rfl, rfl, rfl, rfl⟩ rfl rfl rfl rfl rfl a3_ Tryz.func7 a3_
  (of_decide_eq_true a3_) (by unfold Func.isWrapper; first | (rw [if_pos (by decide +kernel)]; kernel_rfl) | (rw [if_neg (by decide +kernel)]; exact ⟨rfl, rfl⟩))
  (fun os started H enc _ F => by rw [OpenClaim.pre_eq_preRow]; exact liftedUpto os started H enc F)
theorem plain (f : FuncId) (fn : Func) (hf : Tryz.pinned.checked.prog.funcNamed "jointer/jointerlaw06.BagGroups" = some f) (hfn : Tryz.pinned.checked.prog.funcs[f]? = some fn) :
 false = Tryz.pinned.checked.prog.looks [] ∧ ∀ (j : Nat) t, fn.params[j]? = some t → Tryz.pinned.checked.prog.wantsStandIn t = false := by
 obtain rfl : f = 7 := Option.some.inj ((show Tryz.prog.funcNamed "jointer/jointerlaw06.BagGroups" = some 7 by kernel_rfl).symm.trans hf) |>.symm
 obtain rfl : fn = Tryz.f7 := (Option.some.inj (Tryz.func7.symm.trans hfn)).symm
 refine ⟨by kernel_rfl, fun j t ht => ?_⟩
 rw [Tryz.params7] at ht
 have hm := Array.mem_of_getElem? ht
 simp only [List.mem_toArray, List.mem_cons, List.not_mem_nil, or_false] at hm
 rcases hm with rfl | rfl | rfl
 · exact (show Tryz.prog.wantsStandIn 22 = false by kernel_rfl)
 · exact (show Tryz.prog.wantsStandIn 42 = false by kernel_rfl)
 exact (show Tryz.prog.wantsStandIn 43 = false by kernel_rfl)
theorem card : Rows.BagGroupsUptoCardSaid :=
 Claim7.holds_tied_plain_at .later [] _ _ _ _ saidUpto (fun _ h => by cases h) a3_ (fun _ h => by cases h) bagGroupsUpto_row_tie rfl ⟨rfl, rfl⟩ a3_ rfl plain a3_
end Go.Proofs.YtecgkcgfeghhgaaGreatDoor.bagGroups
