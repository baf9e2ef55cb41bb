/- What the last of these texts proves is told there. Joined by a program of this session out of its texts. -/
import Derived.Test.YtecgkcgfeghhgaaDoorQBagSums2
import Derived.Below
import Derived.Deep.Draws
import Derived.Deep.AppendLies
import Derived.Maps.AppendAt
import Derived.OwnWalk
import Derived.Laws.BytesArg
import Derived.Laws.MakeOwn
import Derived.Laws.OwnMore
import Derived.Deep.OwnRows
import Derived.Tactics
import Derived.Lib.ConvBytes
import Derived.Laws.Slices
import Derived.WalkKit
import Derived.KernelRfl
import Derived.RowKit3
import Derived.Deep.LoopGhost
import Derived.Deep.QuietTactic
import Derived.BigQuiet
import Derived.WideLaws
import Derived.Deep.DeepCutAuto
import Derived.Deep.CutBlock
import Derived.Deep.RegionHeld3
import Derived.Laws.Rows
import Derived.Lib.AppendStr
import Derived.ArgAppend
import Derived.Laws.IdiomCopy
import Derived.RowKit
import Derived.OrdersHeld
import Derived.Laws.BitsLemmas
import Derived.Laws.StructEq
import Derived.Shelf.Strings.BuilderK
import Derived.Shelf.Spec.SlicesGrow
import Derived.Shelf.SlGeneric
import Derived.Ground.Names8Prog
import Derived.Shelf.SlSortCmp.NoneTotal
import Derived.Ground.SlsfProg
import Derived.Ground.NamesProg
import Derived.Shelf.Spec.BitsCarry
import Derived.Ground.Names7Prog
import Derived.Shelf.Strings.Builder1
import Derived.Shelf.Small.Bits
import Derived.Shelf.Small.Strs
import Derived.Shelf.Strings.BuilderF
import Derived.Shelf.Strconv.Itoa0
import Derived.Shelf.Strconv.Itoa1
import Derived.Shelf.LaysM
import Derived.Shelf.Strconv.Itoa2
import Derived.Shelf.Strconv.Itoa3
import Derived.Shelf.Strconv.Itoa4
import Derived.Shelf.Strings.BuilderCap
import Derived.Maps.OwnOps
import Derived.ChangeArms
import Derived.Deep.Slices
import Derived.Deep.Strs
import Derived.Lib.ItoaLen
import Derived.BigRegion
import Derived.RegionTactic
import Derived.Sort.Statements
import Derived.WalkSpells
import Derived.WalkMore
import Derived.Lib.ItoaNum
import Derived.Lib.BitFns
import Derived.Handy
set_option maxHeartbeats 8000000
set_option maxRecDepth 100000
set_option linter.unusedVariables false
set_option linter.unusedSimpArgs false
namespace Go.Proofs.YtecgkcgfeghhgaaDoor.PAll
open Go.RowKit Go.Proofs.YtecgkcgfeghhgaaDoorW.PrintWords Go.Proofs.YtecgkcgfeghhgaaDoorW.PrintLast Go.Proofs.YtecgkcgfeghhgaaDoorW.PrintMore
theorem order_calls (A1 : Option Addr) (n c1 : Nat) (w : World) :
 Calls Tryd.prog 49 #[.slice A1 n c1] w fun e w' => e = .returned (.func (.func 58) #[] #[.pointer (some ⟨w.heap.size, 0, none⟩)]) ∧ ∃ t, w' = w.alloc (.cells #[.slice A1 n c1] t) := by
 go_enter Tryd.func49, Tryd.ntmps49
 go_wp2
 go_ret
 exact ⟨rfl, _, rfl⟩
theorem rowStep_valid : ∀ (ks : List Int) (r : List V) (ks' : List Int), rowStep ks r = some ks' → ∀ v ∈ r, validV v = true
 | [], [], _, _ => by simp
 | [], _ :: _, _, h => by simp [rowStep] at h
 | _ :: _, [], _, h => by simp [rowStep] at h
 | k :: ks, v :: vs, ks', h => by
  simp only [rowStep] at h
  split at h
  · rename_i hv
    cases hr : rowStep ks vs with
    | none => simp [hr] at h
    | some t =>
     intro u hu
     rcases List.mem_cons.1 hu with rfl | hu
     · exact hv.1
     · exact rowStep_valid ks vs t hr u hu
  · cases h
theorem validFrom_valid : ∀ (l : List (List V)) (ks : List Int), validFrom ks l = true → ∀ r ∈ l, (∀ v ∈ r, validV v = true) ∧ r.length = ks.length
 | [], _, _ => by simp
 | r :: rs, ks, h => by
  simp only [validFrom] at h
  cases hr : rowStep ks r with
  | none => simp [hr] at h
  | some t =>
   rw [hr] at h
   intro u hu
   have hl := rowStep_len ks r t hr
   rcases List.mem_cons.1 hu with rfl | hu
   · exact ⟨rowStep_valid ks u t hr, hl.2⟩
   · have := validFrom_valid rs t h u hu
     exact ⟨this.1, this.2.trans hl.1⟩
theorem validB_valid {l : List (List V)} (h : validB l = true) : ∀ r ∈ l, ∀ v ∈ r, validV v = true := by
 cases l with
 | nil => simp
 | cons r rs => exact fun u hu => (validFrom_valid (r :: rs) _ h u hu).1
theorem validB_len {r : List V} {rs : List (List V)} (h : validB (r :: rs) = true) : ∀ u ∈ r :: rs, u.length = r.length := fun u hu => by
 have := (validFrom_valid (r :: rs) _ h u hu).2
 simpa using this
theorem made_form {α : Type} {d : Kd α} {e base N : Nat} {ok : Nat → Prop} {W : World} {v : Value} {xs : List α} (h : d.R e W base ok v xs) (hn : ∃ b, v.ownBlock = some b ∧ N ≤ b) : ∃ g cap, v = .slice (some ⟨g, 0, none⟩) xs.length cap ∧ N ≤ g ∧ g < W.heap.size := by
 obtain ⟨b, hb, hN⟩ := hn
 obtain ⟨_, inner, ho, _⟩ := h
 have hlt := own_lt ho b hb
 rcases ho.2 with ⟨rfl, _⟩ | ⟨g, cap, cur, rfl, hg, hh, r⟩
 · simp [Value.ownBlock] at hb
 · have : g = b := by simpa [Value.ownBlock] using hb
   subst this
   exact ⟨g, cap, rfl, hN, hlt⟩
theorem arranged_calls (A0 : Option Addr) (c0 : Nat) (l0 : List (List V)) (A1 : Option Addr) (c1 : Nat) (l1 : List KeyT) (w : World) (hr0 : Kd.C kRow w A0 l0.length l0) (hr1 : Kd.C kKey w A1 l1.length l1) (hG : ∀ row ∈ l0, RowGood l1 row) (hn0 : l0.length ≤ 1099511627776) (hn1 : l1.length ≤ 1099511627776) :
 Calls Tryd.prog 34 #[.slice A0 l0.length c0, .slice A1 l1.length c1] w fun e w' => ∃ v, e = .returned v ∧ Kd.R kRow 58 w' w.heap.size (fun _ => True) v (sortR l1 l0) ∧ Below w.heap.size w w' := by
 have HR0 := Aside0.mk hr0
 have HR1 := Aside0.mk hr1
 have HG := Aside0.mk hG
 have HN0 := Aside0.mk hn0
 have HN1 := Aside0.mk hn1
 clear hr0 hr1 hG hn0 hn1
 go_enter Tryd.func34, Tryd.ntmps34
 go_wp2_with (first | ((with_reducible refine gate_dst (N := 11) rfl ?_); refine Kd.R_make kRow (w0 := w) w.heap.size 58 rfl (N := 11) rfl _ _ _ rfl (l0.length : Int) rfl rfl (by kernel_rfl) (.slice none 0 0) 24 infoRow rfl (by decide) (by decide) [] (ok := fun _ => True) (okp := fun _ => True) ⟨_, rfl, Kd.R_nil _ _ _ _ _⟩ (fun _ hk => hk) trivial (by omega) (by have := HN0.out; omega) (Below.refl _ _) (Nat.le_refl _) ?_; intro v1 w1 hR hb hg hnew; obtain ⟨g, cap, e1, hg1, hg2⟩ := made_form hR hnew; subst e1; have HO := Aside0.mk hR; have HB := Aside0.mk hb; have HGE := Aside0.mk hg1; have HGL := Aside0.mk hg2; clear hR hb hg hnew hg1 hg2))
 rw [Int.toNat_natCast, List.length_replicate] at HO
 clear HGL
 go_loopg [14] l0.length (fun kq v14 W => ∃ x : Int, v14 = .int .i64 x ∧ Aside0 (0 ≤ x ∧ x ≤ l0.length ∧ (kq : Int) = l0.length - x) ∧ Aside0 (Kd.R kRow 58 W w.heap.size (fun _ => True) (.slice (some ⟨g, 0, none⟩) l0.length cap) (l0.take x.toNat ++ List.replicate (l0.length - x.toNat) [])) ∧ Aside0 (Below w.heap.size w W))
 case atStart => exact ⟨0, rfl, ⟨by omega⟩, ⟨by simpa using HO.out⟩, HB⟩
 case round =>
  clear HO HB
  obtain ⟨x, rfl, HX, HO, HB⟩ := hrel
  obtain ⟨hx0, hx1, hkq⟩ := HX.out
  by_cases hlt : x < (l0.length : Int)
  · have c1' : decide (x < (l0.length : Int)) = true := decide_eq_true hlt
    have c2 : decide (0 ≤ x) = true := decide_eq_true hx0
    obtain ⟨ad, Ar, cr, e, hx_0, hlc, hrow⟩ := at_L4 HR0.out x hx0 hlt
    cases e
    replace hx_0 := (HB.out.cell (World.block_lt_of_cell? w _ hx_0)).trans hx_0
    have hi : x.toNat < l0.length := by omega
    have hrd : rd_L4 l0 x = l0[x.toNat] := by simp [rd_L4, List.getElem?_eq_getElem hi]
    have HROW := Aside0.mk hrow
    have HLN := Aside0.mk (HG.out l0[x.toNat] (List.getElem_mem hi)).len
    rw [← hrd] at HLN
    obtain ⟨row, hrw⟩ : ∃ row, row = rd_L4 l0 x := ⟨_, rfl⟩
    have HRD : Aside0 (l0[x.toNat]? = some row) := ⟨by rw [hrw, hrd]; exact List.getElem?_eq_getElem hi⟩
    rw [← hrw] at hx_0 hlc HROW HLN
    have HLT := Aside0.mk hlt
    have HKQ := Aside0.mk hkq
    have HHI := Aside0.mk hi
    have HX0 := Aside0.mk hx0
    have HWR : Aside0 (wrap64 (x + 1) = x + 1) := ⟨by have := HN0.out; unfold wrap64; omega⟩
    clear hlc hrow hrd hrw hkq hi hx1
    go_wp2_with fail
    refine (clone_calls Ar cr row _ (Kd.C_below HROW.out HB.out) HLN.out).mono ?_
    rintro e w2 ⟨vv, rfl, hRv, hbv⟩
    obtain ⟨Av, cv, ev⟩ := Kd.R_slice hRv
    subst ev
    have hgw : g < wr.heap.size := Kd.R_lt HO.out g rfl
    have HB2 := Aside0.mk (below_step HB.out hbv)
    have HO2 := Aside0.mk (Kd.R_below HO.out hbv)
    have HRV := Aside0.mk (Kd.R_mono (Kd.R_lower (Kd.R_bound hRv) HB.out.size) (ok' := fun k => k ≠ g) (fun k hk e => by have := hk.2.1; omega))
    clear hRv hbv
    obtain ⟨cc, hcl, _, hcc, hfr⟩ := Kd.R_elem HO2.out ([] : List V) x HX0.out HLT.out
    obtain ⟨u0, rfl⟩ : ∃ u0, cc = [u0] := List.length_eq_one_iff.1 hcl
    have F0 : w2.cell? ⟨g, x.toNat, none⟩ = some u0 := by
     have h := hcc 0 u0 rfl
     change w2.cell? ⟨g, x.toNat * 1 + 0, none⟩ = some u0 at h
     rwa [Nat.mul_one, Nat.add_zero] at h
    have F1 : w2.frozen? ⟨g, x.toNat, none⟩ = false := by
     have h := hfr 0
     change w2.frozen? ⟨g, x.toNat * 1 + 0, none⟩ = false at h
     rwa [Nat.mul_one, Nat.add_zero] at h
    obtain ⟨hO3, hG3⟩ := Kd.R_seg (j := 0) (seg := [Value.slice Av row.length cv]) (x' := row) HO2.out x HX0.out HLT.out hcl hcc (Nat.le_refl 1) (okp := fun k => k ≠ g) ⟨_, rfl, HRV.out⟩ (fun k hk => ⟨trivial, hk⟩)
    have e3 : w2.setCells g (x.toNat * kRow.sz + 0) [Value.slice Av row.length cv] = w2.setCell ⟨g, x.toNat, none⟩ (Value.slice Av row.length cv) := by
     change w2.setCells g (x.toNat * 1 + 0) _ = _
     rw [Nat.mul_one, Nat.add_zero]
     rfl
    rw [e3] at hO3 hG3
    have HO3 := Aside0.mk hO3
    have HB3 : Aside0 (Below w.heap.size w (w2.setCell ⟨g, x.toNat, none⟩ (Value.slice Av row.length cv))) := ⟨HB2.out.setCell HGE.out _⟩
    clear hcl hcc hfr hO3 hG3 e3
    have HXX : Aside0 ((l0.take x.toNat ++ List.replicate (l0.length - x.toNat) []).set x.toNat row = l0.take (x + 1).toNat ++ List.replicate (l0.length - (x + 1).toNat) []) := ⟨by
     have hi := HHI.out
     have e1 : (x + 1).toNat = x.toNat + 1 := by have := HX0.out; omega
     have e2 : l0.length - x.toNat = (l0.length - (x.toNat + 1)) + 1 := by omega
     have e3 : l0[x.toNat] = row := by
      have := HRD.out
      rw [List.getElem?_eq_getElem hi] at this
      exact Option.some.inj this
     rw [e1, e2, List.replicate_succ, take_snoc _ _ hi, List.set_append_right _ _ (by rw [List.length_take]; omega), List.length_take, Nat.min_eq_left (by omega), Nat.sub_self, List.set_cons_zero, e3]
     simp⟩
    go_wp2
    have hlt := HLT.out
    have hk := HKQ.out
    cases gk with
    | zero => omega
    | succ k1 =>
     go_roundg k1
     case measure => omega
     case rel => exact ⟨x + 1, by rw [HWR.out], ⟨by omega⟩, ⟨by rw [← HXX.out]; exact HO3.out⟩, HB3⟩
  · have c1' : decide (x < (l0.length : Int)) = false := decide_eq_false hlt
    have hxn : x.toNat = l0.length := by omega
    have HO2 : Aside0 (Kd.R kRow 58 wr w.heap.size (fun _ => True) (.slice (some ⟨g, 0, none⟩) l0.length cap) l0) := ⟨by
     have h := HO.out
     rw [hxn, List.take_length, Nat.sub_self, List.replicate_zero, List.append_nil] at h
     exact h⟩
    clear hlt hxn hkq hx0 hx1
    go_wp2_with fail
    refine (order_calls A1 l1.length c1 wr).mono ?_
    rintro e w2 ⟨rfl, t2, hw2⟩
    have HW2 := Aside0.mk hw2
    clear hw2
    have hst : ∀ (a : Addr) (m : Mode) (W : World), Sem.run Tryd.prog (store a (.func (.func 58) #[] #[.pointer (some ⟨wr.heap.size, 0, none⟩)]) m) W = stored Tryd.prog W a (.func (.func 58) #[] #[.pointer (some ⟨wr.heap.size, 0, none⟩)]) m := fun a m W => run_store _ W a _ m rfl
    go_wp2_with fail
    have hB2 : Below w.heap.size w w2 := by rw [HW2.out]; exact HB.out.alloc HB.out.size _
    have hgw : g < wr.heap.size := Kd.R_lt HO2.out g rfl
    have hw2s : w2.heap.size = wr.heap.size + 1 := by rw [HW2.out]; simp
    have D0 : w2.cell? ⟨wr.heap.size, 0, none⟩ = some (.slice A1 l1.length c1) := by rw [HW2.out]; exact (blk_cell (heap_alloc_new _ _) 0).trans rfl
    refine (sortFunc_all l1 A1 c1 w2.heap.size wr.heap.size g cap l0 w _ (Kd.R_alloc (by rw [HW2.out]; exact Kd.R_alloc HO2.out _) _) (hB2.alloc hB2.size _) ((blk_cell (heap_alloc_new _ _) 0).trans rfl) ((Below.refl w2.heap.size w2).alloc (Nat.le_refl _) _ |>.cell (World.block_lt_of_cell? w2 _ D0) |>.trans D0) (by omega) (by omega) HR1.out HN1.out HG.out HN0.out).mono ?_
    rintro e w3 ⟨rfl, hR3, hB3⟩
    have HR3 := Aside0.mk hR3
    have HB3 := Aside0.mk hB3
    clear hR3 hB3 hB2 hgw hw2s D0
    go_wp2
    go_ret
    refine ⟨_, rfl, ?_, HB3.out⟩
    exact HR3.out
end Go.Proofs.YtecgkcgfeghhgaaDoor.PAll
set_option linter.unusedVariables false
set_option linter.unusedSimpArgs false
namespace Go.Proofs.YtecgkcgfeghhgaaDoor.PAll
open Go.RowKit Go.Proofs.YtecgkcgfeghhgaaDoorW.PrintWords Go.Proofs.YtecgkcgfeghhgaaDoorW.PrintLast Go.Proofs.YtecgkcgfeghhgaaDoorW.PrintMore
open Go.Shelf Go.Lib
structure Rel1 where
 r : List V → List Value → Prop
 len : ∀ {x cs}, r x cs → cs.length = 1
 one : ∀ {x cs}, r x cs → ∀ u ∈ cs, u.oneCell' = true
def Rel1.kd (R : Rel1) : Kd (List V) where
 sz := 1
 E := []
 K := fun _ x cs => R.r x cs
 M := fun _ _ _ x cs => R.r x cs
 K_len := R.len
 K_one := R.one
 K_below := fun _ h => h
 K_of_M := fun h => h
 M_mono := fun _ h => h
 M_bound := fun h => h
 M_move := fun _ h => h
 M_lower := fun _ h => h
def relK (w : World) : Rel1 := ⟨fun x cs => kRow.K w x cs, fun h => kRow.K_len h, fun h => kRow.K_one h⟩
def relM (w : World) (base : Nat) : Rel1 := ⟨fun x cs => kRow.M w base (fun k => k < w.heap.size) x cs, fun h => kRow.K_len (kRow.K_of_M h), fun h => kRow.K_one (kRow.K_of_M h)⟩
theorem relK_C {w W : World} {A : Option Addr} {n : Nat} {xs : List (List V)} (h : (relK w).kd.C W A n xs) (hb : Below w.heap.size w W) : kRow.C W A n xs :=
 ReadsRow.imp_ h (Below.refl _ _) (fun _ _ hp => kRow.K_below hb hp)
theorem C_relK {w : World} {A : Option Addr} {n : Nat} {xs : List (List V)} (h : kRow.C w A n xs) : (relK w).kd.C w A n xs := h
theorem C_relM {w : World} {base : Nat} {e : Nat} {A : Option Addr} {n c : Nat} {xs : List (List V)} (h : kRow.R e w base (fun _ => True) (.slice A n c) xs) : (relM w base).kd.C w A n xs := by
 obtain ⟨A', c', he, hl, hr⟩ := OwnRow.reads h.2
 injection he with h1 h2 h3
 subst h1 h2 h3
 exact ReadsRow.imp_ hr (Below.refl _ _) (fun _ _ hp => kRow.M_mono (fun k hk => hk.2.2.1) (kRow.M_bound hp))
theorem R_relM {w W : World} {base b e : Nat} {v : Value} {xs : List (List V)} (h : (relM w base).kd.R e W b (fun _ => True) v xs) (hb : Below w.heap.size w W) (hbb : base ≤ b) (hwb : w.heap.size ≤ b) : kRow.R e W base (fun _ => True) v xs := by
 obtain ⟨h0, inner, ho, hr⟩ := h
 refine ⟨fun _ _ => trivial, inner, own_weaken ho hbb, ?_⟩
 exact hr.imp_ (fun _ _ hp => kRow.M_mono (fun k hk => ⟨trivial, fun e => by have := own_base ho k e.symm; omega⟩) (Kd.M_step hp (fun k hk _ => hb.block k hk)))
theorem cloneRows_calls (Rr : Rel1) (A0 : Option Addr) (n c0 : Nat) (l0 : List (List V)) (w : World) (hr0 : Rr.kd.C w A0 n l0) (hn : l0.length ≤ 2199023255552) :
 Calls Tryd.prog 36 #[.slice A0 n c0] w fun e w' => ∃ v : Value, e = .returned v ∧ Rr.kd.R 58 w' w.heap.size (fun _ => True) v l0 ∧ Below w.heap.size w w' := by
 have qT : ∀ (w : World) (a : Option Addr) (n c n' c' : Nat), (binOp .eql 37 (.slice a n c) (.slice none n' c')).run Tryd.prog w = .ok (.bool a.isNone) w := fun w a n c n' c' => Lib.run_eql_slice_nil w _ _ a n c n' c' Tryd.underlying37
 have hln : l0.length = n := hr0.1
 subst hln
 have HR0 := Aside0.mk hr0
 have HN := Aside0.mk hn
 clear hr0 hn
 cases A0 with
 | none =>
  have hl : l0 = [] := by
   rcases Nat.eq_zero_or_pos l0.length with h | h
   · exact List.eq_nil_of_length_eq_zero h
   · obtain ⟨ad, h2, _⟩ := HR0.out.2.2 h
     cases h2
  have HL := Aside0.mk hl
  clear hl
  go_enter Tryd.func36, Tryd.ntmps36
  go_wp2
  go_ret
  refine ⟨_, rfl, ?_, Below.refl _ _⟩
  rw [HL.out]
  exact Kd.R_nil _ _ _ _ _
 | some ad =>
  go_enter Tryd.func36, Tryd.ntmps36
  have HO : Aside0 (Kd.R Rr.kd 58 (w.alloc (.cells #[] 58)) w.heap.size (fun _ => True) (.slice (some ⟨w.heap.size, 0, none⟩) 0 0) []) := ⟨R_empty Rr.kd 58 w⟩
  have HB := Aside0.mk ((Below.refl w.heap.size w).alloc (Nat.le_refl _) (.cells #[] 58))
  have HR1 := Aside0.mk (Kd.C_below HR0.out HB.out)
  go_wp2_with (at_builtin; refine Kd.R_append_rows Rr.kd (w0 := w) w.heap.size rfl (.tmp 5) (.tmp 6) 37 58 (.slice none 0 0) 24 rfl Tryd.underlying37 infoRow rfl (Nat.le_refl 1) (by decide) _ [] l0 (some ad) l0.length c0 (fun _ => True) (fun _ => False) rfl rfl HO.out HR1.out (fun x cs h => h) (fun _ h => h.elim) (fun _ _ => trivial) HB.out HB.out.size (by have := HN.out; simp; omega) ?_; intro v1 w1 hR hb hg hat; have HO1 := Aside0.mk hR; have HB1 := Aside0.mk hb; clear hR hb hg hat)
  go_wp2
  go_ret
  exact ⟨_, rfl, HO1.out, HB1.out⟩
theorem growRows_calls (Rr : Rel1) (n : Nat) (w : World) (hn : n ≤ 2199023255552) :
 Calls Tryd.prog 63 #[.slice none 0 0, .int .i64 n] w fun e w' => ∃ v : Value, e = .returned v ∧ Rr.kd.R 58 w' w.heap.size (fun _ => True) v [] ∧ Below w.heap.size w w' := by
 rcases Nat.eq_zero_or_pos n with h | h
 · subst h
   have h := Any8.slices_Grow_room growRows none 0 0 0 w (Nat.le_refl _) (by omega) (by omega) (Nat.le_refl _)
   change Calls Tryd.prog 63 _ _ _ at h
   refine h.mono ?_
   rintro e w' ⟨rfl, rfl⟩
   exact ⟨_, rfl, Kd.R_nil _ _ _ _ _, Below.refl _ _⟩
 · obtain ⟨i0, hi, hzz⟩ := Option.map_eq_some_iff.1 infoRow
   simp only [Prod.mk.injEq] at hzz
   obtain ⟨hz0, hz1, hz2⟩ := hzz
   have h := Any8.slices_Grow_grow growRows i0 (.slice none 0 0) hi hz0 (by omega) none 0 0 n [] w (Nat.le_refl _) (by omega) (by rw [hz2]; omega) (by omega) (by simp) (fun _ => rfl) (fun a h => by cases h)
   change Calls Tryd.prog 63 _ _ _ at h
   refine h.mono ?_
   rintro e w' ⟨rfl, rfl⟩
   obtain ⟨G, hG⟩ : ∃ G, G = grownCap w (0 + n) 0 58 := ⟨_, rfl⟩
   have hGn : 0 + n ≤ G := by rw [hG]; exact grownCap_ge w _ _ _
   have hG63 : G ≤ maxLen := by
    rw [hG]
    exact grownCap_le_maxLen w (0 + n) 0 58 (by unfold maxLen; omega)
   refine ⟨_, rfl, ⟨fun _ _ => trivial, [], ?_, Reps.none _ _⟩, ((Below.refl w.heap.size w).drew).alloc (Nat.le_refl _) _⟩
   have h := World.ownsRow_made (base := w.heap.size) (e := 58) (size := 1) w.drew (([] : List Value).toArray ++ Builtin.zeroCells (Value.slice none 0 0).cells (0 + n - 0) ++ Builtin.zeroCells (Value.slice none 0 0).cells (G - (0 + n))) G (Nat.le_refl _) hG63 (by
    simp [Builtin.zeroCells, Value.cells]
    omega)
   rw [hG] at h
   exact h
end Go.Proofs.YtecgkcgfeghhgaaDoor.PAll
set_option linter.unusedVariables false
set_option linter.unusedSimpArgs false
namespace Go.Proofs.YtecgkcgfeghhgaaDoor.PAll
open Go.RowKit Go.Proofs.YtecgkcgfeghhgaaDoorW.PrintWords Go.Proofs.YtecgkcgfeghhgaaDoorW.PrintLast Go.Proofs.YtecgkcgfeghhgaaDoorW.PrintMore
theorem concat_calls (Rr : Rel1) (b : Nat) (A0 : Option Addr) (c0 : Nat) (l0 : List (List V)) (A1 : Option Addr) (c1 : Nat) (l1 : List (List V)) (w : World) (hr0 : Rr.kd.C w A0 l0.length l0) (hr1 : Rr.kd.C w A1 l1.length l1) (h0 : w.cell? ⟨b, 0, none⟩ = some (.slice A0 l0.length c0)) (h1 : w.cell? ⟨b, 1, none⟩ = some (.slice A1 l1.length c1)) (hn0 : l0.length ≤ 1099511627776) (hn1 : l1.length ≤ 1099511627776) :
 Calls Tryd.prog 53 #[.slice (some ⟨b, 0, none⟩) 2 2] w fun e w' => ∃ v : Value, e = .returned v ∧ Rr.kd.R 58 w' w.heap.size (fun _ => True) v (l0 ++ l1) ∧ Below w.heap.size w w' := by
 have HR0 := Aside0.mk hr0
 have HR1 := Aside0.mk hr1
 have H0 := Aside0.mk h0
 have H1 := Aside0.mk h1
 have HN0 := Aside0.mk hn0
 have HN1 := Aside0.mk hn1
 clear hr0 hr1 h0 h1 hn0 hn1
 go_enter Tryd.func53, Tryd.ntmps53
 go_wp2
 go_loopg [11, 3] 2 (fun kq v11 v3 W => ∃ x s : Int, v11 = .int .i64 x ∧ v3 = .int .i64 s ∧ Aside0 ((kq : Int) = 2 - x ∧ (x = 0 ∧ s = 0 ∨ x = 1 ∧ s = l0.length ∨ x = 2 ∧ s = (l0.length + l1.length : Nat))) ∧ Aside0 (W = w))
 case atStart => exact ⟨0, 0, rfl, rfl, ⟨by omega⟩, ⟨rfl⟩⟩
 case round =>
  obtain ⟨x, s, rfl, rfl, HX, HW⟩ := hrel
  obtain ⟨hk, hx⟩ := HX.out
  have hn0 := HN0.out
  have hn1 := HN1.out
  by_cases hlt : x < 2
  · obtain ⟨A, n, c, hcell, hnx, hnn⟩ : ∃ A n c, wr.cell? ⟨b, x.toNat, none⟩ = some (.slice A n c) ∧ (x + 1 = 1 ∧ s + n = l0.length ∨ x + 1 = 2 ∧ s + n = (l0.length + l1.length : Nat)) ∧ 0 ≤ s ∧ s + n ≤ 4398046511104 := by
     rcases hx with ⟨rfl, rfl⟩ | ⟨rfl, rfl⟩ | ⟨rfl, rfl⟩
     · exact ⟨A0, l0.length, c0, by rw [HW.out]; exact H0.out, by omega, by omega⟩
     · exact ⟨A1, l1.length, c1, by rw [HW.out]; exact H1.out, by omega, by omega⟩
     · omega
    have HNX := Aside0.mk hnx
    have HNN := Aside0.mk hnn
    have HK := Aside0.mk hk
    have c1' : decide (x < 2) = true := decide_eq_true hlt
    have hx0 : 0 ≤ x := by omega
    have HWR : Aside0 (wrap64 (s + n) = s + n) := ⟨by unfold wrap64; omega⟩
    have c3 : decide (wrap64 (s + n) < 0) = false := decide_eq_false (by rw [HWR.out]; omega)
    have HWX : Aside0 (wrap64 (x + 1) = x + 1) := ⟨by unfold wrap64; omega⟩
    clear hnx hnn hk hx hn0 hn1
    go_wp2
    have hk := HK.out
    cases gk with
    | zero => omega
    | succ k1 =>
     go_roundg k1
     case measure => omega
     case rel => exact ⟨x + 1, s + n, by first | rfl | rw [HWX.out], by first | rfl | rw [HWR.out], ⟨by have := HNX.out; omega⟩, HW⟩
  · have hs : s = (l0.length + l1.length : Nat) := by omega
    subst hs
    have c1' : decide (x < 2) = false := decide_eq_false hlt
    have hW := HW.out.symm
    subst hW
    clear HW hx hk hlt hn0 hn1 HX
    go_wp2_with fail
    refine (growRows_calls Rr (l0.length + l1.length) w (by have := HN0.out; have := HN1.out; omega)).mono ?_
    rintro e w1 ⟨v1, rfl, hR1, hB1⟩
    have HR2 := Aside0.mk hR1
    have HB1 := Aside0.mk hB1
    clear hR1 hB1
    go_wp2
    go_loopg [27, 6] 2 (fun kq v27 v6 W => ∃ x : Int, v27 = .int .i64 x ∧ Aside0 ((kq : Int) = 2 - x ∧ 0 ≤ x) ∧ Aside0 (Rr.kd.R 58 W w.heap.size (fun _ => True) v6 (if x = 0 then [] else if x = 1 then l0 else l0 ++ l1)) ∧ Aside0 (Below w.heap.size w W))
    case atStart => exact ⟨0, rfl, ⟨by omega⟩, ⟨by rw [if_pos rfl]; exact HR2.out⟩, HB1⟩
    case round =>
     clear HR2 HB1
     obtain ⟨x, rfl, HX, HO, HB⟩ := hrel
     obtain ⟨hk, hx⟩ := HX.out
     have hn0 := HN0.out
     have hn1 := HN1.out
     by_cases hlt : x < 2
     · obtain ⟨A, n, c, ls, hcell, hC, hls, hnx⟩ : ∃ A n c ls, wr.cell? ⟨b, x.toNat, none⟩ = some (.slice A n c) ∧ Rr.kd.C wr A n ls ∧ (n ≤ 1099511627776 ∧ (if x = 0 then [] else if x = 1 then l0 else l0 ++ l1).length ≤ 1099511627776) ∧ (if x = 0 then [] else if x = 1 then l0 else l0 ++ l1) ++ ls = (if x + 1 = 0 then [] else if x + 1 = 1 then l0 else l0 ++ l1) := by
        by_cases h0 : x = 0
        · subst h0
          exact ⟨A0, l0.length, c0, l0, (HB.out.cell (World.block_lt_of_cell? w _ H0.out)).trans H0.out, Kd.C_below HR0.out HB.out, by simp; omega, by simp⟩
        · have h1 : x = 1 := by omega
          subst h1
          exact ⟨A1, l1.length, c1, l1, (HB.out.cell (World.block_lt_of_cell? w _ H1.out)).trans H1.out, Kd.C_below HR1.out HB.out, by simp; omega, by simp⟩
       obtain ⟨cur, hcur⟩ : ∃ cur, cur = (if x = 0 then [] else if x = 1 then l0 else l0 ++ l1) := ⟨_, rfl⟩
       rw [← hcur] at HO hls hnx
       have HLS := Aside0.mk hls
       have HNX := Aside0.mk hnx
       have HC := Aside0.mk hC
       have HK := Aside0.mk hk
       have c1' : decide (x < 2) = true := decide_eq_true hlt
       have HWX : Aside0 (wrap64 (x + 1) = x + 1) := ⟨by unfold wrap64; omega⟩
       clear hls hnx hk hn0 hn1 hC hcur
       go_wp2_with (at_builtin; refine Kd.R_append_rows Rr.kd (w0 := w) w.heap.size rfl (.tmp 31) (.tmp 32) 37 58 (.slice none 0 0) 24 rfl Tryd.underlying37 infoRow rfl (Nat.le_refl 1) (by decide) _ cur ls A n c (fun _ => True) (fun _ => False) rfl rfl HO.out HC.out (fun x cs h => h) (fun _ h => h.elim) (fun _ _ => trivial) HB.out HB.out.size (by have := HLS.out; omega) ?_; intro v1 w1 hR hb hg hat; have HO1 := Aside0.mk hR; have HB1 := Aside0.mk hb; clear hR hb hg hat)
       have hk := HK.out
       cases gk with
       | zero => omega
       | succ k1 =>
        go_roundg k1
        case measure => omega
        case rel => exact ⟨x + 1, by first | rfl | rw [HWX.out], ⟨by omega⟩, ⟨by rw [← HNX.out]; exact HO1.out⟩, HB1⟩
     · have c1' : decide (x < 2) = false := decide_eq_false hlt
       go_wp2
       go_ret
       refine ⟨_, rfl, ?_, HB.out⟩
       have h := HO.out
       rw [if_neg (by omega), if_neg (by omega)] at h
       exact h
theorem both_calls (A0 : Option Addr) (c0 : Nat) (l0 : List (List V)) (A1 : Option Addr) (c1 : Nat) (l1 : List (List V)) (l : List (List V)) (hl : l = l0 ++ l1) (w : World) (hr0 : Kd.C kRow w A0 l0.length l0) (hr1 : Kd.C kRow w A1 l1.length l1) (hv : RowsV l) :
 Calls Tryd.prog 38 #[.slice A0 l0.length c0, .slice A1 l1.length c1] w fun e w' => ∃ v : Value, e = .returned (.tuple #[v, .bool (validB l)]) ∧ (relK w).kd.R 58 w' w.heap.size (fun _ => True) v l ∧ Below w.heap.size w w' := by
 obtain ⟨k, hk⟩ := (valid_ev l hv).rounds
 have hlen := hv.2
 rw [hl, List.length_append] at hlen
 have HLL := Aside0.mk hl
 have HK := Aside0.mk hk
 have HL := Aside0.mk hlen
 have HR0 := Aside0.mk hr0
 have HR1 := Aside0.mk hr1
 clear hk hr0 hr1 hv hlen hl
 go_enter Tryd.func38, Tryd.ntmps38
 go_wp2_with fail
 have B1 : Below w.heap.size w (w.alloc (.cells #[.slice A0 l0.length c0, .slice A1 l1.length c1] 37)) := (Below.refl w.heap.size w).alloc (Nat.le_refl _) _
 refine (concat_calls (relK w) w.heap.size A0 c0 l0 A1 c1 l1 _ (Kd.C_below (C_relK HR0.out) B1) (Kd.C_below (C_relK HR1.out) B1) ((blk_cell (heap_alloc_new _ _) 0).trans rfl) ((blk_cell (heap_alloc_new _ _) 1).trans rfl) (by have := HL.out; omega) (by have := HL.out; omega)).mono ?_
 rintro e w1 ⟨v1, rfl, hR1, hb1⟩
 rw [← HLL.out] at hR1
 have HO := Aside0.mk (Kd.R_lower hR1 B1.size)
 have HB := Aside0.mk (B1.trans (hb1.mono B1.size))
 clear hR1 hb1 B1
 obtain ⟨Av, cv, ev, hlc, hC⟩ := Kd.R_reads HO.out
 subst ev
 have HC := Aside0.mk (relK_C hC HB.out)
 have HLC := Aside0.mk hlc
 clear hC hlc
 go_wp2_with fail
 refine (bag_Valid.calls k _ _ l (validB l) _ HC.out HLC.out HK.out).mono ?_
 rintro e w2 ⟨rfl, hb2⟩
 have HO2 := Aside0.mk (Kd.R_below HO.out hb2)
 have HB2 := Aside0.mk (HB.out.trans (hb2.mono HB.out.size))
 clear hb2
 go_wp2
 go_ret2
 exact ⟨_, rfl, HO2.out, HB2.out⟩
open Classical in
noncomputable def distR : List ByteArray → List (List V) → List (List V)
 | _, [] => []
 | seen, r :: rs => if nameOf r ∈ seen then distR seen rs else r :: distR (nameOf r :: seen) rs
theorem distR_mem : ∀ (l : List (List V)) (seen : List ByteArray) (r : List V), r ∈ distR seen l → r ∈ l
 | [], _, _, h => by simp [distR] at h
 | a :: l, seen, r, h => by
  simp only [distR] at h
  split at h
  · exact List.mem_cons_of_mem _ (distR_mem l seen r h)
  · rcases List.mem_cons.1 h with rfl | h
    · exact List.mem_cons_self
    · exact List.mem_cons_of_mem _ (distR_mem l _ r h)
theorem distR_len : ∀ (l : List (List V)) (seen : List ByteArray), (distR seen l).length ≤ l.length
 | [], _ => by simp [distR]
 | a :: l, seen => by
  simp only [distR]
  split
  · have := distR_len l seen; simp; omega
  · have := distR_len l (nameOf a :: seen); simp; omega
theorem get_bool {kv : List (ByteArray × Bool)} {s : ByteArray} {c : Bool} (h : (KV.get kv s).getD false = c) : ((KV.get kv s).map Value.bool).getD (.bool false) = .bool c := by
 subst h
 cases KV.get kv s <;> rfl
theorem zeroBool (w : World) : (zeroValue 4).run Tryd.prog w = .ok (.bool false) w := by kernel_rfl
structure Gath where
 σ : Type
 T : TypeId
 S : TypeId
 take : Nat
 done : Nat
 cells : σ → Array Value
 init : σ
 step : σ → V → σ
 out : σ → Int × Int × ByteArray × Int
 good : V → Prop
 inv : σ → Prop
 inv0 : inv init
 step_inv : ∀ s v, inv s → good v → inv (step s v)
 hmt : ∀ (a : Addr) (w : World), (method 285 T (.pointer (some a)) "jointer/bag.take").run Tryd.prog w = .ok (take, .pointer (some a)) w
 hmd : ∀ (a : Addr) (w : World), (method 285 T (.pointer (some a)) "jointer/bag.done").run Tryd.prog w = .ok (done, .pointer (some a)) w
 het : ∀ args w, (callFunc take args).run Tryd.prog w = .ok (.enter take args) w
 hed : ∀ args w, (callFunc done args).run Tryd.prog w = .ok (.enter done args) w
 htake : ∀ b s v w, inv s → good v → w.heap[b]? = some (.cells (cells s) S (0, 0)) → Calls Tryd.prog take #[.pointer (some ⟨b, 0, none⟩), .agg #[.int .u8 v.f0, .int .i64 v.f1, .string v.f2]] w fun e w' => e = .returned (.tuple #[]) ∧ w'.heap[b]? = some (.cells (cells (step s v)) S (0, 0)) ∧ w.grownBy w' (some b)
 fin : σ → Prop
 hdone : ∀ b s w, inv s → fin s → w.heap[b]? = some (.cells (cells s) S (0, 0)) → Calls Tryd.prog done #[.pointer (some ⟨b, 0, none⟩)] w fun e w' => e = .returned (.agg #[.int .u8 (out s).1, .int .i64 (out s).2.1, .string (out s).2.2.1, .int .i64 (out s).2.2.2]) ∧ Below w.heap.size w w'
open Classical in
theorem seen_put {kv : List (ByteArray × Bool)} {seen : List ByteArray} (h : ∀ s, (KV.get kv s).getD false = decide (s ∈ seen)) (x : ByteArray) : ∀ t, (KV.get (KV.put kv x true) t).getD false = decide (t ∈ x :: seen) := fun t => by
 by_cases ht : t = x
 · subst ht; simp [KV.get_put_same]
 · rw [KV.get_put_other _ ht, h]; simp [ht]
theorem one_CV (W : World) (v : V) (t : TypeId) : Kd.C kV (W.alloc (.cells #[.int .u8 v.f0, .int .i64 v.f1, .string v.f2] t)) (some ⟨W.heap.size, 0, none⟩) [v].length [v] := by
 refine ⟨rfl, by simp, fun _ => ⟨⟨W.heap.size, 0, none⟩, rfl, fun j p hj => ?_⟩⟩
 cases j with
 | succ j => simp at hj
 | zero =>
  obtain rfl : v = p := by simpa using hj
  refine ⟨[.int .u8 v.f0, .int .i64 v.f1, .string v.f2], rfl, kV.K_of_M (base := 0) (ok := fun _ => True) (k27_mkM _ _ _ v), fun i u hi => ?_⟩
  have h := blk_cell (heap_alloc_new W (.cells #[.int .u8 v.f0, .int .i64 v.f1, .string v.f2] t)) i
  rw [add_plain, Nat.zero_mul, Nat.zero_add]
  refine h.trans ?_
  simpa using hi
open Classical in
noncomputable def pickV (fn : Int) (d : Bool) : List ByteArray → List V → List V
 | _, [] => []
 | seen, v :: vs => if fn ≠ 0 ∧ v.f0 = 0 then pickV fn d seen vs else if d = true then (if nameOf [v] ∈ seen then pickV fn d seen vs else v :: pickV fn d (nameOf [v] :: seen) vs) else v :: pickV fn d seen vs
open Classical in
theorem aggregate_walk (G : Gath) (k : Nat) (fn : Int) (d : Bool) (A2 : Option Addr) (c2 : Nat) (l : List V) (w : World) (hT : LaidT w) (hr : Kd.C kV w A2 l.length l) (hc : l.length ≤ c2) (hok : ∀ v ∈ l, RowOk [v]) (hn : l.length ≤ 1099511627776)
 (hall : bag_allowed.f k fn d l = some true) (hgood : ∀ v ∈ pickV fn d [] l, G.good v) (hfin : G.fin ((pickV fn d [] l).foldl G.step G.init))
 (hgath : ∀ w, Calls Tryd.prog 28 #[.int .u8 fn] w fun e w' => e = .returned (.iface G.T (.pointer (some ⟨w.heap.size, 0, none⟩))) ∧ w' = w.alloc (.cells (G.cells G.init) G.S)) :
 Calls Tryd.prog 13 #[.int .u8 fn, .bool d, .slice A2 l.length c2] w fun e w' => e = .returned (.agg #[.int .u8 (G.out ((pickV fn d [] l).foldl G.step G.init)).1, .int .i64 (G.out ((pickV fn d [] l).foldl G.step G.init)).2.1, .string (G.out ((pickV fn d [] l).foldl G.step G.init)).2.2.1, .int .i64 (G.out ((pickV fn d [] l).foldl G.step G.init)).2.2.2]) ∧ Below w.heap.size w w' := by
 have HT := Aside0.mk hT
 have HR := Aside0.mk hr
 have HC := Aside0.mk hc
 have HOK := Aside0.mk hok
 have HN := Aside0.mk hn
 have HA := Aside0.mk hall
 have HG := Aside0.mk hgood
 have HFI := Aside0.mk hfin
 have HGA := Aside0.mk hgath
 clear hT hr hc hok hn hall hgood hgath hfin
 have hmm : ∀ (w : World), (Instr.makeMap 68 none).run Tryd.prog w = .ok (.map (some w.heap.size)) (w.alloc (.map #[] 0)) := fun _ => by kernel_rfl
 go_enter Tryd.func13, Tryd.ntmps13
 go_wp2_with (first | ((with_reducible refine gate_dst (N := 6) rfl ?_); refine box_event ?hg (N := 6) ?hd (cs := #[.int .u8 0, .int .i64 0, .string (⟨#[]⟩ : ByteArray), .int .i64 0]) (t := 31) ?hr ?_; (case hd => rfl); (case hg => rfl); (case hr => first | (go_simp; done) | (go_simp; rfl)); intro q hq W hN hb1; have HB1 := Aside0.mk hb1; have HQ := Aside0.mk hq; have HN0 := Aside0.mk hN; clear hb1 hq hN))
 refine (bag_allowed.calls k fn d A2 c2 l true W (Kd.C_below HR.out HB1.out) HC.out HA.out).mono ?_
 rintro e W1 ⟨rfl, hb2⟩
 have HN1 := Aside0.mk ((hb2.block q (blk_lt HN0.out)).trans HN0.out)
 have HB2 := Aside0.mk (HB1.out.trans (hb2.mono HB1.out.size))
 clear hb2 HN0 HB1
 go_wp2_with fail
 refine (HGA.out W1).mono ?_
 rintro e W2 ⟨rfl, hW2⟩
 have HG0 : Aside0 (W2.heap[W1.heap.size]? = some (.cells (G.cells G.init) G.S (0, 0))) := ⟨by rw [hW2]; exact heap_alloc_new _ _⟩
 have HN2 : Aside0 (W2.heap[q]? = some (.cells #[.int .u8 0, .int .i64 0, .string ⟨#[]⟩, .int .i64 0] 31 (0, 0))) := ⟨by rw [hW2]; exact (Below.heap_alloc W1 _ q (blk_lt HN1.out)).trans HN1.out⟩
 have HB3 : Aside0 (Below w.heap.size w W2) := ⟨by rw [hW2]; exact HB2.out.alloc HB2.out.size _⟩
 have HGE : Aside0 (w.heap.size ≤ W1.heap.size) := ⟨HB2.out.size⟩
 have HNE : Aside0 (q ≠ W1.heap.size) := ⟨fun e => by have := blk_lt HN1.out; omega⟩
 obtain ⟨g, hg⟩ : ∃ g, g = W1.heap.size := ⟨_, rfl⟩
 rw [← hg] at HG0 HGE HNE
 rw [← hg]
 clear hW2 HN1 HB2 hg
 go_wp2
 clear hmm
 have M0 : Aside0 (∃ kv : List (ByteArray × Bool), KV.Is (W2.alloc (.map #[] 0)) W2.heap.size Value.bool kv ∧ ∀ s, (KV.get kv s).getD false = decide (s ∈ ([] : List ByteArray))) := ⟨⟨[], KV.Is.made W2 _, fun s => by simp [KV.get]⟩⟩
 have HMG : Aside0 (W2.heap.size ≠ g ∧ q ≠ W2.heap.size ∧ w.heap.size ≤ W2.heap.size) := ⟨fun e => by have := blk_lt HG0.out; omega, fun e => by have := blk_lt HN2.out; omega, HB3.out.size⟩
 have HG1 : Aside0 ((W2.alloc (.map #[] 0)).heap[g]? = some (.cells (G.cells G.init) G.S (0, 0))) := ⟨(Below.heap_alloc W2 _ g (blk_lt HG0.out)).trans HG0.out⟩
 have HN3 : Aside0 ((W2.alloc (.map #[] 0)).heap[q]? = some (.cells #[.int .u8 0, .int .i64 0, .string ⟨#[]⟩, .int .i64 0] 31 (0, 0))) := ⟨(Below.heap_alloc W2 _ q (blk_lt HN2.out)).trans HN2.out⟩
 have HB4 : Aside0 (Below w.heap.size w (W2.alloc (.map #[] 0))) := ⟨HB3.out.alloc HB3.out.size _⟩
 obtain ⟨m, hm⟩ : ∃ m, m = W2.heap.size := ⟨_, rfl⟩
 rw [← hm] at M0 HMG
 simp only [← hm]
 clear hm HG0 HN2 HB3
 go_loopg [23] l.length (fun kq v23 W => ∃ (x : Int) (seen : List ByteArray) (s : G.σ), v23 = .int .i64 x ∧ Aside0 (0 ≤ x ∧ x ≤ l.length ∧ (kq : Int) = l.length - x) ∧ Aside0 (∃ kv : List (ByteArray × Bool), KV.Is W m Value.bool kv ∧ ∀ s, (KV.get kv s).getD false = decide (s ∈ seen)) ∧ Aside0 (W.heap[g]? = some (.cells (G.cells s) G.S (0, 0))) ∧ Aside0 (G.inv s) ∧ Aside0 (W.heap[q]? = some (.cells #[.int .u8 0, .int .i64 0, .string ⟨#[]⟩, .int .i64 0] 31 (0, 0))) ∧ Aside0 ((pickV fn d seen (l.drop x.toNat)).foldl G.step s = (pickV fn d [] l).foldl G.step G.init ∧ ∀ v ∈ pickV fn d seen (l.drop x.toNat), G.good v) ∧ Aside0 (Below w.heap.size w W))
 case atStart => exact ⟨0, [], G.init, rfl, ⟨by omega⟩, M0, HG1, ⟨G.inv0⟩, HN3, ⟨rfl, HG.out⟩, HB4⟩
 case round =>
  clear M0 HG1 HN3 HB4 HG
  obtain ⟨x, seen, s, rfl, HX, HM, HS, HI, HQN, HD, HB⟩ := hrel
  obtain ⟨hx0, hx1, hkq⟩ := HX.out
  by_cases hlt : x < (l.length : Int)
  · have c1 : decide (x < (l.length : Int)) = true := decide_eq_true hlt
    have c2 : decide (0 ≤ x) = true := decide_eq_true hx0
    obtain ⟨ad, e, hx_0, hx_1, hx_2⟩ := at_T27 HR.out x hx0 hlt
    cases e
    replace hx_0 := (HB.out.cell (World.block_lt_of_cell? w _ hx_0)).trans hx_0
    replace hx_1 := (HB.out.cell (World.block_lt_of_cell? w _ hx_1)).trans hx_1
    replace hx_2 := (HB.out.cell (World.block_lt_of_cell? w _ hx_2)).trans hx_2
    have hi : x.toNat < l.length := by omega
    have hrd : rd_T27 l x = l[x.toNat] := by simp [rd_T27, List.getElem?_eq_getElem hi]
    have hok := HOK.out (rd_T27 l x) (by rw [hrd]; exact List.getElem_mem hi)
    have hd := HD.out
    rw [drop_cons l x.toNat hi, ← hrd] at hd
    obtain ⟨v, hv⟩ : ∃ v, v = rd_T27 l x := ⟨_, rfl⟩
    rw [← hv] at hx_0 hx_1 hx_2 hok hd
    have HDV := Aside0.mk hd
    have HOKV := Aside0.mk hok
    have HLT := Aside0.mk hlt
    have HX0 := Aside0.mk hx0
    have HWR : Aside0 (wrap64 (x + 1) = x + 1) := ⟨by have := HN.out; unfold wrap64; omega⟩
    clear hd hok hrd hv hkq hi
    by_cases hsk : fn ≠ 0 ∧ v.f0 = 0
    · have z1 : (fn != 0) = true := by simpa using hsk.1
      have z2 : (v.f0 == 0) = true := by simpa using hsk.2
      have HSK := Aside0.mk hsk
      clear hsk
      go_wp2
      have hlt := HLT.out
      have hk := HX.out.2.2
      have hx0 := HX0.out
      cases gk with
      | zero => omega
      | succ k1 =>
       go_roundg k1
       case measure => omega
       case rel =>
        obtain ⟨kv, hkv1, hkv2⟩ := HM.out
        have hd := HDV.out
        rw [pickV, if_pos HSK.out] at hd
        rw [← show (x + 1).toNat = x.toNat + 1 by omega] at hd
        exact ⟨x + 1, seen, s, by rw [HWR.out], ⟨by omega⟩, ⟨kv, hkv1.below ((Below.refl _ wr).alloc (Nat.le_refl _) _), hkv2⟩, ⟨(Below.heap_alloc wr _ g (blk_lt HS.out)).trans HS.out⟩, HI, ⟨(Below.heap_alloc wr _ q (blk_lt HQN.out)).trans HQN.out⟩, ⟨hd⟩, ⟨HB.out.alloc HB.out.size _⟩⟩
    · by_cases hf : fn = 0
      · have z1 : (fn != 0) = false := by simp [hf]
        have HSK := Aside0.mk hsk
        clear hsk hf
        cases d with
        | false =>
         have hmt := G.hmt
         have het := G.het
         obtain ⟨kv, hkv1, hkv2⟩ := HM.out
         have HK1 := Aside0.mk hkv1
         have HK2 := Aside0.mk hkv2
         have HGD : Aside0 (G.good v) := ⟨by
          have hd := HDV.out.2
          rw [pickV, if_neg HSK.out, if_neg (by simp)] at hd
          exact hd v List.mem_cons_self⟩
         clear hkv1 hkv2
         go_wp2_with fail
         refine (G.htake g s v _ HI.out HGD.out ((Below.heap_alloc wr _ g (blk_lt HS.out)).trans HS.out)).mono ?_
         rintro e w5 ⟨rfl, hcell, hgr⟩
         have HS5 := Aside0.mk hcell
         have HQ5 := Aside0.mk ((hgr.block q (blk_lt ((Below.heap_alloc wr _ q (blk_lt HQN.out)).trans HQN.out)) (fun e => HNE.out (by injection e))).trans ((Below.heap_alloc wr _ q (blk_lt HQN.out)).trans HQN.out))
         have HM5 : Aside0 (KV.Is w5 m Value.bool kv) := ⟨KV.Is.grown (HK1.out.below ((Below.refl _ wr).alloc (Nat.le_refl _) _)) hgr (fun e => HMG.out.1 (by injection e))⟩
         have HB5 : Aside0 (Below w.heap.size w w5) := ⟨((HB.out.alloc HB.out.size (.cells #[.int .u8 v.f0, .int .i64 v.f1, .string v.f2] 27))).grown hgr ((HB.out.alloc HB.out.size (.cells #[.int .u8 v.f0, .int .i64 v.f1, .string v.f2] 27))).size (fun k hk => by cases hk; exact HGE.out)⟩
         have HI5 := Aside0.mk (G.step_inv s v HI.out HGD.out)
         clear hcell hgr hmt het
         go_wp2
         have hlt := HLT.out
         have hk := HX.out.2.2
         have hx0 := HX0.out
         cases gk with
         | zero => omega
         | succ k1 =>
          go_roundg k1
          case measure => omega
          case rel =>
           have hd := HDV.out
           rw [pickV, if_neg HSK.out, if_neg (by simp)] at hd
           rw [← show (x + 1).toNat = x.toNat + 1 by omega] at hd
           exact ⟨x + 1, seen, G.step s v, by rw [HWR.out], ⟨by omega⟩, ⟨kv, HM5.out, HK2.out⟩, HS5, HI5, HQ5, ⟨hd.1, fun u hu => hd.2 u (List.mem_cons_of_mem _ hu)⟩, HB5⟩
        | true =>
         obtain ⟨kv, hkv1, hkv2⟩ := HM.out
         have HK1 := Aside0.mk hkv1
         have HK2 := Aside0.mk hkv2
         have HWB : Aside0 (m < wr.heap.size) := ⟨hkv1.lt⟩
         have HB2 : Aside0 (Below w.heap.size w ((wr.alloc (.cells #[.int .u8 v.f0, .int .i64 v.f1, .string v.f2] 27)).alloc (.cells #[.int .u8 v.f0, .int .i64 v.f1, .string v.f2] 27))) := ⟨(HB.out.alloc HB.out.size _).alloc (Nat.le_trans HB.out.size (by simp)) _⟩
         have HBW : Aside0 (Below wr.heap.size wr ((wr.alloc (.cells #[.int .u8 v.f0, .int .i64 v.f1, .string v.f2] 27)).alloc (.cells #[.int .u8 v.f0, .int .i64 v.f1, .string v.f2] 27))) := ⟨((Below.refl _ wr).alloc (Nat.le_refl _) _).alloc (by simp) _⟩
         have HBX : Aside0 (((wr.alloc (.cells #[.int .u8 v.f0, .int .i64 v.f1, .string v.f2] 27)).alloc (.cells #[.int .u8 v.f0, .int .i64 v.f1, .string v.f2] 27)).heap[wr.heap.size]? = some (.cells #[.int .u8 v.f0, .int .i64 v.f1, .string v.f2] 27 (0, 0))) := ⟨(Below.heap_alloc (wr.alloc (.cells #[.int .u8 v.f0, .int .i64 v.f1, .string v.f2] 27)) _ _ (by simp)).trans (heap_alloc_new _ _)⟩
         clear hkv1 hkv2
         go_wp2_with fail
         have hCV := one_CV (wr.alloc (.cells #[.int .u8 v.f0, .int .i64 v.f1, .string v.f2] 27)) v 27
         rw [show (wr.alloc (.cells #[.int .u8 v.f0, .int .i64 v.f1, .string v.f2] 27)).heap.size = wr.heap.size + 1 by simp] at hCV
         have hcall := name_calls (some ⟨wr.heap.size + 1, 0, none⟩) 1 [v] _ (HT.out.below HB2.out) hCV (by simp) HOKV.out.1 HOKV.out.2.1 HOKV.out.2.2
         clear hCV
         refine hcall.mono ?_
         clear hcall
         rintro e w4 ⟨rfl, hb4⟩
         have HBW4 := Aside0.mk (HBW.out.trans (hb4.mono HBW.out.size))
         have HB4 := Aside0.mk (HB2.out.trans (hb4.mono HB2.out.size))
         have hX4 := (hb4.block _ (blk_lt HBX.out)).trans HBX.out
         have HX4 := Aside0.mk hX4
         have HK4 := Aside0.mk (HK1.out.below HBW4.out)
         have HS4 := Aside0.mk ((HBW4.out.block g (blk_lt HS.out)).trans HS.out)
         have HQ4 := Aside0.mk ((HBW4.out.block q (blk_lt HQN.out)).trans HQN.out)
         have hc : Aside0 ((KV.get kv (nameOf [v])).getD false = decide (nameOf [v] ∈ seen)) := ⟨HK2.out _⟩
         clear hb4 HBX HBW HB2
         by_cases hz : nameOf [v] ∈ seen
         · rw [decide_eq_true hz] at hc
           have HZ := Aside0.mk hz
           clear hz hX4
           go_wp2_with (at_lookup; refine KV.law_lookup _ rfl _ _ 68 rfl 9 4 Tryd.underlying9 Tryd.underlying68 (.bool false) (zeroBool _) m Value.bool kv rfl HK4.out (nameOf [v]) rfl (.bool true) (get_bool hc.out) ?_)
           have hlt := HLT.out
           have hk := HX.out.2.2
           have hx0 := HX0.out
           cases gk with
           | zero => omega
           | succ k1 =>
            go_roundg k1
            case measure => omega
            case rel =>
             have hd := HDV.out
             rw [pickV, if_neg HSK.out, if_pos rfl, if_pos HZ.out] at hd
             rw [← show (x + 1).toNat = x.toNat + 1 by omega] at hd
             exact ⟨x + 1, seen, s, by rw [HWR.out], ⟨by omega⟩, ⟨kv, HK4.out, HK2.out⟩, HS4, HI, HQ4, ⟨hd⟩, HB4⟩
         · rw [decide_eq_false hz] at hc
           have HZ := Aside0.mk hz
           have HGD : Aside0 (G.good v) := ⟨by
            have hd := HDV.out.2
            rw [pickV, if_neg HSK.out, if_pos rfl, if_neg hz] at hd
            exact hd v List.mem_cons_self⟩
           have hmt := G.hmt
           have het := G.het
           clear hz hX4
           go_wp2_with (first
            | (at_lookup; refine KV.law_lookup _ rfl _ _ 68 rfl 9 4 Tryd.underlying9 Tryd.underlying68 (.bool false) (zeroBool _) m Value.bool kv rfl HK4.out (nameOf [v]) rfl (.bool false) (get_bool hc.out) ?_)
            | (at_mapUpdate; refine KV.law_update _ rfl _ _ _ 68 rfl 9 4 Tryd.underlying9 Tryd.underlying68 m Value.bool kv rfl HK4.out (nameOf [v]) rfl true rfl ?_; intro w6 hM6 hg6; have hX6 := (hg6.block _ (blk_lt HX4.out) (fun e => by have := HWB.out; injection e; omega)).trans HX4.out; have HM6 := Aside0.mk hM6; have HB6 := Aside0.mk (HB4.out.grown hg6 HB4.out.size (fun k hk => by cases hk; exact HMG.out.2.2)); have HS6 := Aside0.mk ((hg6.block g (blk_lt HS4.out) (fun e => HMG.out.1 (by injection e with e; exact e.symm))).trans HS4.out); have HQ6 := Aside0.mk ((hg6.block q (blk_lt HQ4.out) (fun e => HMG.out.2.1 (by injection e))).trans HQ4.out); have X0 : w6.cell? ⟨wr.heap.size, 0, none⟩ = some (.int .u8 v.f0) := (blk_cell hX6 0).trans rfl; have X1 : w6.cell? ⟨wr.heap.size, 1, none⟩ = some (.int .i64 v.f1) := (blk_cell hX6 1).trans rfl; have X2 : w6.cell? ⟨wr.heap.size, 2, none⟩ = some (.string v.f2) := (blk_cell hX6 2).trans rfl; clear hM6 hg6 hX6))
           refine (G.htake g s v _ HI.out HGD.out HS6.out).mono ?_
           rintro e w5 ⟨rfl, hcell, hgr⟩
           have HS5 := Aside0.mk hcell
           have HQ5 := Aside0.mk ((hgr.block q (blk_lt HQ6.out) (fun e => HNE.out (by injection e))).trans HQ6.out)
           have HM5 : Aside0 (KV.Is w5 m Value.bool (KV.put kv (nameOf [v]) true)) := ⟨KV.Is.grown HM6.out hgr (fun e => HMG.out.1 (by injection e))⟩
           have HB5 : Aside0 (Below w.heap.size w w5) := ⟨(HB6.out).grown hgr (HB6.out).size (fun k hk => by cases hk; exact HGE.out)⟩
           have HI5 := Aside0.mk (G.step_inv s v HI.out HGD.out)
           clear hcell hgr hmt het
           go_wp2
           have hlt := HLT.out
           have hk := HX.out.2.2
           have hx0 := HX0.out
           cases gk with
           | zero => omega
           | succ k1 =>
            go_roundg k1
            case measure => omega
            case rel =>
             have hd := HDV.out
             rw [pickV, if_neg HSK.out, if_pos rfl, if_neg HZ.out] at hd
             rw [← show (x + 1).toNat = x.toNat + 1 by omega] at hd
             exact ⟨x + 1, nameOf [v] :: seen, G.step s v, by rw [HWR.out], ⟨by omega⟩, ⟨(KV.put kv (nameOf [v]) true), HM5.out, seen_put HK2.out _⟩, HS5, HI5, HQ5, ⟨hd.1, fun u hu => hd.2 u (List.mem_cons_of_mem _ hu)⟩, HB5⟩
      · have z1 : (fn != 0) = true := by simpa using hf
        have z2 : (v.f0 == 0) = false := by
         have : v.f0 ≠ 0 := fun e => hsk ⟨hf, e⟩
         simpa using this
        have HSK := Aside0.mk hsk
        clear hsk hf
        cases d with
        | false =>
         have hmt := G.hmt
         have het := G.het
         obtain ⟨kv, hkv1, hkv2⟩ := HM.out
         have HK1 := Aside0.mk hkv1
         have HK2 := Aside0.mk hkv2
         have HGD : Aside0 (G.good v) := ⟨by
          have hd := HDV.out.2
          rw [pickV, if_neg HSK.out, if_neg (by simp)] at hd
          exact hd v List.mem_cons_self⟩
         clear hkv1 hkv2
         go_wp2_with fail
         refine (G.htake g s v _ HI.out HGD.out ((Below.heap_alloc wr _ g (blk_lt HS.out)).trans HS.out)).mono ?_
         rintro e w5 ⟨rfl, hcell, hgr⟩
         have HS5 := Aside0.mk hcell
         have HQ5 := Aside0.mk ((hgr.block q (blk_lt ((Below.heap_alloc wr _ q (blk_lt HQN.out)).trans HQN.out)) (fun e => HNE.out (by injection e))).trans ((Below.heap_alloc wr _ q (blk_lt HQN.out)).trans HQN.out))
         have HM5 : Aside0 (KV.Is w5 m Value.bool kv) := ⟨KV.Is.grown (HK1.out.below ((Below.refl _ wr).alloc (Nat.le_refl _) _)) hgr (fun e => HMG.out.1 (by injection e))⟩
         have HB5 : Aside0 (Below w.heap.size w w5) := ⟨((HB.out.alloc HB.out.size (.cells #[.int .u8 v.f0, .int .i64 v.f1, .string v.f2] 27))).grown hgr ((HB.out.alloc HB.out.size (.cells #[.int .u8 v.f0, .int .i64 v.f1, .string v.f2] 27))).size (fun k hk => by cases hk; exact HGE.out)⟩
         have HI5 := Aside0.mk (G.step_inv s v HI.out HGD.out)
         clear hcell hgr hmt het
         go_wp2
         have hlt := HLT.out
         have hk := HX.out.2.2
         have hx0 := HX0.out
         cases gk with
         | zero => omega
         | succ k1 =>
          go_roundg k1
          case measure => omega
          case rel =>
           have hd := HDV.out
           rw [pickV, if_neg HSK.out, if_neg (by simp)] at hd
           rw [← show (x + 1).toNat = x.toNat + 1 by omega] at hd
           exact ⟨x + 1, seen, G.step s v, by rw [HWR.out], ⟨by omega⟩, ⟨kv, HM5.out, HK2.out⟩, HS5, HI5, HQ5, ⟨hd.1, fun u hu => hd.2 u (List.mem_cons_of_mem _ hu)⟩, HB5⟩
        | true =>
         obtain ⟨kv, hkv1, hkv2⟩ := HM.out
         have HK1 := Aside0.mk hkv1
         have HK2 := Aside0.mk hkv2
         have HWB : Aside0 (m < wr.heap.size) := ⟨hkv1.lt⟩
         have HB2 : Aside0 (Below w.heap.size w ((wr.alloc (.cells #[.int .u8 v.f0, .int .i64 v.f1, .string v.f2] 27)).alloc (.cells #[.int .u8 v.f0, .int .i64 v.f1, .string v.f2] 27))) := ⟨(HB.out.alloc HB.out.size _).alloc (Nat.le_trans HB.out.size (by simp)) _⟩
         have HBW : Aside0 (Below wr.heap.size wr ((wr.alloc (.cells #[.int .u8 v.f0, .int .i64 v.f1, .string v.f2] 27)).alloc (.cells #[.int .u8 v.f0, .int .i64 v.f1, .string v.f2] 27))) := ⟨((Below.refl _ wr).alloc (Nat.le_refl _) _).alloc (by simp) _⟩
         have HBX : Aside0 (((wr.alloc (.cells #[.int .u8 v.f0, .int .i64 v.f1, .string v.f2] 27)).alloc (.cells #[.int .u8 v.f0, .int .i64 v.f1, .string v.f2] 27)).heap[wr.heap.size]? = some (.cells #[.int .u8 v.f0, .int .i64 v.f1, .string v.f2] 27 (0, 0))) := ⟨(Below.heap_alloc (wr.alloc (.cells #[.int .u8 v.f0, .int .i64 v.f1, .string v.f2] 27)) _ _ (by simp)).trans (heap_alloc_new _ _)⟩
         clear hkv1 hkv2
         go_wp2_with fail
         have hCV := one_CV (wr.alloc (.cells #[.int .u8 v.f0, .int .i64 v.f1, .string v.f2] 27)) v 27
         rw [show (wr.alloc (.cells #[.int .u8 v.f0, .int .i64 v.f1, .string v.f2] 27)).heap.size = wr.heap.size + 1 by simp] at hCV
         have hcall := name_calls (some ⟨wr.heap.size + 1, 0, none⟩) 1 [v] _ (HT.out.below HB2.out) hCV (by simp) HOKV.out.1 HOKV.out.2.1 HOKV.out.2.2
         clear hCV
         refine hcall.mono ?_
         clear hcall
         rintro e w4 ⟨rfl, hb4⟩
         have HBW4 := Aside0.mk (HBW.out.trans (hb4.mono HBW.out.size))
         have HB4 := Aside0.mk (HB2.out.trans (hb4.mono HB2.out.size))
         have hX4 := (hb4.block _ (blk_lt HBX.out)).trans HBX.out
         have HX4 := Aside0.mk hX4
         have HK4 := Aside0.mk (HK1.out.below HBW4.out)
         have HS4 := Aside0.mk ((HBW4.out.block g (blk_lt HS.out)).trans HS.out)
         have HQ4 := Aside0.mk ((HBW4.out.block q (blk_lt HQN.out)).trans HQN.out)
         have hc : Aside0 ((KV.get kv (nameOf [v])).getD false = decide (nameOf [v] ∈ seen)) := ⟨HK2.out _⟩
         clear hb4 HBX HBW HB2
         by_cases hz : nameOf [v] ∈ seen
         · rw [decide_eq_true hz] at hc
           have HZ := Aside0.mk hz
           clear hz hX4
           go_wp2_with (at_lookup; refine KV.law_lookup _ rfl _ _ 68 rfl 9 4 Tryd.underlying9 Tryd.underlying68 (.bool false) (zeroBool _) m Value.bool kv rfl HK4.out (nameOf [v]) rfl (.bool true) (get_bool hc.out) ?_)
           have hlt := HLT.out
           have hk := HX.out.2.2
           have hx0 := HX0.out
           cases gk with
           | zero => omega
           | succ k1 =>
            go_roundg k1
            case measure => omega
            case rel =>
             have hd := HDV.out
             rw [pickV, if_neg HSK.out, if_pos rfl, if_pos HZ.out] at hd
             rw [← show (x + 1).toNat = x.toNat + 1 by omega] at hd
             exact ⟨x + 1, seen, s, by rw [HWR.out], ⟨by omega⟩, ⟨kv, HK4.out, HK2.out⟩, HS4, HI, HQ4, ⟨hd⟩, HB4⟩
         · rw [decide_eq_false hz] at hc
           have HZ := Aside0.mk hz
           have HGD : Aside0 (G.good v) := ⟨by
            have hd := HDV.out.2
            rw [pickV, if_neg HSK.out, if_pos rfl, if_neg hz] at hd
            exact hd v List.mem_cons_self⟩
           have hmt := G.hmt
           have het := G.het
           clear hz hX4
           go_wp2_with (first
            | (at_lookup; refine KV.law_lookup _ rfl _ _ 68 rfl 9 4 Tryd.underlying9 Tryd.underlying68 (.bool false) (zeroBool _) m Value.bool kv rfl HK4.out (nameOf [v]) rfl (.bool false) (get_bool hc.out) ?_)
            | (at_mapUpdate; refine KV.law_update _ rfl _ _ _ 68 rfl 9 4 Tryd.underlying9 Tryd.underlying68 m Value.bool kv rfl HK4.out (nameOf [v]) rfl true rfl ?_; intro w6 hM6 hg6; have hX6 := (hg6.block _ (blk_lt HX4.out) (fun e => by have := HWB.out; injection e; omega)).trans HX4.out; have HM6 := Aside0.mk hM6; have HB6 := Aside0.mk (HB4.out.grown hg6 HB4.out.size (fun k hk => by cases hk; exact HMG.out.2.2)); have HS6 := Aside0.mk ((hg6.block g (blk_lt HS4.out) (fun e => HMG.out.1 (by injection e with e; exact e.symm))).trans HS4.out); have HQ6 := Aside0.mk ((hg6.block q (blk_lt HQ4.out) (fun e => HMG.out.2.1 (by injection e))).trans HQ4.out); have X0 : w6.cell? ⟨wr.heap.size, 0, none⟩ = some (.int .u8 v.f0) := (blk_cell hX6 0).trans rfl; have X1 : w6.cell? ⟨wr.heap.size, 1, none⟩ = some (.int .i64 v.f1) := (blk_cell hX6 1).trans rfl; have X2 : w6.cell? ⟨wr.heap.size, 2, none⟩ = some (.string v.f2) := (blk_cell hX6 2).trans rfl; clear hM6 hg6 hX6))
           refine (G.htake g s v _ HI.out HGD.out HS6.out).mono ?_
           rintro e w5 ⟨rfl, hcell, hgr⟩
           have HS5 := Aside0.mk hcell
           have HQ5 := Aside0.mk ((hgr.block q (blk_lt HQ6.out) (fun e => HNE.out (by injection e))).trans HQ6.out)
           have HM5 : Aside0 (KV.Is w5 m Value.bool (KV.put kv (nameOf [v]) true)) := ⟨KV.Is.grown HM6.out hgr (fun e => HMG.out.1 (by injection e))⟩
           have HB5 : Aside0 (Below w.heap.size w w5) := ⟨(HB6.out).grown hgr (HB6.out).size (fun k hk => by cases hk; exact HGE.out)⟩
           have HI5 := Aside0.mk (G.step_inv s v HI.out HGD.out)
           clear hcell hgr hmt het
           go_wp2
           have hlt := HLT.out
           have hk := HX.out.2.2
           have hx0 := HX0.out
           cases gk with
           | zero => omega
           | succ k1 =>
            go_roundg k1
            case measure => omega
            case rel =>
             have hd := HDV.out
             rw [pickV, if_neg HSK.out, if_pos rfl, if_neg HZ.out] at hd
             rw [← show (x + 1).toNat = x.toNat + 1 by omega] at hd
             exact ⟨x + 1, nameOf [v] :: seen, G.step s v, by rw [HWR.out], ⟨by omega⟩, ⟨(KV.put kv (nameOf [v]) true), HM5.out, seen_put HK2.out _⟩, HS5, HI5, HQ5, ⟨hd.1, fun u hu => hd.2 u (List.mem_cons_of_mem _ hu)⟩, HB5⟩
  · have c1 : decide (x < (l.length : Int)) = false := decide_eq_false hlt
    have hd := HD.out.1
    rw [List.drop_eq_nil_of_le (by omega), pickV, List.foldl_nil] at hd
    subst hd
    have hmd := G.hmd
    have hed := G.hed
    clear hlt hx0 hx1 hkq
    go_wp2_with fail
    refine (G.hdone g _ wr HI.out HFI.out HS.out).mono ?_
    rintro e w3 ⟨rfl, hb3⟩
    have hN3 := (hb3.block q (blk_lt HQN.out)).trans HQN.out
    have HN3 := Aside0.mk hN3
    have HB3 := Aside0.mk (HB.out.trans (hb3.mono HB.out.size))
    have G0 : w3.cell? ⟨q, 0, none⟩ = some (.int .u8 0) := (blk_cell hN3 0).trans rfl
    have G1 : w3.cell? ⟨q, 1, none⟩ = some (.int .i64 0) := (blk_cell hN3 1).trans rfl
    have G2 : w3.cell? ⟨q, 2, none⟩ = some (.string ⟨#[]⟩) := (blk_cell hN3 2).trans rfl
    have G3 : w3.cell? ⟨q, 3, none⟩ = some (.int .i64 0) := (blk_cell hN3 3).trans rfl
    have F4 : ∀ j, w3.frozen? ⟨q, j, none⟩ = false := fun j => by simp [World.frozen?, hN3]
    clear hb3 hN3 hmd hed
    go_wp2
    refine bodyPost_ret (results_cell_row rfl _ _ q 31 _ (0, 0) _ rfl (out_cells HN3.out _ _ _ _) Tryd.underlying31 rfl (by kernel_rfl)) rfl ?_
    exact ⟨rfl, out_below HB3.out HQ.out _ _ _ _⟩
end Go.Proofs.YtecgkcgfeghhgaaDoor.PAll
namespace Go.Proofs.YtecgkcgfeghhgaaDoor.PAll
open Go.RowKit Go.Proofs.YtecgkcgfeghhgaaDoorW.PrintWords Go.Proofs.YtecgkcgfeghhgaaDoorW.PrintLast Go.Proofs.YtecgkcgfeghhgaaDoorW.PrintMore
attribute [local go_sem] max2_int min2_int max_two min_two max_three min_three max_four min_four
set_option linter.unusedVariables false
set_option linter.unusedSimpArgs false
def bag_columnOf.l0 : Nat → Int → List (S27) → List (List (S27)) → Int → Int → Option ((List (S27)))
 | 0, _, _, _, _, _ => none
 | k + 1, x1, x5, x11, x12, x13 => if x13 < x12 then (if 0 ≤ x13 then (if x13 < (x11.length : Int) then (if x1 < ((rd_L4 x11 x13).length : Int) then (if 0 ≤ x1 then (if x13 < (x5.length : Int) then (bag_columnOf.l0 k x1 (x5.set (x13 : Int).toNat (⟨(rd_T27 (rd_L4 x11 x13) x1).f0, (rd_T27 (rd_L4 x11 x13) x1).f1, (rd_T27 (rd_L4 x11 x13) x1).f2⟩ : S27)) x11 x12 (wrap64 (x13 + 1))) else (none)) else (none)) else (bag_columnOf.l0 k x1 x5 x11 x12 (wrap64 (x13 + 1)))) else (none)) else (none)) else (some x5)
def bag_columnOf.f (k : Nat) (l0 : List (List (S27))) (a1 : Int) : Option ((List (S27))) := if 0 ≤ (l0.length : Int) then (if ((l0.length : Int) : Int).toNat ≤ 8796093022208 then (bag_columnOf.l0 k a1 (List.replicate ((l0.length : Int) : Int).toNat z27) l0 (l0.length : Int) 0) else (none)) else (none)
theorem bag_columnOf.calls (k : Nat) (A0 : Option Addr) (c0 : Nat) (l0 : List (List (S27))) (a1 : Int) (r : List (S27)) (w : World) (hr0 : Kd.C (Kd.slice 27 k27) w A0 l0.length l0) (hc0 : l0.length ≤ c0) (h : bag_columnOf.f k l0 a1 = some r) :
 Calls Tryd.prog 31 #[.slice A0 l0.length c0, .int .i64 a1] w fun e w' => ∃ v0_ : Value, e = .returned (v0_) ∧ Kd.R k27 27 w' w.heap.size (fun _ => True) v0_ r ∧ Below w.heap.size w w' := by
 have hu27 := Tryd.underlying27
 have HR0 := Aside0.mk hr0
 have HC0 := Aside0.mk hc0
 clear hr0 hc0
 have HB := Aside0.mk (Below.refl w.heap.size w)
 have H : (if 0 ≤ (l0.length : Int) then (if ((l0.length : Int) : Int).toNat ≤ 8796093022208 then (bag_columnOf.l0 k a1 (List.replicate ((l0.length : Int) : Int).toNat z27) l0 (l0.length : Int) 0) else (none)) else (none)) = some r := h
 clear h
 by_cases c3 : 0 ≤ (l0.length : Int)
 · rw [if_pos c3] at H
   have c3b0 := eq_true c3
   have c3b1 : decide (0 ≤ (l0.length : Int)) = true := dT_ c3
   clear c3
   by_cases c4 : ((l0.length : Int) : Int).toNat ≤ 8796093022208
   · rw [if_pos c4] at H
     have c4b0 := eq_true c4
     have c4b1 : decide (((l0.length : Int) : Int).toNat ≤ 8796093022208) = true := dT_ c4
     clear c4
     obtain ⟨y116, hy116⟩ : ∃ y_ : List (S27), y_ = (List.replicate ((l0.length : Int) : Int).toNat z27) := ⟨_, rfl⟩
     replace H : (bag_columnOf.l0 k a1 y116 l0 (l0.length : Int) 0) = some r := by first | (rw [hy116]; with_reducible exact H) | (have H2_ := (Option.bind_some _ _).symm.trans H; rw [hy116]; with_reducible exact H2_) | (have H2_ := (Option.bind_some _ _).symm.trans H; with_reducible exact H2_) | with_reducible exact H | (rw [hy116]; exact H) | exact H
     have Ny116 := Aside0.mk hy116
     clear hy116
     have H' := Aside0.mk H
     clear H
     go_enter Tryd.func31, Tryd.ntmps31
     go_wp2_with (first | ((with_reducible refine gate_dst (N := 10) rfl ?_); refine Kd.R_make k27 _ 27 rfl (N := 10) rfl 24 _ _ rfl (l0.length : Int) rfl rfl Tryd.underlying24 (.agg #[(.int .u8 0), (.int .i64 0), (.string ⟨#[]⟩)]) 32 info27 rfl (by decide) (by omega) z27 (ok := fun _ => True) (okp := fun _ => True) (k27_mkM _ _ _ z27 ) (fun _ hk => hk) trivial (oT_ (by assumption)) (Nat.le_trans (Nat.mul_le_mul_right _ (oT_ (by assumption) : (l0.length : Int).toNat ≤ 8796093022208)) (by omega)) (Below.refl _ _) (Nat.le_refl _) ?_; intro v117 w5 ho6 hb hg_ hnew_; clear hg_ hnew_; (first | rw [← Ny116.out] at ho6 | (simp only [Int.reduceToNat] at ho6; rw [← Ny116.out] at ho6)); have n0_ := Aside0.mk (Kd.R_lower ho6 (below_size (by repeat (first | (with_reducible first | exact HB.out | apply bA_ | apply bN_ | apply b1_) | exact HB.out)))); have n1_ := Aside0.mk (below_step (by repeat (first | (with_reducible first | exact HB.out | apply bA_ | apply bN_ | apply b1_) | exact HB.out)) hb); clear HB; have HO118 := n0_; have HB := n1_; clear n0_ n1_; clear hb ho6))
     go_loopg [13] k (fun kq v13 w' => ∃ (x5_1 : List (S27)) (x13_1 : Int), v13 = .int .i64 x13_1 ∧ Aside0 (bag_columnOf.l0 kq a1 x5_1 l0 (l0.length : Int) x13_1 = some r) ∧ Aside0 (kq ≤ k) ∧ Aside0 (Kd.R k27 27 w' w.heap.size (fun _ => True) v117 x5_1) ∧ Aside0 (Below w.heap.size w w'))
     case atStart => exact ⟨(y116), (0), (by first | rfl | (simp; done) | (simp [*]; done)), H', ⟨Nat.le_refl _⟩, ⟨by (with_reducible repeat (first | apply Kd.R_alloc | apply Kd.R_drewN | apply Kd.R_drew)); exact HO118.out⟩, ⟨by repeat (first | (with_reducible first | exact HB.out | apply bA_ | apply bN_ | apply b1_) | exact HB.out)⟩⟩
     case round =>
      clear H'
      try clear p2
      try clear c3
      try clear c3b0
      try clear c3b1
      try clear c4
      try clear c4b0
      try clear c4b1
      obtain ⟨x5_1, x13_1, rfl, HA, HK1, HO_5, HB⟩ := hrel
      cases gk with
      | zero => exact absurd HA.out (by simp [bag_columnOf.l0])
      | succ k1 =>
       have H := HA.out
       clear HA
       simp only [bag_columnOf.l0] at H
       by_cases c7 : x13_1 < (l0.length : Int)
       · rw [if_pos c7] at H
         have c7b0 : decide (x13_1 < (l0.length : Int)) = true := dT_ c7
         clear c7
         by_cases c8 : 0 ≤ x13_1
         · rw [if_pos c8] at H
           have c8b0 : decide (0 ≤ x13_1) = true := dT_ c8
           clear c8
           by_cases c9 : x13_1 < (l0.length : Int)
           · rw [if_pos c9] at H
             have c9b0 : decide (x13_1 < (l0.length : Int)) = true := dT_ c9
             clear c9
             by_cases c10 : a1 < ((rd_L4 l0 x13_1).length : Int)
             · rw [if_pos c10] at H
               have c10b0 : decide (a1 < ((rd_L4 l0 x13_1).length : Int)) = true := dT_ c10
               clear c10
               by_cases c11 : 0 ≤ a1
               · rw [if_pos c11] at H
                 have c11b0 : decide (0 ≤ a1) = true := dT_ c11
                 clear c11
                 by_cases c12 : x13_1 < (x5_1.length : Int)
                 · rw [if_pos c12] at H
                   have c12b0 : decide (x13_1 < (x5_1.length : Int)) = true := dT_ c12
                   clear c12
                   obtain ⟨y121, hy121⟩ : ∃ y_ : List (S27), y_ = (x5_1.set (x13_1 : Int).toNat (⟨(rd_T27 (rd_L4 l0 x13_1) a1).f0, (rd_T27 (rd_L4 l0 x13_1) a1).f1, (rd_T27 (rd_L4 l0 x13_1) a1).f2⟩ : S27)) := ⟨_, rfl⟩
                   replace H : (bag_columnOf.l0 k1 a1 y121 l0 (l0.length : Int) (wrap64 (x13_1 + 1))) = some r := by first | (rw [hy121]; with_reducible exact H) | (have H2_ := (Option.bind_some _ _).symm.trans H; rw [hy121]; with_reducible exact H2_) | (have H2_ := (Option.bind_some _ _).symm.trans H; with_reducible exact H2_) | with_reducible exact H | (rw [hy121]; exact H) | exact H
                   have Ny121 := Aside0.mk hy121
                   clear hy121
                   have H' := Aside0.mk H
                   clear H
                   have p119 : 0 ≤ (x13_1 : Int) := oT_ (by assumption)
                   have q119 : x13_1 < (l0.length : Int) := oT_ (by assumption)
                   obtain ⟨ad119, A119_0, c119_0, e119, hx119_0, hl119_0, hi119_0⟩ := at_L4 HR0.out x13_1 p119 q119
                   cases e119
                   replace hx119_0 := (HB.out.cell (bLC_ w _ hx119_0)).trans hx119_0
                   have HR119_0 := Aside0.mk hi119_0
                   have HC119_0 := Aside0.mk hl119_0
                   clear hi119_0 hl119_0
                   replace p119 := eq_true p119
                   replace q119 := eq_true q119
                   have p120 : 0 ≤ (a1 : Int) := oT_ (by assumption)
                   have q120 : a1 < ((rd_L4 l0 x13_1).length : Int) := oT_ (by assumption)
                   obtain ⟨ad120, e120, hx120_0, hx120_1, hx120_2⟩ := at_T27 HR119_0.out a1 p120 q120
                   cases e120
                   replace hx120_0 := (HB.out.cell (bLC_ w _ hx120_0)).trans hx120_0
                   replace hx120_1 := (HB.out.cell (bLC_ w _ hx120_1)).trans hx120_1
                   replace hx120_2 := (HB.out.cell (bLC_ w _ hx120_2)).trans hx120_2
                   replace p120 := eq_true p120
                   replace q120 := eq_true q120
                   have p13 : 0 ≤ (x13_1 : Int) := oT_ (by assumption)
                   have q13 : (x13_1 : Int) < ((x5_1.length : Int) : Int) := oT_ (by assumption)
                   obtain ⟨go13, co13, eo13, gb13, gl13, cl13, HG13⟩ := Kd.R_form HO_5.out (by omega)
                   (first | cases eo13 | (injection eo13 with ea_ en_ ec_; (first | subst ea_ | (injection ea_ with ea_; subst ea_)); subst ec_; clear en_))
                   have GB13 := Aside0.mk gb13
                   have GG13 := Aside0.mk HG13
                   clear gb13 gl13 HG13
                   obtain ⟨ce13, hcl13, hM13, hcc13, hfr13⟩ := Kd.R_elem HO_5.out z27 (x13_1 : Int) p13 q13
                   obtain rfl := k27_openM hM13
                   have hx13_0 : wr.cell? ⟨go13, (x13_1 : Int).toNat * 3, none⟩ = some (.int .u8 ((rd_T27 x5_1 x13_1).f0)) := hcc13 0 _ rfl
                   have hx13_1 : wr.cell? ⟨go13, (x13_1 : Int).toNat * 3 + 1, none⟩ = some (.int .i64 ((rd_T27 x5_1 x13_1).f1)) := hcc13 1 _ rfl
                   have hx13_2 : wr.cell? ⟨go13, (x13_1 : Int).toNat * 3 + 2, none⟩ = some (.string ((rd_T27 x5_1 x13_1).f2)) := hcc13 2 _ rfl
                   have hf13_0 : wr.frozen? ⟨go13, (x13_1 : Int).toNat * 3, none⟩ = false := hfr13 0
                   have hf13_1 : wr.frozen? ⟨go13, (x13_1 : Int).toNat * 3 + 1, none⟩ = false := hfr13 1
                   have hf13_2 : wr.frozen? ⟨go13, (x13_1 : Int).toNat * 3 + 2, none⟩ = false := hfr13 2
                   clear hcl13 hcc13 hfr13 hM13
                   replace p13 := eq_true p13
                   replace q13 := eq_true q13
                   have HX14 := Aside0.mk (show Kd.R k27 27 wr w.heap.size (fun _ => True) (.slice (some ⟨go13, 0, none⟩) x5_1.length co13) x5_1 from (by (with_reducible repeat (first | apply Kd.R_alloc | apply Kd.R_drewN | apply Kd.R_drew)); exact HO_5.out))
                   obtain ⟨ce14, hcl14, hM14, hcc14, hfr14⟩ := Kd.R_elem HX14.out z27 (x13_1 : Int) (oT_ (by assumption)) (by have h_ : (x13_1 : Int) < ((x5_1.length : Int) : Int) := oT_ (by assumption); first | exact h_ | (have e_ := (Kd.R_reads' HO_5.out).1; omega) | simpa using h_)
                   obtain rfl := k27_openM hM14
                   have HP14 := Kd.R_seg HX14.out (x13_1 : Int) (oT_ (by assumption)) (by have h_ : (x13_1 : Int) < ((x5_1.length : Int) : Int) := oT_ (by assumption); first | exact h_ | (have e_ := (Kd.R_reads' HO_5.out).1; omega) | simpa using h_) (seg := [.int .u8 ((rd_T27 (rd_L4 l0 x13_1) a1).f0), .int .i64 ((rd_T27 (rd_L4 l0 x13_1) a1).f1), .string ((rd_T27 (rd_L4 l0 x13_1) a1).f2)]) (j := 0) hcl14 hcc14 (show 3 ≤ 3 from by decide) (x' := (⟨(rd_T27 (rd_L4 l0 x13_1) a1).f0, (rd_T27 (rd_L4 l0 x13_1) a1).f1, (rd_T27 (rd_L4 l0 x13_1) a1).f2⟩ : S27)) (k27_mkM _ _ _ (⟨(rd_T27 (rd_L4 l0 x13_1) a1).f0, (rd_T27 (rd_L4 l0 x13_1) a1).f1, (rd_T27 (rd_L4 l0 x13_1) a1).f2⟩ : S27) ) (fun _ hk => hk)
                   have hx14_0 := hcc14 0 _ rfl
                   (try simp only [show (k27).sz = 3 from rfl, Nat.mul_one, Nat.add_zero] at hx14_0)
                   have hf14_0 := hfr14 0
                   (try simp only [show (k27).sz = 3 from rfl, Nat.mul_one, Nat.add_zero] at hf14_0)
                   have hx14_1 := hcc14 1 _ rfl
                   (try simp only [show (k27).sz = 3 from rfl, Nat.mul_one, Nat.add_zero] at hx14_1)
                   have hf14_1 := hfr14 1
                   (try simp only [show (k27).sz = 3 from rfl, Nat.mul_one, Nat.add_zero] at hf14_1)
                   have hx14_2 := hcc14 2 _ rfl
                   (try simp only [show (k27).sz = 3 from rfl, Nat.mul_one, Nat.add_zero] at hx14_2)
                   have hf14_2 := hfr14 2
                   (try simp only [show (k27).sz = 3 from rfl, Nat.mul_one, Nat.add_zero] at hf14_2)
                   clear hcl14 hcc14 hfr14 hM14
                   go_wp2_with (first | ((with_reducible refine gate_store (t := 27) (p := 28) rfl ?_); refine store_event (t := 27) (p := 28) (v := ?vo_w15) (w1 := (((wr.setCell ⟨go13, (x13_1 : Int).toNat * 3, none⟩ (.int .u8 ((rd_T27 (rd_L4 l0 x13_1) a1).f0))).setCell ⟨go13, (x13_1 : Int).toNat * 3 + 1, none⟩ (.int .i64 ((rd_T27 (rd_L4 l0 x13_1) a1).f1))).setCell ⟨go13, (x13_1 : Int).toNat * 3 + 2, none⟩ (.string ((rd_T27 (rd_L4 l0 x13_1) a1).f2)))) ?hg ?ho ?hn ?hr ?_; (case ho => rfl); (case hg => rfl); (case hn => rfl); (case hr => first | (go_simp; done) | (go_simp; rfl)); intro w15 hw; have hg : wr.grownBy w15 (some go13) := (by rw [hw]; exact HP14.2); have hp_ : Kd.R k27 27 w15 w.heap.size (fun _ => True) (.slice (some ⟨go13, 0, none⟩) x5_1.length co13) y121 := (by rw [hw, Ny121.out]; exact HP14.1); clear HP14; have n0_ := Aside0.mk (hp_); have n1_ := Aside0.mk ((by rw [hw]; exact below_set (below_set (below_set (HB.out) GB13.out) GB13.out) GB13.out : Below w.heap.size w w15)); clear HO_5; clear HB; have HO_5 := n0_; have HB := n1_; clear n0_ n1_; clear hg hw hp_))
                   go_roundg k1
                   case measure => have := HK1.out; omega
                   case rel => exact ⟨(y121), (wrap64 (x13_1 + 1)), (by first | rfl | (simp; done) | (simp [*]; done)), H', ⟨by have := HK1.out; omega⟩, ⟨by (with_reducible repeat (first | apply Kd.R_alloc | apply Kd.R_drewN | apply Kd.R_drew)); exact HO_5.out⟩, ⟨by repeat (first | (with_reducible first | exact HB.out | apply bA_ | apply bN_ | apply b1_) | exact HB.out)⟩⟩
                 · rw [if_neg c12] at H
                   exact absurd H (by simp)
               · rw [if_neg c11] at H
                 exact absurd H (by simp)
             · rw [if_neg c10] at H
               have c10b0 : decide (a1 < ((rd_L4 l0 x13_1).length : Int)) = false := dF_ c10
               clear c10
               have H' := Aside0.mk H
               clear H
               have p119 : 0 ≤ (x13_1 : Int) := oT_ (by assumption)
               have q119 : x13_1 < (l0.length : Int) := oT_ (by assumption)
               obtain ⟨ad119, A119_0, c119_0, e119, hx119_0, hl119_0, hi119_0⟩ := at_L4 HR0.out x13_1 p119 q119
               cases e119
               replace hx119_0 := (HB.out.cell (bLC_ w _ hx119_0)).trans hx119_0
               have HR119_0 := Aside0.mk hi119_0
               have HC119_0 := Aside0.mk hl119_0
               clear hi119_0 hl119_0
               replace p119 := eq_true p119
               replace q119 := eq_true q119
               go_wp2
               go_roundg k1
               case measure => have := HK1.out; omega
               case rel => exact ⟨(x5_1), (wrap64 (x13_1 + 1)), (by first | rfl | (simp; done) | (simp [*]; done)), H', ⟨by have := HK1.out; omega⟩, ⟨by (with_reducible repeat (first | apply Kd.R_alloc | apply Kd.R_drewN | apply Kd.R_drew)); exact HO_5.out⟩, ⟨by repeat (first | (with_reducible first | exact HB.out | apply bA_ | apply bN_ | apply b1_) | exact HB.out)⟩⟩
           · rw [if_neg c9] at H
             exact absurd H (by simp)
         · rw [if_neg c8] at H
           exact absurd H (by simp)
       · rw [if_neg c7] at H
         have c7b0 : decide (x13_1 < (l0.length : Int)) = false := dF_ c7
         clear c7
         obtain rfl := Option.some.inj H
         go_wp2
         go_ret
         exact ⟨_, by first | rfl | (simp [*, errW_none, errW_some] <;> rfl), by (with_reducible repeat (first | apply Kd.R_alloc | apply Kd.R_drewN | apply Kd.R_drew)); exact HO_5.out, by repeat (first | (with_reducible first | exact HB.out | apply bA_ | apply bN_ | apply b1_) | exact HB.out)⟩
   · rw [if_neg c4] at H
     exact absurd H (by simp)
 · rw [if_neg c3] at H
   exact absurd H (by simp)
end Go.Proofs.YtecgkcgfeghhgaaDoor.PAll
set_option linter.unusedVariables false
set_option linter.unusedSimpArgs false
namespace Go.Proofs.YtecgkcgfeghhgaaDoor.PAll
open Go.RowKit Go.Proofs.YtecgkcgfeghhgaaDoorW.PrintWords Go.Proofs.YtecgkcgfeghhgaaDoorW.PrintLast Go.Proofs.YtecgkcgfeghhgaaDoorW.PrintMore
def columnR (l : List (List V)) (n : Int) : List V := l.map (fun r => rd_T27 r n)
theorem columnOf_l0 (l : List (List V)) (n : Int) (h0 : 0 ≤ n) (hn : l.length ≤ 1099511627776) : ∀ (d i : Nat) (xs : List V), i + d = l.length → xs = (l.take i).map (fun r => rd_T27 r n) ++ List.replicate d z27 →
 Ev (fun k => bag_columnOf.l0 k n xs l (l.length : Int) (i : Int)) (columnR l n) := by
 intro d
 induction d with
 | zero =>
  intro i xs hi hx
  refine Ev.step (f := fun _ => some (columnR l n)) (fun k => ?_) (Ev.now _)
  simp only [bag_columnOf.l0]
  rw [if_neg (by omega), hx, List.take_of_length_le (by omega)]
  simp [columnR]
 | succ d ih =>
  intro i xs hi hx
  have hlt : i < l.length := by omega
  have hxl : xs.length = l.length := by rw [hx]; simp; omega
  have hset : xs.set i (rd_T27 l[i] n) = (l.take (i + 1)).map (fun r => rd_T27 r n) ++ List.replicate d z27 := by
   rw [hx, List.replicate_succ, take_snoc _ _ hlt, List.set_append_right _ _ (by simp; omega)]
   simp only [List.length_map, List.length_take, Nat.min_eq_left (Nat.le_of_lt hlt), Nat.sub_self, List.set_cons_zero, List.map_append]
   simp
  by_cases c : n < (l[i].length : Int)
  · refine Ev.step (f := fun k => bag_columnOf.l0 k n (xs.set i (rd_T27 l[i] n)) l (l.length : Int) ((i + 1 : Nat) : Int)) (fun k => ?_) (ih (i + 1) _ (by omega) hset)
    simp only [bag_columnOf.l0]
    rw [if_pos (by omega), if_pos (by omega), if_pos (by omega), rdL_at hlt, if_pos c, if_pos h0, if_pos (by omega), w64 _ (by omega) (by omega), Int.toNat_natCast]
    rfl
  · have hz : rd_T27 l[i] n = z27 := by
     unfold rd_T27
     rw [List.getD_eq_getElem?_getD, List.getElem?_eq_none (by omega)]
     rfl
    have hsame : xs.set i (rd_T27 l[i] n) = xs := by
     rw [hz, hx, List.replicate_succ, List.set_append_right _ _ (by simp; omega)]
     simp [Nat.min_eq_left (Nat.le_of_lt hlt)]
    refine Ev.step (f := fun k => bag_columnOf.l0 k n xs l (l.length : Int) ((i + 1 : Nat) : Int)) (fun k => ?_) (ih (i + 1) _ (by omega) (by rw [← hset, hsame]))
    simp only [bag_columnOf.l0]
    rw [if_pos (by omega), if_pos (by omega), if_pos (by omega), rdL_at hlt, if_neg c, w64 _ (by omega) (by omega)]
    rfl
theorem columnOf_ev (l : List (List V)) (n : Int) (h0 : 0 ≤ n) (hn : l.length ≤ 1099511627776) : Ev (fun k => bag_columnOf.f k l n) (columnR l n) := by
 refine Ev.congr (f := fun k => bag_columnOf.l0 k n (List.replicate l.length z27) l (l.length : Int) ((0 : Nat) : Int)) (fun k => ?_) (columnOf_l0 l n h0 hn l.length 0 _ (by omega) (by simp))
 unfold bag_columnOf.f
 rw [if_pos (by omega), Int.toNat_natCast, if_pos (by omega)]
 rfl
def kindFrom : Int → List V → Option Int
 | k, [] => some k
 | k, v :: vs => if validV v = true ∧ (k = 0 ∨ v.f0 = 0 ∨ v.f0 = k) then kindFrom (if v.f0 = 0 then k else v.f0) vs else none
def allowedB (fn : Int) (d : Bool) (vs : List V) : Bool :=
 if fn > 5 ∨ fn = 0 ∧ d = true then false else match kindFrom 0 vs with
  | none => false
  | some k => decide (k = 0 ∨ k = 1 ∨ fn ≠ 2 ∧ fn ≠ 5)
theorem allowed_l0 (fn : Int) (vs : List V) (hv : ∀ v ∈ vs, VOk v) (hn : vs.length ≤ 1099511627776) : ∀ (d i : Nat) (k0 : Int), i + d = vs.length →
 Ev (fun k => bag_allowed.l0 k fn k0 vs (vs.length : Int) (i : Int)) (match kindFrom k0 (vs.drop i) with
 | none => false
 | some k => decide (k = 0 ∨ k = 1 ∨ fn ≠ 2 ∧ fn ≠ 5)) := by
 intro d
 induction d with
 | zero =>
  intro i k0 hi
  rw [List.drop_eq_nil_of_le (by omega)]
  refine Ev.step (f := fun _ => some (decide (k0 = 0 ∨ k0 = 1 ∨ fn ≠ 2 ∧ fn ≠ 5))) (fun k => ?_) (Ev.now _)
  simp only [bag_allowed.l0]
  rw [if_neg (by omega)]
  by_cases c0 : k0 = 0
  · simp [c0]
  · by_cases c1 : k0 = 1
    · simp [c1]
    · by_cases c2 : fn = 2
      · simp [c0, c1, c2]
      · by_cases c3 : fn = 5 <;> simp [c0, c1, c2, c3]
 | succ d ih =>
  intro i k0 hi
  have hlt : i < vs.length := by omega
  rw [drop_cons vs i hlt]
  have hvv := valid_value vs[i] (hv _ (List.getElem_mem hlt))
  have one : ∀ k, bag_allowed.l0 (k + 1) fn k0 vs (vs.length : Int) (i : Int) = if validV vs[i] = true then (if k0 = 0 then bag_allowed.j2 k fn k0 vs (vs.length : Int) (i : Int) false vs[i].f0 vs[i].f1 vs[i].f2 else if vs[i].f0 = 0 then bag_allowed.j2 k fn k0 vs (vs.length : Int) (i : Int) false vs[i].f0 vs[i].f1 vs[i].f2 else bag_allowed.j2 k fn k0 vs (vs.length : Int) (i : Int) (vs[i].f0 != k0) vs[i].f0 vs[i].f1 vs[i].f2) else bag_allowed.j2 k fn k0 vs (vs.length : Int) (i : Int) true vs[i].f0 vs[i].f1 vs[i].f2 := fun k => by
   simp only [bag_allowed.l0]
   rw [if_pos (by omega), if_pos (by omega), if_pos (by omega), rdV_at hlt, hvv]
   simp only [Option.bind_some]
  have bad : Ev (fun k => bag_allowed.j2 k fn k0 vs (vs.length : Int) (i : Int) true vs[i].f0 vs[i].f1 vs[i].f2) false :=
   Ev.step (f := fun _ => some false) (fun k => by simp [bag_allowed.j2]) (Ev.now _)
  have good : ∀ b, Ev (fun k => bag_allowed.l0 k fn (if vs[i].f0 = 0 then k0 else vs[i].f0) vs (vs.length : Int) ((i + 1 : Nat) : Int)) b → Ev (fun k => bag_allowed.j2 k fn k0 vs (vs.length : Int) (i : Int) false vs[i].f0 vs[i].f1 vs[i].f2) b := fun b hb =>
   Ev.step (fun k => by
    simp only [bag_allowed.j2]
    rw [if_neg (by simp), w64 _ (by omega) (by omega)]
    by_cases c : vs[i].f0 = 0
    · rw [if_pos c, if_pos c]; rfl
    · rw [if_neg c, if_neg c]; rfl) hb
  simp only [kindFrom]
  by_cases c0 : validV vs[i] = true
  · by_cases c1 : k0 = 0 ∨ vs[i].f0 = 0 ∨ vs[i].f0 = k0
    · rw [if_pos ⟨c0, c1⟩]
      refine Ev.step (f := fun k => bag_allowed.j2 k fn k0 vs (vs.length : Int) (i : Int) false vs[i].f0 vs[i].f1 vs[i].f2) (fun k => ?_) (good _ (ih (i + 1) _ (by omega)))
      rw [one, if_pos c0]
      by_cases d1 : k0 = 0
      · rw [if_pos d1]
      · rw [if_neg d1]
        by_cases d2 : vs[i].f0 = 0
        · rw [if_pos d2]
        · rw [if_neg d2, show (vs[i].f0 != k0) = false by simp; omega]
    · rw [if_neg (fun h => c1 h.2)]
      refine Ev.step (f := fun k => bag_allowed.j2 k fn k0 vs (vs.length : Int) (i : Int) true vs[i].f0 vs[i].f1 vs[i].f2) (fun k => ?_) bad
      rw [one, if_pos c0, if_neg (by omega), if_neg (by omega), show (vs[i].f0 != k0) = true by simp; omega]
  · rw [if_neg (fun h => c0 h.1)]
    refine Ev.step (f := fun k => bag_allowed.j2 k fn k0 vs (vs.length : Int) (i : Int) true vs[i].f0 vs[i].f1 vs[i].f2) (fun k => ?_) bad
    rw [one, if_neg c0]
theorem allowed_ev (fn : Int) (d : Bool) (vs : List V) (hv : ∀ v ∈ vs, VOk v) (hn : vs.length ≤ 1099511627776) : Ev (fun k => bag_allowed.f k fn d vs) (allowedB fn d vs) := by
 have bad : Ev (fun k => bag_allowed.j0 k fn vs true) false := Ev.step (f := fun _ => some false) (fun k => by simp [bag_allowed.j0]) (Ev.now _)
 have good := allowed_l0 fn vs hv hn vs.length 0 0 (by omega)
 rw [List.drop_zero] at good
 have good2 : Ev (fun k => bag_allowed.j0 k fn vs false) (match kindFrom 0 vs with
  | none => false
  | some k => decide (k = 0 ∨ k = 1 ∨ fn ≠ 2 ∧ fn ≠ 5)) := Ev.step (fun k => by simp only [bag_allowed.j0]; rw [if_neg (by simp)]; rfl) good
 unfold allowedB
 by_cases c0 : fn > 5
 · rw [if_pos (.inl c0)]
   exact Ev.congr (fun k => by unfold bag_allowed.f; rw [if_pos c0]) bad
 · by_cases c1 : fn = 0
   · cases d with
     | true =>
      rw [if_pos (.inr ⟨c1, rfl⟩)]
      exact Ev.congr (fun k => by unfold bag_allowed.f; rw [if_neg c0, if_pos c1]) bad
     | false =>
      rw [if_neg (by simp; omega)]
      exact Ev.congr (fun k => by unfold bag_allowed.f; rw [if_neg c0, if_pos c1]) good2
   · rw [if_neg (by omega)]
     exact Ev.congr (fun k => by unfold bag_allowed.f; rw [if_neg c0, if_neg c1]) good2
theorem rowStep_kind : ∀ (ks : List Int) (r : List V) (ks' : List Int), rowStep ks r = some ks' → ks'.length = ks.length ∧ (∀ j : Nat, ks.getD j 0 ≠ 0 → ks'.getD j 0 = ks.getD j 0) ∧ ∀ (j : Nat) (h : j < r.length), r[j].f0 = 0 ∨ r[j].f0 = ks'.getD j 0
 | [], [], ks', h => by
  simp [rowStep] at h; subst h; simp
 | [], _ :: _, _, h => by simp [rowStep] at h
 | _ :: _, [], _, h => by simp [rowStep] at h
 | k :: ks, v :: vs, ks', h => by
  simp only [rowStep] at h
  split at h
  · rename_i hv
    cases hr : rowStep ks vs with
    | none => simp [hr] at h
    | some t =>
     simp [hr] at h
     subst h
     obtain ⟨i1, i2, i3⟩ := rowStep_kind ks vs t hr
     refine ⟨by simp [i1], fun j hj => ?_, fun j hj => ?_⟩
     · cases j with
       | zero =>
        simp only [List.getD_cons_zero] at hj ⊢
        rw [if_neg hj]
       | succ j =>
        simp only [List.getD_cons_succ] at hj ⊢
        exact i2 j hj
     · cases j with
       | zero =>
        simp only [List.getElem_cons_zero, List.getD_cons_zero]
        split
        · exact .inr rfl
        · omega
       | succ j =>
        simp only [List.getElem_cons_succ, List.getD_cons_succ]
        exact i3 j (by simpa using hj)
  · cases h
theorem validFrom_kind : ∀ (l : List (List V)) (ks : List Int), validFrom ks l = true → ∃ K : List Int, (∀ j : Nat, ks.getD j 0 ≠ 0 → K.getD j 0 = ks.getD j 0) ∧ ∀ r ∈ l, ∀ (j : Nat) (h : j < r.length), r[j].f0 = 0 ∨ r[j].f0 = K.getD j 0
 | [], ks, _ => ⟨ks, fun _ _ => rfl, by simp⟩
 | r :: rs, ks, h => by
  simp only [validFrom] at h
  cases hr : rowStep ks r with
  | none => simp [hr] at h
  | some t =>
   rw [hr] at h
   obtain ⟨i1, i2, i3⟩ := rowStep_kind ks r t hr
   obtain ⟨K, k1, k2⟩ := validFrom_kind rs t h
   refine ⟨K, fun j hj => ?_, fun u hu j hj => ?_⟩
   · rw [← i2 j hj]
     exact k1 j (by rw [i2 j hj]; exact hj)
   · rcases List.mem_cons.1 hu with rfl | hu
     · rcases i3 j hj with h0 | h0
       · exact .inl h0
       · by_cases hz : t.getD j 0 = 0
         · exact .inl (h0.trans hz)
         · exact .inr (by rw [k1 j hz]; exact h0)
     · exact k2 u hu j hj
theorem kindFrom_some (K : Int) : ∀ (vs : List V) (k : Int), (∀ v ∈ vs, validV v = true ∧ (v.f0 = 0 ∨ v.f0 = K)) → (k = 0 ∨ k = K) → ∃ r, kindFrom k vs = some r ∧ (r = 0 ∨ r = K)
 | [], k, _, hk => ⟨k, rfl, hk⟩
 | v :: vs, k, h, hk => by
  have hv := h v List.mem_cons_self
  simp only [kindFrom]
  rw [if_pos ⟨hv.1, by omega⟩]
  exact kindFrom_some K vs _ (fun u hu => h u (List.mem_cons_of_mem _ hu)) (by split <;> omega)
theorem col_kind {l : List (List V)} (hv : validB l = true) (n : Int) : ∃ K : Int, ∀ row ∈ l, validV (rd_T27 row n) = true ∧ ((rd_T27 row n).f0 = 0 ∨ (rd_T27 row n).f0 = K) := by
 have hz : validV z27 = true := by
  unfold validV noText z27
  simp [ByteArray.toList_eq]
 cases l with
 | nil => exact ⟨0, by simp⟩
 | cons r rs =>
  obtain ⟨K, _, hK⟩ := validFrom_kind (r :: rs) _ hv
  refine ⟨K.getD n.toNat 0, fun row hrow => ?_⟩
  by_cases h : n.toNat < row.length
  · have e : rd_T27 row n = row[n.toNat] := by simp [rd_T27, List.getElem?_eq_getElem h]
    rw [e]
    exact ⟨validB_valid hv row hrow _ (List.getElem_mem h), hK row hrow n.toNat h⟩
  · have e : rd_T27 row n = z27 := by
     unfold rd_T27
     rw [List.getD_eq_getElem?_getD, List.getElem?_eq_none (by omega)]
     rfl
    rw [e]
    exact ⟨hz, .inl rfl⟩
theorem col_allowed {l ls : List (List V)} (hv : validB l = true) (hs : ∀ row ∈ ls, row ∈ l) (n : Int) : allowedB 0 false (columnR ls n) = true := by
 obtain ⟨K, hK⟩ := col_kind hv n
 obtain ⟨r, hr, _⟩ := kindFrom_some K (columnR ls n) 0 (fun v hv => by
  obtain ⟨row, hrow, rfl⟩ := List.mem_map.1 hv
  exact hK row (hs row hrow)) (.inl rfl)
 unfold allowedB
 rw [if_neg (by simp), hr]
 simp
theorem pickV_all : ∀ (vs : List V) (seen : List ByteArray), pickV 0 false seen vs = vs
 | [], _ => rfl
 | v :: vs, seen => by
  rw [pickV, if_neg (by simp), if_neg (by simp), pickV_all vs seen]
def okInt (v : V) : Prop := -9223372036854775808 ≤ v.f1 ∧ v.f1 ≤ 9223372036854775807
def cStep (n : Int) (_ : V) : Int := wrap64 (n + 1)
def tStep (s : Int × Int × Int) (v : V) : Int × Int × Int := ((s.1 + IntKind.u64.wrap (v.f1 / 9223372036854775808) + (s.2.1 + IntKind.u64.wrap v.f1) / 18446744073709551616) % 18446744073709551616, (s.2.1 + IntKind.u64.wrap v.f1) % 18446744073709551616, IntKind.u64.wrap (s.2.2 + 1))
def countG : Gath where
 σ := Int
 T := 99
 S := 101
 take := 126
 done := 125
 cells := fun n => #[.int .i64 n]
 init := 0
 step := cStep
 out := fun n => (1, n, ⟨#[]⟩, 0)
 good := fun _ => True
 inv := fun _ => True
 inv0 := trivial
 step_inv := fun _ _ _ _ => trivial
 hmt := fun a w => by kernel_rfl
 hmd := fun a w => by kernel_rfl
 het := enters_of Tryd.func126 (by kernel_rfl) rfl
 hed := enters_of Tryd.func125 (by kernel_rfl) rfl
 htake := fun b s v w _ _ hb => counter_take b s v w hb
 fin := fun _ => True
 hdone := fun b s w _ _ hb => counter_done b s w hb
def totalG : Gath where
 σ := Int × Int × Int
 T := 89
 S := 92
 take := 116
 done := 115
 cells := fun s => #[.int .u64 s.1, .int .u64 s.2.1, .int .u64 s.2.2]
 init := (0, 0, 0)
 step := tStep
 out := fun s => totalOut s.1 s.2.1 s.2.2
 good := fun _ => True
 inv := fun s => 0 ≤ s.1 ∧ 0 ≤ s.2.1 ∧ s.2.1 < 18446744073709551616
 inv0 := by decide
 step_inv := fun s v _ _ => by
  simp only [tStep]
  omega
 hmt := fun a w => by kernel_rfl
 hmd := fun a w => by kernel_rfl
 het := enters_of Tryd.func116 (by kernel_rfl) rfl
 hed := enters_of Tryd.func115 (by kernel_rfl) rfl
 htake := fun b s v w hi _ hb => total_take 92 b s.1 s.2.1 s.2.2 v w hb hi.1 hi.2.1 hi.2.2
 fin := fun _ => True
 hdone := fun b s w _ _ hb => total_done b s.1 s.2.1 s.2.2 w hb _ _ _ _ rfl
theorem count_fold : ∀ (vs : List V) (n : Int), 0 ≤ n → n + vs.length ≤ 1099511627776 → vs.foldl cStep n = n + vs.length
 | [], n, _, _ => by simp
 | v :: vs, n, h0, h1 => by
  have hl : ((v :: vs).length : Int) = vs.length + 1 := by simp
  rw [hl] at h1 ⊢
  rw [List.foldl_cons]
  show vs.foldl cStep (wrap64 (n + 1)) = _
  rw [w64 n h0 (by omega), count_fold vs (n + 1) (by omega) (by omega)]
  omega
def sumV : List V → Int
 | [] => 0
 | v :: vs => v.f1 + sumV vs
theorem sumV_bd : ∀ vs : List V, (∀ v ∈ vs, okInt v) → -9223372036854775808 * (vs.length : Int) ≤ sumV vs ∧ sumV vs ≤ 9223372036854775807 * (vs.length : Int)
 | [], _ => by simp [sumV]
 | v :: vs, h => by
  have h1 := h v List.mem_cons_self
  have h2 := sumV_bd vs (fun u hu => h u (List.mem_cons_of_mem _ hu))
  have hl : ((v :: vs).length : Int) = vs.length + 1 := by simp
  unfold okInt at h1
  simp only [sumV, hl]
  omega
theorem u64w (x : Int) : IntKind.u64.wrap x = x % 18446744073709551616 := by
 simp [IntKind.wrap, IntKind.bits, IntKind.signed]
def stOf (S : Int) (n : Int) : Int × Int × Int := ((S / 18446744073709551616) % 18446744073709551616, S % 18446744073709551616, n)
theorem total_step (S n : Int) (v : V) (hv : okInt v) (h0 : 0 ≤ n) (h1 : n ≤ 1099511627776) : tStep (stOf S n) v = stOf (S + v.f1) (n + 1) := by
 unfold okInt at hv
 unfold stOf tStep
 simp only [u64w]
 refine Prod.ext ?_ (Prod.ext ?_ ?_)
 · show (S / 18446744073709551616 % 18446744073709551616 + v.f1 / 9223372036854775808 % 18446744073709551616 + (S % 18446744073709551616 + v.f1 % 18446744073709551616) / 18446744073709551616) % 18446744073709551616 = (S + v.f1) / 18446744073709551616 % 18446744073709551616
   rcases (by omega : v.f1 < 0 ∨ 0 ≤ v.f1) with h | h
   · have e1 : v.f1 / 9223372036854775808 = -1 := by omega
     rw [e1]
     omega
   · have e1 : v.f1 / 9223372036854775808 = 0 := by omega
     rw [e1]
     omega
 · show (S % 18446744073709551616 + v.f1 % 18446744073709551616) % 18446744073709551616 = (S + v.f1) % 18446744073709551616
   omega
 · show (n + 1) % 18446744073709551616 = n + 1
   omega
theorem total_fold : ∀ (vs : List V) (S n : Int), (∀ v ∈ vs, okInt v) → 0 ≤ n → n + vs.length ≤ 1099511627776 → vs.foldl tStep (stOf S n) = stOf (S + sumV vs) (n + vs.length)
 | [], S, n, _, _, _ => by simp [sumV]
 | v :: vs, S, n, h, h0, h1 => by
  have hl : ((v :: vs).length : Int) = vs.length + 1 := by simp
  rw [hl] at h1 ⊢
  rw [List.foldl_cons, total_step S n v (h v List.mem_cons_self) h0 (by omega), total_fold vs _ _ (fun u hu => h u (List.mem_cons_of_mem _ hu)) (by omega) (by omega)]
  simp only [sumV]
  congr 1 <;> omega
def sumR (vs : List V) : Int × Int × ByteArray × Int :=
 if vs = [] then (0, 0, ⟨#[]⟩, 0) else if -9223372036854775808 ≤ sumV vs ∧ sumV vs ≤ 9223372036854775807 then (1, sumV vs, ⟨#[]⟩, 0) else (0, 0, ⟨#[]⟩, 4)
theorem wrap64_eq (x : Int) (h0 : 0 ≤ x) (h1 : x < 18446744073709551616) : wrap64 x = if x < 9223372036854775808 then x else x - 18446744073709551616 := by
 unfold wrap64
 split <;> omega
theorem total_out (vs : List V) (h : ∀ v ∈ vs, okInt v) (hn : vs.length ≤ 1099511627776) : totalG.out (vs.foldl totalG.step totalG.init) = sumR vs := by
 have e := total_fold vs 0 0 h (by omega) (by omega)
 have e0 : stOf 0 0 = (0, 0, 0) := by decide
 rw [e0] at e
 change (fun s : Int × Int × Int => totalOut s.1 s.2.1 s.2.2) (vs.foldl tStep (0, 0, 0)) = _
 rw [e]
 have hb := sumV_bd vs h
 rw [Int.zero_add, Int.zero_add]
 unfold stOf totalOut sumR
 obtain ⟨S, hS⟩ : ∃ S, S = sumV vs := ⟨_, rfl⟩
 rw [← hS] at hb ⊢
 by_cases c0 : vs = []
 · subst c0
   simp
 · have hp : 0 < vs.length := List.length_pos_iff.2 c0
   rw [if_neg c0]
   dsimp only
   rw [if_neg (by omega)]
   rw [wrap64_eq _ (by omega) (by omega), u64w]
   by_cases c : -9223372036854775808 ≤ S ∧ S ≤ 9223372036854775807
   · rw [if_pos c]
     split
     · rw [if_pos (by omega)]
       congr 2
       omega
     · rw [if_pos (by omega)]
       congr 2
       omega
   · rw [if_neg c]
     split
     · rw [if_neg (by omega)]
     · rw [if_neg (by omega)]
theorem extreme_done (b : Nat) (sg : Int) (so : Bool) (v : V) (w : World) (hb : w.heap[b]? = some (.cells #[.int .i64 sg, .bool so, .int .u8 v.f0, .int .i64 v.f1, .string v.f2] 98 (0, 0))) :
 Calls Tryd.prog 123 #[.pointer (some ⟨b, 0, none⟩)] w fun e w' => e = .returned (.agg #[.int .u8 v.f0, .int .i64 v.f1, .string v.f2, .int .i64 0]) ∧ Below w.heap.size w w' := by
 have hlt : b < w.heap.size := (Array.getElem?_eq_some_iff.1 hb).1
 have HLT := Aside0.mk hlt
 have HBK := Aside0.mk hb
 clear hb hlt
 go_enter Tryd.func123, Tryd.ntmps123
 go_wp2_with (first | ((with_reducible refine gate_dst (N := 2) rfl ?_); refine box_event ?hg (N := 2) ?hd (cs := #[.int .u8 0, .int .i64 0, .string (⟨#[]⟩ : ByteArray), .int .i64 0]) (t := 31) ?hr ?_; (case hd => rfl); (case hg => rfl); (case hr => first | (go_simp; done) | (go_simp; rfl)); intro q hq W hN hb1; have C0 := (hb1.block b HLT.out).trans HBK.out; have HB1 := Aside0.mk hb1; have HQ := Aside0.mk hq; have HN0 := Aside0.mk hN; have F2 : W.cell? ⟨b, 2, none⟩ = some (.int .u8 v.f0) := (blk_cell C0 2).trans rfl; have F3 : W.cell? ⟨b, 3, none⟩ = some (.int .i64 v.f1) := (blk_cell C0 3).trans rfl; have F5 : W.cell? ⟨b, 4, none⟩ = some (.string v.f2) := (blk_cell C0 4).trans rfl; have G0 : W.cell? ⟨q, 0, none⟩ = some (.int .u8 0) := (blk_cell hN 0).trans rfl; have G1 : W.cell? ⟨q, 1, none⟩ = some (.int .i64 0) := (blk_cell hN 1).trans rfl; have G2 : W.cell? ⟨q, 2, none⟩ = some (.string ⟨#[]⟩) := (blk_cell hN 2).trans rfl; have G3 : W.cell? ⟨q, 3, none⟩ = some (.int .i64 0) := (blk_cell hN 3).trans rfl; have F4 : ∀ j, W.frozen? ⟨q, j, none⟩ = false := (fun j => by simp [World.frozen?, hN]); clear hb1 hq hN C0))
 refine bodyPost_ret (results_cell_row rfl _ _ q 31 #[.int .u8 v.f0, .int .i64 v.f1, .string v.f2, .int .i64 0] (0, 0) _ rfl (out_cells HN0.out _ _ _ _) Tryd.underlying31 rfl (by kernel_rfl)) rfl ?_
 exact ⟨rfl, out_below HB1.out HQ.out _ _ _ _⟩
def eStep (sg : Int) (s : Bool × V) (v : V) : Bool × V := if s.1 = false ∨ sg * compareV v s.2 < 0 then (true, v) else s
theorem extreme_take (b : Nat) (sg : Int) (so : Bool) (u v : V) (w : World) (hb : w.heap[b]? = some (.cells #[.int .i64 sg, .bool so, .int .u8 u.f0, .int .i64 u.f1, .string u.f2] 98 (0, 0))) (hs : sg = 1 ∨ sg = -1) (hk : KindOk v) :
 Calls Tryd.prog 124 #[.pointer (some ⟨b, 0, none⟩), .agg #[.int .u8 v.f0, .int .i64 v.f1, .string v.f2]] w fun e w' => e = .returned (.tuple #[]) ∧ w'.heap[b]? = some (.cells #[.int .i64 sg, .bool (eStep sg (so, u) v).1, .int .u8 (eStep sg (so, u) v).2.f0, .int .i64 (eStep sg (so, u) v).2.f1, .string (eStep sg (so, u) v).2.f2] 98 (0, 0)) ∧ w.grownBy w' (some b) := by
 have hlt : b < w.heap.size := (Array.getElem?_eq_some_iff.1 hb).1
 have HLT := Aside0.mk hlt
 have HBK := Aside0.mk hb
 have HK := Aside0.mk hk
 have HS := Aside0.mk hs
 clear hb hlt hk hs
 cases so with
 | false =>
  have HCALL : ∀ W : World, Aside0 (Calls Tryd.prog 59 #[.agg #[.int .u8 v.f0, .int .i64 v.f1, .string v.f2], .agg #[.int .u8 u.f0, .int .i64 u.f1, .string u.f2]] W fun e w' => e = .returned (.int .i64 (compareV v u)) ∧ Gr W w') := fun W => ⟨compare_calls v u HK.out W⟩
  obtain ⟨c, hc⟩ : ∃ c, c = compareV v u := ⟨_, rfl⟩
  simp only [← hc] at HCALL
  have hm : IntKind.i64.wrap (sg * c) = sg * c := by
   have h1 := compareV_bd v u
   rw [← hc] at h1
   simp only [i64_w]
   unfold wrap64
   rcases HS.out with rfl | rfl <;> omega
  have HC := Aside0.mk hc
  clear hc
  go_enter Tryd.func124, Tryd.ntmps124
  go_wp2_with (first | ((with_reducible refine gate_dst (N := 3) rfl ?_); refine box_event ?hg (N := 3) ?hd (cs := #[.int .u8 v.f0, .int .i64 v.f1, .string v.f2]) (t := 27) ?hr ?_; (case hd => rfl); (case hg => rfl); (case hr => first | (go_simp; done) | (go_simp; rfl)); intro q hq W hN hb1; have C0 := (hb1.block b HLT.out).trans HBK.out; have HB1 := Aside0.mk hb1; have HC0 := Aside0.mk C0; have HQ := Aside0.mk hq; have HNB := Aside0.mk hN; have E0 : W.cell? ⟨b, 0, none⟩ = some (.int .i64 sg) := (blk_cell C0 0).trans rfl; have E1 : W.cell? ⟨b, 1, none⟩ = some (.bool false) := (blk_cell C0 1).trans rfl; have E2 : W.cell? ⟨b, 2, none⟩ = some (.int .u8 u.f0) := (blk_cell C0 2).trans rfl; have E3 : W.cell? ⟨b, 3, none⟩ = some (.int .i64 u.f1) := (blk_cell C0 3).trans rfl; have E4 : W.cell? ⟨b, 4, none⟩ = some (.string u.f2) := (blk_cell C0 4).trans rfl; have N0 : W.cell? ⟨q, 0, none⟩ = some (.int .u8 v.f0) := (blk_cell hN 0).trans rfl; have N1 : W.cell? ⟨q, 1, none⟩ = some (.int .i64 v.f1) := (blk_cell hN 1).trans rfl; have N2 : W.cell? ⟨q, 2, none⟩ = some (.string v.f2) := (blk_cell hN 2).trans rfl; clear hb1 hq hN C0))
  refine wp_region_held_drew (S := (fun W' => W'.cell? ⟨b, 1, none⟩ = some (.bool false))) (by kernel_rfl) E1 (fun hHeld => ?_)
  refine wpAnyH_take (i := 0) (oi := ⟨some 4, _, _, _, _, _⟩) (v := ?_) rfl (by kernel_rfl) (by kernel_rfl) (by kernel_rfl) (fun _ _ _ h => h) (Or.inl ⟨by rfl, ?_⟩) (by assumption) ?_
  rotate_left
  · intro w' hSw
    try dsimp only at hSw
    go_simp
    try with_reducible rfl
  try simp only [Act.put, sTA_, sCZ_, sCS_]
  refine wpAnyH_take (i := 1) (oi := ⟨some 5, _, _, _, _, _⟩) (v := ?_) rfl (by kernel_rfl) (by kernel_rfl) (by kernel_rfl) (fun _ _ _ h => h) (Or.inl ⟨by rfl, ?_⟩) (by assumption) ?_
  rotate_left
  · intro w' hSw
    try dsimp only at hSw
    go_simp
    try with_reducible rfl
  try simp only [Act.put, sTA_, sCZ_, sCS_]
  refine wpAnyH_take (i := 2) (oi := ⟨some 6, _, _, _, _, _⟩) (v := ?_) rfl (by kernel_rfl) (by kernel_rfl) (by kernel_rfl) (fun _ _ _ h => h) (Or.inl ⟨by rfl, ?_⟩) (by assumption) ?_
  rotate_left
  · intro w' hSw
    try dsimp only at hSw
    go_simp
    try with_reducible rfl
  try simp only [Act.put, sTA_, sCZ_, sCS_]
  refine wpAnyH_take (i := 3) (oi := ⟨some 7, _, _, _, _, _⟩) (v := ?_) rfl (by kernel_rfl) (by kernel_rfl) (by kernel_rfl) (fun _ _ _ h => h) (Or.inl ⟨by rfl, ?_⟩) (by assumption) ?_
  rotate_left
  · intro w' hSw
    try dsimp only at hSw
    go_simp
    try with_reducible rfl
  try simp only [Act.put, sTA_, sCZ_, sCS_]
  refine wpAnyH_take (i := 4) (oi := ⟨some 8, _, _, _, _, _⟩) (v := ?_) rfl (by kernel_rfl) (by kernel_rfl) (by kernel_rfl) (fun _ _ _ h => h) (Or.inl ⟨by rfl, ?_⟩) (by assumption) ?_
  rotate_left
  · intro w' hSw
    try dsimp only at hSw
    go_simp
    try with_reducible rfl
  try simp only [Act.put, sTA_, sCZ_, sCS_]
  refine wpAnyH_take (i := 5) (oi := ⟨some 9, _, _, _, _, _⟩) (v := ?_) rfl (by kernel_rfl) (by kernel_rfl) (by kernel_rfl) (fun _ _ _ h => h) (Or.inl ⟨by rfl, ?_⟩) (by assumption) ?_
  rotate_left
  · intro w' hSw
    try dsimp only at hSw
    go_simp
    try with_reducible rfl
  try simp only [Act.put, sTA_, sCZ_, sCS_]
  refine wpAnyH_take (i := 6) (oi := ⟨some 10, _, _, _, _, _⟩) (v := undef) rfl (by kernel_rfl) (by kernel_rfl) (by kernel_rfl) (fun _ _ _ h => h) (Or.inr ⟨by rfl, rfl⟩) (by assumption) ?_
  simp only [Act.put, sTA_, sCZ_, sCS_]
  refine wpAnyH_take (i := 7) (oi := ⟨some 11, _, _, _, _, _⟩) (v := undef) rfl (by kernel_rfl) (by kernel_rfl) (by kernel_rfl) (fun _ _ _ h => h) (Or.inr ⟨by rfl, rfl⟩) (by assumption) ?_
  simp only [Act.put, sTA_, sCZ_, sCS_]
  refine wpAnyH_take (i := 8) (oi := ⟨some 12, _, _, _, _, _⟩) (v := undef) rfl (by kernel_rfl) (by kernel_rfl) (by kernel_rfl) (fun _ _ _ h => h) (Or.inr ⟨by rfl, rfl⟩) (by assumption) ?_
  simp only [Act.put, sTA_, sCZ_, sCS_]
  refine wpAnyH_take (i := 9) (oi := ⟨some 13, _, _, _, _, _⟩) (v := undef) rfl (by kernel_rfl) (by kernel_rfl) (by kernel_rfl) (fun _ _ _ h => h) (Or.inr ⟨by rfl, rfl⟩) (by assumption) ?_
  simp only [Act.put, sTA_, sCZ_, sCS_]
  refine wpAnyH_take (i := 10) (oi := ⟨some 14, _, _, _, _, _⟩) (v := undef) rfl (by kernel_rfl) (by kernel_rfl) (by kernel_rfl) (fun _ _ _ h => h) (Or.inr ⟨by rfl, rfl⟩) (by assumption) ?_
  simp only [Act.put, sTA_, sCZ_, sCS_]
  refine wpAnyH_take (i := 11) (oi := ⟨some 15, _, _, _, _, _⟩) (v := undef) rfl (by kernel_rfl) (by kernel_rfl) (by kernel_rfl) (fun _ _ _ h => h) (Or.inr ⟨by rfl, rfl⟩) (by assumption) ?_
  simp only [Act.put, sTA_, sCZ_, sCS_]
  refine wpAnyH_take (i := 12) (oi := ⟨some 16, _, _, _, _, _⟩) (v := undef) rfl (by kernel_rfl) (by kernel_rfl) (by kernel_rfl) (fun _ _ _ h => h) (Or.inr ⟨by rfl, rfl⟩) (by assumption) ?_
  simp only [Act.put, sTA_, sCZ_, sCS_]
  refine wpAnyH_take (i := 13) (oi := ⟨some 17, _, _, _, _, _⟩) (v := undef) rfl (by kernel_rfl) (by kernel_rfl) (by kernel_rfl) (fun _ _ _ h => h) (Or.inr ⟨by rfl, rfl⟩) (by assumption) ?_
  simp only [Act.put, sTA_, sCZ_, sCS_]
  refine wpAnyH_take (i := 14) (oi := ⟨some 18, _, _, _, _, _⟩) (v := undef) rfl (by kernel_rfl) (by kernel_rfl) (by kernel_rfl) (fun _ _ _ h => h) (Or.inr ⟨by rfl, rfl⟩) (by assumption) ?_
  simp only [Act.put, sTA_, sCZ_, sCS_]
  refine wpAnyH_take (i := 15) (oi := ⟨some 19, _, _, _, _, _⟩) (v := undef) rfl (by kernel_rfl) (by kernel_rfl) (by kernel_rfl) (fun _ _ _ h => h) (Or.inr ⟨by rfl, rfl⟩) (by assumption) ?_
  simp only [Act.put, sTA_, sCZ_, sCS_]
  refine wpAnyH_take (i := 16) (oi := ⟨some 20, _, _, _, _, _⟩) (v := undef) rfl (by kernel_rfl) (by kernel_rfl) (by kernel_rfl) (fun _ _ _ h => h) (Or.inr ⟨by rfl, rfl⟩) (by assumption) ?_
  simp only [Act.put, sTA_, sCZ_, sCS_]
  refine wpAnyH_take (i := 17) (oi := ⟨some 21, _, _, _, _, _⟩) (v := undef) rfl (by kernel_rfl) (by kernel_rfl) (by kernel_rfl) (fun _ _ _ h => h) (Or.inr ⟨by rfl, rfl⟩) (by assumption) ?_
  simp only [Act.put, sTA_, sCZ_, sCS_]
  refine wpAnyH_take (i := 18) (oi := ⟨some 22, _, _, _, _, _⟩) (v := ?_) rfl (by kernel_rfl) (by kernel_rfl) (by kernel_rfl) (fun _ _ _ h => h) (Or.inl ⟨by rfl, ?_⟩) (by assumption) ?_
  rotate_left
  · intro w' hSw
    try dsimp only at hSw
    go_simp
    try with_reducible rfl
  try simp only [Act.put, sTA_, sCZ_, sCS_]
  refine wpAnyH_done (by kernel_rfl) ?_ _
  have HBW : Aside0 (Below W.heap.size W W.drew) := ⟨(Below.refl _ W).drew⟩
  obtain ⟨W2, hW2⟩ : ∃ W2, W2 = W.drew := ⟨_, rfl⟩
  rw [← hW2]
  rw [← hW2] at HBW
  have C2 := (HBW.out.block b (blk_lt HC0.out)).trans HC0.out
  have N2_ := (HBW.out.block q (blk_lt HNB.out)).trans HNB.out
  have HC2 := Aside0.mk C2
  have n0 : W2.cell? ⟨q, 0, none⟩ = some (.int .u8 v.f0) := (blk_cell N2_ 0).trans rfl
  have n1 : W2.cell? ⟨q, 1, none⟩ = some (.int .i64 v.f1) := (blk_cell N2_ 1).trans rfl
  have n2 : W2.cell? ⟨q, 2, none⟩ = some (.string v.f2) := (blk_cell N2_ 2).trans rfl
  have HNE : q ≠ b := fun e => by have := HQ.out; have := HLT.out; omega
  have hfz : ∀ j, W2.frozen? ⟨b, j, none⟩ = false := fun j => by simp [World.frozen?, C2]
  have e0 : W2.cell? ⟨b, 0, none⟩ = some (.int .i64 sg) := (blk_cell C2 0).trans rfl
  have e1 : W2.cell? ⟨b, 1, none⟩ = some (.bool false) := (blk_cell C2 1).trans rfl
  have e2 : W2.cell? ⟨b, 2, none⟩ = some (.int .u8 u.f0) := (blk_cell C2 2).trans rfl
  have e3 : W2.cell? ⟨b, 3, none⟩ = some (.int .i64 u.f1) := (blk_cell C2 3).trans rfl
  have e4 : W2.cell? ⟨b, 4, none⟩ = some (.string u.f2) := (blk_cell C2 4).trans rfl
  clear C2 N2_ hW2
  go_wp2
  go_region
  go_wp2
  have HES : Aside0 (eStep sg (false, u) v = (true, v)) := ⟨if_pos (.inl rfl)⟩
  go_end0
  refine ⟨rfl, ?_, ?_⟩
  · rw [HES.out]
    exact (blk_set (blk_set (blk_set (blk_set HC2.out 1 _) 2 _) 3 _) 4 _).trans rfl
  · exact grownBy_set (grownBy_set0 (grownBy_set0 (grownBy_set0 (below_grownBy (HB1.out.trans (HBW.out.mono HB1.out.size))) 1 _) 2 _) 3 _) 4 _
 | true =>
  have HCALL : ∀ W : World, Aside0 (Calls Tryd.prog 59 #[.agg #[.int .u8 v.f0, .int .i64 v.f1, .string v.f2], .agg #[.int .u8 u.f0, .int .i64 u.f1, .string u.f2]] W fun e w' => e = .returned (.int .i64 (compareV v u)) ∧ Gr W w') := fun W => ⟨compare_calls v u HK.out W⟩
  obtain ⟨c, hc⟩ : ∃ c, c = compareV v u := ⟨_, rfl⟩
  simp only [← hc] at HCALL
  have hm : IntKind.i64.wrap (sg * c) = sg * c := by
   have h1 := compareV_bd v u
   rw [← hc] at h1
   simp only [i64_w]
   unfold wrap64
   rcases HS.out with rfl | rfl <;> omega
  have HC := Aside0.mk hc
  clear hc
  go_enter Tryd.func124, Tryd.ntmps124
  go_wp2_with (first | ((with_reducible refine gate_dst (N := 3) rfl ?_); refine box_event ?hg (N := 3) ?hd (cs := #[.int .u8 v.f0, .int .i64 v.f1, .string v.f2]) (t := 27) ?hr ?_; (case hd => rfl); (case hg => rfl); (case hr => first | (go_simp; done) | (go_simp; rfl)); intro q hq W hN hb1; have C0 := (hb1.block b HLT.out).trans HBK.out; have HB1 := Aside0.mk hb1; have HC0 := Aside0.mk C0; have HQ := Aside0.mk hq; have HNB := Aside0.mk hN; have E0 : W.cell? ⟨b, 0, none⟩ = some (.int .i64 sg) := (blk_cell C0 0).trans rfl; have E1 : W.cell? ⟨b, 1, none⟩ = some (.bool true) := (blk_cell C0 1).trans rfl; have E2 : W.cell? ⟨b, 2, none⟩ = some (.int .u8 u.f0) := (blk_cell C0 2).trans rfl; have E3 : W.cell? ⟨b, 3, none⟩ = some (.int .i64 u.f1) := (blk_cell C0 3).trans rfl; have E4 : W.cell? ⟨b, 4, none⟩ = some (.string u.f2) := (blk_cell C0 4).trans rfl; have N0 : W.cell? ⟨q, 0, none⟩ = some (.int .u8 v.f0) := (blk_cell hN 0).trans rfl; have N1 : W.cell? ⟨q, 1, none⟩ = some (.int .i64 v.f1) := (blk_cell hN 1).trans rfl; have N2 : W.cell? ⟨q, 2, none⟩ = some (.string v.f2) := (blk_cell hN 2).trans rfl; clear hb1 hq hN C0))
  go_region_held3 (fun W' => W'.cell? ⟨b, 0, none⟩ = some (.int .i64 sg) ∧ W'.cell? ⟨b, 1, none⟩ = some (.bool true) ∧ W'.cell? ⟨b, 2, none⟩ = some (.int .u8 u.f0) ∧ W'.cell? ⟨b, 3, none⟩ = some (.int .i64 u.f1) ∧ W'.cell? ⟨b, 4, none⟩ = some (.string u.f2) ∧ W'.cell? ⟨q, 0, none⟩ = some (.int .u8 v.f0) ∧ W'.cell? ⟨q, 1, none⟩ = some (.int .i64 v.f1) ∧ W'.cell? ⟨q, 2, none⟩ = some (.string v.f2)) (go_keep) (first | (go_at_call 59; (with_reducible refine (HCALL _).out.mono ?_); rintro e w1 ⟨rfl, hg1⟩; have r0 := cB_ (w := W.drew) hg1.below E0; have r1 := cB_ (w := W.drew) hg1.below E1; have r2 := cB_ (w := W.drew) hg1.below E2; have r3 := cB_ (w := W.drew) hg1.below E3; have r4 := cB_ (w := W.drew) hg1.below E4; have r5 := cB_ (w := W.drew) hg1.below N0; have r6 := cB_ (w := W.drew) hg1.below N1; have r7 := cB_ (w := W.drew) hg1.below N2; have HB2 := Aside0.mk ((Below.refl _ W).drew.trans hg1.below); clear hg1))
  clear r0 r1 r2 r3 r4 r5 r6 r7 E0 E1 E2 E3 E4 N0 N1 N2
  have HBW : Aside0 (Below W.heap.size W w1) := ⟨HB2.out⟩
  obtain ⟨W2, hW2⟩ : ∃ W2, W2 = w1 := ⟨_, rfl⟩
  rw [← hW2]
  rw [← hW2] at HBW
  have C2 := (HBW.out.block b (blk_lt HC0.out)).trans HC0.out
  have N2_ := (HBW.out.block q (blk_lt HNB.out)).trans HNB.out
  have HC2 := Aside0.mk C2
  have n0 : W2.cell? ⟨q, 0, none⟩ = some (.int .u8 v.f0) := (blk_cell N2_ 0).trans rfl
  have n1 : W2.cell? ⟨q, 1, none⟩ = some (.int .i64 v.f1) := (blk_cell N2_ 1).trans rfl
  have n2 : W2.cell? ⟨q, 2, none⟩ = some (.string v.f2) := (blk_cell N2_ 2).trans rfl
  have HNE : q ≠ b := fun e => by have := HQ.out; have := HLT.out; omega
  have hfz : ∀ j, W2.frozen? ⟨b, j, none⟩ = false := fun j => by simp [World.frozen?, C2]
  have e0 : W2.cell? ⟨b, 0, none⟩ = some (.int .i64 sg) := (blk_cell C2 0).trans rfl
  have e1 : W2.cell? ⟨b, 1, none⟩ = some (.bool true) := (blk_cell C2 1).trans rfl
  have e2 : W2.cell? ⟨b, 2, none⟩ = some (.int .u8 u.f0) := (blk_cell C2 2).trans rfl
  have e3 : W2.cell? ⟨b, 3, none⟩ = some (.int .i64 u.f1) := (blk_cell C2 3).trans rfl
  have e4 : W2.cell? ⟨b, 4, none⟩ = some (.string u.f2) := (blk_cell C2 4).trans rfl
  clear C2 N2_ hW2 HB2
  by_cases hh : sg * c < 0
  · have hb : decide (sg * c < 0) = true := decide_eq_true hh
    have HES : Aside0 (eStep sg (true, u) v = (true, v)) := ⟨if_pos (.inr (by rw [HC.out] at hh; exact hh))⟩
    clear hh
    rw [hb]
    go_wp2
    go_region
    go_wp2
    go_end0
    refine ⟨rfl, ?_, ?_⟩
    · rw [HES.out]
      exact (blk_set (blk_set (blk_set (blk_set HC2.out 1 _) 2 _) 3 _) 4 _).trans rfl
    · exact grownBy_set (grownBy_set0 (grownBy_set0 (grownBy_set0 (below_grownBy (HB1.out.trans (HBW.out.mono HB1.out.size))) 1 _) 2 _) 3 _) 4 _
  · have hb : decide (sg * c < 0) = false := decide_eq_false hh
    have HES : Aside0 (eStep sg (true, u) v = (true, u)) := ⟨if_neg (fun h => by
     rcases h with h | h
     · cases h
     · rw [HC.out] at hh; exact hh h)⟩
    clear hh
    rw [hb]
    go_wp2
    go_end0
    refine ⟨rfl, ?_, below_grownBy (HB1.out.trans (HBW.out.mono HB1.out.size))⟩
    rw [HES.out]
    exact HC2.out
theorem wu64 (x : Int) : IntKind.u64.wrap x = x % 18446744073709551616 := by
 simp [IntKind.wrap, IntKind.bits, IntKind.signed]
theorem knuth (hi lo y p Y yn1 un32 un10 un1 un0 q1 q0 un21 : Nat) (h32 : Y = yn1 * 4294967296) (hY : Y = y * p) (hp : 0 < p) (hhi : hi < y)
 (hN : un32 * 18446744073709551616 + un10 = (hi * 18446744073709551616 + lo) * p) (h1 : un10 = un1 * 4294967296 + un0) (h0 : un0 < 4294967296)
 (hy : 0 < yn1) (hq1 : q1 = un32 / yn1) (h21 : un21 = (un32 % yn1) * 4294967296 + un1) (hq0 : q0 = un21 / yn1) : q1 * 4294967296 + q0 = (hi * 18446744073709551616 + lo) / y := by
 have e1 : yn1 * q1 + un32 % yn1 = un32 := by rw [hq1]; exact Nat.div_add_mod un32 yn1
 have e2 : yn1 * q0 + un21 % yn1 = un21 := by rw [hq0]; exact Nat.div_add_mod un21 yn1
 have l2 := Nat.mod_lt un21 hy
 obtain ⟨r1, hr1⟩ : ∃ r, r = un32 % yn1 := ⟨_, rfl⟩
 obtain ⟨r0, hr0⟩ : ∃ r, r = un21 % yn1 := ⟨_, rfl⟩
 rw [← hr1] at e1 h21
 rw [← hr0] at e2 l2
 have hy0 : 0 < y := by omega
 obtain ⟨A, hA⟩ : ∃ A, A = yn1 * q1 := ⟨_, rfl⟩
 obtain ⟨B, hB⟩ : ∃ B, B = yn1 * q0 := ⟨_, rfl⟩
 have e3 : (q1 * 4294967296 + q0) * Y = A * 18446744073709551616 + B * 4294967296 := by
  rw [h32, hA, hB, Nat.add_mul]
  congr 1
  · rw [Nat.mul_mul_mul_comm, Nat.mul_comm q1 yn1]
  · rw [← Nat.mul_assoc, Nat.mul_comm q0 yn1]
 rw [← hA] at e1
 rw [← hB] at e2
 have lt : (hi * 18446744073709551616 + lo) * p = (q1 * 4294967296 + q0) * Y + (r0 * 4294967296 + un0) := by
  rw [e3, ← hN]; omega
 have lt2 : r0 * 4294967296 + un0 < Y := by rw [h32]; omega
 have : (hi * 18446744073709551616 + lo) * p / (y * p) = q1 * 4294967296 + q0 := by
  rw [← hY, lt, Nat.mul_comm (q1 * 4294967296 + q0) Y, Nat.mul_add_div (by omega), Nat.div_eq_of_lt lt2, Nat.add_zero]
 rw [← this, Nat.mul_div_mul_right _ _ hp]
theorem vstep (U t1 W rh V : Nat) (eV : V = rh * 4294967296 + t1) (hd : W + rh = U) (hl : V < 18446744073709551616) :
 IntKind.u64.wrap (IntKind.u64.wrap (IntKind.u64.wrap ((U : Int) * 4294967296) + (t1 : Int)) - IntKind.u64.wrap ((W * 4294967296 : Nat) : Int)) = (V : Int) := by
 rw [wu64, wu64, wu64, wu64]
 omega
theorem div_facts (hi lo y : Int) (h0 : 0 ≤ hi) (h1 : hi < y) (h2 : y < 4294967296) (h3 : 0 ≤ lo) (h4 : lo < 18446744073709551616) :
 ∃ s p Y n1 H t p2 L1 U T t1 t0 q1 Q rh R1 R A1 A2 A3 V q0 B1 rh2 C1 C2 D1 : Int,
  64 - (Lib.bitLen y.toNat : Int) = s ∧ IntKind.u64.wrap s = s ∧ (2 : Int) ^ min s.toNat 64 = p ∧ IntKind.u64.wrap (y * p) = Y ∧ Y / 4294967296 = n1 ∧ bits BinOp.and IntKind.u64 Y 4294967295 = 0 ∧
  IntKind.u64.wrap (hi * p) = H ∧ IntKind.u64.wrap (64 - s) = t ∧ (2 : Int) ^ min t.toNat 64 = p2 ∧ lo / p2 = L1 ∧ bits BinOp.or IntKind.u64 H L1 = U ∧
  IntKind.u64.wrap (lo * p) = T ∧ T / 4294967296 = t1 ∧ bits BinOp.and IntKind.u64 T 4294967295 = t0 ∧
  ¬ n1 = 0 ∧ IntKind.u64.wrap (U.tdiv n1) = q1 ∧ IntKind.u64.wrap (q1 * n1) = Q ∧ IntKind.u64.wrap (U - Q) = rh ∧
  decide (4294967296 ≤ q1) = false ∧ IntKind.u64.wrap (4294967296 * rh) = R1 ∧ IntKind.u64.wrap (R1 + t1) = R ∧ decide (R < 0) = false ∧
  IntKind.u64.wrap (U * 4294967296) = A1 ∧ IntKind.u64.wrap (A1 + t1) = A2 ∧ IntKind.u64.wrap (q1 * Y) = A3 ∧ IntKind.u64.wrap (A2 - A3) = V ∧
  IntKind.u64.wrap (V.tdiv n1) = q0 ∧ IntKind.u64.wrap (q0 * n1) = B1 ∧ IntKind.u64.wrap (V - B1) = rh2 ∧
  decide (4294967296 ≤ q0) = false ∧ IntKind.u64.wrap (4294967296 * rh2) = C1 ∧ IntKind.u64.wrap (C1 + t0) = C2 ∧ decide (C2 < 0) = false ∧
  IntKind.u64.wrap (q1 * 4294967296) = D1 ∧ IntKind.u64.wrap (D1 + q0) = (hi * 18446744073709551616 + lo) / y ∧ 0 ≤ s ∧ 0 ≤ t := by
 obtain ⟨hn, rfl⟩ := Int.eq_ofNat_of_zero_le h0
 obtain ⟨ln, rfl⟩ := Int.eq_ofNat_of_zero_le h3
 obtain ⟨yn, rfl⟩ := Int.eq_ofNat_of_zero_le (show 0 ≤ y by omega)
 have k1 : hn < yn := by omega
 have k2 : yn < 4294967296 := by omega
 have k3 : ln < 18446744073709551616 := by omega
 obtain ⟨b, hb⟩ : ∃ b, b = Lib.bitLen yn := ⟨_, rfl⟩
 have hb32 : b ≤ 32 := by rw [hb]; exact Lib.bitLen_le yn 32 (by decide) k2
 obtain ⟨b1, _, b2⟩ := Lib.bitLenAux_bounds 64 yn (Nat.lt_trans k2 (by decide)) (by omega)
 change 1 ≤ Lib.bitLen yn at b1
 change yn < 2 ^ Lib.bitLen yn at b2
 rw [← hb] at b1 b2
 obtain ⟨p2, hp2⟩ : ∃ p2, p2 = 2 ^ b := ⟨_, rfl⟩
 obtain ⟨p0, hp0⟩ : ∃ p0, p0 = 2 ^ (32 - b) := ⟨_, rfl⟩
 have e02 : p0 * p2 = 4294967296 := by rw [hp0, hp2, ← Nat.pow_add, show 32 - b + b = 32 by omega]
 have p0pos : 0 < p0 := by rw [hp0]; exact Nat.two_pow_pos _
 have p2pos : 0 < p2 := by rw [hp2]; exact Nat.two_pow_pos _
 obtain ⟨p, hp⟩ : ∃ p, p = p0 * 4294967296 := ⟨_, rfl⟩
 have hpp : p = 2 ^ (64 - b) := by rw [hp, hp0, show (4294967296 : Nat) = 2 ^ 32 by decide, ← Nat.pow_add, show 32 - b + 32 = 64 - b by omega]
 have e12 : p * p2 = 18446744073709551616 := by rw [hp, Nat.mul_right_comm, e02]
 rw [← hp2] at b2
 have yp : yn * p0 < 4294967296 := by rw [← e02, Nat.mul_comm p0 p2]; exact Nat.mul_lt_mul_of_pos_right b2 p0pos
 obtain ⟨n1, hn1⟩ : ∃ n, n = yn * p0 := ⟨_, rfl⟩
 have n1pos : 0 < n1 := by rw [hn1]; exact Nat.mul_pos (by omega) p0pos
 have hYe : yn * p = n1 * 4294967296 := by rw [hp, hn1, Nat.mul_assoc]
 have hHle : hn * p + p ≤ yn * p := by rw [← Nat.succ_mul]; exact Nat.mul_le_mul_right _ k1
 obtain ⟨L1, hL1⟩ : ∃ x, x = ln / p2 := ⟨_, rfl⟩
 have hL1p : L1 < p := by rw [hL1]; exact Nat.div_lt_of_lt_mul (by rw [Nat.mul_comm, e12]; exact k3)
 obtain ⟨m, hm⟩ : ∃ x, x = ln % p2 := ⟨_, rfl⟩
 have hmp : m < p2 := by rw [hm]; exact Nat.mod_lt _ p2pos
 have hln : ln = p2 * L1 + m := by rw [hL1, hm]; exact (Nat.div_add_mod ln p2).symm
 have hT : ln * p = L1 * 18446744073709551616 + m * p := by rw [hln, Nat.add_mul, Nat.mul_right_comm, Nat.mul_comm p2 p, e12, Nat.mul_comm]
 have hTl : m * p < 18446744073709551616 := by rw [← e12, Nat.mul_comm p p2]; exact Nat.mul_lt_mul_of_pos_right hmp (by omega)
 obtain ⟨T, hTT⟩ : ∃ x, x = m * p := ⟨_, rfl⟩
 rw [← hTT] at hT hTl
 obtain ⟨H, hH⟩ : ∃ x, x = hn * p := ⟨_, rfl⟩
 rw [← hH, hYe] at hHle
 obtain ⟨U, hU⟩ : ∃ x, x = H + L1 := ⟨_, rfl⟩
 have hUl : U < n1 * 4294967296 := by omega
 rw [← hn1] at yp
 obtain ⟨q1, hq1⟩ : ∃ x, x = U / n1 := ⟨_, rfl⟩
 obtain ⟨rh, hrh⟩ : ∃ x, x = U % n1 := ⟨_, rfl⟩
 have d1 : n1 * q1 + rh = U := by rw [hq1, hrh]; exact Nat.div_add_mod U n1
 have d1l : rh < n1 := by rw [hrh]; exact Nat.mod_lt _ n1pos
 have q1l : q1 < 4294967296 := by rw [hq1]; exact Nat.div_lt_of_lt_mul hUl
 obtain ⟨W, hW⟩ : ∃ x, x = n1 * q1 := ⟨_, rfl⟩
 rw [← hW] at d1
 obtain ⟨t1, ht1⟩ : ∃ x, x = T / 4294967296 := ⟨_, rfl⟩
 obtain ⟨t0, ht0⟩ : ∃ x, x = T % 4294967296 := ⟨_, rfl⟩
 obtain ⟨V, hV⟩ : ∃ x, x = rh * 4294967296 + t1 := ⟨_, rfl⟩
 have hVl : V < n1 * 4294967296 := by omega
 obtain ⟨q0, hq0⟩ : ∃ x, x = V / n1 := ⟨_, rfl⟩
 obtain ⟨r2, hr2⟩ : ∃ x, x = V % n1 := ⟨_, rfl⟩
 have d2 : n1 * q0 + r2 = V := by rw [hq0, hr2]; exact Nat.div_add_mod V n1
 have d2l : r2 < n1 := by rw [hr2]; exact Nat.mod_lt _ n1pos
 have q0l : q0 < 4294967296 := by rw [hq0]; exact Nat.div_lt_of_lt_mul hVl
 obtain ⟨X, hX⟩ : ∃ x, x = n1 * q0 := ⟨_, rfl⟩
 rw [← hX] at d2
 have key := knuth hn ln yn p (n1 * 4294967296) n1 U T t1 t0 q1 q0 V rfl hYe.symm (by omega) k1 (by rw [hU, hH, Nat.add_mul (hn * 18446744073709551616), hT]; rw [Nat.mul_right_comm hn]; omega) (by omega) (by omega) n1pos hq1 (by rw [hV, hrh]) hq0
 have eQ : ((q1 : Int)) * (n1 : Int) = (W : Int) := by rw [hW, Nat.mul_comm]; exact (Int.natCast_mul q1 n1).symm
 have eB : ((q0 : Int)) * (n1 : Int) = (X : Int) := by rw [hX, Nat.mul_comm]; exact (Int.natCast_mul q0 n1).symm
 have eY : ((yn : Int)) * (p : Int) = ((n1 * 4294967296 : Nat) : Int) := by rw [← hYe]; exact (Int.natCast_mul yn p).symm
 have eH : ((hn : Int)) * (p : Int) = (H : Int) := by rw [hH]; exact (Int.natCast_mul hn p).symm
 have eT : ((ln : Int)) * (p : Int) = ((L1 * 18446744073709551616 + T : Nat) : Int) := by rw [← hT]; exact (Int.natCast_mul ln p).symm
 have eA : ((q1 : Int)) * ((n1 * 4294967296 : Nat) : Int) = ((W * 4294967296 : Nat) : Int) := by rw [Int.natCast_mul, ← Int.mul_assoc, eQ]; rfl
 have hk64 : ∀ n : Int, 0 ≤ n → n < 2 ^ 64 → IntKind.u64.wrap n = n := fun n a c => by rw [wu64]; omega
 refine ⟨((64 - b : Nat) : Int), (p : Int), ((n1 * 4294967296 : Nat) : Int), (n1 : Int), (H : Int), (b : Int), (p2 : Int), (L1 : Int), (U : Int), (T : Int), (t1 : Int), (t0 : Int), (q1 : Int), (W : Int), (rh : Int), ((4294967296 * rh : Nat) : Int), ((4294967296 * rh + t1 : Nat) : Int), IntKind.u64.wrap ((U : Int) * 4294967296), IntKind.u64.wrap (IntKind.u64.wrap ((U : Int) * 4294967296) + (t1 : Int)), IntKind.u64.wrap ((q1 : Int) * ((n1 * 4294967296 : Nat) : Int)), (V : Int), (q0 : Int), (X : Int), (r2 : Int), ((4294967296 * r2 : Nat) : Int), ((4294967296 * r2 + t0 : Nat) : Int), ((q1 * 4294967296 : Nat) : Int), ?_⟩
 refine ⟨?_, ?_, ?_, ?_, ?_, ?_, ?_, ?_, ?_, ?_, ?_, ?_, ?_, ?_, ?_, ?_, ?_, ?_, ?_, ?_, ?_, ?_, rfl, rfl, rfl, ?_, ?_, ?_, ?_, ?_, ?_, ?_, ?_, ?_, ?_, ?_, ?_⟩
 · rw [Int.toNat_natCast, ← hb]; omega
 · rw [wu64]; omega
 · rw [Int.toNat_natCast, show min (64 - b) 64 = 64 - b by omega, hpp]; simp
 · rw [eY, wu64]; omega
 · omega
 · have := bits_mask .u64 64 (by decide) hk64 32 (by decide) ((n1 * 4294967296 : Nat) : Int) (by omega) (by omega)
   rw [show ((2 : Int) ^ 32 - 1) = 4294967295 by decide] at this
   rw [this]
   omega
 · rw [eH, wu64]; omega
 · rw [wu64]; omega
 · rw [Int.toNat_natCast, show min b 64 = b by omega, hp2]; simp
 · rw [hL1]; exact (Int.natCast_ediv ln p2).symm
 · rw [hU]
   have hmod : ((H : Nat) : Int) % 2 ^ (64 - b) = 0 := by
    have e : ((2 : Int) ^ (64 - b)) = (p : Int) := by rw [hpp]; simp
    rw [e, hH, ← Int.natCast_emod, Nat.mul_mod_left]
    rfl
   have hlt : (L1 : Int) < 2 ^ (64 - b) := by
    have e : ((2 : Int) ^ (64 - b)) = (p : Int) := by rw [hpp]; simp
    rw [e]; omega
   have := bits_join .u64 64 (by decide) hk64 (64 - b) (H : Int) (L1 : Int) (by omega) hmod (by omega) (by omega) hlt (by omega)
   rw [this]
   omega
 · rw [eT, wu64]; omega
 · omega
 · have := bits_mask .u64 64 (by decide) hk64 32 (by decide) (T : Int) (by omega) (by omega)
   rw [show ((2 : Int) ^ 32 - 1) = 4294967295 by decide] at this
   rw [this]
   omega
 · omega
 · rw [← Int.ofNat_tdiv, ← hq1, wu64]; omega
 · rw [eQ, wu64]; omega
 · rw [wu64]; omega
 · exact decide_eq_false (by omega)
 · rw [wu64]; omega
 · rw [wu64]; omega
 · exact decide_eq_false (by omega)
 · rw [eA]; exact vstep U t1 W rh V hV d1 (by omega)
 · rw [← Int.ofNat_tdiv, ← hq0, wu64]; omega
 · rw [eB, wu64]; omega
 · rw [wu64]; omega
 · exact decide_eq_false (by omega)
 · rw [wu64]; omega
 · rw [wu64]; omega
 · exact decide_eq_false (by omega)
 · rw [wu64]; omega
 · rw [wu64]
   have e : ((hn : Int) * 18446744073709551616 + (ln : Int)) = ((hn * 18446744073709551616 + ln : Nat) : Int) := by omega
   rw [e, ← Int.natCast_ediv, ← key]
   omega
 · omega
 · omega
theorem div64_calls (hi lo y : Int) (h0 : 0 ≤ hi) (h1 : hi < y) (h2 : y < 4294967296) (h3 : 0 ≤ lo) (h4 : lo < 18446744073709551616) (w : World) :
 Calls Tryd.prog 121 #[.int .u64 hi, .int .u64 lo, .int .u64 y] w fun e w' => ∃ r, e = .returned (.tuple #[.int .u64 ((hi * 18446744073709551616 + lo) / y), .int .u64 r]) ∧ Below w.heap.size w w' := by
 have z1 : (y == 0) = false := by simp; omega
 have z2 : decide (y ≤ hi) = false := decide_eq_false (by omega)
 have z5 : ¬ y = 0 := by omega
 by_cases c0 : hi = 0
 · have z3 : (hi == 0) = true := by simpa using c0
   have HB : Aside0 (Below w.heap.size w w.drew) := ⟨(Below.refl _ w).drew⟩
   have HQ : Aside0 (IntKind.u64.wrap (lo.tdiv y) = (hi * 18446744073709551616 + lo) / y) := ⟨by
    rw [c0, Int.zero_mul, Int.zero_add]
    obtain ⟨ln, rfl⟩ := Int.eq_ofNat_of_zero_le h3
    obtain ⟨yn, rfl⟩ := Int.eq_ofNat_of_zero_le (show 0 ≤ y by omega)
    rw [← Int.ofNat_tdiv, ← Int.natCast_ediv, wu64]
    have h5 := Nat.div_le_self ln yn
    obtain ⟨d, hd⟩ : ∃ d, d = ln / yn := ⟨_, rfl⟩
    rw [← hd] at h5 ⊢
    omega⟩
   clear h0 h1 h2 h3 h4 c0
   go_enter Tryd.func121, Tryd.ntmps121
   go_wp2
   go_region
   go_wp2
   go_ret2
   exact ⟨_, by rw [HQ.out]; rfl, HB.out⟩
 · have z3 : (hi == 0) = false := by simpa using c0
   have HL := Aside0.mk (Tryd.bits_LeadingZeros64 y w (by omega) (by omega))
   obtain ⟨s, p, Y, n1, H, t, p2, L1, U, T, t1, t0, q1, Q, rh, R1, R, A1, A2, A3, V, q0, B1, rh2, C1, C2, D1, f1, f2, f3, f4, f5, f6, f7, f8, f9, f10, f11, f12, f13, f14, f15, f16, f17, f18, f19, f20, f21, f22, f23, f24, f25, f26, f27, f28, f29, f30, f31, f32, f33, f34, f35, f36, f37⟩ := div_facts hi lo y h0 h1 h2 h3 h4
   rw [f1] at HL
   have HD := Aside0.mk f35
   have g0 : IntKind.u64.wrap 0 = 0 := by decide
   have g1 : decide (0 > R) = false := f22
   have g2 : decide (0 > C2) = false := f33
   clear h0 h1 h2 h3 h4 c0 f35 f1
   go_enter Tryd.func121, Tryd.ntmps121
   go_wp2_with fail
   refine HL.out.mono ?_
   rintro e w1 ⟨rfl, rfl⟩
   clear HL
   go_wp2
   go_rounds 1
   go_rounds 1
   go_ret2
   exact ⟨_, by rw [HD.out]; rfl, Below.refl _ _⟩
end Go.Proofs.YtecgkcgfeghhgaaDoor.PAll
set_option linter.unusedVariables false
set_option linter.unusedSimpArgs false
namespace Go.Proofs.YtecgkcgfeghhgaaDoor.PAll
open Go.RowKit Go.Proofs.YtecgkcgfeghhgaaDoorW.PrintWords Go.Proofs.YtecgkcgfeghhgaaDoorW.PrintLast Go.Proofs.YtecgkcgfeghhgaaDoorW.PrintMore
open Go.Shelf Go.Lib
theorem sub64 (y c : Int) (hy : 0 ≤ y) (hy1 : y < 18446744073709551616) (hc : 0 ≤ c) (hc1 : c ≤ 1) (w : World) :
 (callFunc 120 #[.int .u64 0, .int .u64 y, .int .u64 c]).run Tryd.prog w = .ok (.value (.tuple #[.int .u64 ((18446744073709551616 - y - c) % 18446744073709551616), .int .u64 (if 0 < y + c then 1 else 0)])) w := by
 obtain ⟨b, rfl⟩ := Int.eq_ofNat_of_zero_le hy
 obtain ⟨d, rfl⟩ := Int.eq_ofNat_of_zero_le hc
 have h := Any7.bits_Sub64 sub64L 0 b d (by omega) w
 change (callFunc 120 _).run _ _ = _ at h
 have e1 : (((0 + 18446744073709551616 - b - d) % 18446744073709551616 : Nat) : Int) = (18446744073709551616 - (b : Int) - (d : Int)) % 18446744073709551616 := by omega
 have e2 : ((if 0 < b + d then 1 else 0 : Nat) : Int) = if 0 < (b : Int) + (d : Int) then 1 else 0 := by split <;> split <;> omega
 rw [e1, e2] at h
 exact h
theorem mean_zero (b : Nat) (h l n : Int) (w : World) (hb : w.heap[b]? = some (.cells #[.int .u64 h, .int .u64 l, .int .u64 n] 95 (0, 0))) (hn : n = 0) :
 Calls Tryd.prog 119 #[.pointer (some ⟨b, 0, none⟩)] w fun e w' => e = .returned (.agg #[.int .u8 0, .int .i64 0, .string ⟨#[]⟩, .int .i64 0]) ∧ Below w.heap.size w w' := by
 have hlt : b < w.heap.size := (Array.getElem?_eq_some_iff.1 hb).1
 have HLT := Aside0.mk hlt
 have HBK := Aside0.mk hb
 have hnb : (n == 0) = true := by simp [hn]
 clear hb hlt hn
 go_enter Tryd.func119, Tryd.ntmps119
 go_wp2_with (first | ((with_reducible refine gate_dst (N := 2) rfl ?_); refine box_event ?hg (N := 2) ?hd (cs := #[.int .u8 0, .int .i64 0, .string (⟨#[]⟩ : ByteArray), .int .i64 0]) (t := 31) ?hr ?_; (case hd => rfl); (case hg => rfl); (case hr => first | (go_simp; done) | (go_simp; rfl)); intro q hq W hN hb1; have C0 := (hb1.block b HLT.out).trans HBK.out; have HC0 := Aside0.mk C0; have HB1 := Aside0.mk hb1; have HQ := Aside0.mk hq; have HN0 := Aside0.mk hN; have F0 : W.cell? ⟨b, 0, none⟩ = some (.int .u64 h) := (blk_cell C0 0).trans rfl; have F1 : W.cell? ⟨b, 1, none⟩ = some (.int .u64 l) := (blk_cell C0 1).trans rfl; have F2 : W.cell? ⟨b, 2, none⟩ = some (.int .u64 n) := (blk_cell C0 2).trans rfl; have G0 : W.cell? ⟨q, 0, none⟩ = some (.int .u8 0) := (blk_cell hN 0).trans rfl; have G1 : W.cell? ⟨q, 1, none⟩ = some (.int .i64 0) := (blk_cell hN 1).trans rfl; have G2 : W.cell? ⟨q, 2, none⟩ = some (.string ⟨#[]⟩) := (blk_cell hN 2).trans rfl; have G3 : W.cell? ⟨q, 3, none⟩ = some (.int .i64 0) := (blk_cell hN 3).trans rfl; have F4 : ∀ j, W.frozen? ⟨q, j, none⟩ = false := (fun j => by simp [World.frozen?, hN]); clear hb1 hq hN C0))
 refine bodyPost_ret (results_cell_row rfl _ _ q 31 #[.int .u8 0, .int .i64 0, .string (⟨#[]⟩ : ByteArray), .int .i64 0] (0, 0) _ rfl (out_cells HN0.out _ _ _ _) Tryd.underlying31 rfl (by kernel_rfl)) rfl ?_
 exact ⟨rfl, out_below HB1.out HQ.out _ _ _ _⟩
theorem mean_some (b : Nat) (h l n : Int) (w : World) (hb : w.heap[b]? = some (.cells #[.int .u64 h, .int .u64 l, .int .u64 n] 95 (0, 0))) (h0 : 0 ≤ h) (h1 : h < 18446744073709551616) (l0 : 0 ≤ l) (l1 : l < 18446744073709551616) (n0 : 0 < n) (n1 : n < 4294967296)
 (H L q0 X : Int) (neg : Bool) (hneg : decide (wrap64 h < 0) = neg) (hH : H = if neg = true then (18446744073709551616 - h - (if 0 < l then 1 else 0)) % 18446744073709551616 else h) (hL : L = if neg = true then (18446744073709551616 - l) % 18446744073709551616 else l)
 (hq : (H.tmod n * 18446744073709551616 + L) / n = q0) (hX : X = if neg = true then wrap64 (IntKind.u64.wrap (-q0)) else wrap64 q0) :
 Calls Tryd.prog 119 #[.pointer (some ⟨b, 0, none⟩)] w fun e w' => e = .returned (.agg #[.int .u8 1, .int .i64 X, .string ⟨#[]⟩, .int .i64 0]) ∧ Below w.heap.size w w' := by
 have hlt : b < w.heap.size := (Array.getElem?_eq_some_iff.1 hb).1
 have HLT := Aside0.mk hlt
 have HBK := Aside0.mk hb
 have hnb : (n == 0) = false := by simp; omega
 have hnz : ¬ n = 0 := by omega
 have hm : 0 ≤ H.tmod n ∧ H.tmod n < n := by
  have hh : 0 ≤ H := by rw [hH]; split <;> omega
  exact ⟨Int.tmod_nonneg _ hh, Int.tmod_lt_of_pos _ n0⟩
 have hLb : 0 ≤ L ∧ L < 18446744073709551616 := by rw [hL]; split <;> omega
 obtain ⟨R, hR⟩ : ∃ R, H.tmod n = R := ⟨_, rfl⟩
 rw [hR] at hm hq
 have HDIV : ∀ W : World, Aside0 (Calls Tryd.prog 121 #[.int .u64 R, .int .u64 L, .int .u64 n] W fun e w' => ∃ r, e = .returned (.tuple #[.int .u64 q0, .int .u64 r]) ∧ Below W.heap.size W w') := fun W => ⟨by rw [← hq]; exact div64_calls R L n hm.1 hm.2 n1 hLb.1 hLb.2 W⟩
 cases neg with
 | false =>
  simp only [Bool.false_eq_true, if_false] at hH hL hX
  have hH := hH.symm
  have hL := hL.symm
  have hX := hX.symm
  subst hH
  subst hL
  subst hX
  clear hb hlt h0 h1 l0 l1 n0 n1 hm hLb hq
  go_enter Tryd.func119, Tryd.ntmps119
  go_wp2_with (first | ((with_reducible refine gate_dst (N := 2) rfl ?_); refine box_event ?hg (N := 2) ?hd (cs := #[.int .u8 0, .int .i64 0, .string (⟨#[]⟩ : ByteArray), .int .i64 0]) (t := 31) ?hr ?_; (case hd => rfl); (case hg => rfl); (case hr => first | (go_simp; done) | (go_simp; rfl)); intro q hq W hN hb1; have C0 := (hb1.block b HLT.out).trans HBK.out; have HC0 := Aside0.mk C0; have HB1 := Aside0.mk hb1; have HQ := Aside0.mk hq; have HN0 := Aside0.mk hN; have F0 : W.cell? ⟨b, 0, none⟩ = some (.int .u64 h) := (blk_cell C0 0).trans rfl; have F1 : W.cell? ⟨b, 1, none⟩ = some (.int .u64 l) := (blk_cell C0 1).trans rfl; have F2 : W.cell? ⟨b, 2, none⟩ = some (.int .u64 n) := (blk_cell C0 2).trans rfl; have G0 : W.cell? ⟨q, 0, none⟩ = some (.int .u8 0) := (blk_cell hN 0).trans rfl; have G1 : W.cell? ⟨q, 1, none⟩ = some (.int .i64 0) := (blk_cell hN 1).trans rfl; have G2 : W.cell? ⟨q, 2, none⟩ = some (.string ⟨#[]⟩) := (blk_cell hN 2).trans rfl; have G3 : W.cell? ⟨q, 3, none⟩ = some (.int .i64 0) := (blk_cell hN 3).trans rfl; have F4 : ∀ j, W.frozen? ⟨q, j, none⟩ = false := (fun j => by simp [World.frozen?, hN]); clear hb1 hq hN C0))
  go_region
  obtain ⟨W2, hW2⟩ : ∃ W2, W2 = W.drew := ⟨_, rfl⟩
  rw [← hW2]
  have HBW : Aside0 (Below W.heap.size W W2) := ⟨by rw [hW2]; exact (Below.refl _ W).drew⟩
  clear hW2 F0 F1 F2 F4 G0 G1 G2 G3
  have F2 : W2.cell? ⟨b, 2, none⟩ = some (.int .u64 n) := (blk_cell ((HBW.out.block b (blk_lt HC0.out)).trans HC0.out) 2).trans rfl
  go_wp2
  go_region_held3 (fun W' => W'.cell? ⟨b, 2, none⟩ = some (.int .u64 n)) (go_keep) (first | (go_at_call 121; (with_reducible refine (HDIV _).out.mono ?_); rintro e w1 ⟨r, rfl, hg1⟩; have r0 := cB_ (w := W2.drew) hg1 F2; have HB2 := Aside0.mk ((Below.refl _ W2).drew.trans hg1); clear hg1))
  clear r0 F2
  go_wp2_with fail
  refine (value_Int.calls (wrap64 q0) 1 (wrap64 q0) ⟨#[]⟩ w1 rfl).mono ?_
  rintro e W3 ⟨rfl, hb3⟩
  have HB4 : Aside0 (Below W.heap.size W W3) := ⟨(HBW.out.trans (HB2.out.mono HBW.out.size)).trans (hb3.mono (HBW.out.trans (HB2.out.mono HBW.out.size)).size)⟩
  have hN3 := (HB4.out.block q (blk_lt HN0.out)).trans HN0.out
  have HN3 := Aside0.mk hN3
  have HB3 : Aside0 (Below w.heap.size w W3) := ⟨HB1.out.trans (HB4.out.mono HB1.out.size)⟩
  have G0 : W3.cell? ⟨q, 0, none⟩ = some (.int .u8 0) := (blk_cell hN3 0).trans rfl
  have G1 : W3.cell? ⟨q, 1, none⟩ = some (.int .i64 0) := (blk_cell hN3 1).trans rfl
  have G2 : W3.cell? ⟨q, 2, none⟩ = some (.string ⟨#[]⟩) := (blk_cell hN3 2).trans rfl
  have G3 : W3.cell? ⟨q, 3, none⟩ = some (.int .i64 0) := (blk_cell hN3 3).trans rfl
  have F4 : ∀ j, W3.frozen? ⟨q, j, none⟩ = false := (fun j => by simp [World.frozen?, hN3])
  clear hb3 hN3
  go_wp2
  refine bodyPost_ret (results_cell_row rfl _ _ q 31 #[.int .u8 1, .int .i64 (wrap64 q0), .string (⟨#[]⟩ : ByteArray), .int .i64 0] (0, 0) _ rfl (out_cells HN3.out _ _ _ _) Tryd.underlying31 rfl (by kernel_rfl)) rfl ?_
  exact ⟨rfl, out_below HB3.out HQ.out _ _ _ _⟩
 | true =>
  simp only [if_true] at hH hL hX
  obtain ⟨br, hbr⟩ : ∃ br : Int, (if 0 < l then 1 else 0) = br := ⟨_, rfl⟩
  rw [hbr] at hH
  have hb01 : 0 ≤ br ∧ br ≤ 1 := by rw [← hbr]; split <;> omega
  have A1 : ∀ W, (callFunc 120 #[.int .u64 0, .int .u64 l, .int .u64 0]).run Tryd.prog W = .ok (.value (.tuple #[.int .u64 L, .int .u64 br])) W := fun W => by
   rw [sub64 l 0 l0 l1 (by omega) (by omega) W, Int.add_zero, hbr, hL, Int.sub_zero]
  obtain ⟨br2, hbr2⟩ : ∃ br2 : Int, (if 0 < h + br then 1 else 0) = br2 := ⟨_, rfl⟩
  have A2 : ∀ W, (callFunc 120 #[.int .u64 0, .int .u64 h, .int .u64 br]).run Tryd.prog W = .ok (.value (.tuple #[.int .u64 H, .int .u64 br2])) W := fun W => by
   rw [sub64 h br h0 h1 hb01.1 hb01.2 W, hH, hbr2]
  obtain ⟨Q, hQ⟩ : ∃ Q, IntKind.u64.wrap (-q0) = Q := ⟨_, rfl⟩
  rw [hQ] at hX
  have hX := hX.symm
  subst hX
  clear hb hlt h0 h1 l0 l1 n0 n1 hm hLb hq hH hL hbr hbr2 hb01
  go_enter Tryd.func119, Tryd.ntmps119
  go_wp2_with (first | ((with_reducible refine gate_dst (N := 2) rfl ?_); refine box_event ?hg (N := 2) ?hd (cs := #[.int .u8 0, .int .i64 0, .string (⟨#[]⟩ : ByteArray), .int .i64 0]) (t := 31) ?hr ?_; (case hd => rfl); (case hg => rfl); (case hr => first | (go_simp; done) | (go_simp; rfl)); intro q hq W hN hb1; have C0 := (hb1.block b HLT.out).trans HBK.out; have HC0 := Aside0.mk C0; have HB1 := Aside0.mk hb1; have HQ := Aside0.mk hq; have HN0 := Aside0.mk hN; have F0 : W.cell? ⟨b, 0, none⟩ = some (.int .u64 h) := (blk_cell C0 0).trans rfl; have F1 : W.cell? ⟨b, 1, none⟩ = some (.int .u64 l) := (blk_cell C0 1).trans rfl; have F2 : W.cell? ⟨b, 2, none⟩ = some (.int .u64 n) := (blk_cell C0 2).trans rfl; have G0 : W.cell? ⟨q, 0, none⟩ = some (.int .u8 0) := (blk_cell hN 0).trans rfl; have G1 : W.cell? ⟨q, 1, none⟩ = some (.int .i64 0) := (blk_cell hN 1).trans rfl; have G2 : W.cell? ⟨q, 2, none⟩ = some (.string ⟨#[]⟩) := (blk_cell hN 2).trans rfl; have G3 : W.cell? ⟨q, 3, none⟩ = some (.int .i64 0) := (blk_cell hN 3).trans rfl; have F4 : ∀ j, W.frozen? ⟨q, j, none⟩ = false := (fun j => by simp [World.frozen?, hN]); clear hb1 hq hN C0))
  go_region
  obtain ⟨W2, hW2⟩ : ∃ W2, W2 = W.drew := ⟨_, rfl⟩
  rw [← hW2]
  have HBW : Aside0 (Below W.heap.size W W2) := ⟨by rw [hW2]; exact (Below.refl _ W).drew⟩
  clear hW2 F0 F1 F2 F4 G0 G1 G2 G3
  have F2 : W2.cell? ⟨b, 2, none⟩ = some (.int .u64 n) := (blk_cell ((HBW.out.block b (blk_lt HC0.out)).trans HC0.out) 2).trans rfl
  go_wp2
  go_region_held3 (fun W' => W'.cell? ⟨b, 2, none⟩ = some (.int .u64 n)) (go_keep) (first | (go_at_call 121; (with_reducible refine (HDIV _).out.mono ?_); rintro e w1 ⟨r, rfl, hg1⟩; have r0 := cB_ (w := W2.drew) hg1 F2; have HB2 := Aside0.mk ((Below.refl _ W2).drew.trans hg1); clear hg1))
  clear r0 F2
  go_wp2_with fail
  refine (value_Int.calls (wrap64 Q) 1 (wrap64 Q) ⟨#[]⟩ w1 rfl).mono ?_
  rintro e W3 ⟨rfl, hb3⟩
  have HB4 : Aside0 (Below W.heap.size W W3) := ⟨(HBW.out.trans (HB2.out.mono HBW.out.size)).trans (hb3.mono (HBW.out.trans (HB2.out.mono HBW.out.size)).size)⟩
  have hN3 := (HB4.out.block q (blk_lt HN0.out)).trans HN0.out
  have HN3 := Aside0.mk hN3
  have HB3 : Aside0 (Below w.heap.size w W3) := ⟨HB1.out.trans (HB4.out.mono HB1.out.size)⟩
  have G0 : W3.cell? ⟨q, 0, none⟩ = some (.int .u8 0) := (blk_cell hN3 0).trans rfl
  have G1 : W3.cell? ⟨q, 1, none⟩ = some (.int .i64 0) := (blk_cell hN3 1).trans rfl
  have G2 : W3.cell? ⟨q, 2, none⟩ = some (.string ⟨#[]⟩) := (blk_cell hN3 2).trans rfl
  have G3 : W3.cell? ⟨q, 3, none⟩ = some (.int .i64 0) := (blk_cell hN3 3).trans rfl
  have F4 : ∀ j, W3.frozen? ⟨q, j, none⟩ = false := (fun j => by simp [World.frozen?, hN3])
  clear hb3 hN3
  go_wp2
  refine bodyPost_ret (results_cell_row rfl _ _ q 31 #[.int .u8 1, .int .i64 (wrap64 Q), .string (⟨#[]⟩ : ByteArray), .int .i64 0] (0, 0) _ rfl (out_cells HN3.out _ _ _ _) Tryd.underlying31 rfl (by kernel_rfl)) rfl ?_
  exact ⟨rfl, out_below HB3.out HQ.out _ _ _ _⟩
end Go.Proofs.YtecgkcgfeghhgaaDoor.PAll
set_option linter.unusedVariables false
set_option linter.unusedSimpArgs false
namespace Go.Proofs.YtecgkcgfeghhgaaDoor.PAll
open Go.RowKit Go.Proofs.YtecgkcgfeghhgaaDoorW.PrintWords Go.Proofs.YtecgkcgfeghhgaaDoorW.PrintLast Go.Proofs.YtecgkcgfeghhgaaDoorW.PrintMore
def meanH (h l : Int) : Int := if decide (wrap64 h < 0) = true then (18446744073709551616 - h - (if 0 < l then 1 else 0)) % 18446744073709551616 else h
def meanL (h l : Int) : Int := if decide (wrap64 h < 0) = true then (18446744073709551616 - l) % 18446744073709551616 else l
def meanQ (h l n : Int) : Int := ((meanH h l).tmod n * 18446744073709551616 + meanL h l) / n
def meanX (h l n : Int) : Int := if decide (wrap64 h < 0) = true then wrap64 (IntKind.u64.wrap (-meanQ h l n)) else wrap64 (meanQ h l n)
def meanOut (h l n : Int) : Int × Int × ByteArray × Int := if n = 0 then (0, 0, ⟨#[]⟩, 0) else (1, meanX h l n, ⟨#[]⟩, 0)
def meanG : Gath where
 σ := Int × Int × Int
 T := 93
 S := 95
 take := 116
 done := 119
 cells := fun s => #[.int .u64 s.1, .int .u64 s.2.1, .int .u64 s.2.2]
 init := (0, 0, 0)
 step := tStep
 out := fun s => meanOut s.1 s.2.1 s.2.2
 good := fun _ => True
 inv := fun s => 0 ≤ s.1 ∧ s.1 < 18446744073709551616 ∧ 0 ≤ s.2.1 ∧ s.2.1 < 18446744073709551616
 inv0 := by decide
 step_inv := fun s v _ _ => by
  simp only [tStep]
  omega
 hmt := fun a w => by kernel_rfl
 hmd := fun a w => by kernel_rfl
 het := enters_of Tryd.func116 (by kernel_rfl) rfl
 hed := enters_of Tryd.func119 (by kernel_rfl) rfl
 htake := fun b s v w hi _ hb => total_take 95 b s.1 s.2.1 s.2.2 v w hb hi.1 hi.2.2.1 hi.2.2.2
 fin := fun s => 0 ≤ s.2.2 ∧ s.2.2 < 4294967296
 hdone := fun b s w hi hf hb => by
  by_cases hn : s.2.2 = 0
  · simp only [meanOut, if_pos hn]
    exact mean_zero b s.1 s.2.1 s.2.2 w hb hn
  · simp only [meanOut, if_neg hn]
    exact mean_some b s.1 s.2.1 s.2.2 w hb hi.1 hi.2.1 hi.2.2.1 hi.2.2.2 (by omega) hf.2 _ _ _ _ _ rfl rfl rfl rfl rfl
def extG (sg : Int) (hs : sg = 1 ∨ sg = -1) : Gath where
 σ := Bool × V
 T := 96
 S := 98
 take := 124
 done := 123
 cells := fun s => #[.int .i64 sg, .bool s.1, .int .u8 s.2.f0, .int .i64 s.2.f1, .string s.2.f2]
 init := (false, ⟨0, 0, ⟨#[]⟩⟩)
 step := eStep sg
 out := fun s => (s.2.f0, s.2.f1, s.2.f2, 0)
 good := KindOk
 inv := fun _ => True
 inv0 := trivial
 step_inv := fun _ _ _ _ => trivial
 hmt := fun a w => by kernel_rfl
 hmd := fun a w => by kernel_rfl
 het := enters_of Tryd.func124 (by kernel_rfl) rfl
 hed := enters_of Tryd.func123 (by kernel_rfl) rfl
 htake := fun b s v w _ hk hb => extreme_take b sg s.1 s.2 v w hb hs hk
 fin := fun _ => True
 hdone := fun b s w _ _ hb => extreme_done b sg s.1 s.2 w hb
def avgR (vs : List V) : Int × Int × ByteArray × Int := if vs = [] then (0, 0, ⟨#[]⟩, 0) else (1, (sumV vs).tdiv vs.length, ⟨#[]⟩, 0)
theorem mean_pos (S n : Int) (n0 : 0 < n) (h0 : 0 ≤ S) (h1 : S ≤ 9223372036854775807 * n) (n1 : n < 4294967296) : meanX ((S / 18446744073709551616) % 18446744073709551616) (S % 18446744073709551616) n = S.tdiv n := by
 obtain ⟨h, hh⟩ : ∃ h, h = (S / 18446744073709551616) % 18446744073709551616 := ⟨_, rfl⟩
 obtain ⟨l, hl⟩ : ∃ l, l = S % 18446744073709551616 := ⟨_, rfl⟩
 rw [← hh, ← hl]
 have hb : 0 ≤ h ∧ h < n := by omega
 have hneg : decide (wrap64 h < 0) = false := decide_eq_false (by unfold wrap64; omega)
 have hS : h * 18446744073709551616 + l = S := by omega
 unfold meanX meanQ meanH meanL
 rw [hneg]
 simp only [Bool.false_eq_true, if_false]
 rw [Int.tmod_eq_of_lt hb.1 hb.2, hS, Int.tdiv_eq_ediv_of_nonneg h0]
 have q1 : S / n ≤ 9223372036854775807 := Int.ediv_le_of_le_mul n0 h1
 have q0 : 0 ≤ S / n := Int.ediv_nonneg h0 (by omega)
 obtain ⟨q, hq⟩ : ∃ q, q = S / n := ⟨_, rfl⟩
 rw [← hq] at q0 q1 ⊢
 unfold wrap64
 omega
theorem mean_neg (M n : Int) (n0 : 0 < n) (h0 : 0 < M) (h1 : M ≤ 9223372036854775808 * n) (n1 : n < 4294967296) : meanX ((-M / 18446744073709551616) % 18446744073709551616) (-M % 18446744073709551616) n = (-M).tdiv n := by
 obtain ⟨h, hh⟩ : ∃ h, h = (-M / 18446744073709551616) % 18446744073709551616 := ⟨_, rfl⟩
 obtain ⟨l, hl⟩ : ∃ l, l = -M % 18446744073709551616 := ⟨_, rfl⟩
 rw [← hh, ← hl]
 have hneg : decide (wrap64 h < 0) = true := decide_eq_true (by unfold wrap64; omega)
 have hH : meanH h l = M / 18446744073709551616 := by
  unfold meanH
  rw [if_pos hneg]
  split <;> omega
 have hL : meanL h l = M % 18446744073709551616 := by
  unfold meanL
  rw [if_pos hneg]
  omega
 have hHn : 0 ≤ M / 18446744073709551616 ∧ M / 18446744073709551616 < n := by omega
 have hS : M / 18446744073709551616 * 18446744073709551616 + M % 18446744073709551616 = M := by omega
 unfold meanX meanQ
 rw [if_pos hneg, hH, hL, Int.tmod_eq_of_lt hHn.1 hHn.2, hS, Int.neg_tdiv, Int.tdiv_eq_ediv_of_nonneg (by omega)]
 have q1 : M / n ≤ 9223372036854775808 := Int.ediv_le_of_le_mul n0 h1
 have q0 : 0 ≤ M / n := Int.ediv_nonneg (by omega) (by omega)
 obtain ⟨q, hq⟩ : ∃ q, q = M / n := ⟨_, rfl⟩
 rw [← hq] at q0 q1 ⊢
 rw [u64w]
 unfold wrap64
 omega
theorem mean_fin (vs : List V) (h : ∀ v ∈ vs, okInt v) (hn : vs.length < 4294967296) : meanG.fin (vs.foldl meanG.step meanG.init) ∧ meanG.out (vs.foldl meanG.step meanG.init) = avgR vs := by
 have e := total_fold vs 0 0 h (by omega) (by omega)
 have e0 : stOf 0 0 = (0, 0, 0) := by decide
 rw [e0, Int.zero_add, Int.zero_add] at e
 change (fun s : Int × Int × Int => 0 ≤ s.2.2 ∧ s.2.2 < 4294967296) (vs.foldl tStep (0, 0, 0)) ∧ (fun s : Int × Int × Int => meanOut s.1 s.2.1 s.2.2) (vs.foldl tStep (0, 0, 0)) = _
 rw [e]
 have hb := sumV_bd vs h
 refine ⟨⟨by show (0 : Int) ≤ (vs.length : Int); omega, by show (vs.length : Int) < 4294967296; omega⟩, ?_⟩
 unfold avgR
 by_cases c0 : vs = []
 · subst c0
   simp [stOf, meanOut]
 · have hp : 0 < vs.length := List.length_pos_iff.2 c0
   rw [if_neg c0]
   show meanOut _ _ _ = _
   unfold meanOut
   rw [if_neg (by show ¬ (vs.length : Int) = 0; omega)]
   congr 2
   obtain ⟨S, hS⟩ : ∃ S, S = sumV vs := ⟨_, rfl⟩
   rw [← hS] at hb ⊢
   by_cases c : 0 ≤ S
   · exact mean_pos S vs.length (by omega) c hb.2 (by omega)
   · obtain ⟨M, hM⟩ : ∃ M, M = -S := ⟨_, rfl⟩
     obtain rfl : S = -M := by omega
     exact mean_neg M vs.length (by omega) (by omega) (by omega) (by omega)
theorem aggregate_bad (k : Nat) (fn : Int) (d : Bool) (A2 : Option Addr) (c2 : Nat) (l : List V) (w : World) (hr : Kd.C kV w A2 l.length l) (hc : l.length ≤ c2) (hall : bag_allowed.f k fn d l = some false) :
 Calls Tryd.prog 13 #[.int .u8 fn, .bool d, .slice A2 l.length c2] w fun e w' => e = .returned (.agg #[.int .u8 0, .int .i64 0, .string ⟨#[]⟩, .int .i64 1]) ∧ Below w.heap.size w w' := by
 have HR := Aside0.mk hr
 have HC := Aside0.mk hc
 have HA := Aside0.mk hall
 clear hr hc hall
 go_enter Tryd.func13, Tryd.ntmps13
 go_wp2_with (first | ((with_reducible refine gate_dst (N := 6) rfl ?_); refine box_event ?hg (N := 6) ?hd (cs := #[.int .u8 0, .int .i64 0, .string (⟨#[]⟩ : ByteArray), .int .i64 0]) (t := 31) ?hr ?_; (case hd => rfl); (case hg => rfl); (case hr => first | (go_simp; done) | (go_simp; rfl)); intro q hq W hN hb1; have HB1 := Aside0.mk hb1; have HQ := Aside0.mk hq; have HN0 := Aside0.mk hN; clear hb1 hq hN))
 refine (bag_allowed.calls k fn d A2 c2 l false W (Kd.C_below HR.out HB1.out) HC.out HA.out).mono ?_
 rintro e w3 ⟨rfl, hb2⟩
 have hN3 := (hb2.block q (blk_lt HN0.out)).trans HN0.out
 have HN3 := Aside0.mk hN3
 have HB3 := Aside0.mk (HB1.out.trans (hb2.mono HB1.out.size))
 have G0 : w3.cell? ⟨q, 0, none⟩ = some (.int .u8 0) := (blk_cell hN3 0).trans rfl
 have G1 : w3.cell? ⟨q, 1, none⟩ = some (.int .i64 0) := (blk_cell hN3 1).trans rfl
 have G2 : w3.cell? ⟨q, 2, none⟩ = some (.string ⟨#[]⟩) := (blk_cell hN3 2).trans rfl
 have G3 : w3.cell? ⟨q, 3, none⟩ = some (.int .i64 0) := (blk_cell hN3 3).trans rfl
 have F4 : ∀ j, w3.frozen? ⟨q, j, none⟩ = false := fun j => by simp [World.frozen?, hN3]
 clear hb2 hN3
 go_wp2
 refine bodyPost_ret (results_cell_row rfl _ _ q 31 _ (0, 0) _ rfl (out_cells HN3.out _ _ _ _) Tryd.underlying31 rfl (by kernel_rfl)) rfl ?_
 exact ⟨rfl, out_below HB3.out HQ.out _ _ _ _⟩
noncomputable def extR (sg : Int) (vs : List V) : Int × Int × ByteArray × Int := (fun s : Bool × V => (s.2.f0, s.2.f1, s.2.f2, 0)) (vs.foldl (eStep sg) (false, ⟨0, 0, ⟨#[]⟩⟩))
noncomputable def aggV (fn : Int) (vs : List V) : Int × Int × ByteArray × Int :=
 if fn = 2 then sumR vs else if fn = 3 then extR 1 vs else if fn = 4 then extR (-1) vs else if fn = 5 then avgR vs else (1, (vs.length : Int), ⟨#[]⟩, 0)
noncomputable def aggR (fn : Int) (d : Bool) (vs : List V) : Int × Int × ByteArray × Int :=
 if allowedB fn d vs = true then aggV fn (pickV fn d [] vs) else (0, 0, ⟨#[]⟩, 1)
theorem kindFrom_valid : ∀ (vs : List V) (k k' : Int), kindFrom k vs = some k' → ∀ v ∈ vs, validV v = true
 | [], _, _, _ => by simp
 | v :: vs, k, k', h => by
  unfold kindFrom at h
  split at h
  case isFalse => cases h
  rename_i hc
  intro u hu
  rcases List.mem_cons.1 hu with rfl | hu
  · exact hc.1
  · exact kindFrom_valid vs _ _ h u hu
theorem allowedB_valid {fn : Int} {d : Bool} {vs : List V} (h : allowedB fn d vs = true) : fn ≤ 5 ∧ ∀ v ∈ vs, validV v = true := by
 unfold allowedB at h
 split at h
 · cases h
 rename_i hc
 refine ⟨by omega, ?_⟩
 cases hk : kindFrom 0 vs with
 | none => rw [hk] at h; cases h
 | some k => exact kindFrom_valid vs 0 k hk
theorem pickV_sub (fn : Int) (d : Bool) : ∀ (vs : List V) (seen : List ByteArray), (∀ v ∈ pickV fn d seen vs, v ∈ vs) ∧ (pickV fn d seen vs).length ≤ vs.length
 | [], _ => by simp [pickV]
 | v :: vs, seen => by
  have h1 := pickV_sub fn d vs seen
  have h2 := pickV_sub fn d vs (nameOf [v] :: seen)
  have e1 : ∀ seen', (∀ u ∈ pickV fn d seen' vs, u ∈ vs) ∧ (pickV fn d seen' vs).length ≤ vs.length → (∀ u ∈ v :: pickV fn d seen' vs, u ∈ v :: vs) ∧ (v :: pickV fn d seen' vs).length ≤ (v :: vs).length := fun seen' h => ⟨fun u hu => by
   rcases List.mem_cons.1 hu with rfl | hu
   · exact List.mem_cons_self
   · exact List.mem_cons_of_mem _ (h.1 u hu), by simp; exact h.2⟩
  have e2 : (∀ u ∈ pickV fn d seen vs, u ∈ v :: vs) ∧ (pickV fn d seen vs).length ≤ (v :: vs).length := ⟨fun u hu => List.mem_cons_of_mem _ (h1.1 u hu), by simp; omega⟩
  simp only [pickV]
  split
  · exact e2
  · split
    · split
      · exact e2
      · exact e1 _ h2
    · exact e1 _ h1
def AggOk (fn : Int) (vs : List V) : Prop := 0 ≤ fn ∧ (fn = 5 → vs.length < 4294967296) ∧ (∀ v ∈ vs, RowOk [v]) ∧ vs.length ≤ 1099511627776
open Classical in
noncomputable def bag_Aggregate.f (fn : Int) (d : Bool) (vs : List V) : Option (Int × Int × ByteArray × Int) := if AggOk fn vs then some (aggR fn d vs) else none
theorem bag_Aggregate.calls (a0 : Int) (a1 : Bool) (A2 : Option Addr) (c2 : Nat) (l2 : List V) (r1 r2 : Int) (r3 : ByteArray) (r4 : Int) (w : World) (hr2 : Kd.C kV w A2 l2.length l2) (hc2 : l2.length ≤ c2) (hT : LaidT w) (h : bag_Aggregate.f a0 a1 l2 = some (r1, r2, r3, r4)) :
 Calls Tryd.prog 13 #[.int .u8 a0, .bool a1, .slice A2 l2.length c2] w fun e w' => e = .returned (.agg #[.int .u8 r1, .int .i64 r2, .string r3, .int .i64 r4]) ∧ Below w.heap.size w w' := by
 unfold bag_Aggregate.f at h
 split at h
 case isFalse => cases h
 rename_i hok
 obtain ⟨hf0, hf1, hok, hn⟩ := hok
 have h := Option.some.inj h
 have hv : ∀ v ∈ l2, VOk v := fun v hv => (hok v hv).1 v (by simp)
 obtain ⟨k, hk⟩ := (allowed_ev a0 a1 l2 hv hn).rounds
 unfold aggR at h
 cases hq : allowedB a0 a1 l2 with
 | false =>
  rw [hq] at hk h
  simp only [Bool.false_eq_true, if_false, Prod.mk.injEq] at h
  obtain ⟨rfl, rfl, rfl, rfl⟩ := h
  exact aggregate_bad k a0 a1 A2 c2 l2 w hr2 hc2 hk
 | true =>
  rw [hq] at hk h
  rw [if_pos rfl] at h
  obtain ⟨hle, hval⟩ := allowedB_valid hq
  obtain ⟨hsub, hlen⟩ := pickV_sub a0 a1 l2 []
  have hkind : ∀ v ∈ pickV a0 a1 [] l2, KindOk v := fun v hm => valid_kind (hval v (hsub v hm))
  have hint : ∀ v ∈ pickV a0 a1 [] l2, okInt v := fun v hm => by have := hv v (hsub v hm); exact ⟨this.2.2.1, this.2.2.2⟩
  unfold aggV at h
  by_cases h2 : a0 = 2
  · subst h2
    rw [if_pos rfl] at h
    have hc := aggregate_walk totalG k 2 a1 A2 c2 l2 w hT hr2 hc2 hok hn hk (fun _ _ => trivial) trivial (fun w => gath_sum w)
    have e := total_out (pickV 2 a1 [] l2) hint (Nat.le_trans hlen hn)
    rw [e, h] at hc
    exact hc
  · rw [if_neg h2] at h
    by_cases h3 : a0 = 3
    · subst h3
      rw [if_pos rfl] at h
      have hc := aggregate_walk (extG 1 (.inl rfl)) k 3 a1 A2 c2 l2 w hT hr2 hc2 hok hn hk hkind trivial (fun w => gath_min w)
      have e : (extG 1 (.inl rfl)).out ((pickV 3 a1 [] l2).foldl (extG 1 (.inl rfl)).step (extG 1 (.inl rfl)).init) = (r1, r2, r3, r4) := h
      rw [e] at hc
      exact hc
    · rw [if_neg h3] at h
      by_cases h4 : a0 = 4
      · subst h4
        rw [if_pos rfl] at h
        have hc := aggregate_walk (extG (-1) (.inr rfl)) k 4 a1 A2 c2 l2 w hT hr2 hc2 hok hn hk hkind trivial (fun w => gath_max w)
        have e : (extG (-1) (.inr rfl)).out ((pickV 4 a1 [] l2).foldl (extG (-1) (.inr rfl)).step (extG (-1) (.inr rfl)).init) = (r1, r2, r3, r4) := h
        rw [e] at hc
        exact hc
      · rw [if_neg h4] at h
        by_cases h5 : a0 = 5
        · subst h5
          rw [if_pos rfl] at h
          obtain ⟨e1, e2⟩ := mean_fin (pickV 5 a1 [] l2) hint (Nat.lt_of_le_of_lt hlen (hf1 rfl))
          have hc := aggregate_walk meanG k 5 a1 A2 c2 l2 w hT hr2 hc2 hok hn hk (fun _ _ => trivial) e1 (fun w => gath_avg w)
          rw [e2, h] at hc
          exact hc
        · rw [if_neg h5] at h
          have hc := aggregate_walk countG k a0 a1 A2 c2 l2 w hT hr2 hc2 hok hn hk (fun _ _ => trivial) trivial (fun w => gath_count a0 (by omega) w)
          have e := count_fold (pickV a0 a1 [] l2) 0 (Int.le_refl _) (by omega)
          change Calls _ _ _ _ fun e w' => e = .returned (.agg #[.int .u8 1, .int .i64 ((pickV a0 a1 [] l2).foldl cStep 0), .string ⟨#[]⟩, .int .i64 0]) ∧ _ at hc
          rw [e, Int.zero_add] at hc
          simp only [Prod.mk.injEq] at h
          obtain ⟨rfl, rfl, rfl, rfl⟩ := h
          exact hc
open Classical in
noncomputable def decAt (c : ByteArray → Int) (s : ByteArray) : ByteArray → Int := fun t => if t = s then c s - 1 else c t
noncomputable def splitR : (ByteArray → Int) → List (List V) → List (List V) × List (List V)
 | _, [] => ([], [])
 | c, r :: rs => if 0 < c (nameOf r) then (r :: (splitR (decAt c (nameOf r)) rs).1, (splitR (decAt c (nameOf r)) rs).2) else ((splitR c rs).1, r :: (splitR c rs).2)
theorem splitR_mem : ∀ (l : List (List V)) (c : ByteArray → Int) (r : List V), r ∈ (splitR c l).1 ∨ r ∈ (splitR c l).2 → r ∈ l
 | [], _, _, h => by simp [splitR] at h
 | a :: l, c, r, h => by
  have i1 := splitR_mem l c r
  have i2 := splitR_mem l (decAt c (nameOf a)) r
  simp only [splitR] at h
  split at h
  · simp only [List.mem_cons] at h ⊢
    rcases h with (h | h) | h
    · exact .inl h
    · exact .inr (i2 (.inl h))
    · exact .inr (i2 (.inr h))
  · simp only [List.mem_cons] at h ⊢
    rcases h with h | h | h
    · exact .inr (i1 (.inl h))
    · exact .inl h
    · exact .inr (i1 (.inr h))
theorem splitR_len : ∀ (l : List (List V)) (c : ByteArray → Int), (splitR c l).1.length + (splitR c l).2.length = l.length
 | [], _ => by simp [splitR]
 | a :: l, c => by
  have i1 := splitR_len l c
  have i2 := splitR_len l (decAt c (nameOf a))
  simp only [splitR]
  split <;> simp <;> omega
open Classical in
noncomputable def bag_split.f (l0 l1 : List (List V)) : Option (List (List V) × List (List V) × Int) := if RowsOk (l0 ++ l1) then some (if validB (l0 ++ l1) = true then (sortR [] (splitR (cnt (l1.map nameOf)) l0).1, sortR [] (splitR (cnt (l1.map nameOf)) l0).2, 0) else ([], [], 1)) else none
open Classical in
theorem bag_split.calls (A0 : Option Addr) (c0 : Nat) (l0 : List (List V)) (A1 : Option Addr) (c1 : Nat) (l1 : List (List V)) (r1 r2 : List (List V)) (r3 : Int) (w : World) (hr0 : Kd.C kRow w A0 l0.length l0) (hc0 : l0.length ≤ c0) (hr1 : Kd.C kRow w A1 l1.length l1) (hc1 : l1.length ≤ c1) (hT : LaidT w) (h : bag_split.f l0 l1 = some (r1, r2, r3)) :
 Calls Tryd.prog 37 #[.slice A0 l0.length c0, .slice A1 l1.length c1] w fun e w' => ∃ v0_ v1_ : Value, e = .returned (.tuple #[v0_, v1_, .int .i64 r3]) ∧ Kd.V kRow 58 w' w.heap.size (fun k_ => (w.heap.size ≤ k_)) v0_ r1 ∧ Kd.V kRow 58 w' w.heap.size (fun k_ => (w.heap.size ≤ k_)) v1_ r2 ∧ Below w.heap.size w w' := by
 unfold bag_split.f at h
 split at h
 case isFalse => cases h
 rename_i hok
 have hok0 : RowsOk l0 := ⟨fun r hr => hok.1 r (List.mem_append_left _ hr), by have := hok.2; rw [List.length_append] at this; omega⟩
 have hok1 : RowsOk l1 := ⟨fun r hr => hok.1 r (List.mem_append_right _ hr), by have := hok.2; rw [List.length_append] at this; omega⟩
 have H := Aside0.mk (Option.some.inj h)
 have HBo := Aside0.mk (both_calls A0 c0 l0 A1 c1 l1 _ rfl w hr0 hr1 hok.v)
 have HOK := Aside0.mk hok0
 have HOK1 := Aside0.mk hok1
 have HT := Aside0.mk hT
 have HR0 := Aside0.mk hr0
 have HR1 := Aside0.mk hr1
 have HC1 := Aside0.mk hc1
 clear h hok hok0 hok1 hT hr0 hr1 hc0 hc1
 cases hq : validB (l0 ++ l1) with
 | false =>
  rw [hq, if_neg (by simp)] at H
  rw [hq] at HBo
  clear hq
  go_enter Tryd.func37, Tryd.ntmps37
  go_wp2_with fail
  refine HBo.out.mono ?_
  rintro e w1 ⟨v1, rfl, hR1, hb1⟩
  have HB := Aside0.mk hb1
  clear hb1 hR1
  go_wp2
  go_ret3
  obtain ⟨e1, e2⟩ := Prod.mk.inj H.out
  obtain ⟨e2, e3⟩ := Prod.mk.inj e2
  refine ⟨.slice none 0 0, .slice none 0 0, by rw [← e3]; rfl, ?_, ?_, HB.out⟩
  · rw [← e1]; exact Kd.V_nil _ _ _ _ _
  · rw [← e2]; exact Kd.V_nil _ _ _ _ _
 | true =>
  rw [hq, if_pos rfl] at H
  have HV : Aside0 (∀ row ∈ l0, ∀ v ∈ row, validV v = true) := ⟨fun row hrow => validB_valid hq row (List.mem_append_left _ hrow)⟩
  rw [hq] at HBo
  clear hq
  go_enter Tryd.func37, Tryd.ntmps37
  go_wp2_with fail
  refine HBo.out.mono ?_
  rintro e w1 ⟨v1, rfl, hR1, hb1⟩
  have B1 := Aside0.mk hb1
  clear hb1 hR1
  go_wp2_with fail
  refine (tally_calls A1 c1 l1 w1 (HT.out.below B1.out) (Kd.C_below HR1.out B1.out) HC1.out HOK1.out).mono ?_
  rintro e w2 ⟨m, rfl, hm, hM, hb2⟩
  have HMB : Aside0 (w.heap.size ≤ m) := ⟨Nat.le_trans B1.out.size hm⟩
  have M0 := Aside0.mk hM
  have B2 := Aside0.mk (B1.out.trans (hb2.mono B1.out.size))
  clear hm hM hb2
  go_wp2
  clear B1
  obtain ⟨c0f, hc0f⟩ : ∃ c0f, c0f = cnt (l1.map nameOf) := ⟨_, rfl⟩
  have HBD0 : Aside0 (∀ s, 0 ≤ c0f s ∧ c0f s ≤ 1099511627776) := ⟨fun s => by
   have h1 := cnt_nonneg (l1.map nameOf) s
   have h2 := cnt_le (l1.map nameOf) s
   have h3 := HOK1.out.2
   rw [List.length_map] at h2
   rw [hc0f]
   omega⟩
  rw [← hc0f] at M0 H
  clear hc0f
  go_loopg [25, 4, 5] l0.length (fun kq v25 v4 v5 W => ∃ (x : Int) (c : ByteArray → Int) (met left : List (List V)), v25 = .int .i64 x ∧ Aside0 (0 ≤ x ∧ x ≤ l0.length ∧ (kq : Int) = l0.length - x) ∧ Aside0 (CMap W m c) ∧ Aside0 (∀ s, 0 ≤ c s ∧ c s ≤ 1099511627776) ∧ Aside0 ((relK w).kd.R 58 W w.heap.size (fun k => k ≠ m) v4 met) ∧ Aside0 ((relK w).kd.R 58 W w.heap.size (fun k => k ≠ m) v5 left) ∧ Aside0 (∀ k, v4.ownBlock = some k → v5.ownBlock ≠ some k) ∧ Aside0 (met ++ (splitR c (l0.drop x.toNat)).1 = (splitR c0f l0).1 ∧ left ++ (splitR c (l0.drop x.toNat)).2 = (splitR c0f l0).2 ∧ met.length + left.length ≤ x) ∧ Aside0 (Below w.heap.size w W))
  case atStart => exact ⟨0, c0f, [], [], rfl, ⟨by omega⟩, M0, HBD0, ⟨Kd.R_nil _ _ _ _ _⟩, ⟨Kd.R_nil _ _ _ _ _⟩, ⟨fun k hk => by simp [Value.ownBlock] at hk⟩, ⟨by simp⟩, B2⟩
  case round =>
   clear M0 B2 HBD0
   obtain ⟨x, c, met, left, rfl, HX, HM, HBD, HO, HP, HNE, HD, HB⟩ := hrel
   obtain ⟨hx0, hx1, hkq⟩ := HX.out
   by_cases hlt : x < (l0.length : Int)
   · have c1 : decide (x < (l0.length : Int)) = true := decide_eq_true hlt
     have c2 : decide (0 ≤ x) = true := decide_eq_true hx0
     obtain ⟨ad, Ar, cr, e, hx_0, hl_0, hi_0⟩ := at_L4 HR0.out x hx0 hlt
     cases e
     replace hx_0 := (HB.out.cell (World.block_lt_of_cell? w _ hx_0)).trans hx_0
     have hi : x.toNat < l0.length := by omega
     have hrd : rd_L4 l0 x = l0[x.toNat] := by simp [rd_L4, List.getElem?_eq_getElem hi]
     have hok := HOK.out.1 (rd_L4 l0 x) (by rw [hrd]; exact List.getElem_mem hi)
     have hst := HD.out
     rw [drop_cons l0 x.toNat hi, ← hrd] at hst
     obtain ⟨r, hr⟩ : ∃ r, r = rd_L4 l0 x := ⟨_, rfl⟩
     rw [← hr] at hx_0 hl_0 hi_0 hok hst
     have HI0 := Aside0.mk hi_0
     have HL0 := Aside0.mk hl_0
     have HOK2 := Aside0.mk hok
     have HST := Aside0.mk hst
     have HLT := Aside0.mk hlt
     have HX0 := Aside0.mk hx0
     have HWR : Aside0 (wrap64 (x + 1) = x + 1) := ⟨by have := HOK.out.2; unfold wrap64; omega⟩
     clear hi_0 hl_0 hok hst hrd hr hkq hi
     go_wp2_with fail
     refine (name_calls _ _ r wr (HT.out.below HB.out) (Kd.C_below HI0.out HB.out) HL0.out HOK2.out.1 HOK2.out.2.1 HOK2.out.2.2).mono ?_
     rintro e w3 ⟨rfl, hb1⟩
     have HM1 := HM.out.below hb1
     obtain ⟨kv, hkv⟩ := HM1
     have HKV := Aside0.mk hkv
     obtain ⟨n, hn⟩ : ∃ n, n = c (nameOf r) := ⟨_, rfl⟩
     have hc : Aside0 ((KV.get kv (nameOf r)).getD 0 = n) := ⟨by rw [hn]; exact hkv.2 _⟩
     have hbd := HBD.out (nameOf r)
     rw [← hn] at hbd
     have HN := Aside0.mk hn
     have HB1 := Aside0.mk (HB.out.trans (hb1.mono HB.out.size))
     have HO1 := Aside0.mk (Kd.R_below HO.out hb1)
     have HP1 := Aside0.mk (Kd.R_below HP.out hb1)
     clear hb1 hkv hn HM
     have hcl : Aside0 ((met.length + 1) * 24 ≤ 140737488355328 ∧ (left.length + 1) * 24 ≤ 140737488355328) := ⟨by have := HD.out.2.2; have := HOK.out.2; omega⟩
     have hM : Aside0 (∀ W, (relK w).kd.M W w.heap.size (fun _ => False) r [.slice Ar r.length cr]) := ⟨fun W => ⟨Ar, cr, rfl, HL0.out, HI0.out⟩⟩
     have hml : Aside0 (m < w3.heap.size) := ⟨HKV.out.1.lt⟩
     by_cases hz : 0 < n
     · have hzb : decide (n > 0) = true := decide_eq_true hz
       have HZ := Aside0.mk hz
       have HW : Aside0 (wrap64 (n - 1) = n - 1) := ⟨by unfold wrap64; omega⟩
       have HBDN := Aside0.mk hbd
       clear hz hbd
       go_wp2_with (first
        | (at_lookup; refine KV.law_lookup _ rfl _ _ 85 rfl 9 3 Tryd.underlying9 Tryd.underlying85 (.int .i64 0) (zeroInt _) m (Value.int .i64) kv rfl HKV.out.1 (nameOf r) rfl (.int .i64 n) (get_int hc.out) ?_)
        | (at_mapUpdate; refine KV.law_update _ rfl _ _ _ 85 rfl 9 3 Tryd.underlying9 Tryd.underlying85 m (Value.int .i64) kv rfl HKV.out.1 (nameOf r) rfl (wrap64 (n - 1)) rfl ?_; intro w4 hM2 hg2; rw [HW.out] at hM2; have HM2 := Aside0.mk (CMap.put HKV.out.2 hM2); have HB3 := Aside0.mk (HB1.out.grown hg2 HB1.out.size (fun k hk => by cases hk; exact HMB.out)); have HO3 := Aside0.mk (Kd.R_grown HO1.out hg2 (fun k hk e => hk (by injection e))); have HP3 := Aside0.mk (Kd.R_grown HP1.out hg2 (fun k hk e => hk (by injection e))); have hml4 := Aside0.mk (Nat.lt_of_lt_of_le hml.out hg2.size); clear hM2 hg2)
        | (at_builtin; refine Kd.R_append (relK w).kd (w0 := w) w.heap.size rfl (.tmp 39) (.tmp 41) 37 58 (.slice none 0 0) 24 rfl Tryd.underlying37 infoRow rfl (Nat.le_refl 1) (by decide) _ met r [.slice Ar r.length cr] (fun k => k ≠ m ∧ u5.ownBlock ≠ some k) (fun _ => False) rfl rfl (hM.out _) (fun _ h => h.elim) (fun k hk => ⟨fun e => by have := hml4.out; omega, fun e => by have := Kd.R_lt HP3.out k e; omega⟩) (Kd.R_reok rfl HO3.out (fun k hk => ⟨HO3.out.1 k hk, HNE.out k hk⟩)) HB3.out HB3.out.size hcl.out.1 ?_; intro v6 w6 hR4 hb4 hg4 hat4; have HO4 := Aside0.mk hR4; have HB4 := Aside0.mk hb4; have HG4 := Aside0.mk hg4; clear hR4 hb4 hg4 hat4))
       have hlt := HLT.out
       have hk := HX.out.2.2
       have hx0 := HX0.out
       have hd := HD.out.2.2
       cases gk with
       | zero => omega
       | succ k1 =>
        go_roundg k1
        case measure => omega
        case rel =>
         have hp3 : ∀ k, u5.ownBlock = some k → k ≠ m ∧ v6.ownBlock ≠ some k := fun k hk => ⟨HP3.out.1 k hk, fun e => (HO4.out.1 k e).2 hk⟩
         have hp4 := Kd.R_grown (Kd.R_tight rfl HP3.out) HG4.out (fun k hk e => HNE.out k e.symm hk.symm)
         refine ⟨x + 1, decAt c (nameOf r), met ++ [r], left, by rw [HWR.out], ⟨by omega⟩, ⟨?_⟩, ⟨fun s => ?_⟩, ⟨Kd.R_reok rfl HO4.out (fun k hk => (HO4.out.1 k hk).1)⟩, ⟨Kd.R_mono hp4 (fun k hk => (hp3 k hk.symm).1)⟩, ⟨fun k hk => (HO4.out.1 k hk).2⟩, ⟨?_, ?_, by simp; omega⟩, HB4⟩
         · have h3 := CMap.grown HM2.out HG4.out (fun e => HO3.out.1 m e.symm rfl)
           have h4 : (fun t => if t = nameOf r then n - 1 else c t) = decAt c (nameOf r) := by
            funext t
            unfold decAt
            rw [HN.out]
           rw [← h4]
           exact h3
         · unfold decAt
           have h1 := HBD.out s
           have h2 := HZ.out
           have h3 := HBDN.out
           have h4 := HN.out
           split <;> omega
         · have := HST.out.1
           rw [splitR, if_pos (by rw [← HN.out]; exact HZ.out)] at this
           rw [show (x + 1).toNat = x.toNat + 1 by omega]
           simpa using this
         · have := HST.out.2.1
           rw [splitR, if_pos (by rw [← HN.out]; exact HZ.out)] at this
           rw [show (x + 1).toNat = x.toNat + 1 by omega]
           simpa using this
     · have hzb : decide (n > 0) = false := decide_eq_false hz
       have HZ := Aside0.mk hz
       have hne5 : ∀ k, u5.ownBlock = some k → k ≠ m ∧ u4.ownBlock ≠ some k := fun k hk => ⟨HP1.out.1 k hk, fun e => HNE.out k e hk⟩
       have HNE5 := Aside0.mk hne5
       clear hz hbd hne5
       go_wp2_with (first
        | (at_lookup; refine KV.law_lookup _ rfl _ _ 85 rfl 9 3 Tryd.underlying9 Tryd.underlying85 (.int .i64 0) (zeroInt _) m (Value.int .i64) kv rfl HKV.out.1 (nameOf r) rfl (.int .i64 n) (get_int hc.out) ?_)
        | (at_builtin; refine Kd.R_append (relK w).kd (w0 := w) w.heap.size rfl (.tmp 43) (.tmp 45) 37 58 (.slice none 0 0) 24 rfl Tryd.underlying37 infoRow rfl (Nat.le_refl 1) (by decide) _ left r [.slice Ar r.length cr] (fun k => k ≠ m ∧ u4.ownBlock ≠ some k) (fun _ => False) rfl rfl (hM.out _) (fun _ h => h.elim) (fun k hk => ⟨fun e => by have := hml.out; omega, fun e => by have := Kd.R_lt HO1.out k e; omega⟩) (Kd.R_reok rfl HP1.out HNE5.out) HB1.out HB1.out.size hcl.out.2 ?_; intro v6 w6 hR4 hb4 hg4 hat4; have HO4 := Aside0.mk hR4; have HB4 := Aside0.mk hb4; have HG4 := Aside0.mk hg4; clear hR4 hb4 hg4 hat4))
       have hlt := HLT.out
       have hk := HX.out.2.2
       have hx0 := HX0.out
       have hd := HD.out.2.2
       cases gk with
       | zero => omega
       | succ k1 =>
        go_roundg k1
        case measure => omega
        case rel =>
         have hp4 := Kd.R_grown (Kd.R_tight rfl HO1.out) HG4.out (fun k hk e => HNE.out k hk.symm e.symm)
         refine ⟨x + 1, c, met, left ++ [r], by rw [HWR.out], ⟨by omega⟩, ⟨CMap.grown ⟨kv, HKV.out⟩ HG4.out (fun e => HP1.out.1 m e.symm rfl)⟩, HBD, ⟨Kd.R_mono hp4 (fun k hk => HO1.out.1 k hk.symm)⟩, ⟨Kd.R_reok rfl HO4.out (fun k hk => (HO4.out.1 k hk).1)⟩, ⟨fun k hk e => (HO4.out.1 k e).2 hk⟩, ⟨?_, ?_, by simp; omega⟩, HB4⟩
         · have := HST.out.1
           rw [splitR, if_neg (by rw [← HN.out]; have := HZ.out; omega)] at this
           rw [show (x + 1).toNat = x.toNat + 1 by omega]
           simpa using this
         · have := HST.out.2.1
           rw [splitR, if_neg (by rw [← HN.out]; have := HZ.out; omega)] at this
           rw [show (x + 1).toNat = x.toNat + 1 by omega]
           simpa using this
   · have c1 : decide (x < (l0.length : Int)) = false := decide_eq_false hlt
     have hms : met = (splitR c0f l0).1 ∧ left = (splitR c0f l0).2 := by
      have := HD.out
      rw [List.drop_eq_nil_of_le (by omega)] at this
      have h1 := this.1
      have h2 := this.2.1
      simp only [splitR, List.append_nil] at h1 h2
      exact ⟨h1, h2⟩
     obtain ⟨hms, hls⟩ := hms
     have hmem := splitR_mem l0 c0f
     have hlen := splitR_len l0 c0f
     rw [← hms, ← hls] at H hmem hlen
     have good : ∀ row, row ∈ met ∨ row ∈ left → RowGood [] row := fun row hrow => ⟨HV.out row (hmem row hrow), (by intro k hk; cases hk), (HOK.out.1 row (hmem row hrow)).2.2⟩
     have HG4 : Aside0 (∀ row ∈ met, RowGood [] row) := ⟨fun row h => good row (.inl h)⟩
     have HG5 : Aside0 (∀ row ∈ left, RowGood [] row) := ⟨fun row h => good row (.inr h)⟩
     have HL4 : Aside0 (met.length ≤ 1099511627776 ∧ left.length ≤ 1099511627776) := ⟨by have := HOK.out.2; omega⟩
     clear HX HD hx0 hx1 hlt hkq hms hls hmem hlen good HM HBD
     obtain ⟨Av, cv, ev, hlc, hC⟩ := Kd.R_reads HO.out
     subst ev
     obtain ⟨Aw, cw, ew, hlc2, hC2⟩ := Kd.R_reads HP.out
     subst ew
     have HC := Aside0.mk (relK_C hC HB.out)
     have HC2 := Aside0.mk (relK_C hC2 HB.out)
     clear hC hlc hC2 hlc2
     go_wp2_with fail
     refine (arranged_calls Av cv met none 0 [] wr HC.out (Kd.C_nil _ _) HG4.out HL4.out.1 (by simp)).mono ?_
     rintro e w3 ⟨v2, rfl, hR2, hb2⟩
     have HV2 := Aside0.mk (Kd.R_V (base' := w.heap.size) (Kd.R_mono (Kd.R_bound hR2) (fun k hk => Nat.le_trans HB.out.size hk.2.1)))
     have HB2 := Aside0.mk (HB.out.trans (hb2.mono HB.out.size))
     have HC3 := Aside0.mk (Kd.C_below HC2.out hb2)
     have HS := Aside0.mk HB2.out.size
     clear hR2 hb2
     go_wp2_with fail
     refine (arranged_calls Aw cw left none 0 [] w3 HC3.out (Kd.C_nil _ _) HG5.out HL4.out.2 (by simp)).mono ?_
     rintro e w4 ⟨v3, rfl, hR3, hb3⟩
     have HV3 := Aside0.mk (Kd.R_V (base' := w.heap.size) (Kd.R_mono (Kd.R_bound hR3) (fun k hk => Nat.le_trans HS.out hk.2.1)))
     have HV4 := Aside0.mk (Kd.V_below HV2.out hb3)
     have HB3 := Aside0.mk (HB2.out.trans (hb3.mono HB2.out.size))
     clear hR3 hb3
     go_wp2
     go_ret3
     obtain ⟨e1, e2⟩ := Prod.mk.inj H.out
     obtain ⟨e2, e3⟩ := Prod.mk.inj e2
     refine ⟨v2, v3, by rw [← e3]; rfl, ?_, ?_, HB3.out⟩
     · rw [← e1]; exact HV4.out
     · rw [← e2]; exact HV3.out
theorem split_Except (A0 : Option Addr) (c0 : Nat) (l0 : List (List V)) (A1 : Option Addr) (c1 : Nat) (l1 : List (List V)) (r1 r2 : List (List V)) (r3 : Int) (w : World) (hr0 : Kd.C kRow w A0 l0.length l0) (hc0 : l0.length ≤ c0) (hr1 : Kd.C kRow w A1 l1.length l1) (hc1 : l1.length ≤ c1) (hT : LaidT w) (h : bag_split.f l0 l1 = some (r1, r2, r3)) :
 Calls Tryd.prog 22 #[.slice A0 l0.length c0, .slice A1 l1.length c1] w fun e w' => ∃ v0_ : Value, e = .returned (.tuple #[v0_, .int .i64 r3]) ∧ Kd.V kRow 58 w' w.heap.size (fun k_ => (w.heap.size ≤ k_)) v0_ r2 ∧ Below w.heap.size w w' := by
 have HS := Aside0.mk (bag_split.calls A0 c0 l0 A1 c1 l1 r1 r2 r3 w hr0 hc0 hr1 hc1 hT h)
 clear hr0 hc0 hr1 hc1 hT h
 go_enter Tryd.func22, Tryd.ntmps22
 go_wp2_with fail
 refine HS.out.mono ?_
 rintro e w1 ⟨v0, v1, rfl, hv0, hv1, hb⟩
 have HV := Aside0.mk hv1
 have HB := Aside0.mk hb
 clear hv0 hv1 hb
 go_wp2
 go_ret2
 exact ⟨v1, rfl, HV.out, HB.out⟩
def keyOf (cols : List Int) (row : List V) : List V := cols.map (fun n => rd_T27 row n)
open Classical in
noncomputable def keysR (cols : List Int) (l : List (List V)) : List (List V) := if cols = [] then [[]] else sortR [] (distR [] (l.map (keyOf cols)))
open Classical in
noncomputable def listR (cols : List Int) (l : List (List V)) (s : ByteArray) : List (List V) := l.filter (fun r => decide (nameOf (keyOf cols r) = s))
abbrev LV := Value × List (List V)
structure LM (w W : World) (m : Nat) (kv : List (ByteArray × LV)) : Prop where
 is : KV.Is W m (fun p : LV => p.1) kv
 own : ∀ s p, KV.get kv s = some p → (relK w).kd.R 58 W w.heap.size (fun k => k ≠ m) p.1 p.2
 apart : ∀ s t p q, KV.get kv s = some p → KV.get kv t = some q → s ≠ t → ∀ k, p.1.ownBlock = some k → q.1.ownBlock ≠ some k
theorem LM.below {w W W1 : World} {m : Nat} {kv : List (ByteArray × LV)} (h : LM w W m kv) (hb : Below W.heap.size W W1) : LM w W1 m kv :=
 ⟨h.is.below hb, fun s p hp => Kd.R_below (h.own s p hp) hb, h.apart⟩
theorem LM.grown {w W W1 : World} {m : Nat} {kv : List (ByteArray × LV)} (h : LM w W m kv) {row : Option Nat} (hg : W.grownBy W1 row) (hm : some m ≠ row) (hr : ∀ s p, KV.get kv s = some p → ∀ k, p.1.ownBlock = some k → some k ≠ row) : LM w W1 m kv :=
 ⟨h.is.grown hg hm, fun s p hp => Kd.R_mono (Kd.R_grown (Kd.R_tight rfl (h.own s p hp)) hg (fun k hk => hr s p hp k hk.symm)) (fun k hk => (h.own s p hp).1 k hk.symm), h.apart⟩
theorem LM.put {w W W1 W2 : World} {m : Nat} {kv : List (ByteArray × LV)} (h : LM w W m kv) {s : ByteArray} {v0 v1 : Value} {r0 r1 : List (List V)} (h0 : KV.get kv s = some (v0, r0) ∨ KV.get kv s = none ∧ v0.ownBlock = none)
 (hR : (relK w).kd.R 58 W1 w.heap.size (fun k => k ≠ m) v1 r1) (hg : W.grownBy W1 v0.ownBlock) (hat : v1.ownBlock = v0.ownBlock ∨ ∃ b, v1.ownBlock = some b ∧ W.heap.size ≤ b)
 (hi : KV.Is W2 m (fun p : LV => p.1) (KV.put kv s (v1, r1))) (hg2 : W1.grownBy W2 (some m)) : LM w W2 m (KV.put kv s (v1, r1)) := by
 have old : ∀ t p, t ≠ s → KV.get kv t = some p → ∀ k, p.1.ownBlock = some k → v0.ownBlock ≠ some k ∧ v1.ownBlock ≠ some k := fun t p ht hp k hk => by
  have hlt := Kd.R_lt (h.own t p hp) k hk
  have e0 : v0.ownBlock ≠ some k := by
   rcases h0 with h0 | ⟨_, h0⟩
   · exact h.apart t s p (v0, r0) hp h0 ht k hk
   · rw [h0]; exact fun e => by cases e
  refine ⟨e0, ?_⟩
  rcases hat with hat | ⟨b, hb, hb2⟩
  · rw [hat]; exact e0
  · rw [hb]; intro e; injection e; omega
 refine ⟨hi, fun t p hp => ?_, fun t u p q hp hq htu k hk => ?_⟩
 · by_cases ht : t = s
   · subst ht
     rw [KV.get_put_same] at hp
     obtain rfl := Option.some.inj hp
     exact Kd.R_grown hR hg2 (fun k hk e => hk (by injection e))
   · rw [KV.get_put_other _ ht] at hp
     have h1 := Kd.R_mono (Kd.R_grown (Kd.R_tight rfl (h.own t p hp)) hg (fun k hk e => (old t p ht hp k hk.symm).1 e.symm)) (fun k hk => (h.own t p hp).1 k hk.symm)
     exact Kd.R_grown h1 hg2 (fun k hk e => hk (by injection e))
 · by_cases ht : t = s
   · subst ht
     rw [KV.get_put_same] at hp
     obtain rfl := Option.some.inj hp
     rw [KV.get_put_other _ (fun e => htu e.symm)] at hq
     intro e
     exact (old u q (fun e => htu e.symm) hq k e).2 hk
   · rw [KV.get_put_other _ ht] at hp
     by_cases hu : u = s
     · subst hu
       rw [KV.get_put_same] at hq
       obtain rfl := Option.some.inj hq
       exact (old t p ht hp k hk).2
     · rw [KV.get_put_other _ hu] at hq
       exact h.apart t u p q hp hq htu k hk
abbrev KOk (w : World) (kv : List (ByteArray × LV)) : Nat → Prop := fun k => k ≠ w.heap.size ∧ ∀ s p, KV.get kv s = some p → p.1.ownBlock ≠ some k
theorem KR_put {w W W1 W2 : World} {kv : List (ByteArray × LV)} {v : Value} {keys : List (List V)} (h : kRow.R 58 W w.heap.size (KOk w kv) v keys) {s : ByteArray} {v0 v1 : Value} {r0 r1 : List (List V)} (h0 : KV.get kv s = some (v0, r0) ∨ KV.get kv s = none ∧ v0.ownBlock = none)
 (hg : W.grownBy W1 v0.ownBlock) (hat : v1.ownBlock = v0.ownBlock ∨ ∃ b, v1.ownBlock = some b ∧ W.heap.size ≤ b) (hg2 : W1.grownBy W2 (some w.heap.size)) : kRow.R 58 W2 w.heap.size (KOk w (KV.put kv s (v1, r1))) v keys := by
 have e0 : ∀ k, KOk w kv k → some k ≠ v0.ownBlock := fun k hk => by
  rcases h0 with h0 | ⟨_, h0⟩
  · exact fun e => hk.2 s _ h0 e.symm
  · rw [h0]; exact fun e => by cases e
 have h1 := Kd.R_grown (Kd.R_bound h) hg (fun k hk => e0 k hk.1)
 have h2 := Kd.R_grown h1 hg2 (fun k hk e => hk.1.1 (by injection e))
 refine Kd.R_mono h2 (fun k hk => ⟨hk.1.1, fun t p hp => ?_⟩)
 by_cases ht : t = s
 · subst ht
   rw [KV.get_put_same] at hp
   obtain rfl := Option.some.inj hp
   rcases hat with hat | ⟨b, hb, hb2⟩
   · show v1.ownBlock ≠ some k
     rw [hat]; exact fun e => e0 k hk.1 e.symm
   · show v1.ownBlock ≠ some k
     rw [hb]; intro e; injection e; have := hk.2.2.1; omega
 · rw [KV.get_put_other _ ht] at hp
   exact hk.1.2 t p hp
open Classical in
theorem list_put {cols : List Int} {t : List (List V)} {kv : List (ByteArray × LV)} {row : List V} {v1 : Value} {r0 : List (List V)} (h : ∀ s, ((KV.get kv s).map (·.2)).getD [] = listR cols t s) (h0 : ((KV.get kv (nameOf (keyOf cols row))).map (·.2)).getD [] = r0) :
 ∀ s, ((KV.get (KV.put kv (nameOf (keyOf cols row)) (v1, r0 ++ [row])) s).map (·.2)).getD [] = listR cols (t ++ [row]) s := fun s => by
 unfold listR at h ⊢
 rw [List.filter_append]
 by_cases hs : s = nameOf (keyOf cols row)
 · subst hs
   rw [KV.get_put_same, ← h, h0]
   simp
 · rw [KV.get_put_other _ hs, h]
   have : ¬ nameOf (keyOf cols row) = s := fun e => hs e.symm
   simp [this]
theorem len_put {kv : List (ByteArray × LV)} {x : Int} (h : ∀ s p, KV.get kv s = some p → (p.2.length : Int) ≤ x) (s : ByteArray) (y : LV) (hy : (y.2.length : Int) ≤ x + 1) : ∀ t p, KV.get (KV.put kv s y) t = some p → (p.2.length : Int) ≤ x + 1 := fun t p hp => by
 by_cases ht : t = s
 · subst ht
   rw [KV.get_put_same] at hp
   obtain rfl := Option.some.inj hp
   exact hy
 · rw [KV.get_put_other _ ht] at hp
   have := h t p hp
   omega
theorem zeroRows (w : World) : (zeroValue 37).run Tryd.prog w = .ok (.slice none 0 0) w := by kernel_rfl
abbrev AggT := S47
abbrev kAgg : Kd AggT := k47
def aggOkB (l : List (List V)) (a : AggT) : Bool := if a.f0 = 0 then decide (a.f1 = 0 ∧ a.f2 = false) else hasB l a.f1 && allowedB a.f0 a.f2 (columnR l a.f1)
def groupableB (l : List (List V)) (cols : List Int) (aggs : List AggT) : Bool := validB l && cols.all (hasB l) && aggs.all (aggOkB l)
noncomputable def rowOf (ls : List (List V)) : List AggT → List V → List V × Int
 | [], acc => (acc, 0)
 | a :: aa, acc => if (aggR a.f0 a.f2 (columnR ls a.f1)).2.2.2 = 0 then rowOf ls aa (acc ++ [⟨(aggR a.f0 a.f2 (columnR ls a.f1)).1, (aggR a.f0 a.f2 (columnR ls a.f1)).2.1, (aggR a.f0 a.f2 (columnR ls a.f1)).2.2.1⟩]) else ([], (aggR a.f0 a.f2 (columnR ls a.f1)).2.2.2)
noncomputable def rowsOf (cols : List Int) (l : List (List V)) (aggs : List AggT) : List (List V) → List (List V) → List (List V) × Int
 | [], acc => (acc, 0)
 | key :: ks, acc => if (rowOf (listR cols l (nameOf key)) aggs key).2 = 0 then rowsOf cols l aggs ks (acc ++ [(rowOf (listR cols l (nameOf key)) aggs key).1]) else ([], (rowOf (listR cols l (nameOf key)) aggs key).2)
noncomputable def groupG (l : List (List V)) (cols : List Int) (aggs : List AggT) : List (List V) × Int := if groupableB l cols aggs = true then rowsOf cols l aggs (keysR cols l) [] else ([], 1)
structure GroupOk (l : List (List V)) (cols : List Int) (aggs : List AggT) : Prop where
 rows : RowsOk l
 ln : l.length < 4294967296
 cn : cols.length ≤ 1099511627776
 an : aggs.length ≤ 1099511627776
 fn : ∀ a ∈ aggs, 0 ≤ a.f0
 keys : ∀ row ∈ l, RowOk (keyOf cols row)
 vals : ∀ a ∈ aggs, ∀ row ∈ l, RowOk [rd_T27 row a.f1]
theorem GroupOk.keysn {l : List (List V)} {cols : List Int} {aggs : List AggT} (h : GroupOk l cols aggs) : (keysR cols l).length ≤ 1099511627776 := by
 have h1 := h.ln
 unfold keysR
 split
 · simp
 · rw [(sortR_perm _ _).length_eq]
   have := distR_len (l.map (keyOf cols)) []
   rw [List.length_map] at this
   omega
theorem GroupOk.keyn {l : List (List V)} {cols : List Int} {aggs : List AggT} (h : GroupOk l cols aggs) : ∀ key ∈ keysR cols l, RowOk key := fun key hk => by
 unfold keysR at hk
 split at hk
 · obtain rfl : key = [] := by simpa using hk
   exact ⟨by simp, by simp [nameB], by simp⟩
 · obtain ⟨row, hr, rfl⟩ := List.mem_map.1 (distR_mem _ _ _ ((sortR_perm _ _).mem_iff.1 hk))
   exact h.keys row hr
theorem groupable_parts {l : List (List V)} {cols : List Int} {aggs : List AggT} (h : groupableB l cols aggs = true) : validB l = true ∧ (∀ n ∈ cols, hasB l n = true) ∧ ∀ a ∈ aggs, aggOkB l a = true := by
 unfold groupableB at h
 simp only [Bool.and_eq_true, List.all_eq_true] at h
 exact ⟨h.1.1, h.1.2, h.2⟩
theorem agg_ok {l ls : List (List V)} {cols : List Int} {aggs : List AggT} (hok : GroupOk l cols aggs) (hv : validB l = true) {a : AggT} (ha : a ∈ aggs) (hs : ∀ row ∈ ls, row ∈ l) (hn : ls.length ≤ l.length) : bag_Aggregate.f a.f0 a.f2 (columnR ls a.f1) = some (aggR a.f0 a.f2 (columnR ls a.f1)) := by
 unfold bag_Aggregate.f
 refine if_pos ⟨hok.fn a ha, fun _ => ?_, fun v hm => ?_, ?_⟩
 · rw [columnR, List.length_map]; have := hok.ln; omega
 · obtain ⟨row, hr, rfl⟩ := List.mem_map.1 hm
   exact hok.vals a ha row (hs row hr)
 · rw [columnR, List.length_map]; have := hok.ln; omega
theorem aggOk_col {l : List (List V)} {a : AggT} (h : aggOkB l a = true) : 0 ≤ a.f1 := by
 unfold aggOkB at h
 by_cases h0 : a.f0 = 0
 · rw [if_pos h0] at h
   have := of_decide_eq_true h
   omega
 · rw [if_neg h0] at h
   simp only [Bool.and_eq_true] at h
   have h1 := h.1
   unfold hasB at h1
   cases l with
   | nil => exact (of_decide_eq_true h1).1
   | cons r rs => exact (of_decide_eq_true h1).1
theorem rowOf_snoc {ls : List (List V)} {a : AggT} {aa : List AggT} {acc : List V} {r0 r1 r3 : Int} {r2 : ByteArray} (h : aggR a.f0 a.f2 (columnR ls a.f1) = (r0, r1, r2, r3)) : rowOf ls (a :: aa) acc = if r3 = 0 then rowOf ls aa (acc ++ [⟨r0, r1, r2⟩]) else ([], r3) := by
 simp only [rowOf, h]
theorem rowsOf_all {cols : List Int} {l : List (List V)} {aggs : List AggT} : ∀ (ks acc : List (List V)), (∀ key ∈ ks, (rowOf (listR cols l (nameOf key)) aggs key).2 = 0) → rowsOf cols l aggs ks acc = (acc ++ ks.map (fun key => (rowOf (listR cols l (nameOf key)) aggs key).1), 0)
 | [], acc, _ => by simp [rowsOf]
 | key :: ks, acc, h => by
  simp only [rowsOf]
  rw [if_pos (h key List.mem_cons_self), rowsOf_all ks _ (fun k hk => h k (List.mem_cons_of_mem _ hk))]
  simp
theorem count_row {l ls : List (List V)} (hv : validB l = true) (hs : ∀ row ∈ ls, row ∈ l) : aggR 0 false (columnR ls 0) = (1, (ls.length : Int), ⟨#[]⟩, 0) := by
 unfold aggR
 rw [if_pos (col_allowed hv hs 0)]
 unfold aggV
 rw [if_neg (by omega), if_neg (by omega), if_neg (by omega), if_neg (by omega), pickV_all]
 simp [columnR]
theorem list_sub {cols : List Int} {l : List (List V)} {s : ByteArray} : ∀ row ∈ listR cols l s, row ∈ l := fun row h => (List.mem_filter.1 h).1
theorem groupG_count {l : List (List V)} {cols : List Int} (hv : validB l = true) (hc : ∀ n ∈ cols, hasB l n = true) : groupG l cols [⟨0, 0, false⟩] = ((keysR cols l).map (fun key => key ++ [(⟨1, ((listR cols l (nameOf key)).length : Int), ⟨#[]⟩⟩ : V)]), 0) := by
 have e : ∀ key, rowOf (listR cols l (nameOf key)) [⟨0, 0, false⟩] key = (key ++ [(⟨1, ((listR cols l (nameOf key)).length : Int), ⟨#[]⟩⟩ : V)], 0) := fun key => by
  simp only [rowOf]
  rw [count_row hv list_sub]
  rfl
 unfold groupG
 rw [if_pos (by unfold groupableB; simp only [Bool.and_eq_true, List.all_eq_true]; exact ⟨⟨hv, hc⟩, fun a ha => by
  obtain rfl : a = _ := by simpa using ha
  rfl⟩), rowsOf_all _ _ (fun key _ => by rw [e])]
 simp only [e, List.nil_append]
def digVal (l : List UInt8) : Nat := l.foldl (fun a d => a * 10 + (d.toNat - 48)) 0
theorem decDigits_val : ∀ u : Nat, digVal (Lib.decDigits u) = u ∧ ∀ b ∈ Lib.decDigits u, 48 ≤ b.toNat ∧ b.toNat ≤ 57 := by
 intro u
 induction u using Nat.strongRecOn with
 | ind u ih =>
  rw [Lib.decDigits]
  split
  · rename_i h
    have e : (UInt8.ofNat (48 + u)).toNat = 48 + u := by
     rw [UInt8.toNat_ofNat']; omega
    refine ⟨by show 0 * 10 + ((UInt8.ofNat (48 + u)).toNat - 48) = u; rw [e]; omega, fun b hb => ?_⟩
    rw [List.mem_singleton.1 hb, e]
    omega
  · rename_i h
    have e : (UInt8.ofNat (48 + u % 10)).toNat = 48 + u % 10 := by
     rw [UInt8.toNat_ofNat']; omega
    obtain ⟨h1, h2⟩ := ih (u / 10) (by omega)
    refine ⟨?_, fun b hb => ?_⟩
    · unfold digVal at h1 ⊢
      rw [List.foldl_append, h1]
      simp only [List.foldl_cons, List.foldl_nil, e]
      omega
    · rcases List.mem_append.1 hb with hb | hb
      · exact h2 b hb
      · rw [List.mem_singleton.1 hb, e]
        omega
theorem itoa_bytes (n : Int) : ∀ b ∈ Lib.itoa n, b.toNat = 45 ∨ 48 ≤ b.toNat ∧ b.toNat ≤ 57 := by
 intro b hb
 unfold Lib.itoa at hb
 split at hb
 · rcases List.mem_cons.1 hb with rfl | hb
   · exact .inl rfl
   · exact .inr ((decDigits_val _).2 b hb)
 · exact .inr ((decDigits_val _).2 b hb)
theorem itoa_inj {a b : Int} (h : Lib.itoa a = Lib.itoa b) : a = b := by
 have no45 : ∀ (u : Nat) (t : List UInt8), Lib.decDigits u ≠ 45 :: t := fun u t e => by
  have := (decDigits_val u).2 45 (by rw [e]; exact List.mem_cons_self)
  have e45 : (45 : UInt8).toNat = 45 := rfl
  omega
 have inj : ∀ u v : Nat, Lib.decDigits u = Lib.decDigits v → u = v := fun u v e => by
  rw [← (decDigits_val u).1, ← (decDigits_val v).1, e]
 unfold Lib.itoa at h
 split at h <;> split at h
 · injection h with _ h
   have := inj _ _ h
   omega
 · exact absurd h.symm (no45 _ _)
 · exact absurd h (no45 _ _)
 · have := inj _ _ h
   omega
theorem split_at {s : UInt8} : ∀ {A B X Y : List UInt8}, s ∉ A → s ∉ B → A ++ ([s] ++ X) = B ++ ([s] ++ Y) → A = B ∧ X = Y
 | [], [], X, Y, _, _, h => by simpa using h
 | [], b :: B, X, Y, _, hb, h => by
  simp only [List.nil_append, List.cons_append, List.cons.injEq] at h
  exact absurd (by rw [h.1]; exact List.mem_cons_self) hb
 | a :: A, [], X, Y, ha, _, h => by
  simp only [List.nil_append, List.cons_append, List.cons.injEq] at h
  exact absurd (by rw [← h.1]; exact List.mem_cons_self) ha
 | a :: A, b :: B, X, Y, ha, hb, h => by
  simp only [List.cons_append, List.cons.injEq] at h
  obtain ⟨h1, h2⟩ := split_at (fun h => ha (List.mem_cons_of_mem _ h)) (fun h => hb (List.mem_cons_of_mem _ h)) h.2
  exact ⟨by rw [h.1, h1], h2⟩
theorem no_itoa (s : UInt8) (h : s.toNat = 32 ∨ s.toNat = 58) (n : Int) : s ∉ Lib.itoa n := fun hm => by
 have := itoa_bytes n s hm
 omega
theorem nameV_inj {a b : V} {R S : List UInt8} (h : nameV a ++ R = nameV b ++ S) : a = b ∧ R = S := by
 unfold nameV at h
 simp only [List.append_assoc] at h
 obtain ⟨h0, h⟩ := split_at (no_itoa 32 (by decide) _) (no_itoa 32 (by decide) _) h
 obtain ⟨h1, h⟩ := split_at (no_itoa 32 (by decide) _) (no_itoa 32 (by decide) _) h
 obtain ⟨h2, h⟩ := split_at (no_itoa 58 (by decide) _) (no_itoa 58 (by decide) _) h
 have h0 := itoa_inj h0
 have h1 := itoa_inj h1
 have h2 := itoa_inj h2
 have hs : a.f2.data.toList.length = b.f2.data.toList.length := by
  have h2' : a.f2.size = b.f2.size := by omega
  rw [Array.length_toList, Array.length_toList]
  exact h2'
 obtain ⟨h3, h4⟩ := List.append_inj h hs
 have h3 : a.f2 = b.f2 := ByteArray.ext (Array.toList_inj.1 h3)
 refine ⟨?_, h4⟩
 cases a; cases b
 dsimp only at h0 h1 h3
 rw [h0, h1, h3]
theorem nameV_ne (v : V) : nameV v ≠ [] := by
 unfold nameV
 simp
theorem nameB_inj : ∀ {a b : List V}, nameB a = nameB b → a = b
 | [], [], _ => rfl
 | [], b :: m, h => by
  simp only [nameB] at h
  have := (List.append_eq_nil_iff.1 h.symm).1
  exact absurd this (nameV_ne b)
 | a :: l, [], h => by
  simp only [nameB] at h
  have := (List.append_eq_nil_iff.1 h).1
  exact absurd this (nameV_ne a)
 | a :: l, b :: m, h => by
  simp only [nameB] at h
  obtain ⟨h1, h2⟩ := nameV_inj h
  rw [h1, nameB_inj h2]
theorem name_inj {a b : List V} (h : nameOf a = nameOf b) : a = b := by
 apply nameB_inj
 unfold nameOf at h
 injection h with h
 simpa using h
theorem cnt_append (a b : List ByteArray) (s : ByteArray) : cnt (a ++ b) s = cnt a s + cnt b s := by
 unfold cnt; rw [List.countP_append]; omega
theorem cnt_cons (t : ByteArray) (l : List ByteArray) (s : ByteArray) : cnt (t :: l) s = cnt l s + (if t = s then 1 else 0) := by
 unfold cnt
 rw [List.countP_cons]
 by_cases h : t = s <;> simp [h]
theorem cnt_mem {a : List ByteArray} {t : ByteArray} (h : 1 ≤ cnt a t) : t ∈ a := by
 induction a with
 | nil => simp [cnt_nil] at h
 | cons u r ih =>
  rw [cnt_cons] at h
  by_cases e : u = t
  · subst e; exact List.mem_cons_self
  · simp [e] at h
    exact List.mem_cons_of_mem _ (ih h)
theorem cnt_sub (b : List ByteArray) : ∀ a : List ByteArray, (∀ s, cnt b s ≤ cnt a s) → b.length ≤ a.length ∧ (b.length = a.length → ∀ s, cnt a s = cnt b s) := by
 induction b with
 | nil =>
  intro a _
  refine ⟨by simp, fun h s => ?_⟩
  have : a = [] := List.eq_nil_of_length_eq_zero h.symm
  rw [this]
 | cons t b ih =>
  intro a h
  have h1 : 1 ≤ cnt a t := by
   have h2 := h t
   rw [cnt_cons] at h2
   have := cnt_nonneg b t
   simp at h2
   omega
  obtain ⟨p, q, rfl⟩ := List.append_of_mem (cnt_mem h1)
  have key : ∀ s, cnt (p ++ t :: q) s = cnt (p ++ q) s + (if t = s then 1 else 0) := fun s => by
   rw [cnt_append, cnt_append, cnt_cons]; omega
  obtain ⟨i1, i2⟩ := ih (p ++ q) (fun s => by
   have h2 := h s
   rw [key, cnt_cons] at h2
   omega)
  refine ⟨by simp at i1 ⊢; omega, fun hl s => ?_⟩
  rw [key, cnt_cons, i2 (by simp at hl ⊢; omega) s]
open Classical in
noncomputable def sameB (l0 l1 : List (List V)) : Bool := decide (l0.length = l1.length ∧ ∀ s, cnt (l0.map nameOf) s = cnt (l1.map nameOf) s)
open Classical in
theorem sameB_true {l0 l1 : List (List V)} (h : l0.length = l1.length ∧ ∀ s, cnt (l0.map nameOf) s = cnt (l1.map nameOf) s) : sameB l0 l1 = true := by
 exact decide_eq_true h
open Classical in
theorem sameB_false {l0 l1 : List (List V)} (h : ¬ (l0.length = l1.length ∧ ∀ s, cnt (l0.map nameOf) s = cnt (l1.map nameOf) s)) : sameB l0 l1 = false := by
 exact decide_eq_false h
open Classical in
noncomputable def bag_Same.f (l0 l1 : List (List V)) : Option Bool := if RowsOk l0 ∧ RowsOk l1 then some (sameB l0 l1) else none
theorem same_calls (A0 : Option Addr) (c0 : Nat) (l0 : List (List V)) (A1 : Option Addr) (c1 : Nat) (l1 : List (List V)) (w : World) (hr0 : Kd.C kRow w A0 l0.length l0) (hc0 : l0.length ≤ c0) (hr1 : Kd.C kRow w A1 l1.length l1) (hc1 : l1.length ≤ c1) (hT : LaidT w) (hok0 : RowsOk l0) (hok1 : RowsOk l1) :
 Calls Tryd.prog 24 #[.slice A0 l0.length c0, .slice A1 l1.length c1] w fun e w' => e = .returned (.bool (sameB l0 l1)) ∧ Below w.heap.size w w' := by
 have HT := Aside0.mk hT
 have HR0 := Aside0.mk hr0
 have HR1 := Aside0.mk hr1
 have HC0 := Aside0.mk hc0
 have HOK0 := Aside0.mk hok0
 have HOK := Aside0.mk hok1
 clear hT hr0 hc0 hok0 hok1 hr1 hc1
 by_cases hlen : l0.length = l1.length
 · have hne : ((l0.length : Int) != (l1.length : Int)) = false := by simp [hlen]
   have HLEN := Aside0.mk hlen
   clear hlen
   go_enter Tryd.func24, Tryd.ntmps24
   go_wp2_with fail
   refine (tally_calls _ _ l0 w HT.out HR0.out HC0.out HOK0.out).mono ?_
   rintro e w1 ⟨b, rfl, hb0, hcm, hbel⟩
   have HB0 := Aside0.mk hb0
   have M0 : Aside0 (CMap w1 b (fun s => cnt (l0.map nameOf) s - cnt ((l1.take (0 : Int).toNat).map nameOf) s)) := ⟨by simpa [cnt_nil] using hcm⟩
   have B0 := Aside0.mk hbel
   clear hb0 hcm hbel
   go_wp2
   go_loopg [18] l1.length (fun kq v18 W => ∃ x : Int, v18 = .int .i64 x ∧ Aside0 (0 ≤ x ∧ x ≤ l1.length ∧ (kq : Int) = l1.length - x) ∧ Aside0 (CMap W b (fun s => cnt (l0.map nameOf) s - cnt ((l1.take x.toNat).map nameOf) s)) ∧ Aside0 (∀ s, cnt ((l1.take x.toNat).map nameOf) s ≤ cnt (l0.map nameOf) s) ∧ Aside0 (Below w.heap.size w W))
   case atStart => exact ⟨0, rfl, ⟨by omega⟩, M0, ⟨fun s => by simp [cnt_nil, cnt_nonneg]⟩, B0⟩
   case round =>
    clear M0 B0
    obtain ⟨x, rfl, HX, HM, HLE, HB⟩ := hrel
    obtain ⟨hx0, hx1, hkq⟩ := HX.out
    by_cases hlt : x < (l1.length : Int)
    · have c1 : decide (x < (l1.length : Int)) = true := decide_eq_true hlt
      have c2 : decide (0 ≤ x) = true := decide_eq_true hx0
      obtain ⟨ad, A2, c1', e, hx_0, hl_0, hi_0⟩ := at_L4 HR1.out x hx0 hlt
      cases e
      replace hx_0 := (HB.out.cell (World.block_lt_of_cell? w _ hx_0)).trans hx_0
      have hi : x.toNat < l1.length := by omega
      have hrd : rd_L4 l1 x = l1[x.toNat] := by simp [rd_L4, List.getElem?_eq_getElem hi]
      have hok := HOK.out.1 (rd_L4 l1 x) (by rw [hrd]; exact List.getElem_mem hi)
      have hst : (l1.take (x + 1).toNat).map nameOf = (l1.take x.toNat).map nameOf ++ [nameOf (rd_L4 l1 x)] := by
       rw [show (x + 1).toNat = x.toNat + 1 by omega, take_snoc _ _ hi, List.map_append, hrd]; rfl
      have hall : l1.map nameOf = (l1.take (x + 1).toNat).map nameOf ++ (l1.drop (x + 1).toNat).map nameOf := by rw [← List.map_append, List.take_append_drop]
      obtain ⟨r, hr⟩ : ∃ r, r = rd_L4 l1 x := ⟨_, rfl⟩
      rw [← hr] at hx_0 hl_0 hi_0 hok hst
      have HI0 := Aside0.mk hi_0
      have HL0 := Aside0.mk hl_0
      have HOK1 := Aside0.mk hok
      have HST := Aside0.mk hst
      have HALL := Aside0.mk hall
      have HLT := Aside0.mk hlt
      have HWR : Aside0 (wrap64 (x + 1) = x + 1) := ⟨by have := HOK.out.2; unfold wrap64; omega⟩
      clear hi_0 hl_0 hok hst hrd hr hkq hi hall
      go_wp2_with fail
      refine (name_calls _ _ r wr (HT.out.below HB.out) (Kd.C_below HI0.out HB.out) HL0.out HOK1.out.1 HOK1.out.2.1 HOK1.out.2.2).mono ?_
      rintro e w1 ⟨rfl, hb1⟩
      have HM1 := Aside0.mk (HM.out.below hb1)
      have HB1 := Aside0.mk (HB.out.trans (hb1.mono HB.out.size))
      clear hb1
      obtain ⟨kv, hkv⟩ := HM1.out
      have HKV := Aside0.mk hkv
      obtain ⟨c, hcc⟩ : ∃ c, c = cnt (l0.map nameOf) (nameOf r) - cnt ((l1.take x.toNat).map nameOf) (nameOf r) := ⟨_, rfl⟩
      have hc : Aside0 ((KV.get kv (nameOf r)).getD 0 = c) := ⟨by rw [hcc]; exact hkv.2 _⟩
      have hc0 : 0 ≤ c := by have := HLE.out (nameOf r); omega
      have hc1 : c ≤ 1099511627776 := by
       have h1 := cnt_le (l0.map nameOf) (nameOf r)
       have h2 := HOK0.out.2
       have h3 := cnt_nonneg ((l1.take x.toNat).map nameOf) (nameOf r)
       rw [List.length_map] at h1
       omega
      have HCC := Aside0.mk hcc
      clear hcc hkv HM1 HM
      by_cases hz : c = 0
      · have hzb : (c == 0) = true := by simp [hz]
        have HZ := Aside0.mk hz
        clear hz
        go_wp2_with (at_lookup; refine KV.law_lookup _ rfl _ _ 85 rfl 9 3 Tryd.underlying9 Tryd.underlying85 (.int .i64 0) (zeroInt _) b (Value.int .i64) kv rfl HKV.out.1 (nameOf r) rfl (.int .i64 c) (get_int hc.out) ?_)
        go_ret
        refine ⟨?_, HB1.out⟩
        have : sameB l0 l1 = false := by
         apply sameB_false
         rintro ⟨_, h⟩
         have h1 := h (nameOf r)
         rw [HALL.out, HST.out, cnt_append, cnt_snoc] at h1
         have h2 := cnt_nonneg ((l1.drop (x + 1).toNat).map nameOf) (nameOf r)
         have h3 := HCC.out
         have h4 := HZ.out
         rw [if_pos rfl] at h1
         omega
        rw [this]
        rfl
      · have hzb : (c == 0) = false := by simp [hz]
        have HZ := Aside0.mk hz
        clear hz
        go_wp2_with (first
         | (at_lookup; refine KV.law_lookup _ rfl _ _ 85 rfl 9 3 Tryd.underlying9 Tryd.underlying85 (.int .i64 0) (zeroInt _) b (Value.int .i64) kv rfl HKV.out.1 (nameOf r) rfl (.int .i64 c) (get_int hc.out) ?_)
         | (at_mapUpdate; refine KV.law_update _ rfl _ _ _ 85 rfl 9 3 Tryd.underlying9 Tryd.underlying85 b (Value.int .i64) kv rfl HKV.out.1 (nameOf r) rfl (c - 1) rfl ?_; intro w2 hM2 hg2; have HM2 := Aside0.mk hM2; have HG2 := Aside0.mk hg2; clear hM2 hg2))
        have hlt := HLT.out
        have hk := HX.out.2.2
        have hz := HZ.out
        cases gk with
        | zero => omega
        | succ k1 =>
         go_roundg k1
         case measure => omega
         case rel =>
          refine ⟨x + 1, by rw [HWR.out], ⟨by omega⟩, ⟨?_⟩, ⟨fun s => ?_⟩, ⟨HB1.out.grown HG2.out HB1.out.size (fun k hk => by cases hk; exact HB0.out)⟩⟩
          · have h3 := CMap.put HKV.out.2 HM2.out
            have h4 : (fun t => if t = nameOf r then c - 1 else cnt (l0.map nameOf) t - cnt ((l1.take x.toNat).map nameOf) t) = fun s => cnt (l0.map nameOf) s - cnt ((l1.take (x + 1).toNat).map nameOf) s := by
             funext t
             rw [HST.out, cnt_snoc, HCC.out]
             by_cases h : t = nameOf r
             · subst h; simp; omega
             · have : ¬ nameOf r = t := fun e => h e.symm
               simp [h, this]
            rw [h4] at h3
            exact h3
          · rw [HST.out, cnt_snoc]
            have h1 := HLE.out s
            by_cases h : nameOf r = s
            · subst h
              have := HCC.out
              rw [if_pos rfl]; omega
            · rw [if_neg h]; omega
    · have c1 : decide (x < (l1.length : Int)) = false := decide_eq_false hlt
      go_wp2
      go_ret
      refine ⟨?_, HB.out⟩
      have ht : l1.take x.toNat = l1 := List.take_of_length_le (by omega)
      have hle := HLE.out
      rw [ht] at hle
      have : sameB l0 l1 = true := by
       exact sameB_true ⟨HLEN.out, (cnt_sub _ _ hle).2 (by simp [HLEN.out])⟩
      rw [this]
      rfl
 · have hne : ((l0.length : Int) != (l1.length : Int)) = true := by simp; omega
   have HLEN := Aside0.mk hlen
   clear hlen
   go_enter Tryd.func24, Tryd.ntmps24
   go_wp2
   go_ret
   refine ⟨?_, Below.refl _ _⟩
   have : sameB l0 l1 = false := by
    apply sameB_false
    rintro ⟨h, _⟩
    exact HLEN.out h
   rw [this]
   rfl
theorem bag_Same.calls (A0 : Option Addr) (c0 : Nat) (l0 : List (List V)) (A1 : Option Addr) (c1 : Nat) (l1 : List (List V)) (r : Bool) (w : World) (hr0 : Kd.C kRow w A0 l0.length l0) (hc0 : l0.length ≤ c0) (hr1 : Kd.C kRow w A1 l1.length l1) (hc1 : l1.length ≤ c1) (hT : LaidT w) (h : bag_Same.f l0 l1 = some r) :
 Calls Tryd.prog 24 #[.slice A0 l0.length c0, .slice A1 l1.length c1] w fun e w' => e = .returned (.bool r) ∧ Below w.heap.size w w' := by
 unfold bag_Same.f at h
 split at h
 · rename_i hk
   injection h with h
   subst h
   exact same_calls _ _ l0 _ _ l1 w hr0 hc0 hr1 hc1 hT hk.1 hk.2
 · cases h
end Go.Proofs.YtecgkcgfeghhgaaDoor.PAll
set_option linter.unusedVariables false
set_option linter.unusedSimpArgs false
namespace Go.Proofs.YtecgkcgfeghhgaaDoor.PAll
open Go.RowKit Go.Proofs.YtecgkcgfeghhgaaDoorW.PrintWords Go.Proofs.YtecgkcgfeghhgaaDoorW.PrintLast Go.Proofs.YtecgkcgfeghhgaaDoorW.PrintMore
attribute [local go_sem] max2_int min2_int max_two min_two
def fitsB (l : List (List V)) (ks : List KeyT) : Bool := validB l && keysB l ks
theorem fits_good {l : List (List V)} {ks : List KeyT} (hv : RowsV l) (h : fitsB l ks = true) : ∀ row ∈ l, RowGood ks row := by
 unfold fitsB at h
 rw [Bool.and_eq_true] at h
 obtain ⟨h1, h2⟩ := h
 intro row hrow
 refine ⟨validB_valid h1 row hrow, fun k hk => ?_, (hv.1 row hrow).2⟩
 have hk2 : hasB l k.f0 = true := List.all_eq_true.1 h2 k hk
 cases l with
 | nil => cases hrow
 | cons r rs =>
  have hl := validB_len h1 row hrow
  have := of_decide_eq_true hk2
  omega
def cutR (l : List (List V)) (a n : Int) : List (List V) := (l.drop a.toNat).take n.toNat
theorem cutR_eq (l : List (List V)) (a n f g : Int) (h0 : 0 ≤ a) (h1 : 0 ≤ n) (hf : (if (l.length : Int) < a then (l.length : Int) else a) = f) (hg : (if (l.length : Int) - f < n then (l.length : Int) - f else n) = g) : (l.take (f + g).toNat).drop f.toNat = cutR l a n := by
 unfold cutR
 rw [List.drop_take]
 by_cases c : (l.length : Int) < a
 · rw [if_pos c] at hf
   subst hf
   rw [List.drop_eq_nil_of_le (by omega), List.drop_eq_nil_of_le (by omega)]
   simp
 · rw [if_neg c] at hf
   subst hf
   by_cases c2 : (l.length : Int) - a < n
   · rw [if_pos c2] at hg
     rw [List.take_of_length_le (by rw [List.length_drop]; omega), List.take_of_length_le (by rw [List.length_drop]; omega)]
   · rw [if_neg c2] at hg
     subst hg
     congr 1
     omega
open Classical in
noncomputable def bag_Cut.f (l0 : List (List V)) (l1 : List KeyT) (a2 a3 : Int) : Option (List (List V) × Int) := if RowsV l0 ∧ l1.length ≤ 1099511627776 ∧ a2 ≤ 9223372036854775807 ∧ a3 ≤ 9223372036854775807 then some (if fitsB l0 l1 = true ∧ 0 ≤ a2 ∧ 0 ≤ a3 then (cutR (sortR l1 l0) a2 a3, 0) else ([], 1)) else none
theorem bag_Cut.calls (A0 : Option Addr) (c0 : Nat) (l0 : List (List V)) (A1 : Option Addr) (c1 : Nat) (l1 : List KeyT) (a2 a3 : Int) (r1 : List (List V)) (r2 : Int) (w : World) (hr0 : Kd.C kRow w A0 l0.length l0) (hc0 : l0.length ≤ c0) (hr1 : Kd.C kKey w A1 l1.length l1) (hc1 : l1.length ≤ c1) (h : bag_Cut.f l0 l1 a2 a3 = some (r1, r2)) :
 Calls Tryd.prog 20 #[.slice A0 l0.length c0, .slice A1 l1.length c1, .int .i64 a2, .int .i64 a3] w fun e w' => ∃ v0_ : Value, e = .returned (.tuple #[v0_, .int .i64 r2]) ∧ Kd.V kRow 58 w' w.heap.size (fun k_ => (w.heap.size ≤ k_)) v0_ r1 ∧ Below w.heap.size w w' := by
 unfold bag_Cut.f at h
 split at h
 case isFalse => cases h
 rename_i hv
 obtain ⟨hv, hk, h2, h3⟩ := hv
 have H := Aside0.mk (Option.some.inj h)
 have HV := Aside0.mk hv
 have HKN := Aside0.mk hk
 have H2 := Aside0.mk h2
 have H3 := Aside0.mk h3
 have HF := Aside0.mk (fits_calls A0 c0 l0 A1 c1 l1 w hr0 hc0 hr1 hc1 hv hk)
 have HR0 := Aside0.mk hr0
 have HR1 := Aside0.mk hr1
 clear h hv hk h2 h3 hr0 hr1 hc0 hc1
 change Aside0 (Calls _ _ _ _ fun e w' => e = .returned (.bool (fitsB l0 l1)) ∧ Below w.heap.size w w') at HF
 have bad : ∀ (P : Prop) [Decidable P], ¬ P → Aside0 ((if P then (cutR (sortR l1 l0) a2 a3, 0) else ([], 1)) = (r1, r2)) → r1 = [] ∧ r2 = 1 := fun P _ hP hh => by
  have := hh.out
  rw [if_neg hP] at this
  obtain ⟨e1, e2⟩ := Prod.mk.inj this
  exact ⟨e1.symm, e2.symm⟩
 cases hq : fitsB l0 l1 with
 | false =>
  have HN := Aside0.mk (bad _ (by rw [hq]; simp) H)
  rw [hq] at HF
  clear hq bad H
  go_enter Tryd.func20, Tryd.ntmps20
  go_wp2_with fail
  refine HF.out.mono ?_
  rintro e w1 ⟨rfl, hb1⟩
  have HB := Aside0.mk hb1
  clear hb1
  go_wp2
  go_ret2
  refine ⟨.slice none 0 0, by rw [HN.out.2]; rfl, ?_, HB.out⟩
  rw [HN.out.1]
  exact Kd.V_nil _ _ _ _ _
 | true =>
  rw [hq] at HF
  by_cases hn2 : a2 < 0
  · have HN := Aside0.mk (bad _ (by omega) H)
    have d2 : decide (a2 < 0) = true := decide_eq_true hn2
    clear hq bad H hn2
    go_enter Tryd.func20, Tryd.ntmps20
    go_wp2_with fail
    refine HF.out.mono ?_
    rintro e w1 ⟨rfl, hb1⟩
    have HB := Aside0.mk hb1
    clear hb1
    go_wp2
    go_ret2
    refine ⟨.slice none 0 0, by rw [HN.out.2]; rfl, ?_, HB.out⟩
    rw [HN.out.1]
    exact Kd.V_nil _ _ _ _ _
  · have d2 : decide (a2 < 0) = false := decide_eq_false hn2
    by_cases hn3 : a3 < 0
    · have HN := Aside0.mk (bad _ (by omega) H)
      have d3 : decide (a3 < 0) = true := decide_eq_true hn3
      clear hq bad H hn2 hn3
      go_enter Tryd.func20, Tryd.ntmps20
      go_wp2_with fail
      refine HF.out.mono ?_
      rintro e w1 ⟨rfl, hb1⟩
      have HB := Aside0.mk hb1
      clear hb1
      go_wp2
      go_ret2
      refine ⟨.slice none 0 0, by rw [HN.out.2]; rfl, ?_, HB.out⟩
      rw [HN.out.1]
      exact Kd.V_nil _ _ _ _ _
    · have d3 : decide (a3 < 0) = false := decide_eq_false hn3
      have hgood : Aside0 (r1 = cutR (sortR l1 l0) a2 a3 ∧ r2 = 0) := ⟨by
       have := H.out
       rw [if_pos ⟨hq, by omega, by omega⟩] at this
       obtain ⟨e1, e2⟩ := Prod.mk.inj this
       exact ⟨e1.symm, e2.symm⟩⟩
      have HG := Aside0.mk (fits_good HV.out hq)
      have HLR : Aside0 ((sortR l1 l0).length ≤ 1099511627776) := ⟨by rw [(sortR_perm l1 l0).length_eq]; exact HV.out.2⟩
      have HN2 := Aside0.mk hn2
      have HN3 := Aside0.mk hn3
      have HA := Aside0.mk (fun w1 (hb : Below w.heap.size w w1) => arranged_calls A0 c0 l0 A1 c1 l1 w1 (Kd.C_below HR0.out hb) (Kd.C_below HR1.out hb) HG.out HV.out.2 HKN.out)
      obtain ⟨rs, hrs⟩ : ∃ rs, rs = sortR l1 l0 := ⟨_, rfl⟩
      rw [← hrs] at hgood HLR
      simp only [← hrs] at HA
      obtain ⟨f, hf⟩ : ∃ f, (if (rs.length : Int) < a2 then (rs.length : Int) else a2) = f := ⟨_, rfl⟩
      obtain ⟨g, hg⟩ : ∃ g, (if (rs.length : Int) - f < a3 then (rs.length : Int) - f else a3) = g := ⟨_, rfl⟩
      have HCUT := Aside0.mk (cutR_eq rs a2 a3 f g (by omega) (by omega) hf hg)
      have hf0 : 0 ≤ f ∧ f ≤ rs.length := by rw [← hf]; split <;> omega
      have hg0 : 0 ≤ g ∧ g ≤ rs.length - f := by rw [← hg]; split <;> omega
      have HFB := Aside0.mk hf0
      have HGB := Aside0.mk hg0
      have hw1 : wrap64 ((rs.length : Int) - f) = (rs.length : Int) - f := by have := HLR.out; unfold wrap64; omega
      have hw2 : wrap64 (f + g) = f + g := by have := HLR.out; unfold wrap64; omega
      clear hq bad H hn2 hn3 hf0 hg0 hrs
      go_enter Tryd.func20, Tryd.ntmps20
      go_wp2_with fail
      refine HF.out.mono ?_
      rintro e w1 ⟨rfl, hb1⟩
      have HB := Aside0.mk hb1
      clear hb1
      go_wp2_with fail
      refine (HA.out w1 HB.out).mono ?_
      rintro e w2 ⟨v2, rfl, hR2, hb2⟩
      obtain ⟨Av, cv, ev, hlc, hC⟩ := Kd.R_reads hR2
      subst ev
      have HB2 := Aside0.mk (HB.out.trans (hb2.mono HB.out.size))
      have HM := Aside0.mk (C_relM hR2)
      obtain ⟨i0, hi, hzz⟩ := Option.map_eq_some_iff.1 infoRow
      simp only [Prod.mk.injEq] at hzz
      have hcut := cut_mid (P := Tryd.prog) 37 58 .i64 .i64 Tryd.underlying37 hi 1 hzz.2.1 Av rs.length cv f (f + g) HFB.out.1 (by have := HGB.out; omega) (by have := HGB.out; omega) hlc
      have hcm := (Kd.C_mid (lo := f.toNat) (hi := (f + g).toNat) HM.out (by have := HGB.out; omega) (by have := HGB.out; have := HFB.out; omega) hlc)
      change Kd.C (relM w2 w1.heap.size).kd w2 (if cv = f.toNat then Av else Av.map (·.add (f.toNat * 1))) _ _ at hcm
      obtain ⟨A', hA'⟩ : ∃ A', A' = (if cv = f.toNat then Av else Av.map (·.add (f.toNat * 1))) := ⟨_, rfl⟩
      have hlm : ((rs.take (f + g).toNat).drop f.toNat).length = (f + g).toNat - f.toNat := by
       rw [List.length_drop, List.length_take]
       have := HGB.out
       have := HFB.out
       omega
      rw [← hA'] at hcm hcut
      rw [hlm, HCUT.out] at hcm
      rw [HCUT.out] at hlm
      obtain ⟨n', hn'⟩ : ∃ n', n' = (f + g).toNat - f.toNat := ⟨_, rfl⟩
      rw [← hn'] at hcm hcut hlm
      have HCM := Aside0.mk hcm
      have HLM : Aside0 ((cutR rs a2 a3).length ≤ 2199023255552) := ⟨by
       have h1 : (cutR rs a2 a3).length ≤ rs.length := by unfold cutR; rw [List.length_take, List.length_drop]; omega
       have := HLR.out
       omega⟩
      have HB1S := Aside0.mk HB.out.size
      have HB2S := Aside0.mk hb2.size
      clear hR2 hb2 hC hlc hzz hi hcm hA' hlm hn'
      go_wp2_with fail
      refine (cloneRows_calls _ A' n' (cv - f.toNat) (cutR rs a2 a3) w2 HCM.out HLM.out).mono ?_
      rintro e w3 ⟨v3, rfl, hR3, hb3⟩
      have HR3 := Aside0.mk (R_relM hR3 hb3 HB2S.out (Nat.le_refl _))
      have HB3 := Aside0.mk (HB2.out.trans (hb3.mono HB2.out.size))
      clear hR3 hb3
      go_wp2
      go_ret2
      refine ⟨v3, by rw [hgood.out.2]; rfl, ?_, HB3.out⟩
      rw [hgood.out.1]
      exact Kd.R_V (base' := w.heap.size) (Kd.R_mono (Kd.R_bound HR3.out) (fun k hk => Nat.le_trans HB1S.out hk.2.1))
end Go.Proofs.YtecgkcgfeghhgaaDoor.PAll
set_option linter.unusedVariables false
set_option linter.unusedSimpArgs false
namespace Go.Proofs.YtecgkcgfeghhgaaDoor.PAll
open Go.RowKit Go.Proofs.YtecgkcgfeghhgaaDoorW.PrintWords Go.Proofs.YtecgkcgfeghhgaaDoorW.PrintLast Go.Proofs.YtecgkcgfeghhgaaDoorW.PrintMore
def nn (vs : List V) : List V := vs.filter (fun v => decide (v.f0 ≠ 0))
theorem pickV_nn (fn : Int) (h : fn ≠ 0) : ∀ (vs : List V) (s : List ByteArray), pickV fn false s vs = nn vs
 | [], _ => rfl
 | v :: vs, s => by
  rw [pickV]
  by_cases h0 : v.f0 = 0
  · rw [if_pos ⟨h, h0⟩, pickV_nn fn h vs s]
    simp [nn, h0]
  · rw [if_neg (fun e => h0 e.2), if_neg (by simp), pickV_nn fn h vs s]
    simp [nn, h0]
theorem allowed_kind {fn K : Int} {vs : List V} (h : ∀ v ∈ vs, validV v = true ∧ (v.f0 = 0 ∨ v.f0 = K)) (h0 : 0 ≤ fn) (h5 : fn ≤ 5) (hk : K = 0 ∨ K = 1 ∨ fn ≠ 2 ∧ fn ≠ 5) : allowedB fn false vs = true := by
 obtain ⟨q, hq, hq2⟩ := kindFrom_some K vs 0 h (.inl rfl)
 unfold allowedB
 rw [if_neg (by simp; omega), hq]
 exact decide_eq_true (by omega)
theorem valid_one (n : Int) : validV (⟨1, n, ⟨#[]⟩⟩ : V) = true := by
 unfold validV noText
 simp [ByteArray.toList_eq]
theorem nameV_short (v : V) (h : VOk v) (hs : v.f2.size ≤ 1099511627776) : (nameV v).length ≤ v.f2.size + 66 := by
 obtain ⟨h0, h1, h2, h3⟩ := h
 have i1 := Lib.itoa_length_le v.f0 (by omega) (by omega)
 have i2 := Lib.itoa_length_le v.f1 h2 h3
 have i3 := Lib.itoa_length_le (v.f2.size : Int) (by omega) (by omega)
 have e : v.f2.data.toList.length = v.f2.size := Array.length_toList
 unfold nameV
 simp only [List.length_append, List.length_cons, List.length_nil, e]
 omega
theorem nameB_short (S : Nat) (hS : S ≤ 1048576) : ∀ r : List V, (∀ v ∈ r, VOk v ∧ v.f2.size ≤ S) → (nameB r).length ≤ r.length * (S + 66)
 | [], _ => by simp [nameB]
 | v :: r, h => by
  obtain ⟨a, b⟩ := h v List.mem_cons_self
  have h1 := nameV_short v a (by omega)
  have h2 := nameB_short S hS r (fun u hu => h u (List.mem_cons_of_mem _ hu))
  simp only [nameB, List.length_append, List.length_cons, Nat.add_mul, Nat.one_mul]
  simp only [Nat.mul_add] at h2 ⊢
  omega
theorem rowOk_short {S : Nat} {r : List V} (h : ∀ v ∈ r, VOk v ∧ v.f2.size ≤ S) (hn : r.length + S ≤ 1048586) (hS : S ≤ 1048576) : RowOk r := by
 have h1 := nameB_short S hS r h
 refine ⟨fun v hv => (h v hv).1, ?_, by omega⟩
 refine Nat.le_trans h1 ?_
 by_cases hc : r.length ≤ 524300
 · exact Nat.le_trans (Nat.mul_le_mul hc (show S + 66 ≤ 1048642 by omega)) (by decide)
 · exact Nat.le_trans (Nat.mul_le_mul (show r.length ≤ 1048586 by omega) (show S + 66 ≤ 524400 by omega)) (by decide)
def ivs (l : List Int) : List V := l.map (fun n => (⟨1, n, ⟨#[]⟩⟩ : V))
theorem ivs_len (l : List Int) : (ivs l).length = l.length := List.length_map _
theorem ivs_app (a b : List Int) : ivs (a ++ b) = ivs a ++ ivs b := List.map_append ..
theorem ivs_nn (l : List Int) : nn (ivs l) = ivs l := by
 unfold nn
 rw [List.filter_eq_self]
 intro v hv
 obtain ⟨n, _, rfl⟩ := List.mem_map.1 hv
 rfl
theorem ivs_sum (l : List Int) : sumV (ivs l) = l.sum := by
 induction l with
 | nil => rfl
 | cons n l ih => rw [List.sum_cons, ← ih]; rfl
theorem ivs_allowed (fn : Int) (h0 : 0 ≤ fn) (h5 : fn ≤ 5) (l : List Int) : allowedB fn false (ivs l) = true := allowed_kind (K := 1) (fun v hv => by
 obtain ⟨n, _, rfl⟩ := List.mem_map.1 hv
 exact ⟨valid_one n, .inr rfl⟩) h0 h5 (.inr (.inl rfl))
theorem ivs_aggR (fn : Int) (h2 : 2 ≤ fn) (h5 : fn ≤ 5) (l : List Int) : aggR fn false (ivs l) = aggV fn (ivs l) := by
 unfold aggR
 rw [if_pos (ivs_allowed fn (by omega) h5 l), pickV_nn fn (by omega), ivs_nn]
theorem ivs_ok (fn : Int) (h0 : 0 ≤ fn) (l : List Int) (hl : ∀ n ∈ l, -9223372036854775808 ≤ n ∧ n ≤ 9223372036854775807) (hn : l.length ≤ 4194304) : bag_Aggregate.f fn false (ivs l) = some (aggR fn false (ivs l)) := by
 unfold bag_Aggregate.f
 refine if_pos ⟨h0, fun _ => ?_, fun v hv => ?_, ?_⟩
 · rw [ivs_len]; omega
 · obtain ⟨n, hm, rfl⟩ := List.mem_map.1 hv
   refine rowOk_short (S := 0) (fun u hu => ?_) (by simp) (by omega)
   obtain rfl := List.mem_singleton.1 hu
   exact ⟨⟨by simp, by simp, hl n hm⟩, Nat.le_refl _⟩
 · rw [ivs_len]; omega
end Go.Proofs.YtecgkcgfeghhgaaDoor.PAll
namespace Go.Proofs.YtecgkcgfeghhgaaDoor.PAll
open Go.RowKit Go.Proofs.YtecgkcgfeghhgaaDoorW.PrintWords Go.Proofs.YtecgkcgfeghhgaaDoorW.PrintLast Go.Proofs.YtecgkcgfeghhgaaDoorW.PrintMore
attribute [local go_sem] max2_int min2_int max_two min_two max_three min_three max_four min_four
set_option linter.unusedVariables false
set_option linter.unusedSimpArgs false
def r1_Same.f (a0_0 : Int) (a0_1 : Int) (a0_2 : ByteArray) (a1_0 : Int) (a1_1 : Int) (a1_2 : ByteArray) : Option (Bool) := if a0_0 = a1_0 then (if a0_1 = a1_1 then (some (a0_2.toList == a1_2.toList)) else (some false)) else (some false)
theorem r1_Same.calls (a0_0 : Int) (a0_1 : Int) (a0_2 : ByteArray) (a1_0 : Int) (a1_1 : Int) (a1_2 : ByteArray) (r : Bool) (w : World) (h : r1_Same.f a0_0 a0_1 a0_2 a1_0 a1_1 a1_2 = some r) :
 Calls Tryd.prog 14 #[.agg #[.int .u8 a0_0, .int .i64 a0_1, .string a0_2], .agg #[.int .u8 a1_0, .int .i64 a1_1, .string a1_2]] w fun e w' => e = .returned (.bool r) ∧ Below w.heap.size w w' := by
 have hu27 := Tryd.underlying27
 have HB := Aside0.mk (Below.refl w.heap.size w)
 have H : (if a0_0 = a1_0 then (if a0_1 = a1_1 then (some (a0_2.toList == a1_2.toList)) else (some false)) else (some false)) = some r := h
 clear h
 by_cases c3 : a0_0 = a1_0
 · rw [if_pos c3] at H
   have c3b0 : (a0_0 == a1_0) = true := beq_iff_eq.mpr c3
   have c3b1 : (a0_0 != a1_0) = false := bne_eq_false_iff_eq.mpr c3
   clear c3
   by_cases c4 : a0_1 = a1_1
   · rw [if_pos c4] at H
     have c4b0 : (a0_1 == a1_1) = true := beq_iff_eq.mpr c4
     have c4b1 : (a0_1 != a1_1) = false := bne_eq_false_iff_eq.mpr c4
     clear c4
     obtain rfl := Option.some.inj H
     go_enter Tryd.func14, Tryd.ntmps14
     go_wp2_with (first | ((with_reducible refine gate_dst (N := 2) rfl ?_); refine box_event ?hg (N := 2) ?hd (cs := #[.int .u8 a0_0, .int .i64 a0_1, .string a0_2]) (t := 27) ?hr ?_; (case hd => rfl); (case hg => rfl); (case hr => first | (go_simp; done) | (go_simp; rfl)); intro gb125 hg w5 hbox hb; have n0_ := Aside0.mk (below_step (by repeat (first | (with_reducible first | exact HB.out | apply bA_ | apply bN_ | apply b1_) | exact HB.out)) hb); have n1_ := Aside0.mk (hbox); have n2_ := Aside0.mk ((by rw [hg]; exact (below_size (by repeat (first | (with_reducible first | exact HB.out | apply bA_ | apply bN_ | apply b1_) | exact HB.out))) : w.heap.size ≤ gb125)); have n3_ := Aside0.mk ((by rw [hg]; exact (below_size (by repeat (first | (with_reducible first | exact HB.out | apply bA_ | apply bN_ | apply b1_) | exact HB.out))) : w.heap.size ≤ gb125)); clear HB; have HB := n0_; have BK125 := n1_; have GW125 := n2_; have GE125 := n3_; clear n0_ n1_ n2_ n3_; clear hb hbox hg) | ((with_reducible refine gate_dst (N := 3) rfl ?_); refine box_event ?hg (N := 3) ?hd (cs := #[.int .u8 a1_0, .int .i64 a1_1, .string a1_2]) (t := 27) ?hr ?_; (case hd => rfl); (case hg => rfl); (case hr => first | (go_simp; done) | (go_simp; rfl)); intro gb126 hg w6 hbox hb; have n0_ := Aside0.mk (blk_below (g := gb125) (o := .cells #[.int .u8 a0_0, .int .i64 a0_1, .string a0_2] 27 (0, 0)) (by (with_reducible repeat (first | refine blk_drewN ?_ _ | refine blk_drew ?_ | refine blk_alloc ?_ _)); exact BK125.out) hb); have n1_ := Aside0.mk (below_step (by repeat (first | (with_reducible first | exact HB.out | apply bA_ | apply bN_ | apply b1_ | refine below_set ?_ GE125.out) | exact HB.out)) hb); have n2_ := Aside0.mk (hbox); have n3_ := Aside0.mk ((by rw [hg]; exact (below_size (by repeat (first | (with_reducible first | exact HB.out | apply bA_ | apply bN_ | apply b1_ | refine below_set ?_ GE125.out) | exact HB.out))) : w.heap.size ≤ gb126)); have n4_ := Aside0.mk ((by rw [hg]; exact (below_size (by repeat (first | (with_reducible first | exact HB.out | apply bA_ | apply bN_ | apply b1_ | refine below_set ?_ GE125.out) | exact HB.out))) : w.heap.size ≤ gb126)); have n5_ := Aside0.mk ((by rw [hg]; exact Nat.ne_of_lt (blk_lt (g := gb125) (o := .cells #[.int .u8 a0_0, .int .i64 a0_1, .string a0_2] 27 (0, 0)) (by (with_reducible repeat (first | refine blk_drewN ?_ _ | refine blk_drew ?_ | refine blk_alloc ?_ _)); exact BK125.out)) : gb125 ≠ gb126)); have n6_ := Aside0.mk ((by rw [hg]; exact Nat.ne_of_gt (blk_lt (g := gb125) (o := .cells #[.int .u8 a0_0, .int .i64 a0_1, .string a0_2] 27 (0, 0)) (by (with_reducible repeat (first | refine blk_drewN ?_ _ | refine blk_drew ?_ | refine blk_alloc ?_ _)); exact BK125.out)) : gb126 ≠ gb125)); clear BK125; clear HB; have BK125 := n0_; have HB := n1_; have BK126 := n2_; have GW126 := n3_; have GE126 := n4_; have NB125_126 := n5_; have NB126_125 := n6_; clear n0_ n1_ n2_ n3_ n4_ n5_ n6_; clear hb hbox hg; have hnb7 := NB125_126.out; have hnc7 := NB126_125.out; have hcz8_0 : w6.cell? ⟨gb125, 0, none⟩ = some (.int .u8 a0_0) := (blk_cell BK125.out 0).trans rfl; have hcz8_1 : w6.cell? ⟨gb125, 1, none⟩ = some (.int .i64 a0_1) := (blk_cell BK125.out 1).trans rfl; have hcz8_2 : w6.cell? ⟨gb125, 2, none⟩ = some (.string a0_2) := (blk_cell BK125.out 2).trans rfl; have hfz8_0 := blk_frozen BK125.out 0; have hfz8_1 := blk_frozen BK125.out 1; have hfz8_2 := blk_frozen BK125.out 2; have hcz9_0 : w6.cell? ⟨gb126, 0, none⟩ = some (.int .u8 a1_0) := (blk_cell BK126.out 0).trans rfl; have hcz9_1 : w6.cell? ⟨gb126, 1, none⟩ = some (.int .i64 a1_1) := (blk_cell BK126.out 1).trans rfl; have hcz9_2 : w6.cell? ⟨gb126, 2, none⟩ = some (.string a1_2) := (blk_cell BK126.out 2).trans rfl; have hfz9_0 := blk_frozen BK126.out 0; have hfz9_1 := blk_frozen BK126.out 1; have hfz9_2 := blk_frozen BK126.out 2))
     go_ret
     exact ⟨by first | rfl | (simp [*, errW_none, errW_some] <;> rfl), by repeat (first | (with_reducible first | exact HB.out | apply bA_ | apply bN_ | apply b1_ | refine below_set ?_ GE125.out | refine below_set ?_ GE126.out) | exact HB.out)⟩
   · rw [if_neg c4] at H
     have c4b0 : (a0_1 == a1_1) = false := beq_eq_false_iff_ne.mpr c4
     have c4b1 : (a0_1 != a1_1) = true := bne_iff_ne.mpr c4
     obtain rfl := Option.some.inj H
     go_enter Tryd.func14, Tryd.ntmps14
     go_wp2_with (first | ((with_reducible refine gate_dst (N := 2) rfl ?_); refine box_event ?hg (N := 2) ?hd (cs := #[.int .u8 a0_0, .int .i64 a0_1, .string a0_2]) (t := 27) ?hr ?_; (case hd => rfl); (case hg => rfl); (case hr => first | (go_simp; done) | (go_simp; rfl)); intro gb125 hg w10 hbox hb; have n0_ := Aside0.mk (below_step (by repeat (first | (with_reducible first | exact HB.out | apply bA_ | apply bN_ | apply b1_) | exact HB.out)) hb); have n1_ := Aside0.mk (hbox); have n2_ := Aside0.mk ((by rw [hg]; exact (below_size (by repeat (first | (with_reducible first | exact HB.out | apply bA_ | apply bN_ | apply b1_) | exact HB.out))) : w.heap.size ≤ gb125)); have n3_ := Aside0.mk ((by rw [hg]; exact (below_size (by repeat (first | (with_reducible first | exact HB.out | apply bA_ | apply bN_ | apply b1_) | exact HB.out))) : w.heap.size ≤ gb125)); clear HB; have HB := n0_; have BK125 := n1_; have GW125 := n2_; have GE125 := n3_; clear n0_ n1_ n2_ n3_; clear hb hbox hg) | ((with_reducible refine gate_dst (N := 3) rfl ?_); refine box_event ?hg (N := 3) ?hd (cs := #[.int .u8 a1_0, .int .i64 a1_1, .string a1_2]) (t := 27) ?hr ?_; (case hd => rfl); (case hg => rfl); (case hr => first | (go_simp; done) | (go_simp; rfl)); intro gb126 hg w11 hbox hb; have n0_ := Aside0.mk (blk_below (g := gb125) (o := .cells #[.int .u8 a0_0, .int .i64 a0_1, .string a0_2] 27 (0, 0)) (by (with_reducible repeat (first | refine blk_drewN ?_ _ | refine blk_drew ?_ | refine blk_alloc ?_ _)); exact BK125.out) hb); have n1_ := Aside0.mk (below_step (by repeat (first | (with_reducible first | exact HB.out | apply bA_ | apply bN_ | apply b1_ | refine below_set ?_ GE125.out) | exact HB.out)) hb); have n2_ := Aside0.mk (hbox); have n3_ := Aside0.mk ((by rw [hg]; exact (below_size (by repeat (first | (with_reducible first | exact HB.out | apply bA_ | apply bN_ | apply b1_ | refine below_set ?_ GE125.out) | exact HB.out))) : w.heap.size ≤ gb126)); have n4_ := Aside0.mk ((by rw [hg]; exact (below_size (by repeat (first | (with_reducible first | exact HB.out | apply bA_ | apply bN_ | apply b1_ | refine below_set ?_ GE125.out) | exact HB.out))) : w.heap.size ≤ gb126)); have n5_ := Aside0.mk ((by rw [hg]; exact Nat.ne_of_lt (blk_lt (g := gb125) (o := .cells #[.int .u8 a0_0, .int .i64 a0_1, .string a0_2] 27 (0, 0)) (by (with_reducible repeat (first | refine blk_drewN ?_ _ | refine blk_drew ?_ | refine blk_alloc ?_ _)); exact BK125.out)) : gb125 ≠ gb126)); have n6_ := Aside0.mk ((by rw [hg]; exact Nat.ne_of_gt (blk_lt (g := gb125) (o := .cells #[.int .u8 a0_0, .int .i64 a0_1, .string a0_2] 27 (0, 0)) (by (with_reducible repeat (first | refine blk_drewN ?_ _ | refine blk_drew ?_ | refine blk_alloc ?_ _)); exact BK125.out)) : gb126 ≠ gb125)); clear BK125; clear HB; have BK125 := n0_; have HB := n1_; have BK126 := n2_; have GW126 := n3_; have GE126 := n4_; have NB125_126 := n5_; have NB126_125 := n6_; clear n0_ n1_ n2_ n3_ n4_ n5_ n6_; clear hb hbox hg; have hnb12 := NB125_126.out; have hnc12 := NB126_125.out; have hcz13_0 : w11.cell? ⟨gb125, 0, none⟩ = some (.int .u8 a0_0) := (blk_cell BK125.out 0).trans rfl; have hcz13_1 : w11.cell? ⟨gb125, 1, none⟩ = some (.int .i64 a0_1) := (blk_cell BK125.out 1).trans rfl; have hcz13_2 : w11.cell? ⟨gb125, 2, none⟩ = some (.string a0_2) := (blk_cell BK125.out 2).trans rfl; have hfz13_0 := blk_frozen BK125.out 0; have hfz13_1 := blk_frozen BK125.out 1; have hfz13_2 := blk_frozen BK125.out 2; have hcz14_0 : w11.cell? ⟨gb126, 0, none⟩ = some (.int .u8 a1_0) := (blk_cell BK126.out 0).trans rfl; have hcz14_1 : w11.cell? ⟨gb126, 1, none⟩ = some (.int .i64 a1_1) := (blk_cell BK126.out 1).trans rfl; have hcz14_2 : w11.cell? ⟨gb126, 2, none⟩ = some (.string a1_2) := (blk_cell BK126.out 2).trans rfl; have hfz14_0 := blk_frozen BK126.out 0; have hfz14_1 := blk_frozen BK126.out 1; have hfz14_2 := blk_frozen BK126.out 2))
     go_ret
     exact ⟨by first | rfl | (simp [*, errW_none, errW_some] <;> rfl), by repeat (first | (with_reducible first | exact HB.out | apply bA_ | apply bN_ | apply b1_ | refine below_set ?_ GE125.out | refine below_set ?_ GE126.out) | exact HB.out)⟩
 · rw [if_neg c3] at H
   have c3b0 : (a0_0 == a1_0) = false := beq_eq_false_iff_ne.mpr c3
   have c3b1 : (a0_0 != a1_0) = true := bne_iff_ne.mpr c3
   obtain rfl := Option.some.inj H
   go_enter Tryd.func14, Tryd.ntmps14
   go_wp2_with (first | ((with_reducible refine gate_dst (N := 2) rfl ?_); refine box_event ?hg (N := 2) ?hd (cs := #[.int .u8 a0_0, .int .i64 a0_1, .string a0_2]) (t := 27) ?hr ?_; (case hd => rfl); (case hg => rfl); (case hr => first | (go_simp; done) | (go_simp; rfl)); intro gb125 hg w15 hbox hb; have n0_ := Aside0.mk (below_step (by repeat (first | (with_reducible first | exact HB.out | apply bA_ | apply bN_ | apply b1_) | exact HB.out)) hb); have n1_ := Aside0.mk (hbox); have n2_ := Aside0.mk ((by rw [hg]; exact (below_size (by repeat (first | (with_reducible first | exact HB.out | apply bA_ | apply bN_ | apply b1_) | exact HB.out))) : w.heap.size ≤ gb125)); have n3_ := Aside0.mk ((by rw [hg]; exact (below_size (by repeat (first | (with_reducible first | exact HB.out | apply bA_ | apply bN_ | apply b1_) | exact HB.out))) : w.heap.size ≤ gb125)); clear HB; have HB := n0_; have BK125 := n1_; have GW125 := n2_; have GE125 := n3_; clear n0_ n1_ n2_ n3_; clear hb hbox hg) | ((with_reducible refine gate_dst (N := 3) rfl ?_); refine box_event ?hg (N := 3) ?hd (cs := #[.int .u8 a1_0, .int .i64 a1_1, .string a1_2]) (t := 27) ?hr ?_; (case hd => rfl); (case hg => rfl); (case hr => first | (go_simp; done) | (go_simp; rfl)); intro gb126 hg w16 hbox hb; have n0_ := Aside0.mk (blk_below (g := gb125) (o := .cells #[.int .u8 a0_0, .int .i64 a0_1, .string a0_2] 27 (0, 0)) (by (with_reducible repeat (first | refine blk_drewN ?_ _ | refine blk_drew ?_ | refine blk_alloc ?_ _)); exact BK125.out) hb); have n1_ := Aside0.mk (below_step (by repeat (first | (with_reducible first | exact HB.out | apply bA_ | apply bN_ | apply b1_ | refine below_set ?_ GE125.out) | exact HB.out)) hb); have n2_ := Aside0.mk (hbox); have n3_ := Aside0.mk ((by rw [hg]; exact (below_size (by repeat (first | (with_reducible first | exact HB.out | apply bA_ | apply bN_ | apply b1_ | refine below_set ?_ GE125.out) | exact HB.out))) : w.heap.size ≤ gb126)); have n4_ := Aside0.mk ((by rw [hg]; exact (below_size (by repeat (first | (with_reducible first | exact HB.out | apply bA_ | apply bN_ | apply b1_ | refine below_set ?_ GE125.out) | exact HB.out))) : w.heap.size ≤ gb126)); have n5_ := Aside0.mk ((by rw [hg]; exact Nat.ne_of_lt (blk_lt (g := gb125) (o := .cells #[.int .u8 a0_0, .int .i64 a0_1, .string a0_2] 27 (0, 0)) (by (with_reducible repeat (first | refine blk_drewN ?_ _ | refine blk_drew ?_ | refine blk_alloc ?_ _)); exact BK125.out)) : gb125 ≠ gb126)); have n6_ := Aside0.mk ((by rw [hg]; exact Nat.ne_of_gt (blk_lt (g := gb125) (o := .cells #[.int .u8 a0_0, .int .i64 a0_1, .string a0_2] 27 (0, 0)) (by (with_reducible repeat (first | refine blk_drewN ?_ _ | refine blk_drew ?_ | refine blk_alloc ?_ _)); exact BK125.out)) : gb126 ≠ gb125)); clear BK125; clear HB; have BK125 := n0_; have HB := n1_; have BK126 := n2_; have GW126 := n3_; have GE126 := n4_; have NB125_126 := n5_; have NB126_125 := n6_; clear n0_ n1_ n2_ n3_ n4_ n5_ n6_; clear hb hbox hg; have hnb17 := NB125_126.out; have hnc17 := NB126_125.out; have hcz18_0 : w16.cell? ⟨gb125, 0, none⟩ = some (.int .u8 a0_0) := (blk_cell BK125.out 0).trans rfl; have hcz18_1 : w16.cell? ⟨gb125, 1, none⟩ = some (.int .i64 a0_1) := (blk_cell BK125.out 1).trans rfl; have hcz18_2 : w16.cell? ⟨gb125, 2, none⟩ = some (.string a0_2) := (blk_cell BK125.out 2).trans rfl; have hfz18_0 := blk_frozen BK125.out 0; have hfz18_1 := blk_frozen BK125.out 1; have hfz18_2 := blk_frozen BK125.out 2; have hcz19_0 : w16.cell? ⟨gb126, 0, none⟩ = some (.int .u8 a1_0) := (blk_cell BK126.out 0).trans rfl; have hcz19_1 : w16.cell? ⟨gb126, 1, none⟩ = some (.int .i64 a1_1) := (blk_cell BK126.out 1).trans rfl; have hcz19_2 : w16.cell? ⟨gb126, 2, none⟩ = some (.string a1_2) := (blk_cell BK126.out 2).trans rfl; have hfz19_0 := blk_frozen BK126.out 0; have hfz19_1 := blk_frozen BK126.out 1; have hfz19_2 := blk_frozen BK126.out 2))
   go_ret
   exact ⟨by first | rfl | (simp [*, errW_none, errW_some] <;> rfl), by repeat (first | (with_reducible first | exact HB.out | apply bA_ | apply bN_ | apply b1_ | refine below_set ?_ GE125.out | refine below_set ?_ GE126.out) | exact HB.out)⟩
def r1_SameRows.l0 : Nat → List (S27) → List (S27) → Int → Option (Bool)
 | 0, _, _, _ => none
 | k + 1, x0, x1, x5 => if x5 < (x0.length : Int) then (if 0 ≤ x5 then (if x5 < (x1.length : Int) then ((r1_Same.f ((rd_T27 x0 x5).f0) ((rd_T27 x0 x5).f1) ((rd_T27 x0 x5).f2) ((rd_T27 x1 x5).f0) ((rd_T27 x1 x5).f1) ((rd_T27 x1 x5).f2)).bind fun t129 => (if t129 = true then (r1_SameRows.l0 k x0 x1 (wrap64 (x5 + 1))) else (some false))) else (none)) else (none)) else (some true)
def r1_SameRows.f (k : Nat) (l0 : List (S27)) (l1 : List (S27)) : Option (Bool) := if (l0.length : Int) = (l1.length : Int) then (r1_SameRows.l0 k l0 l1 0) else (some false)
def r1_SameRows.T6 : Bool × List (List Nat × List Nat) := (true, [([], []), ([], []), ([0, 1], [0, 1]), ([2], [2]), ([], []), ([], []), ([4, 5], [4, 5]), ([6], [6]), ([3, 7], [3, 7]), ([8], [8])])
def r1_SameRows.B6 : List Nat := [0, 0, 3, 7, 0, 0, 48, 112, 255, 511]
theorem r1_SameRows.tab6 : rtab .any (opsOf Tryd.f35 6) = r1_SameRows.T6 := by kernel_rfl
theorem r1_SameRows.bits6 : waitsOk r1_SameRows.T6.2 r1_SameRows.B6 = true := by kernel_rfl
theorem r1_SameRows.calls (k : Nat) (A0 : Option Addr) (c0 : Nat) (l0 : List (S27)) (A1 : Option Addr) (c1 : Nat) (l1 : List (S27)) (r : Bool) (w : World) (hr0 : Kd.C k27 w A0 l0.length l0) (hc0 : l0.length ≤ c0) (hr1 : Kd.C k27 w A1 l1.length l1) (hc1 : l1.length ≤ c1) (h : r1_SameRows.f k l0 l1 = some r) :
 Calls Tryd.prog 35 #[.slice A0 l0.length c0, .slice A1 l1.length c1] w fun e w' => e = .returned (.bool r) ∧ Below w.heap.size w w' := by
 have hu27 := Tryd.underlying27
 have HR0 := Aside0.mk hr0
 have HC0 := Aside0.mk hc0
 clear hr0 hc0
 have HR1 := Aside0.mk hr1
 have HC1 := Aside0.mk hc1
 clear hr1 hc1
 have HB := Aside0.mk (Below.refl w.heap.size w)
 have H : (if (l0.length : Int) = (l1.length : Int) then (r1_SameRows.l0 k l0 l1 0) else (some false)) = some r := h
 clear h
 by_cases c3 : (l0.length : Int) = (l1.length : Int)
 · rw [if_pos c3] at H
   have c3b0 : ((l0.length : Int) == (l1.length : Int)) = true := beq_iff_eq.mpr c3
   have c3b1 : ((l0.length : Int) != (l1.length : Int)) = false := bne_eq_false_iff_eq.mpr c3
   have c3b2 : (l0.length == l1.length) = true := by first | simpa using c3 | (simp at c3 ⊢; omega)
   clear c3
   have H' := Aside0.mk H
   clear H
   go_enter Tryd.func35, Tryd.ntmps35
   go_wp2
   go_loopg [5] k (fun kq v5 w' => ∃ (x5_1 : Int), v5 = .int .i64 x5_1 ∧ Aside0 (r1_SameRows.l0 kq l0 l1 x5_1 = some r) ∧ Aside0 (kq ≤ k) ∧ Aside0 (Below w.heap.size w w'))
   case atStart => exact ⟨(0), (by first | rfl | (simp; done) | (simp [*]; done)), H', ⟨Nat.le_refl _⟩, ⟨by repeat (first | (with_reducible first | exact HB.out | apply bA_ | apply bN_ | apply b1_) | exact HB.out)⟩⟩
   case round =>
    clear H'
    try clear c1
    try clear p2
    try clear c3
    try clear c3b0
    try clear c3b1
    try clear c3b2
    obtain ⟨x5_1, rfl, HA, HK1, HB⟩ := hrel
    cases gk with
    | zero => exact absurd HA.out (by simp [r1_SameRows.l0])
    | succ k1 =>
     have H := HA.out
     clear HA
     simp only [r1_SameRows.l0] at H
     by_cases c4 : x5_1 < (l0.length : Int)
     · rw [if_pos c4] at H
       have c4b0 : decide (x5_1 < (l0.length : Int)) = true := dT_ c4
       clear c4
       by_cases c5 : 0 ≤ x5_1
       · rw [if_pos c5] at H
         have c5b0 : decide (0 ≤ x5_1) = true := dT_ c5
         clear c5
         by_cases c6 : x5_1 < (l1.length : Int)
         · rw [if_pos c6] at H
           have c6b0 : decide (x5_1 < (l1.length : Int)) = true := dT_ c6
           clear c6
           replace H := Option.bind_eq_some_iff.mp H
           obtain ⟨t129, A70, H⟩ := H
           replace H : (if t129 = true then (r1_SameRows.l0 k1 l0 l1 (wrap64 (x5_1 + 1))) else (some false)) = some r := H
           have A7 := Aside0.mk A70
           clear A70
           by_cases c8 : t129 = true
           · subst c8
             have H1 : (r1_SameRows.l0 k1 l0 l1 (wrap64 (x5_1 + 1))) = some r := by rw [if_pos rfl] at H; exact H
             clear H
             have H := H1
             clear H1
             have H' := Aside0.mk H
             clear H
             try go_wp2
             have n0_ := Aside0.mk (b1_ HB.out)
             clear HB
             have HB := n0_
             clear n0_
             have p127 : 0 ≤ (x5_1 : Int) := oT_ (by assumption)
             have q127 : x5_1 < (l0.length : Int) := oT_ (by assumption)
             obtain ⟨ad127, e127, hx127_0, hx127_1, hx127_2⟩ := at_T27 HR0.out x5_1 p127 q127
             have hw127_2 := hx127_2
             have hw127_1 := hx127_1
             have hw127_0 := hx127_0
             cases e127
             replace hx127_0 := (HB.out.cell (bLC_ w _ hx127_0)).trans hx127_0
             replace hx127_1 := (HB.out.cell (bLC_ w _ hx127_1)).trans hx127_1
             replace hx127_2 := (HB.out.cell (bLC_ w _ hx127_2)).trans hx127_2
             replace p127 := eq_true p127
             replace q127 := eq_true q127
             have p128 : 0 ≤ (x5_1 : Int) := oT_ (by assumption)
             have q128 : x5_1 < (l1.length : Int) := oT_ (by assumption)
             obtain ⟨ad128, e128, hx128_0, hx128_1, hx128_2⟩ := at_T27 HR1.out x5_1 p128 q128
             have hw128_2 := hx128_2
             have hw128_1 := hx128_1
             have hw128_0 := hx128_0
             cases e128
             replace hx128_0 := (HB.out.cell (bLC_ w _ hx128_0)).trans hx128_0
             replace hx128_1 := (HB.out.cell (bLC_ w _ hx128_1)).trans hx128_1
             replace hx128_2 := (HB.out.cell (bLC_ w _ hx128_2)).trans hx128_2
             replace p128 := eq_true p128
             replace q128 := eq_true q128
             refine start_ (n := 10) (S := fun w' => w'.cell? (ad127.add ((x5_1).toNat * 3)) = some (.int .u8 ((rd_T27 l0 x5_1).f0)) ∧ w'.cell? ⟨(ad127.add ((x5_1).toNat * 3)).block, (ad127.add ((x5_1).toNat * 3)).off + 1, none⟩ = some (.int .i64 ((rd_T27 l0 x5_1).f1)) ∧ w'.cell? ⟨(ad127.add ((x5_1).toNat * 3)).block, (ad127.add ((x5_1).toNat * 3)).off + 2, none⟩ = some (.string ((rd_T27 l0 x5_1).f2)) ∧ w'.cell? (ad128.add ((x5_1).toNat * 3)) = some (.int .u8 ((rd_T27 l1 x5_1).f0)) ∧ w'.cell? ⟨(ad128.add ((x5_1).toNat * 3)).block, (ad128.add ((x5_1).toNat * 3)).off + 1, none⟩ = some (.int .i64 ((rd_T27 l1 x5_1).f1)) ∧ w'.cell? ⟨(ad128.add ((x5_1).toNat * 3)).block, (ad128.add ((x5_1).toNat * 3)).off + 2, none⟩ = some (.string ((rd_T27 l1 x5_1).f2))) (ds := []) #[X_,X_,X_,X_,X_,X_,X_,X_,X_,X_] (by kernel_rfl) rfl rfl ⟨((HB.out.cell (bLC_ w _ hw127_0)).trans hw127_0), ((HB.out.cell (bLC_ w _ hw127_1)).trans hw127_1), ((HB.out.cell (bLC_ w _ hw127_2)).trans hw127_2), ((HB.out.cell (bLC_ w _ hw128_0)).trans hw128_0), ((HB.out.cell (bLC_ w _ hw128_1)).trans hw128_1), ((HB.out.cell (bLC_ w _ hw128_2)).trans hw128_2)⟩ (fun hHeld => ?_); refine with_tabW r1_SameRows.tab6 r1_SameRows.bits6 (fun HT_ HW_ => ?_)
             generalize wr.drew = w9 at HB hx127_0 hx127_1 hx127_2 hx128_0 hx128_1 hx128_2 hHeld ⊢
             refine pure_ (i := 0) (N := some 17) (v := ?_) (a' := ?_) #[Y_,X_,X_,X_,X_,X_,X_,X_,X_,X_] rfl rfl (any_of HT_.out (by kernel_rfl)) (fun _ _ _ h => h) (Or.inl ⟨by rfl, ?_⟩) ?_ ?_
             rotate_left
             · intro w'
               go_simp
               with_reducible rfl
             rotate_left
             · simp only [Act.put, sTA_, sCZ_, sCS_, i64_w, i32_w]
               rfl
             refine pure_ (i := 1) (N := some 18) (v := ?_) (a' := ?_) #[Y_,Y_,X_,X_,X_,X_,X_,X_,X_,X_] rfl rfl (any_of HT_.out (by kernel_rfl)) (fun _ _ _ h => h) (Or.inl ⟨by rfl, ?_⟩) ?_ ?_
             rotate_left
             · intro w'
               go_simp
               with_reducible rfl
             rotate_left
             · simp only [Act.put, sTA_, sCZ_, sCS_, i64_w, i32_w]
               rfl
             refine pure_ (i := 2) (N := some 19) (v := ?_) (a' := ?_) #[Y_,Y_,Y_,X_,X_,X_,X_,X_,X_,X_] rfl rfl (any_of HT_.out (by kernel_rfl)) (fun _ _ _ h => h) (Or.inl ⟨by rfl, ?_⟩) ?_ ?_
             rotate_left
             · intro w'
               go_simp
               with_reducible rfl
             rotate_left
             · simp only [Act.put, sTA_, sCZ_, sCS_, i64_w, i32_w]
               rfl
             refine pure_ (i := 4) (N := some 21) (v := ?_) (a' := ?_) #[Y_,Y_,Y_,X_,Y_,X_,X_,X_,X_,X_] rfl rfl (any_of HT_.out (by kernel_rfl)) (fun _ _ _ h => h) (Or.inl ⟨by rfl, ?_⟩) ?_ ?_
             rotate_left
             · intro w'
               go_simp
               with_reducible rfl
             rotate_left
             · simp only [Act.put, sTA_, sCZ_, sCS_, i64_w, i32_w]
               rfl
             refine pure_ (i := 5) (N := some 22) (v := ?_) (a' := ?_) #[Y_,Y_,Y_,X_,Y_,Y_,X_,X_,X_,X_] rfl rfl (any_of HT_.out (by kernel_rfl)) (fun _ _ _ h => h) (Or.inl ⟨by rfl, ?_⟩) ?_ ?_
             rotate_left
             · intro w'
               go_simp
               with_reducible rfl
             rotate_left
             · simp only [Act.put, sTA_, sCZ_, sCS_, i64_w, i32_w]
               rfl
             refine pure_ (i := 6) (N := some 23) (v := ?_) (a' := ?_) #[Y_,Y_,Y_,X_,Y_,Y_,Y_,X_,X_,X_] rfl rfl (any_of HT_.out (by kernel_rfl)) (fun _ _ _ h => h) (Or.inl ⟨by rfl, ?_⟩) ?_ ?_
             rotate_left
             · intro w'
               go_simp
               with_reducible rfl
             rotate_left
             · simp only [Act.put, sTA_, sCZ_, sCS_, i64_w, i32_w]
               rfl
             refine take_ (i := 3) (N := some 20) (v := ?_) (a' := ?_) #[Y_,Y_,Y_,Y_,Y_,Y_,Y_,X_,X_,X_] rfl rfl (take_ofW HT_.out HW_.out (by kernel_rfl)) (fun _ _ _ h => h) (Or.inl ⟨by rfl, ?_⟩) hHeld ?_ ?_
             rotate_left
             · rintro w' ⟨s0, s1, s2, s3, s4, s5⟩
               go_simp
               with_reducible rfl
             rotate_left
             · simp only [Act.put, sTA_, sCZ_, sCS_, i64_w, i32_w]
               rfl
             refine take_ (i := 7) (N := some 24) (v := ?_) (a' := ?_) #[Y_,Y_,Y_,Y_,Y_,Y_,Y_,Y_,X_,X_] rfl rfl (take_ofW HT_.out HW_.out (by kernel_rfl)) (fun _ _ _ h => h) (Or.inl ⟨by rfl, ?_⟩) hHeld ?_ ?_
             rotate_left
             · rintro w' ⟨s0, s1, s2, s3, s4, s5⟩
               go_simp
               with_reducible rfl
             rotate_left
             · simp only [Act.put, sTA_, sCZ_, sCS_, i64_w, i32_w]
               rfl
             refine one_ (i := 8) (N := some 25) #[Y_,Y_,Y_,Y_,Y_,Y_,Y_,Y_,Y_,X_] rfl rfl (one_of HT_.out (by kernel_rfl)) (by decide) (fun K hK => ?_)
             refine goes_ Tryd.func14 (by kernel_rfl) rfl #[.agg #[.int .u8 ((rd_T27 l0 x5_1).f0), .int .i64 ((rd_T27 l0 x5_1).f1), .string ((rd_T27 l0 x5_1).f2)], .agg #[.int .u8 ((rd_T27 l1 x5_1).f0), .int .i64 ((rd_T27 l1 x5_1).f1), .string ((rd_T27 l1 x5_1).f2)]] (by rfl) rfl rfl (by (try simp only [List.map_toArray, List.map_cons, List.map_nil]); first | done | rfl | (simp only [List.length_drop, List.length_take]; rfl)) ?_
             with_reducible refine (r1_Same.calls ((rd_T27 l0 x5_1).f0) ((rd_T27 l0 x5_1).f1) ((rd_T27 l0 x5_1).f2) ((rd_T27 l1 x5_1).f0) ((rd_T27 l1 x5_1).f1) ((rd_T27 l1 x5_1).f2) true _ A7.out).mono ?_
             rintro e w10 ⟨rfl, hb⟩
             refine ⟨_, rfl, ?_⟩
             have n0_ := Aside0.mk (below_step (by repeat (first | (with_reducible first | exact HB.out | apply bA_ | apply bN_ | apply b1_) | exact HB.out)) hb)
             clear HB
             have HB := n0_
             clear n0_
             (try clear hb)
             (try clear hb2)
             (try clear hk)
             (try clear hi)
             refine hK.out _ _ ⟨((HB.out.cell (bLC_ w _ hw127_0)).trans hw127_0), ((HB.out.cell (bLC_ w _ hw127_1)).trans hw127_1), ((HB.out.cell (bLC_ w _ hw127_2)).trans hw127_2), ((HB.out.cell (bLC_ w _ hw128_0)).trans hw128_0), ((HB.out.cell (bLC_ w _ hw128_1)).trans hw128_1), ((HB.out.cell (bLC_ w _ hw128_2)).trans hw128_2)⟩ (fun hHeld => ?_)
             clear hK K
             refine norm_ (a' := ?_) ?_ ?_
             rotate_left
             · show Act.put _ (some 25) _ = _
               simp only [Act.put, sTA_, sCZ_, sCS_, i64_w, i32_w]
               rfl
             refine pure_ (i := 9) (N := some 26) (v := ?_) (a' := ?_) #[Y_,Y_,Y_,Y_,Y_,Y_,Y_,Y_,Y_,Y_] rfl rfl (any_of HT_.out (by kernel_rfl)) (fun _ _ _ h => h) (Or.inl ⟨by rfl, ?_⟩) ?_ ?_
             rotate_left
             · intro w'
               go_simp
               with_reducible rfl
             rotate_left
             · simp only [Act.put, sTA_, sCZ_, sCS_, i64_w, i32_w]
               rfl
             refine done_ (done_of HT_.out (by kernel_rfl)) ?_
             try go_wp2
             go_roundg k1
             case measure => have := HK1.out; omega
             case rel => exact ⟨(wrap64 (x5_1 + 1)), (by first | rfl | (simp; done) | (simp [*]; done)), H', ⟨by have := HK1.out; omega⟩, ⟨by repeat (first | (with_reducible first | exact HB.out | apply bA_ | apply bN_ | apply b1_) | exact HB.out)⟩⟩
           · replace c8 := Bool.eq_false_iff.mpr c8
             subst c8
             have H1 : (some false) = some r := by rw [if_neg (show ¬ (false = true) by decide)] at H; exact H
             clear H
             have H := H1
             clear H1
             obtain rfl := Option.some.inj H
             try go_wp2
             have n0_ := Aside0.mk (b1_ HB.out)
             clear HB
             have HB := n0_
             clear n0_
             have p127 : 0 ≤ (x5_1 : Int) := oT_ (by assumption)
             have q127 : x5_1 < (l0.length : Int) := oT_ (by assumption)
             obtain ⟨ad127, e127, hx127_0, hx127_1, hx127_2⟩ := at_T27 HR0.out x5_1 p127 q127
             have hw127_2 := hx127_2
             have hw127_1 := hx127_1
             have hw127_0 := hx127_0
             cases e127
             replace hx127_0 := (HB.out.cell (bLC_ w _ hx127_0)).trans hx127_0
             replace hx127_1 := (HB.out.cell (bLC_ w _ hx127_1)).trans hx127_1
             replace hx127_2 := (HB.out.cell (bLC_ w _ hx127_2)).trans hx127_2
             replace p127 := eq_true p127
             replace q127 := eq_true q127
             have p128 : 0 ≤ (x5_1 : Int) := oT_ (by assumption)
             have q128 : x5_1 < (l1.length : Int) := oT_ (by assumption)
             obtain ⟨ad128, e128, hx128_0, hx128_1, hx128_2⟩ := at_T27 HR1.out x5_1 p128 q128
             have hw128_2 := hx128_2
             have hw128_1 := hx128_1
             have hw128_0 := hx128_0
             cases e128
             replace hx128_0 := (HB.out.cell (bLC_ w _ hx128_0)).trans hx128_0
             replace hx128_1 := (HB.out.cell (bLC_ w _ hx128_1)).trans hx128_1
             replace hx128_2 := (HB.out.cell (bLC_ w _ hx128_2)).trans hx128_2
             replace p128 := eq_true p128
             replace q128 := eq_true q128
             refine start_ (n := 10) (S := fun w' => w'.cell? (ad127.add ((x5_1).toNat * 3)) = some (.int .u8 ((rd_T27 l0 x5_1).f0)) ∧ w'.cell? ⟨(ad127.add ((x5_1).toNat * 3)).block, (ad127.add ((x5_1).toNat * 3)).off + 1, none⟩ = some (.int .i64 ((rd_T27 l0 x5_1).f1)) ∧ w'.cell? ⟨(ad127.add ((x5_1).toNat * 3)).block, (ad127.add ((x5_1).toNat * 3)).off + 2, none⟩ = some (.string ((rd_T27 l0 x5_1).f2)) ∧ w'.cell? (ad128.add ((x5_1).toNat * 3)) = some (.int .u8 ((rd_T27 l1 x5_1).f0)) ∧ w'.cell? ⟨(ad128.add ((x5_1).toNat * 3)).block, (ad128.add ((x5_1).toNat * 3)).off + 1, none⟩ = some (.int .i64 ((rd_T27 l1 x5_1).f1)) ∧ w'.cell? ⟨(ad128.add ((x5_1).toNat * 3)).block, (ad128.add ((x5_1).toNat * 3)).off + 2, none⟩ = some (.string ((rd_T27 l1 x5_1).f2))) (ds := []) #[X_,X_,X_,X_,X_,X_,X_,X_,X_,X_] (by kernel_rfl) rfl rfl ⟨((HB.out.cell (bLC_ w _ hw127_0)).trans hw127_0), ((HB.out.cell (bLC_ w _ hw127_1)).trans hw127_1), ((HB.out.cell (bLC_ w _ hw127_2)).trans hw127_2), ((HB.out.cell (bLC_ w _ hw128_0)).trans hw128_0), ((HB.out.cell (bLC_ w _ hw128_1)).trans hw128_1), ((HB.out.cell (bLC_ w _ hw128_2)).trans hw128_2)⟩ (fun hHeld => ?_); refine with_tabW r1_SameRows.tab6 r1_SameRows.bits6 (fun HT_ HW_ => ?_)
             generalize wr.drew = w11 at HB hx127_0 hx127_1 hx127_2 hx128_0 hx128_1 hx128_2 hHeld ⊢
             refine pure_ (i := 0) (N := some 17) (v := ?_) (a' := ?_) #[Y_,X_,X_,X_,X_,X_,X_,X_,X_,X_] rfl rfl (any_of HT_.out (by kernel_rfl)) (fun _ _ _ h => h) (Or.inl ⟨by rfl, ?_⟩) ?_ ?_
             rotate_left
             · intro w'
               go_simp
               with_reducible rfl
             rotate_left
             · simp only [Act.put, sTA_, sCZ_, sCS_, i64_w, i32_w]
               rfl
             refine pure_ (i := 1) (N := some 18) (v := ?_) (a' := ?_) #[Y_,Y_,X_,X_,X_,X_,X_,X_,X_,X_] rfl rfl (any_of HT_.out (by kernel_rfl)) (fun _ _ _ h => h) (Or.inl ⟨by rfl, ?_⟩) ?_ ?_
             rotate_left
             · intro w'
               go_simp
               with_reducible rfl
             rotate_left
             · simp only [Act.put, sTA_, sCZ_, sCS_, i64_w, i32_w]
               rfl
             refine pure_ (i := 2) (N := some 19) (v := ?_) (a' := ?_) #[Y_,Y_,Y_,X_,X_,X_,X_,X_,X_,X_] rfl rfl (any_of HT_.out (by kernel_rfl)) (fun _ _ _ h => h) (Or.inl ⟨by rfl, ?_⟩) ?_ ?_
             rotate_left
             · intro w'
               go_simp
               with_reducible rfl
             rotate_left
             · simp only [Act.put, sTA_, sCZ_, sCS_, i64_w, i32_w]
               rfl
             refine pure_ (i := 4) (N := some 21) (v := ?_) (a' := ?_) #[Y_,Y_,Y_,X_,Y_,X_,X_,X_,X_,X_] rfl rfl (any_of HT_.out (by kernel_rfl)) (fun _ _ _ h => h) (Or.inl ⟨by rfl, ?_⟩) ?_ ?_
             rotate_left
             · intro w'
               go_simp
               with_reducible rfl
             rotate_left
             · simp only [Act.put, sTA_, sCZ_, sCS_, i64_w, i32_w]
               rfl
             refine pure_ (i := 5) (N := some 22) (v := ?_) (a' := ?_) #[Y_,Y_,Y_,X_,Y_,Y_,X_,X_,X_,X_] rfl rfl (any_of HT_.out (by kernel_rfl)) (fun _ _ _ h => h) (Or.inl ⟨by rfl, ?_⟩) ?_ ?_
             rotate_left
             · intro w'
               go_simp
               with_reducible rfl
             rotate_left
             · simp only [Act.put, sTA_, sCZ_, sCS_, i64_w, i32_w]
               rfl
             refine pure_ (i := 6) (N := some 23) (v := ?_) (a' := ?_) #[Y_,Y_,Y_,X_,Y_,Y_,Y_,X_,X_,X_] rfl rfl (any_of HT_.out (by kernel_rfl)) (fun _ _ _ h => h) (Or.inl ⟨by rfl, ?_⟩) ?_ ?_
             rotate_left
             · intro w'
               go_simp
               with_reducible rfl
             rotate_left
             · simp only [Act.put, sTA_, sCZ_, sCS_, i64_w, i32_w]
               rfl
             refine take_ (i := 3) (N := some 20) (v := ?_) (a' := ?_) #[Y_,Y_,Y_,Y_,Y_,Y_,Y_,X_,X_,X_] rfl rfl (take_ofW HT_.out HW_.out (by kernel_rfl)) (fun _ _ _ h => h) (Or.inl ⟨by rfl, ?_⟩) hHeld ?_ ?_
             rotate_left
             · rintro w' ⟨s0, s1, s2, s3, s4, s5⟩
               go_simp
               with_reducible rfl
             rotate_left
             · simp only [Act.put, sTA_, sCZ_, sCS_, i64_w, i32_w]
               rfl
             refine take_ (i := 7) (N := some 24) (v := ?_) (a' := ?_) #[Y_,Y_,Y_,Y_,Y_,Y_,Y_,Y_,X_,X_] rfl rfl (take_ofW HT_.out HW_.out (by kernel_rfl)) (fun _ _ _ h => h) (Or.inl ⟨by rfl, ?_⟩) hHeld ?_ ?_
             rotate_left
             · rintro w' ⟨s0, s1, s2, s3, s4, s5⟩
               go_simp
               with_reducible rfl
             rotate_left
             · simp only [Act.put, sTA_, sCZ_, sCS_, i64_w, i32_w]
               rfl
             refine one_ (i := 8) (N := some 25) #[Y_,Y_,Y_,Y_,Y_,Y_,Y_,Y_,Y_,X_] rfl rfl (one_of HT_.out (by kernel_rfl)) (by decide) (fun K hK => ?_)
             refine goes_ Tryd.func14 (by kernel_rfl) rfl #[.agg #[.int .u8 ((rd_T27 l0 x5_1).f0), .int .i64 ((rd_T27 l0 x5_1).f1), .string ((rd_T27 l0 x5_1).f2)], .agg #[.int .u8 ((rd_T27 l1 x5_1).f0), .int .i64 ((rd_T27 l1 x5_1).f1), .string ((rd_T27 l1 x5_1).f2)]] (by rfl) rfl rfl (by (try simp only [List.map_toArray, List.map_cons, List.map_nil]); first | done | rfl | (simp only [List.length_drop, List.length_take]; rfl)) ?_
             with_reducible refine (r1_Same.calls ((rd_T27 l0 x5_1).f0) ((rd_T27 l0 x5_1).f1) ((rd_T27 l0 x5_1).f2) ((rd_T27 l1 x5_1).f0) ((rd_T27 l1 x5_1).f1) ((rd_T27 l1 x5_1).f2) false _ A7.out).mono ?_
             rintro e w12 ⟨rfl, hb⟩
             refine ⟨_, rfl, ?_⟩
             have n0_ := Aside0.mk (below_step (by repeat (first | (with_reducible first | exact HB.out | apply bA_ | apply bN_ | apply b1_) | exact HB.out)) hb)
             clear HB
             have HB := n0_
             clear n0_
             (try clear hb)
             (try clear hb2)
             (try clear hk)
             (try clear hi)
             refine hK.out _ _ ⟨((HB.out.cell (bLC_ w _ hw127_0)).trans hw127_0), ((HB.out.cell (bLC_ w _ hw127_1)).trans hw127_1), ((HB.out.cell (bLC_ w _ hw127_2)).trans hw127_2), ((HB.out.cell (bLC_ w _ hw128_0)).trans hw128_0), ((HB.out.cell (bLC_ w _ hw128_1)).trans hw128_1), ((HB.out.cell (bLC_ w _ hw128_2)).trans hw128_2)⟩ (fun hHeld => ?_)
             clear hK K
             refine norm_ (a' := ?_) ?_ ?_
             rotate_left
             · show Act.put _ (some 25) _ = _
               simp only [Act.put, sTA_, sCZ_, sCS_, i64_w, i32_w]
               rfl
             refine pure_ (i := 9) (N := some 26) (v := ?_) (a' := ?_) #[Y_,Y_,Y_,Y_,Y_,Y_,Y_,Y_,Y_,Y_] rfl rfl (any_of HT_.out (by kernel_rfl)) (fun _ _ _ h => h) (Or.inl ⟨by rfl, ?_⟩) ?_ ?_
             rotate_left
             · intro w'
               go_simp
               with_reducible rfl
             rotate_left
             · simp only [Act.put, sTA_, sCZ_, sCS_, i64_w, i32_w]
               rfl
             refine done_ (done_of HT_.out (by kernel_rfl)) ?_
             try go_wp2
             go_ret
             exact ⟨by first | rfl | (simp [*, errW_none, errW_some] <;> rfl), by repeat (first | (with_reducible first | exact HB.out | apply bA_ | apply bN_ | apply b1_) | exact HB.out)⟩
         · rw [if_neg c6] at H
           exact absurd H (by simp)
       · rw [if_neg c5] at H
         exact absurd H (by simp)
     · rw [if_neg c4] at H
       have c4b0 : decide (x5_1 < (l0.length : Int)) = false := dF_ c4
       clear c4
       obtain rfl := Option.some.inj H
       go_wp2
       go_ret
       exact ⟨by first | rfl | (simp [*, errW_none, errW_some] <;> rfl), by repeat (first | (with_reducible first | exact HB.out | apply bA_ | apply bN_ | apply b1_) | exact HB.out)⟩
 · rw [if_neg c3] at H
   have c3b0 : ((l0.length : Int) == (l1.length : Int)) = false := beq_eq_false_iff_ne.mpr c3
   have c3b1 : ((l0.length : Int) != (l1.length : Int)) = true := bne_iff_ne.mpr c3
   have c3b2 : (l0.length == l1.length) = false := by first | simpa using c3 | (simp at c3 ⊢; omega)
   obtain rfl := Option.some.inj H
   go_enter Tryd.func35, Tryd.ntmps35
   go_wp2
   go_ret
   exact ⟨by first | rfl | (simp [*, errW_none, errW_some] <;> rfl), by repeat (first | (with_reducible first | exact HB.out | apply bA_ | apply bN_ | apply b1_) | exact HB.out)⟩
def r6_SameLists.l0 : Nat → List (List (S27)) → List (List (S27)) → Int → Option (Bool)
 | 0, _, _, _ => none
 | k + 1, x0, x1, x5 => if x5 < (x0.length : Int) then (if 0 ≤ x5 then (if x5 < (x1.length : Int) then ((r1_SameRows.f k (rd_L4 x0 x5) (rd_L4 x1 x5)).bind fun t132 => (if t132 = true then (r6_SameLists.l0 k x0 x1 (wrap64 (x5 + 1))) else (some false))) else (none)) else (none)) else (some true)
def r6_SameLists.f (k : Nat) (l0 : List (List (S27))) (l1 : List (List (S27))) : Option (Bool) := if (l0.length : Int) = (l1.length : Int) then (r6_SameLists.l0 k l0 l1 0) else (some false)
def r6_SameLists.T6 : Bool × List (List Nat × List Nat) := (true, [([], []), ([], []), ([0, 1], [0, 1]), ([2], [2]), ([], []), ([], []), ([4, 5], [4, 5]), ([6], [6]), ([3, 7], [3, 7]), ([8], [8])])
def r6_SameLists.B6 : List Nat := [0, 0, 3, 7, 0, 0, 48, 112, 255, 511]
theorem r6_SameLists.tab6 : rtab .any (opsOf Tryd.f19 6) = r6_SameLists.T6 := by kernel_rfl
theorem r6_SameLists.bits6 : waitsOk r6_SameLists.T6.2 r6_SameLists.B6 = true := by kernel_rfl
theorem r6_SameLists.calls (k : Nat) (A0 : Option Addr) (c0 : Nat) (l0 : List (List (S27))) (A1 : Option Addr) (c1 : Nat) (l1 : List (List (S27))) (r : Bool) (w : World) (hr0 : Kd.C (Kd.slice 27 k27) w A0 l0.length l0) (hc0 : l0.length ≤ c0) (hr1 : Kd.C (Kd.slice 27 k27) w A1 l1.length l1) (hc1 : l1.length ≤ c1) (h : r6_SameLists.f k l0 l1 = some r) :
 Calls Tryd.prog 19 #[.slice A0 l0.length c0, .slice A1 l1.length c1] w fun e w' => e = .returned (.bool r) ∧ Below w.heap.size w w' := by
 have HR0 := Aside0.mk hr0
 have HC0 := Aside0.mk hc0
 clear hr0 hc0
 have HR1 := Aside0.mk hr1
 have HC1 := Aside0.mk hc1
 clear hr1 hc1
 have HB := Aside0.mk (Below.refl w.heap.size w)
 have H : (if (l0.length : Int) = (l1.length : Int) then (r6_SameLists.l0 k l0 l1 0) else (some false)) = some r := h
 clear h
 by_cases c3 : (l0.length : Int) = (l1.length : Int)
 · rw [if_pos c3] at H
   have c3b0 : ((l0.length : Int) == (l1.length : Int)) = true := beq_iff_eq.mpr c3
   have c3b1 : ((l0.length : Int) != (l1.length : Int)) = false := bne_eq_false_iff_eq.mpr c3
   have c3b2 : (l0.length == l1.length) = true := by first | simpa using c3 | (simp at c3 ⊢; omega)
   clear c3
   have H' := Aside0.mk H
   clear H
   go_enter Tryd.func19, Tryd.ntmps19
   go_wp2
   go_loopg [5] k (fun kq v5 w' => ∃ (x5_1 : Int), v5 = .int .i64 x5_1 ∧ Aside0 (r6_SameLists.l0 kq l0 l1 x5_1 = some r) ∧ Aside0 (kq ≤ k) ∧ Aside0 (Below w.heap.size w w'))
   case atStart => exact ⟨(0), (by first | rfl | (simp; done) | (simp [*]; done)), H', ⟨Nat.le_refl _⟩, ⟨by repeat (first | (with_reducible first | exact HB.out | apply bA_ | apply bN_ | apply b1_) | exact HB.out)⟩⟩
   case round =>
    clear H'
    try clear c1
    try clear p2
    try clear c3
    try clear c3b0
    try clear c3b1
    try clear c3b2
    obtain ⟨x5_1, rfl, HA, HK1, HB⟩ := hrel
    cases gk with
    | zero => exact absurd HA.out (by simp [r6_SameLists.l0])
    | succ k1 =>
     have H := HA.out
     clear HA
     simp only [r6_SameLists.l0] at H
     by_cases c4 : x5_1 < (l0.length : Int)
     · rw [if_pos c4] at H
       have c4b0 : decide (x5_1 < (l0.length : Int)) = true := dT_ c4
       clear c4
       by_cases c5 : 0 ≤ x5_1
       · rw [if_pos c5] at H
         have c5b0 : decide (0 ≤ x5_1) = true := dT_ c5
         clear c5
         by_cases c6 : x5_1 < (l1.length : Int)
         · rw [if_pos c6] at H
           have c6b0 : decide (x5_1 < (l1.length : Int)) = true := dT_ c6
           clear c6
           replace H := Option.bind_eq_some_iff.mp H
           obtain ⟨t132, A70, H⟩ := H
           replace H : (if t132 = true then (r6_SameLists.l0 k1 l0 l1 (wrap64 (x5_1 + 1))) else (some false)) = some r := H
           have A7 := Aside0.mk A70
           clear A70
           by_cases c8 : t132 = true
           · subst c8
             have H1 : (r6_SameLists.l0 k1 l0 l1 (wrap64 (x5_1 + 1))) = some r := by rw [if_pos rfl] at H; exact H
             clear H
             have H := H1
             clear H1
             have H' := Aside0.mk H
             clear H
             try go_wp2
             have n0_ := Aside0.mk (b1_ HB.out)
             clear HB
             have HB := n0_
             clear n0_
             have p130 : 0 ≤ (x5_1 : Int) := oT_ (by assumption)
             have q130 : x5_1 < (l0.length : Int) := oT_ (by assumption)
             obtain ⟨ad130, A130_0, c130_0, e130, hx130_0, hl130_0, hi130_0⟩ := at_L4 HR0.out x5_1 p130 q130
             have hw130_0 := hx130_0
             cases e130
             replace hx130_0 := (HB.out.cell (bLC_ w _ hx130_0)).trans hx130_0
             have HR130_0 := Aside0.mk hi130_0
             have HC130_0 := Aside0.mk hl130_0
             clear hi130_0 hl130_0
             replace p130 := eq_true p130
             replace q130 := eq_true q130
             have p131 : 0 ≤ (x5_1 : Int) := oT_ (by assumption)
             have q131 : x5_1 < (l1.length : Int) := oT_ (by assumption)
             obtain ⟨ad131, A131_0, c131_0, e131, hx131_0, hl131_0, hi131_0⟩ := at_L4 HR1.out x5_1 p131 q131
             have hw131_0 := hx131_0
             cases e131
             replace hx131_0 := (HB.out.cell (bLC_ w _ hx131_0)).trans hx131_0
             have HR131_0 := Aside0.mk hi131_0
             have HC131_0 := Aside0.mk hl131_0
             clear hi131_0 hl131_0
             replace p131 := eq_true p131
             replace q131 := eq_true q131
             refine start_ (n := 10) (S := fun w' => w'.cell? (ad130.add (x5_1).toNat) = some (.slice A130_0 (rd_L4 l0 x5_1).length c130_0) ∧ w'.cell? (ad131.add (x5_1).toNat) = some (.slice A131_0 (rd_L4 l1 x5_1).length c131_0)) (ds := []) #[X_,X_,X_,X_,X_,X_,X_,X_,X_,X_] (by kernel_rfl) rfl rfl ⟨((HB.out.cell (bLC_ w _ hw130_0)).trans hw130_0), ((HB.out.cell (bLC_ w _ hw131_0)).trans hw131_0)⟩ (fun hHeld => ?_); refine with_tabW r6_SameLists.tab6 r6_SameLists.bits6 (fun HT_ HW_ => ?_)
             generalize wr.drew = w9 at HB HR130_0 HR131_0 hx130_0 hx131_0 hHeld ⊢
             refine pure_ (i := 0) (N := some 17) (v := ?_) (a' := ?_) #[Y_,X_,X_,X_,X_,X_,X_,X_,X_,X_] rfl rfl (any_of HT_.out (by kernel_rfl)) (fun _ _ _ h => h) (Or.inl ⟨by rfl, ?_⟩) ?_ ?_
             rotate_left
             · intro w'
               go_simp
               with_reducible rfl
             rotate_left
             · simp only [Act.put, sTA_, sCZ_, sCS_, i64_w, i32_w]
               rfl
             refine pure_ (i := 1) (N := some 18) (v := ?_) (a' := ?_) #[Y_,Y_,X_,X_,X_,X_,X_,X_,X_,X_] rfl rfl (any_of HT_.out (by kernel_rfl)) (fun _ _ _ h => h) (Or.inl ⟨by rfl, ?_⟩) ?_ ?_
             rotate_left
             · intro w'
               go_simp
               with_reducible rfl
             rotate_left
             · simp only [Act.put, sTA_, sCZ_, sCS_, i64_w, i32_w]
               rfl
             refine pure_ (i := 2) (N := some 19) (v := ?_) (a' := ?_) #[Y_,Y_,Y_,X_,X_,X_,X_,X_,X_,X_] rfl rfl (any_of HT_.out (by kernel_rfl)) (fun _ _ _ h => h) (Or.inl ⟨by rfl, ?_⟩) ?_ ?_
             rotate_left
             · intro w'
               go_simp
               with_reducible rfl
             rotate_left
             · simp only [Act.put, sTA_, sCZ_, sCS_, i64_w, i32_w]
               rfl
             refine pure_ (i := 4) (N := some 21) (v := ?_) (a' := ?_) #[Y_,Y_,Y_,X_,Y_,X_,X_,X_,X_,X_] rfl rfl (any_of HT_.out (by kernel_rfl)) (fun _ _ _ h => h) (Or.inl ⟨by rfl, ?_⟩) ?_ ?_
             rotate_left
             · intro w'
               go_simp
               with_reducible rfl
             rotate_left
             · simp only [Act.put, sTA_, sCZ_, sCS_, i64_w, i32_w]
               rfl
             refine pure_ (i := 5) (N := some 22) (v := ?_) (a' := ?_) #[Y_,Y_,Y_,X_,Y_,Y_,X_,X_,X_,X_] rfl rfl (any_of HT_.out (by kernel_rfl)) (fun _ _ _ h => h) (Or.inl ⟨by rfl, ?_⟩) ?_ ?_
             rotate_left
             · intro w'
               go_simp
               with_reducible rfl
             rotate_left
             · simp only [Act.put, sTA_, sCZ_, sCS_, i64_w, i32_w]
               rfl
             refine pure_ (i := 6) (N := some 23) (v := ?_) (a' := ?_) #[Y_,Y_,Y_,X_,Y_,Y_,Y_,X_,X_,X_] rfl rfl (any_of HT_.out (by kernel_rfl)) (fun _ _ _ h => h) (Or.inl ⟨by rfl, ?_⟩) ?_ ?_
             rotate_left
             · intro w'
               go_simp
               with_reducible rfl
             rotate_left
             · simp only [Act.put, sTA_, sCZ_, sCS_, i64_w, i32_w]
               rfl
             refine take_ (i := 3) (N := some 20) (v := ?_) (a' := ?_) #[Y_,Y_,Y_,Y_,Y_,Y_,Y_,X_,X_,X_] rfl rfl (take_ofW HT_.out HW_.out (by kernel_rfl)) (fun _ _ _ h => h) (Or.inl ⟨by rfl, ?_⟩) hHeld ?_ ?_
             rotate_left
             · rintro w' ⟨s0, s1⟩
               go_simp
               with_reducible rfl
             rotate_left
             · simp only [Act.put, sTA_, sCZ_, sCS_, i64_w, i32_w]
               rfl
             refine take_ (i := 7) (N := some 24) (v := ?_) (a' := ?_) #[Y_,Y_,Y_,Y_,Y_,Y_,Y_,Y_,X_,X_] rfl rfl (take_ofW HT_.out HW_.out (by kernel_rfl)) (fun _ _ _ h => h) (Or.inl ⟨by rfl, ?_⟩) hHeld ?_ ?_
             rotate_left
             · rintro w' ⟨s0, s1⟩
               go_simp
               with_reducible rfl
             rotate_left
             · simp only [Act.put, sTA_, sCZ_, sCS_, i64_w, i32_w]
               rfl
             refine one_ (i := 8) (N := some 25) #[Y_,Y_,Y_,Y_,Y_,Y_,Y_,Y_,Y_,X_] rfl rfl (one_of HT_.out (by kernel_rfl)) (by decide) (fun K hK => ?_)
             refine goes_ Tryd.func35 (by kernel_rfl) rfl #[.slice A130_0 (rd_L4 l0 x5_1).length c130_0, .slice A131_0 (rd_L4 l1 x5_1).length c131_0] (by rfl) rfl rfl (by (try simp only [List.map_toArray, List.map_cons, List.map_nil]); first | done | rfl | (simp only [List.length_drop, List.length_take]; rfl)) ?_
             with_reducible refine (r1_SameRows.calls k1 _ _ (rd_L4 l0 x5_1) _ _ (rd_L4 l1 x5_1) true _ ?side1 ?side2 ?side3 ?side4 A7.out).mono ?_
             (case side1 => repeat (first | exact (Kd.C_below HR130_0.out HB.out) | (with_reducible refine Kd.cA_ ?_ _) | (with_reducible refine Kd.cN_ ?_ _) | (with_reducible refine Kd.cD_ ?_)))
             (case side2 => exact HC130_0.out)
             (case side3 => repeat (first | exact (Kd.C_below HR131_0.out HB.out) | (with_reducible refine Kd.cA_ ?_ _) | (with_reducible refine Kd.cN_ ?_ _) | (with_reducible refine Kd.cD_ ?_)))
             (case side4 => exact HC131_0.out)
             rintro e w10 ⟨rfl, hb⟩
             refine ⟨_, rfl, ?_⟩
             have n0_ := Aside0.mk (below_step (by repeat (first | (with_reducible first | exact HB.out | apply bA_ | apply bN_ | apply b1_) | exact HB.out)) hb)
             clear HB
             have HB := n0_
             clear n0_
             (try clear hb)
             (try clear hb2)
             (try clear hk)
             (try clear hi)
             refine hK.out _ _ ⟨((HB.out.cell (bLC_ w _ hw130_0)).trans hw130_0), ((HB.out.cell (bLC_ w _ hw131_0)).trans hw131_0)⟩ (fun hHeld => ?_)
             clear hK K
             refine norm_ (a' := ?_) ?_ ?_
             rotate_left
             · show Act.put _ (some 25) _ = _
               simp only [Act.put, sTA_, sCZ_, sCS_, i64_w, i32_w]
               rfl
             refine pure_ (i := 9) (N := some 26) (v := ?_) (a' := ?_) #[Y_,Y_,Y_,Y_,Y_,Y_,Y_,Y_,Y_,Y_] rfl rfl (any_of HT_.out (by kernel_rfl)) (fun _ _ _ h => h) (Or.inl ⟨by rfl, ?_⟩) ?_ ?_
             rotate_left
             · intro w'
               go_simp
               with_reducible rfl
             rotate_left
             · simp only [Act.put, sTA_, sCZ_, sCS_, i64_w, i32_w]
               rfl
             refine done_ (done_of HT_.out (by kernel_rfl)) ?_
             try go_wp2
             go_roundg k1
             case measure => have := HK1.out; omega
             case rel => exact ⟨(wrap64 (x5_1 + 1)), (by first | rfl | (simp; done) | (simp [*]; done)), H', ⟨by have := HK1.out; omega⟩, ⟨by repeat (first | (with_reducible first | exact HB.out | apply bA_ | apply bN_ | apply b1_) | exact HB.out)⟩⟩
           · replace c8 := Bool.eq_false_iff.mpr c8
             subst c8
             have H1 : (some false) = some r := by rw [if_neg (show ¬ (false = true) by decide)] at H; exact H
             clear H
             have H := H1
             clear H1
             obtain rfl := Option.some.inj H
             try go_wp2
             have n0_ := Aside0.mk (b1_ HB.out)
             clear HB
             have HB := n0_
             clear n0_
             have p130 : 0 ≤ (x5_1 : Int) := oT_ (by assumption)
             have q130 : x5_1 < (l0.length : Int) := oT_ (by assumption)
             obtain ⟨ad130, A130_0, c130_0, e130, hx130_0, hl130_0, hi130_0⟩ := at_L4 HR0.out x5_1 p130 q130
             have hw130_0 := hx130_0
             cases e130
             replace hx130_0 := (HB.out.cell (bLC_ w _ hx130_0)).trans hx130_0
             have HR130_0 := Aside0.mk hi130_0
             have HC130_0 := Aside0.mk hl130_0
             clear hi130_0 hl130_0
             replace p130 := eq_true p130
             replace q130 := eq_true q130
             have p131 : 0 ≤ (x5_1 : Int) := oT_ (by assumption)
             have q131 : x5_1 < (l1.length : Int) := oT_ (by assumption)
             obtain ⟨ad131, A131_0, c131_0, e131, hx131_0, hl131_0, hi131_0⟩ := at_L4 HR1.out x5_1 p131 q131
             have hw131_0 := hx131_0
             cases e131
             replace hx131_0 := (HB.out.cell (bLC_ w _ hx131_0)).trans hx131_0
             have HR131_0 := Aside0.mk hi131_0
             have HC131_0 := Aside0.mk hl131_0
             clear hi131_0 hl131_0
             replace p131 := eq_true p131
             replace q131 := eq_true q131
             refine start_ (n := 10) (S := fun w' => w'.cell? (ad130.add (x5_1).toNat) = some (.slice A130_0 (rd_L4 l0 x5_1).length c130_0) ∧ w'.cell? (ad131.add (x5_1).toNat) = some (.slice A131_0 (rd_L4 l1 x5_1).length c131_0)) (ds := []) #[X_,X_,X_,X_,X_,X_,X_,X_,X_,X_] (by kernel_rfl) rfl rfl ⟨((HB.out.cell (bLC_ w _ hw130_0)).trans hw130_0), ((HB.out.cell (bLC_ w _ hw131_0)).trans hw131_0)⟩ (fun hHeld => ?_); refine with_tabW r6_SameLists.tab6 r6_SameLists.bits6 (fun HT_ HW_ => ?_)
             generalize wr.drew = w11 at HB HR130_0 HR131_0 hx130_0 hx131_0 hHeld ⊢
             refine pure_ (i := 0) (N := some 17) (v := ?_) (a' := ?_) #[Y_,X_,X_,X_,X_,X_,X_,X_,X_,X_] rfl rfl (any_of HT_.out (by kernel_rfl)) (fun _ _ _ h => h) (Or.inl ⟨by rfl, ?_⟩) ?_ ?_
             rotate_left
             · intro w'
               go_simp
               with_reducible rfl
             rotate_left
             · simp only [Act.put, sTA_, sCZ_, sCS_, i64_w, i32_w]
               rfl
             refine pure_ (i := 1) (N := some 18) (v := ?_) (a' := ?_) #[Y_,Y_,X_,X_,X_,X_,X_,X_,X_,X_] rfl rfl (any_of HT_.out (by kernel_rfl)) (fun _ _ _ h => h) (Or.inl ⟨by rfl, ?_⟩) ?_ ?_
             rotate_left
             · intro w'
               go_simp
               with_reducible rfl
             rotate_left
             · simp only [Act.put, sTA_, sCZ_, sCS_, i64_w, i32_w]
               rfl
             refine pure_ (i := 2) (N := some 19) (v := ?_) (a' := ?_) #[Y_,Y_,Y_,X_,X_,X_,X_,X_,X_,X_] rfl rfl (any_of HT_.out (by kernel_rfl)) (fun _ _ _ h => h) (Or.inl ⟨by rfl, ?_⟩) ?_ ?_
             rotate_left
             · intro w'
               go_simp
               with_reducible rfl
             rotate_left
             · simp only [Act.put, sTA_, sCZ_, sCS_, i64_w, i32_w]
               rfl
             refine pure_ (i := 4) (N := some 21) (v := ?_) (a' := ?_) #[Y_,Y_,Y_,X_,Y_,X_,X_,X_,X_,X_] rfl rfl (any_of HT_.out (by kernel_rfl)) (fun _ _ _ h => h) (Or.inl ⟨by rfl, ?_⟩) ?_ ?_
             rotate_left
             · intro w'
               go_simp
               with_reducible rfl
             rotate_left
             · simp only [Act.put, sTA_, sCZ_, sCS_, i64_w, i32_w]
               rfl
             refine pure_ (i := 5) (N := some 22) (v := ?_) (a' := ?_) #[Y_,Y_,Y_,X_,Y_,Y_,X_,X_,X_,X_] rfl rfl (any_of HT_.out (by kernel_rfl)) (fun _ _ _ h => h) (Or.inl ⟨by rfl, ?_⟩) ?_ ?_
             rotate_left
             · intro w'
               go_simp
               with_reducible rfl
             rotate_left
             · simp only [Act.put, sTA_, sCZ_, sCS_, i64_w, i32_w]
               rfl
             refine pure_ (i := 6) (N := some 23) (v := ?_) (a' := ?_) #[Y_,Y_,Y_,X_,Y_,Y_,Y_,X_,X_,X_] rfl rfl (any_of HT_.out (by kernel_rfl)) (fun _ _ _ h => h) (Or.inl ⟨by rfl, ?_⟩) ?_ ?_
             rotate_left
             · intro w'
               go_simp
               with_reducible rfl
             rotate_left
             · simp only [Act.put, sTA_, sCZ_, sCS_, i64_w, i32_w]
               rfl
             refine take_ (i := 3) (N := some 20) (v := ?_) (a' := ?_) #[Y_,Y_,Y_,Y_,Y_,Y_,Y_,X_,X_,X_] rfl rfl (take_ofW HT_.out HW_.out (by kernel_rfl)) (fun _ _ _ h => h) (Or.inl ⟨by rfl, ?_⟩) hHeld ?_ ?_
             rotate_left
             · rintro w' ⟨s0, s1⟩
               go_simp
               with_reducible rfl
             rotate_left
             · simp only [Act.put, sTA_, sCZ_, sCS_, i64_w, i32_w]
               rfl
             refine take_ (i := 7) (N := some 24) (v := ?_) (a' := ?_) #[Y_,Y_,Y_,Y_,Y_,Y_,Y_,Y_,X_,X_] rfl rfl (take_ofW HT_.out HW_.out (by kernel_rfl)) (fun _ _ _ h => h) (Or.inl ⟨by rfl, ?_⟩) hHeld ?_ ?_
             rotate_left
             · rintro w' ⟨s0, s1⟩
               go_simp
               with_reducible rfl
             rotate_left
             · simp only [Act.put, sTA_, sCZ_, sCS_, i64_w, i32_w]
               rfl
             refine one_ (i := 8) (N := some 25) #[Y_,Y_,Y_,Y_,Y_,Y_,Y_,Y_,Y_,X_] rfl rfl (one_of HT_.out (by kernel_rfl)) (by decide) (fun K hK => ?_)
             refine goes_ Tryd.func35 (by kernel_rfl) rfl #[.slice A130_0 (rd_L4 l0 x5_1).length c130_0, .slice A131_0 (rd_L4 l1 x5_1).length c131_0] (by rfl) rfl rfl (by (try simp only [List.map_toArray, List.map_cons, List.map_nil]); first | done | rfl | (simp only [List.length_drop, List.length_take]; rfl)) ?_
             with_reducible refine (r1_SameRows.calls k1 _ _ (rd_L4 l0 x5_1) _ _ (rd_L4 l1 x5_1) false _ ?side1 ?side2 ?side3 ?side4 A7.out).mono ?_
             (case side1 => repeat (first | exact (Kd.C_below HR130_0.out HB.out) | (with_reducible refine Kd.cA_ ?_ _) | (with_reducible refine Kd.cN_ ?_ _) | (with_reducible refine Kd.cD_ ?_)))
             (case side2 => exact HC130_0.out)
             (case side3 => repeat (first | exact (Kd.C_below HR131_0.out HB.out) | (with_reducible refine Kd.cA_ ?_ _) | (with_reducible refine Kd.cN_ ?_ _) | (with_reducible refine Kd.cD_ ?_)))
             (case side4 => exact HC131_0.out)
             rintro e w12 ⟨rfl, hb⟩
             refine ⟨_, rfl, ?_⟩
             have n0_ := Aside0.mk (below_step (by repeat (first | (with_reducible first | exact HB.out | apply bA_ | apply bN_ | apply b1_) | exact HB.out)) hb)
             clear HB
             have HB := n0_
             clear n0_
             (try clear hb)
             (try clear hb2)
             (try clear hk)
             (try clear hi)
             refine hK.out _ _ ⟨((HB.out.cell (bLC_ w _ hw130_0)).trans hw130_0), ((HB.out.cell (bLC_ w _ hw131_0)).trans hw131_0)⟩ (fun hHeld => ?_)
             clear hK K
             refine norm_ (a' := ?_) ?_ ?_
             rotate_left
             · show Act.put _ (some 25) _ = _
               simp only [Act.put, sTA_, sCZ_, sCS_, i64_w, i32_w]
               rfl
             refine pure_ (i := 9) (N := some 26) (v := ?_) (a' := ?_) #[Y_,Y_,Y_,Y_,Y_,Y_,Y_,Y_,Y_,Y_] rfl rfl (any_of HT_.out (by kernel_rfl)) (fun _ _ _ h => h) (Or.inl ⟨by rfl, ?_⟩) ?_ ?_
             rotate_left
             · intro w'
               go_simp
               with_reducible rfl
             rotate_left
             · simp only [Act.put, sTA_, sCZ_, sCS_, i64_w, i32_w]
               rfl
             refine done_ (done_of HT_.out (by kernel_rfl)) ?_
             try go_wp2
             go_ret
             exact ⟨by first | rfl | (simp [*, errW_none, errW_some] <;> rfl), by repeat (first | (with_reducible first | exact HB.out | apply bA_ | apply bN_ | apply b1_) | exact HB.out)⟩
         · rw [if_neg c6] at H
           exact absurd H (by simp)
       · rw [if_neg c5] at H
         exact absurd H (by simp)
     · rw [if_neg c4] at H
       have c4b0 : decide (x5_1 < (l0.length : Int)) = false := dF_ c4
       clear c4
       obtain rfl := Option.some.inj H
       go_wp2
       go_ret
       exact ⟨by first | rfl | (simp [*, errW_none, errW_some] <;> rfl), by repeat (first | (with_reducible first | exact HB.out | apply bA_ | apply bN_ | apply b1_) | exact HB.out)⟩
 · rw [if_neg c3] at H
   have c3b0 : ((l0.length : Int) == (l1.length : Int)) = false := beq_eq_false_iff_ne.mpr c3
   have c3b1 : ((l0.length : Int) != (l1.length : Int)) = true := bne_iff_ne.mpr c3
   have c3b2 : (l0.length == l1.length) = false := by first | simpa using c3 | (simp at c3 ⊢; omega)
   obtain rfl := Option.some.inj H
   go_enter Tryd.func19, Tryd.ntmps19
   go_wp2
   go_ret
   exact ⟨by first | rfl | (simp [*, errW_none, errW_some] <;> rfl), by repeat (first | (with_reducible first | exact HB.out | apply bA_ | apply bN_ | apply b1_) | exact HB.out)⟩
end Go.Proofs.YtecgkcgfeghhgaaDoor.PAll
set_option linter.unusedVariables false
set_option linter.unusedSimpArgs false
namespace Go.Proofs.YtecgkcgfeghhgaaDoor.PAll
open Go.RowKit Go.Proofs.YtecgkcgfeghhgaaDoorW.PrintWords Go.Proofs.YtecgkcgfeghhgaaDoorW.PrintLast Go.Proofs.YtecgkcgfeghhgaaDoorW.PrintMore
open Classical in
theorem sameV_eq (a b : V) : r1_Same.f a.f0 a.f1 a.f2 b.f0 b.f1 b.f2 = some (decide (a = b)) := by
 unfold r1_Same.f
 by_cases h0 : a.f0 = b.f0
 · by_cases h1 : a.f1 = b.f1
   · rw [if_pos h0, if_pos h1]
     congr 1
     by_cases h2 : a.f2 = b.f2
     · rw [decide_eq_true (show a = b by cases a; cases b; simp_all), h2]
       simp
     · rw [decide_eq_false (fun e => h2 (by rw [e])), ByteArray.toList_eq, ByteArray.toList_eq, beq_eq_false_iff_ne]
       exact fun e => h2 (ByteArray.ext (Array.toList_inj.1 e))
   · rw [if_pos h0, if_neg h1, decide_eq_false (fun e => h1 (by rw [e]))]
 · rw [if_neg h0, decide_eq_false (fun e => h0 (by rw [e]))]
open Classical in
theorem sameRows_l0 (a b : List V) (hl : a.length = b.length) (hn : a.length ≤ 1099511627776) : ∀ (d i : Nat), i + d = a.length → Ev (fun k => r1_SameRows.l0 k a b (i : Int)) (decide (a.drop i = b.drop i)) := by
 intro d
 induction d with
 | zero =>
  intro i hi
  rw [List.drop_eq_nil_of_le (by omega), List.drop_eq_nil_of_le (by omega), decide_eq_true rfl]
  refine Ev.step (f := fun _ => some true) (fun k => ?_) (Ev.now _)
  simp only [r1_SameRows.l0]
  rw [if_neg (by omega)]
 | succ d ih =>
  intro i hi
  have h1 : i < a.length := by omega
  have h2 : i < b.length := by omega
  rw [drop_cons a i h1, drop_cons b i h2]
  have one : ∀ k, r1_SameRows.l0 (k + 1) a b (i : Int) = if decide (a[i] = b[i]) = true then r1_SameRows.l0 k a b ((i + 1 : Nat) : Int) else some false := fun k => by
   simp only [r1_SameRows.l0]
   rw [if_pos (by omega), if_pos (by omega), if_pos (by omega), rdV_at h1, rdV_at h2, sameV_eq, w64 _ (by omega) (by omega)]
   rfl
  by_cases c : a[i] = b[i]
  · refine Ev.step (f := fun k => r1_SameRows.l0 k a b ((i + 1 : Nat) : Int)) (fun k => by rw [one, if_pos (decide_eq_true c)]) ?_
    have h3 := ih (i + 1) (by omega)
    have e : decide (a[i] :: a.drop (i + 1) = b[i] :: b.drop (i + 1)) = decide (a.drop (i + 1) = b.drop (i + 1)) := by
     rw [decide_eq_decide, List.cons.injEq]
     exact ⟨fun h => h.2, fun h => ⟨c, h⟩⟩
    rw [e]
    exact h3
  · refine Ev.step (f := fun _ => some false) (fun k => by rw [one, if_neg (by simpa using c)]) ?_
    rw [decide_eq_false (fun e => c (List.cons.inj e).1)]
    exact Ev.now _
open Classical in
theorem sameRows_ev (a b : List V) (hn : a.length ≤ 1099511627776) : Ev (fun k => r1_SameRows.f k a b) (decide (a = b)) := by
 by_cases hl : a.length = b.length
 · have := sameRows_l0 a b hl hn a.length 0 (by omega)
   simp only [List.drop_zero] at this
   exact Ev.congr (fun k => by unfold r1_SameRows.f; rw [if_pos (by omega)]; rfl) this
 · rw [decide_eq_false (fun e => hl (by rw [e]))]
   exact Ev.congr (f := fun _ => some false) (fun k => by unfold r1_SameRows.f; rw [if_neg (by omega)]) (Ev.now _)
open Classical in
theorem sameLists_l0 (a b : List (List V)) (hl : a.length = b.length) (hn : a.length ≤ 1099511627776) (hr : ∀ r ∈ a, r.length ≤ 1099511627776) : ∀ (d i : Nat), i + d = a.length → Ev (fun k => r6_SameLists.l0 k a b (i : Int)) (decide (a.drop i = b.drop i)) := by
 intro d
 induction d with
 | zero =>
  intro i hi
  rw [List.drop_eq_nil_of_le (by omega), List.drop_eq_nil_of_le (by omega), decide_eq_true rfl]
  refine Ev.step (f := fun _ => some true) (fun k => ?_) (Ev.now _)
  simp only [r6_SameLists.l0]
  rw [if_neg (by omega)]
 | succ d ih =>
  intro i hi
  have h1 : i < a.length := by omega
  have h2 : i < b.length := by omega
  rw [drop_cons a i h1, drop_cons b i h2]
  have one : ∀ k, r6_SameLists.l0 (k + 1) a b (i : Int) = (r1_SameRows.f k a[i] b[i]).bind fun t => if t = true then r6_SameLists.l0 k a b ((i + 1 : Nat) : Int) else some false := fun k => by
   simp only [r6_SameLists.l0]
   rw [if_pos (by omega), if_pos (by omega), if_pos (by omega), rdL_at h1, rdL_at h2, w64 _ (by omega) (by omega)]
   rfl
  have hs := sameRows_ev a[i] b[i] (hr _ (List.getElem_mem h1))
  refine Ev.step one (Ev.bind hs ?_)
  by_cases c : a[i] = b[i]
  · refine Ev.congr (f := fun k => r6_SameLists.l0 k a b ((i + 1 : Nat) : Int)) (fun k => by rw [if_pos (decide_eq_true c)]) ?_
    have h3 := ih (i + 1) (by omega)
    have e : decide (a[i] :: a.drop (i + 1) = b[i] :: b.drop (i + 1)) = decide (a.drop (i + 1) = b.drop (i + 1)) := by
     rw [decide_eq_decide, List.cons.injEq]
     exact ⟨fun h => h.2, fun h => ⟨c, h⟩⟩
    rw [e]
    exact h3
  · refine Ev.congr (f := fun _ => some false) (fun k => by rw [if_neg (by simpa using c)]) ?_
    rw [decide_eq_false (fun e => c (List.cons.inj e).1)]
    exact Ev.now _
open Classical in
theorem sameLists_ev (a b : List (List V)) (hn : a.length ≤ 1099511627776) (hr : ∀ r ∈ a, r.length ≤ 1099511627776) : Ev (fun k => r6_SameLists.f k a b) (decide (a = b)) := by
 by_cases hl : a.length = b.length
 · have := sameLists_l0 a b hl hn hr a.length 0 (by omega)
   simp only [List.drop_zero] at this
   exact Ev.congr (fun k => by unfold r6_SameLists.f; rw [if_pos (by omega)]; rfl) this
 · rw [decide_eq_false (fun e => hl (by rw [e]))]
   exact Ev.congr (f := fun _ => some false) (fun k => by unfold r6_SameLists.f; rw [if_neg (by omega)]) (Ev.now _)
theorem sameLists_refl (a : List (List V)) (hn : a.length ≤ 1099511627776) (hr : ∀ r ∈ a, r.length ≤ 1099511627776) : Ev (fun k => r6_SameLists.f k a a) true := by
 classical
 have h := sameLists_ev a a hn hr
 rwa [decide_eq_true rfl] at h
end Go.Proofs.YtecgkcgfeghhgaaDoor.PAll
