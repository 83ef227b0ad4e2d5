/-
  ReapMatchesReference: for every circuit, every list of roots and every list of operations the law answers true, and all three read afterwards as they did.
  Its conditions are the row's own: the three listed tables of the library hold at the start what the program's text lays (tied by the card).
-/
import Derived.Test.YtcafgpfecfocnaaDoorRc3
import Derived.Test.YtcafgpfecfocnaaDoorCards
import Derived.Test.YtcafgpfecfocnaaDoorTie
import Derived.Test.YtcafgpfecfocnaaDoorRc2
import Derived.Test.YtcafgpfecfocnaaDoorRc1
import Derived.WalkKit
import Derived.ProofKit
import Derived.OpenShut
import Derived.Carry
import Derived.Deep.DeepHandedRow
import Derived.Lib.LaidTab
import Derived.Stop.LaidErr
/- The walk of the law against the reference. Written by gen_rmr.py. -/
namespace Go.Proofs.YtcafgpfecfocnaaDoor.P
open Go.RowKit Go.Maps Go.Proofs.YtcafgpfecfocnaaDoorW.PrintWords Go.Proofs.YtcafgpfecfocnaaDoorW.PrintLast Go.Proofs.YtcafgpfecfocnaaDoorW.PrintMore
set_option linter.unusedVariables false
set_option linter.unusedSimpArgs false

set_option maxRecDepth 100000 in
set_option maxHeartbeats 32000000 in
theorem match_made (A0 : Option Addr) (c0 : Nat) (gs : List S50) (A1 : Option Addr) (c1 : Nat) (rs : List Int) (A2 : Option Addr) (c2 : Nat) (ops : List S41) (w : World) (hT : Tabs w) (h0 : Kd.C k50 w A0 gs.length gs) (hc0 : gs.length ≤ c0) (h1 : Kd.C (Kd.int .i64) w A1 rs.length rs) (hc1 : rs.length ≤ c1) (h2 : Kd.C k41 w A2 ops.length ops) (hc2 : ops.length ≤ c2)
  (hg : ∀ g ∈ gs, goodG g) (hi : ∀ o ∈ ops, in64 o.f1) (hf : fewB gs rs ops.length = true) (hs : startS gs rs = true) :
  Calls Tryd.prog 3 #[.agg #[.slice A0 gs.length c0], .slice A1 rs.length c1, .slice A2 ops.length c2] w fun e w' => e = .returned (.bool true) ∧ Below w.heap.size w w' := by
 have HT := Aside0.mk (fun (W : World) (hb : Below w.heap.size w W) => hT.below hb)
 have HF := Aside0.mk (fun (W : World) (hb : Below w.heap.size w W) => few_all A0 c0 gs A1 c1 rs A2 c2 ops W (Kd.C_below h0 hb) hc0 (Kd.C_below h1 hb) hc1 (Kd.C_below h2 hb) hc2)
 have HG := Aside0.mk (fun (W : World) (hb : Below w.heap.size w W) => Kd.C_below h0 hb)
 have HR := Aside0.mk (fun (W : World) (hb : Below w.heap.size w W) => Kd.C_below h1 hb)
 have HO := Aside0.mk (fun (W : World) (hb : Below w.heap.size w W) => Kd.C_below h2 hb)
 have HC0 := Aside0.mk hc0
 have HC1 := Aside0.mk hc1
 have HI := Aside0.mk hi
 clear h0 h1 h2 hT hc0 hc1 hc2 hi
 have hf' := hf
 simp only [fewB, Bool.and_eq_true, decide_eq_true_eq] at hf'
 obtain ⟨hfs, hrl, hol⟩ := hf'
 have HW := Aside0.mk (few_wf hfs hg)
 have HRL := Aside0.mk hrl
 have HOL := Aside0.mk hol
 rw [hf] at HF
 clear hg hfs hrl hol hf
 have H18 := Aside0.mk (fun (W : World) (hb : Below w.heap.size w W) => start_calls A0 c0 gs A1 c1 rs W (HT.out W hb) HW.out (HG.out W hb) HC0.out (HR.out W hb) HC1.out (by have := HRL.out; omega))
 have HS := Aside0.mk hs
 rw [hs] at H18
 obtain ⟨d, hd⟩ : ∃ d, d = resG gs (marksS gs rs) gs.length := ⟨_, rfl⟩
 obtain ⟨m, hm⟩ : ∃ m, m = rs.map (plOf (marksS gs rs)) := ⟨_, rfl⟩
 obtain ⟨e0, he0⟩ : ∃ e0 : Int, e0 = 0 := ⟨_, rfl⟩
 have KE := Aside0.mk (show keepS gs rs = (d, m, e0) by unfold keepS; rw [if_pos hs, hd, hm, he0])
 obtain ⟨ks, hks⟩ := same_f (gs := d) (by rw [hd, resG_length]; have := cnt_le (marksS gs rs) gs.length; have := valid_len (start_in hs).1; omega) (wf_kids (by rw [hd]; exact resG_wf (start_in hs).1 HW.out))
 obtain ⟨ki, hki⟩ := ints_f (l := m) (by rw [hm, List.length_map]; have := HRL.out; omega)
 have KS := Aside0.mk (hks ks (Nat.le_refl _))
 have KI := Aside0.mk (hki ki (Nat.le_refl _))
 have IN := Aside0.mk (low_in (valid_low (start_in hs).1))
 have HLEN := Aside0.mk (valid_len (start_in hs).1)
 clear hks hki hd hm he0 hs
 go_enter Tryd.func3, Tryd.ntmps3
 go_wp2_with (first
  | ((with_reducible refine gate_dst (N := 3) rfl ?_); refine box_event ?hg (N := 3) ?hd (cs := #[.slice A0 gs.length c0]) (t := 24) ?hr ?_; (case hd => rfl); (case hg => rfl); (case hr => first | (go_simp; done) | (go_simp; rfl)); intro gb hg w1 hbox hb; have L1 := Aside0.mk hb; have BX1 := Aside0.mk hbox; have GB := Aside0.mk hg; have q1 : w1.cell? ⟨gb, 0, none⟩ = some (.slice A0 gs.length c0) := (blk_cell hbox 0).trans rfl; clear hg hbox hb)
  | (go_at_call 14; have hk_ := head_walk w1 (HT.out _ L1.out); (with_reducible refine hk_.mono ?_); rintro e w2 ⟨rfl, hb⟩; have L2 := Aside0.mk (L1.out.trans (hb.mono L1.out.size)); have E2 := Aside0.mk hb; have q2 := (hb.cell (World.block_lt_of_cell? _ _ q1)).trans q1; clear hb hk_)
  | (go_at_call 15; have hk_ := HF.out w2 L2.out; (with_reducible refine hk_.mono ?_); rintro e w3 ⟨rfl, hb⟩; have L3 := Aside0.mk (L2.out.trans (hb.mono L2.out.size)); have E3 := Aside0.mk (E2.out.trans (hb.mono E2.out.size)); have q3 := (hb.cell (World.block_lt_of_cell? _ _ q2)).trans q2; clear hb hk_)
  | (go_at_call 16; have hk_ := keep_f w3 A0 c0 gs A1 c1 rs.length rs rfl (HT.out _ L3.out) HW.out (HG.out _ L3.out) HC0.out (HR.out _ L3.out) HC1.out (by have := HRL.out; omega) d m e0 KE.out; (with_reducible refine hk_.mono ?_); rintro e w4 ⟨Ad, cd, Am, cm, rfl, hc1_, hc2_, hf, hb⟩; have L4 := Aside0.mk (L3.out.trans (hb.mono L3.out.size)); have E4 := Aside0.mk (E3.out.trans (hb.mono E3.out.size)); have FA4 := Aside0.mk hf; have LA := Aside0.mk (And.intro hc1_ hc2_); have q4 := (hb.cell (World.block_lt_of_cell? _ _ q3)).trans q3; clear hf hb hc1_ hc2_ hk_)
  | ((with_reducible refine gate_dst (N := 8) rfl ?_); refine box_event ?bg8 (N := 8) ?bd8 (cs := #[.slice none 0 0]) (t := 24) ?br8 ?_; (case bd8 => rfl); (case bg8 => rfl); (case br8 => first | (go_simp; done) | (go_simp; rfl)); intro b8 hg w5 hbox hb; have ALb := Aside0.mk hb; have BXb := Aside0.mk hbox; have GBb := Aside0.mk hg; have zb := blk_frozen hbox 0; have qb : w5.cell? ⟨b8, 0, none⟩ = some (.slice none 0 0) := (blk_cell hbox 0).trans rfl; clear hg hbox hb)
  | ((with_reducible refine gate_store (t := 24) (p := 8) rfl ?_); refine store_event (t := 24) (p := 8) (w1 := w5.setCell ⟨b8, 0, none⟩ (.slice Ad d.length cd)) rfl rfl rfl ?st8 ?_; (case st8 => first | (go_simp; done) | (go_simp; rfl)); intro w6 hwk; have hB : Below w4.heap.size w4 w6 := (by rw [hwk]; exact ALb.out.setCell (p := ⟨b8, 0, none⟩) (Nat.le_of_eq GBb.out.symm) _); have hbx : w6.heap[b8]? = some (.cells #[.slice Ad d.length cd] 24 (0, 0)) := (by rw [hwk]; exact blk_put (cs := #[.slice none 0 0]) BXb.out 0 _ rfl); clear hwk; have L6 := Aside0.mk (L4.out.trans (hB.mono L4.out.size)); have E6 := Aside0.mk (E4.out.trans (hB.mono E4.out.size)); have FA6 := Aside0.mk (Foot.below FA4.out hB); have B8 := Aside0.mk hbx; have q6 := (hB.cell (World.block_lt_of_cell? _ _ q4)).trans q4; clear hB hbx zb qb)
  | (go_at_call 17; have hk_ := rkeep_f w6 A0 c0 gs A1 c1 rs (wf_kids HW.out) (HG.out _ L6.out) HC0.out (HR.out _ L6.out) HC1.out (by have := HRL.out; omega) d m e0 KE.out; (with_reducible refine hk_.mono ?_); rintro e w7 ⟨Ae, ce, An, cn, rfl, hc1_, hc2_, hf, hb⟩; have L7 := Aside0.mk (L6.out.trans (hb.mono L6.out.size)); have E7 := Aside0.mk (E6.out.trans (hb.mono E6.out.size)); have FA7 := Aside0.mk (Foot.below FA6.out hb); have FB7 := Aside0.mk hf; have LB := Aside0.mk (And.intro hc1_ hc2_); have B87 := Aside0.mk ((hb.block b8 (blk_lt B8.out)).trans B8.out); have q7 := (hb.cell (World.block_lt_of_cell? _ _ q6)).trans q6; clear hf hb hc1_ hc2_ hk_)
  | ((with_reducible refine gate_dst (N := 11) rfl ?_); refine box_event ?bg11 (N := 11) ?bd11 (cs := #[.slice none 0 0]) (t := 24) ?br11 ?_; (case bd11 => rfl); (case bg11 => rfl); (case br11 => first | (go_simp; done) | (go_simp; rfl)); intro b11 hg w8 hbox hb; have ALb := Aside0.mk hb; have BXb := Aside0.mk hbox; have GBb := Aside0.mk hg; have zb := blk_frozen hbox 0; have qb : w8.cell? ⟨b11, 0, none⟩ = some (.slice none 0 0) := (blk_cell hbox 0).trans rfl; clear hg hbox hb)
  | ((with_reducible refine gate_store (t := 24) (p := 11) rfl ?_); refine store_event (t := 24) (p := 11) (w1 := w8.setCell ⟨b11, 0, none⟩ (.slice Ae d.length ce)) rfl rfl rfl ?st11 ?_; (case st11 => first | (go_simp; done) | (go_simp; rfl)); intro w9 hwk; have hB : Below w7.heap.size w7 w9 := (by rw [hwk]; exact ALb.out.setCell (p := ⟨b11, 0, none⟩) (Nat.le_of_eq GBb.out.symm) _); have hbx : w9.heap[b11]? = some (.cells #[.slice Ae d.length ce] 24 (0, 0)) := (by rw [hwk]; exact blk_put (cs := #[.slice none 0 0]) BXb.out 0 _ rfl); clear hwk; have L9 := Aside0.mk (L7.out.trans (hB.mono L7.out.size)); have E9 := Aside0.mk (E7.out.trans (hB.mono E7.out.size)); have FA9 := Aside0.mk (Foot.below FA7.out hB); have FB9 := Aside0.mk (Foot.below FB7.out hB); have B89 := Aside0.mk ((hB.block b8 (blk_lt B87.out)).trans B87.out); have B11 := Aside0.mk hbx; have q9 := (hB.cell (World.block_lt_of_cell? _ _ q7)).trans q7; clear hB hbx zb qb)
  | (go_at_call 18; have hk_ := H18.out w9 L9.out; (with_reducible refine hk_.mono ?_); rintro e w10 ⟨hb, _, ht⟩; obtain ⟨g, F, nm, vw, f, Ag, cg, vs, bm, rfl, hsw, hF⟩ := ht trivial; have L10 := Aside0.mk (L9.out.trans (hb.mono L9.out.size)); have E10 := Aside0.mk (E9.out.trans (hb.mono E9.out.size)); have FA10 := Aside0.mk (Foot.below FA9.out hb); have FB10 := Aside0.mk (Foot.below FB9.out hb); have B810 := Aside0.mk ((hb.block b8 (blk_lt B89.out)).trans B89.out); have B1110 := Aside0.mk ((hb.block b11 (blk_lt B11.out)).trans B11.out); have q10 := (hb.cell (World.block_lt_of_cell? _ _ q9)).trans q9; have SW10 := Aside0.mk hsw; have HF10 := Aside0.mk hF; clear hb ht hsw hF hk_)
  | (go_at_call 19; have hk_ := rstart_calls A0 c0 gs A1 c1 rs w10 (HG.out _ L10.out) HC0.out (HR.out _ L10.out) HC1.out (wf_kids HW.out) (by have := HRL.out; omega); (with_reducible refine hk_.mono ?_); rintro e w11 ⟨hb, _, ht⟩; obtain ⟨g2, vr, rfl, hrw⟩ := ht HS.out; have L11 := Aside0.mk (L10.out.trans (hb.mono L10.out.size)); have E11 := Aside0.mk (E10.out.trans (hb.mono E10.out.size)); have FA11 := Aside0.mk (Foot.below FA10.out hb); have FB11 := Aside0.mk (Foot.below FB10.out hb); have c8 : w11.cell? ⟨b8, 0, none⟩ = some (.slice Ad d.length cd) := (blk_cell ((hb.block b8 (blk_lt B810.out)).trans B810.out) 0).trans rfl; have c11 : w11.cell? ⟨b11, 0, none⟩ = some (.slice Ae d.length ce) := (blk_cell ((hb.block b11 (blk_lt B1110.out)).trans B1110.out) 0).trans rfl; have RW11 := Aside0.mk hrw; have D11 := Aside0.mk hb; clear hb ht hrw hk_)
  | (go_at_call 20; have hk_ := same_h (W := w11) d d.length rfl FA11.out.now.1 FB11.out.now.1 LA.out.1 LB.out.1 ks KS.out; (with_reducible refine hk_.mono ?_); rintro e w12 ⟨rfl, hb⟩; have L12 := Aside0.mk (L11.out.trans (hb.mono L11.out.size)); have D12 := Aside0.mk hb; have FA12 := Aside0.mk (Foot.below FA11.out hb); have FB12 := Aside0.mk (Foot.below FB11.out hb); clear hb hk_)
  | (go_at_call 21; have hk_ := ints_h (W := w12) m m.length rfl FA12.out.now.2 FB12.out.now.2 LA.out.2 LB.out.2 ki KI.out; (with_reducible refine hk_.mono ?_); rintro e w13 ⟨rfl, hb⟩; have L13 := Aside0.mk (L12.out.trans (hb.below.mono L12.out.size)); have D13 := Aside0.mk (D12.out.trans (hb.below.mono D12.out.size)); clear hb hk_))
 have Q13 := Aside0.mk ((match_start L10.out ((E10.out.block gb (blk_lt BX1.out)).trans BX1.out) (Nat.le_of_eq GB.out.symm) SW10.out HF10.out (blk_lt ((E9.out.block gb (blk_lt BX1.out)).trans BX1.out)) L9.out.size D11.out RW11.out HS.out).step D13.out)
 have PS := Aside0.mk (pops_start HS.out)
 clear L1 BX1 GB L2 E2 L3 E3 L4 E4 FA4 LA L6 E6 FA6 B8 L7 E7 FA7 FB7 LB B87 L9 E9 FA9 FB9 B89 B11 L10 E10 FA10 FB10 B810 B1110 L11 E11 FA11 FB11 L12 D12 FA12 FB12 q1 q2 q3 q4 q6 q7 q9 q10 c8 c11 ALb BXb GBb SW10 HF10 RW11 D11 D13 KE KS KI
 go_loopg [18] ops.length (fun gg s18 wr => ∃ (i : Nat) (al : List Int) (st : St) (vr : Value), i ≤ ops.length ∧ ops.length - i ≤ gg ∧ s18 = .int .i64 i ∧ Aside0 (QQ w wr gb g g2 A0 c0 gs al st vr al ((st.pops gs.length : Nat) : Int)) ∧ Aside0 (al.length ≤ 60 + i))
 case atStart => exact ⟨0, rs, st0 rs, vr, Nat.zero_le _, by omega, rfl, ⟨by rw [PS.out]; exact Q13.out⟩, ⟨HRL.out⟩⟩
 case round =>
  clear L13 Q13 PS HS H18
  obtain ⟨i, al, st, vr, hi, hgg, rfl, hQQ, hal⟩ := hrel
  by_cases hlt : i < ops.length
  ·have hlt' : (i : Int) < (ops.length : Int) := by omega
   obtain ⟨ad, e, hx0, hx1⟩ := at_T41 (HO.out w (Below.refl _ _)) i (by omega) hlt'
   cases e
   rw [Int.toNat_natCast] at hx0 hx1
   obtain ⟨o, ho⟩ : ∃ o, o = rd_T41 ops (i : Int) := ⟨_, rfl⟩
   rw [← ho] at hx0 hx1
   have OI := Aside0.mk (show in64 o.f1 by
    rw [ho]; unfold rd_T41
    rw [Int.toNat_natCast, List.getD_eq_getElem?_getD, List.getElem?_eq_getElem hlt]
    exact HI.out _ (List.getElem_mem hlt))
   have X0 := Aside0.mk hx0
   have X1 := Aside0.mk hx1
   clear hx0 hx1 ho
   obtain ⟨b0, n0⟩ := o
   obtain ⟨F, Ag, cg, vs, bm, nm, vw, f, hsw, hF0, hF3, hF1, hF2, hgt⟩ := hQQ.out.sw
   have SWR := Aside0.mk hsw
   have FB := Aside0.mk (And.intro hF0 (And.intro hF3 (And.intro hF1 (And.intro hF2 hgt))))
   clear hsw hF0 hF3 hF1 hF2 hgt
   have WLEN := Aside0.mk (show st.wait.length < 8796093022208 by have h1 := hQQ.out.good.few; have h2 := cnt_le st.mark gs.length; have := HLEN.out; omega)
   cases b0 with
   | true =>
    by_cases hir : inRange gs.length n0
    ·have IR := Aside0.mk hir
     clear hir
     go_upto_region 13 with fail
     have HELD := Aside0.mk (show wr.drew.cell? (ad.add (i * 2)) = some (.bool true) ∧ wr.drew.cell? ⟨(ad.add (i * 2)).block, (ad.add (i * 2)).off + 1, none⟩ = some (.int .i64 n0) from ⟨(hQQ.out.below.cell (World.block_lt_of_cell? _ _ X0.out)).trans X0.out, (hQQ.out.below.cell (World.block_lt_of_cell? _ _ X1.out)).trans X1.out⟩)
     refine start_ (n := 47) (S := fun w' => w'.cell? (ad.add (i * 2)) = some (.bool true) ∧ w'.cell? ⟨(ad.add (i * 2)).block, (ad.add (i * 2)).off + 1, none⟩ = some (.int .i64 n0)) (ds := []) #[false, false, false, false, false, false, false, false, false, false, false, false, false, false, false, false, false, false, false, false, false, false, false, false, false, false, false, false, false, false, false, false, false, false, false, false, false, false, false, false, false, false, false, false, false, false, false] (by kernel_rfl) rfl rfl HELD.out (fun hHeld => ?_)
     refine pure_ (i := 0) (N := some 91) (v := ?_) (a' := ?_) #[true, false, false, false, false, false, false, false, false, false, false, false, false, false, false, false, false, false, false, false, false, false, false, false, false, false, false, false, false, false, false, false, false, false, false, false, false, false, false, false, false, false, false, false, false, false, false] rfl rfl (by kernel_rfl) (fun _ _ _ h => h) (Or.inl ⟨by rfl, ?_⟩) ?_ ?_
     rotate_left
     ·intro w'
      go_simp
      with_reducible rfl
     rotate_left
     ·simp only [Act.put, List.setIfInBounds_toArray, List.set_cons_zero, List.set_cons_succ, i64_w, i32_w]
      rfl
     refine pure_ (i := 1) (N := some 92) (v := ?_) (a' := ?_) #[true, true, false, false, false, false, false, false, false, false, false, false, false, false, false, false, false, false, false, false, false, false, false, false, false, false, false, false, false, false, false, false, false, false, false, false, false, false, false, false, false, false, false, false, false, false, false] rfl rfl (by kernel_rfl) (fun _ _ _ h => h) (Or.inl ⟨by rfl, ?_⟩) ?_ ?_
     rotate_left
     ·intro w'
      go_simp
      with_reducible rfl
     rotate_left
     ·simp only [Act.put, List.setIfInBounds_toArray, List.set_cons_zero, List.set_cons_succ, i64_w, i32_w]
      rfl
     refine pure_ (i := 2) (N := some 93) (v := ?_) (a' := ?_) #[true, true, true, false, false, false, false, false, false, false, false, false, false, false, false, false, false, false, false, false, false, false, false, false, false, false, false, false, false, false, false, false, false, false, false, false, false, false, false, false, false, false, false, false, false, false, false] rfl rfl (by kernel_rfl) (fun _ _ _ h => h) (Or.inl ⟨by rfl, ?_⟩) ?_ ?_
     rotate_left
     ·intro w'
      go_simp
      with_reducible rfl
     rotate_left
     ·simp only [Act.put, List.setIfInBounds_toArray, List.set_cons_zero, List.set_cons_succ, i64_w, i32_w]
      rfl
     refine pure_ (i := 3) (N := some 94) (v := ?_) (a' := ?_) #[true, true, true, true, false, false, false, false, false, false, false, false, false, false, false, false, false, false, false, false, false, false, false, false, false, false, false, false, false, false, false, false, false, false, false, false, false, false, false, false, false, false, false, false, false, false, false] rfl rfl (by kernel_rfl) (fun _ _ _ h => h) (Or.inl ⟨by rfl, ?_⟩) ?_ ?_
     rotate_left
     ·intro w'
      go_simp
      with_reducible rfl
     rotate_left
     ·simp only [Act.put, List.setIfInBounds_toArray, List.set_cons_zero, List.set_cons_succ, i64_w, i32_w]
      rfl
     refine take_ (i := 4) (N := some 95) (v := ?_) (a' := ?_) #[true, true, true, true, true, false, false, false, false, false, false, false, false, false, false, false, false, false, false, false, false, false, false, false, false, false, false, false, false, false, false, false, false, false, false, false, false, false, false, false, false, false, false, false, false, false, false] rfl rfl (by kernel_rfl) (fun _ _ _ h => h) (Or.inl ⟨by rfl, ?_⟩) hHeld ?_ ?_
     rotate_left
     ·rintro w' ⟨s0, s1⟩
      go_simp
      with_reducible rfl
     rotate_left
     ·simp only [Act.put, List.setIfInBounds_toArray, List.set_cons_zero, List.set_cons_succ, i64_w, i32_w]
      rfl
     refine pure_ (i := 5) (N := some 96) (v := ?_) (a' := ?_) #[true, true, true, true, true, true, false, false, false, false, false, false, false, false, false, false, false, false, false, false, false, false, false, false, false, false, false, false, false, false, false, false, false, false, false, false, false, false, false, false, false, false, false, false, false, false, false] rfl rfl (by kernel_rfl) (fun _ _ _ h => h) (Or.inl ⟨by rfl, ?_⟩) ?_ ?_
     rotate_left
     ·intro w'
      go_simp
      with_reducible rfl
     rotate_left
     ·simp only [Act.put, List.setIfInBounds_toArray, List.set_cons_zero, List.set_cons_succ, i64_w, i32_w]
      rfl
     refine pure_ (i := 6) (N := some 97) (v := ?_) (a' := ?_) #[true, true, true, true, true, true, true, false, false, false, false, false, false, false, false, false, false, false, false, false, false, false, false, false, false, false, false, false, false, false, false, false, false, false, false, false, false, false, false, false, false, false, false, false, false, false, false] rfl rfl (by kernel_rfl) (fun _ _ _ h => h) (Or.inl ⟨by rfl, ?_⟩) ?_ ?_
     rotate_left
     ·intro w'
      go_simp
      with_reducible rfl
     rotate_left
     ·simp only [Act.put, List.setIfInBounds_toArray, List.set_cons_zero, List.set_cons_succ, i64_w, i32_w]
      rfl
     refine pure_ (i := 7) (N := some 98) (v := ?_) (a' := ?_) #[true, true, true, true, true, true, true, true, false, false, false, false, false, false, false, false, false, false, false, false, false, false, false, false, false, false, false, false, false, false, false, false, false, false, false, false, false, false, false, false, false, false, false, false, false, false, false] rfl rfl (by kernel_rfl) (fun _ _ _ h => h) (Or.inl ⟨by rfl, ?_⟩) ?_ ?_
     rotate_left
     ·intro w'
      go_simp
      with_reducible rfl
     rotate_left
     ·simp only [Act.put, List.setIfInBounds_toArray, List.set_cons_zero, List.set_cons_succ, i64_w, i32_w]
      rfl
     refine pure_ (i := 8) (N := some 99) (v := ?_) (a' := ?_) #[true, true, true, true, true, true, true, true, true, false, false, false, false, false, false, false, false, false, false, false, false, false, false, false, false, false, false, false, false, false, false, false, false, false, false, false, false, false, false, false, false, false, false, false, false, false, false] rfl rfl (by kernel_rfl) (fun _ _ _ h => h) (Or.inl ⟨by rfl, ?_⟩) ?_ ?_
     rotate_left
     ·intro w'
      go_simp
      with_reducible rfl
     rotate_left
     ·simp only [Act.put, List.setIfInBounds_toArray, List.set_cons_zero, List.set_cons_succ, i64_w, i32_w]
      rfl
     refine pure_ (i := 9) (N := some 100) (v := ?_) (a' := ?_) #[true, true, true, true, true, true, true, true, true, true, false, false, false, false, false, false, false, false, false, false, false, false, false, false, false, false, false, false, false, false, false, false, false, false, false, false, false, false, false, false, false, false, false, false, false, false, false] rfl rfl (by kernel_rfl) (fun _ _ _ h => h) (Or.inl ⟨by rfl, ?_⟩) ?_ ?_
     rotate_left
     ·intro w'
      go_simp
      with_reducible rfl
     rotate_left
     ·simp only [Act.put, List.setIfInBounds_toArray, List.set_cons_zero, List.set_cons_succ, i64_w, i32_w]
      rfl
     refine pure_ (i := 10) (N := some 101) (v := ?_) (a' := ?_) #[true, true, true, true, true, true, true, true, true, true, true, false, false, false, false, false, false, false, false, false, false, false, false, false, false, false, false, false, false, false, false, false, false, false, false, false, false, false, false, false, false, false, false, false, false, false, false] rfl rfl (by kernel_rfl) (fun _ _ _ h => h) (Or.inl ⟨by rfl, ?_⟩) ?_ ?_
     rotate_left
     ·intro w'
      go_simp
      with_reducible rfl
     rotate_left
     ·simp only [Act.put, List.setIfInBounds_toArray, List.set_cons_zero, List.set_cons_succ, i64_w, i32_w]
      rfl
     refine take_ (i := 11) (N := some 102) (v := ?_) (a' := ?_) #[true, true, true, true, true, true, true, true, true, true, true, true, false, false, false, false, false, false, false, false, false, false, false, false, false, false, false, false, false, false, false, false, false, false, false, false, false, false, false, false, false, false, false, false, false, false, false] rfl rfl (by kernel_rfl) (fun _ _ _ h => h) (Or.inl ⟨by rfl, ?_⟩) hHeld ?_ ?_
     rotate_left
     ·rintro w' ⟨s0, s1⟩
      go_simp
      with_reducible rfl
     rotate_left
     ·simp only [Act.put, List.setIfInBounds_toArray, List.set_cons_zero, List.set_cons_succ, i64_w, i32_w]
      rfl
     refine pure_ (i := 13) (N := some 104) (v := ?_) (a' := ?_) #[true, true, true, true, true, true, true, true, true, true, true, true, false, true, false, false, false, false, false, false, false, false, false, false, false, false, false, false, false, false, false, false, false, false, false, false, false, false, false, false, false, false, false, false, false, false, false] rfl rfl (by kernel_rfl) (fun _ _ _ h => h) (Or.inl ⟨by rfl, ?_⟩) ?_ ?_
     rotate_left
     ·intro w'
      go_simp
      with_reducible rfl
     rotate_left
     ·simp only [Act.put, List.setIfInBounds_toArray, List.set_cons_zero, List.set_cons_succ, i64_w, i32_w]
      rfl
     refine pure_ (i := 14) (N := some 105) (v := ?_) (a' := ?_) #[true, true, true, true, true, true, true, true, true, true, true, true, false, true, true, false, false, false, false, false, false, false, false, false, false, false, false, false, false, false, false, false, false, false, false, false, false, false, false, false, false, false, false, false, false, false, false] rfl rfl (by kernel_rfl) (fun _ _ _ h => h) (Or.inl ⟨by rfl, ?_⟩) ?_ ?_
     rotate_left
     ·intro w'
      go_simp
      with_reducible rfl
     rotate_left
     ·simp only [Act.put, List.setIfInBounds_toArray, List.set_cons_zero, List.set_cons_succ, i64_w, i32_w]
      rfl
     refine pure_ (i := 15) (N := some 106) (v := ?_) (a' := ?_) #[true, true, true, true, true, true, true, true, true, true, true, true, false, true, true, true, false, false, false, false, false, false, false, false, false, false, false, false, false, false, false, false, false, false, false, false, false, false, false, false, false, false, false, false, false, false, false] rfl rfl (by kernel_rfl) (fun _ _ _ h => h) (Or.inl ⟨by rfl, ?_⟩) ?_ ?_
     rotate_left
     ·intro w'
      go_simp
      with_reducible rfl
     rotate_left
     ·simp only [Act.put, List.setIfInBounds_toArray, List.set_cons_zero, List.set_cons_succ, i64_w, i32_w]
      rfl
     refine pure_ (i := 16) (N := some 107) (v := ?_) (a' := ?_) #[true, true, true, true, true, true, true, true, true, true, true, true, false, true, true, true, true, false, false, false, false, false, false, false, false, false, false, false, false, false, false, false, false, false, false, false, false, false, false, false, false, false, false, false, false, false, false] rfl rfl (by kernel_rfl) (fun _ _ _ h => h) (Or.inl ⟨by rfl, ?_⟩) ?_ ?_
     rotate_left
     ·intro w'
      go_simp
      with_reducible rfl
     rotate_left
     ·simp only [Act.put, List.setIfInBounds_toArray, List.set_cons_zero, List.set_cons_succ, i64_w, i32_w]
      rfl
     refine pure_ (i := 17) (N := some 108) (v := ?_) (a' := ?_) #[true, true, true, true, true, true, true, true, true, true, true, true, false, true, true, true, true, true, false, false, false, false, false, false, false, false, false, false, false, false, false, false, false, false, false, false, false, false, false, false, false, false, false, false, false, false, false] rfl rfl (by kernel_rfl) (fun _ _ _ h => h) (Or.inl ⟨by rfl, ?_⟩) ?_ ?_
     rotate_left
     ·intro w'
      go_simp
      with_reducible rfl
     rotate_left
     ·simp only [Act.put, List.setIfInBounds_toArray, List.set_cons_zero, List.set_cons_succ, i64_w, i32_w]
      rfl
     refine take_ (i := 18) (N := some 109) (v := ?_) (a' := ?_) #[true, true, true, true, true, true, true, true, true, true, true, true, false, true, true, true, true, true, true, false, false, false, false, false, false, false, false, false, false, false, false, false, false, false, false, false, false, false, false, false, false, false, false, false, false, false, false] rfl rfl (by kernel_rfl) (fun _ _ _ h => h) (Or.inl ⟨by rfl, ?_⟩) hHeld ?_ ?_
     rotate_left
     ·rintro w' ⟨s0, s1⟩
      go_simp
      with_reducible rfl
     rotate_left
     ·simp only [Act.put, List.setIfInBounds_toArray, List.set_cons_zero, List.set_cons_succ, i64_w, i32_w]
      rfl
     refine one_ (i := 12) (N := some 103) #[true, true, true, true, true, true, true, true, true, true, true, true, true, true, true, true, true, true, true, false, false, false, false, false, false, false, false, false, false, false, false, false, false, false, false, false, false, false, false, false, false, false, false, false, false, false, false] rfl rfl (by kernel_rfl) (by decide) (fun K hK => ?_)
     refine call_ 22 #[.pointer (some ⟨g, 0, none⟩), .int .i64 n0] ?hw rfl ?hr ?_
     case hw => rfl
     case hr => simp [execOp, resolve, Deferred.ofValue, invoke, Act.eval, eg22]
     refine (add_calls (SWR.out.below (below_drew (Below.refl wr.heap.size wr))) n0 IR.out HLEN.out WLEN.out (by have := hal.out; have := HOL.out; omega)).mono ?_
     rintro e w1 ⟨rfl, F', vs', nm', vw', f', hsw', hF', hu⟩
     refine ⟨_, rfl, ?_⟩
     have Q1 := Aside0.mk ((hQQ.out.step (below_drew (Below.refl wr.heap.size wr))).turned FB.out.1 FB.out.2.1 FB.out.2.2.1 FB.out.2.2.2.1 hu (Kd.F_below FB.out.2.2.2.2 (below_drew (Below.refl wr.heap.size wr))) hsw' hF' hQQ.out.inv.push (hQQ.out.good.push IR.out) (start_push hQQ.out.start IR.out))
     clear hsw' hF' hu
     have hx := And.intro ((Q1.out.below.cell (World.block_lt_of_cell? _ _ X0.out)).trans X0.out) ((Q1.out.below.cell (World.block_lt_of_cell? _ _ X1.out)).trans X1.out)
     have HX := Aside0.mk hx
     clear hx
     clear hHeld
     refine hK.out _ _ HX.out (fun hHeld => ?_)
     clear hK K
     refine norm_ (a' := ?_) ?_ ?_
     rotate_left
     ·show Act.put _ (some 103) _ = _
      simp only [Act.put, List.setIfInBounds_toArray, List.set_cons_zero, List.set_cons_succ, i64_w, i32_w]
      rfl
     refine one_ (i := 19) (N := some 110) #[true, true, true, true, true, true, true, true, true, true, true, true, true, true, true, true, true, true, true, true, false, false, false, false, false, false, false, false, false, false, false, false, false, false, false, false, false, false, false, false, false, false, false, false, false, false, false] rfl rfl (by kernel_rfl) (by decide) (fun K hK => ?_)
     refine call_ 23 #[.pointer (some ⟨g2, 0, none⟩), .int .i64 n0] ?hw rfl ?hr ?_
     case hw => rfl
     case hr => simp [execOp, resolve, Deferred.ofValue, invoke, Act.eval, eg23]
     refine (radd_calls Q1.out.rw n0 IR.out (by have := hal.out; have := HOL.out; omega) Q1.out.below.size).mono ?_
     rintro e w2 ⟨rfl, vr', hrw, hu, hv⟩
     refine ⟨_, rfl, ?_⟩
     have Q2 := Aside0.mk (Q1.out.reffed hu hrw hv)
     clear hrw hu hv
     have hx := And.intro ((Q2.out.below.cell (World.block_lt_of_cell? _ _ X0.out)).trans X0.out) ((Q2.out.below.cell (World.block_lt_of_cell? _ _ X1.out)).trans X1.out)
     have HX := Aside0.mk hx
     clear hx
     clear hHeld
     refine hK.out _ _ HX.out (fun hHeld => ?_)
     clear hK K
     refine norm_ (a' := ?_) ?_ ?_
     rotate_left
     ·show Act.put _ (some 110) _ = _
      simp only [Act.put, List.setIfInBounds_toArray, List.set_cons_zero, List.set_cons_succ, i64_w, i32_w]
      rfl
     refine pure_ (i := 20) (N := some 111) (v := ?_) (a' := ?_) #[true, true, true, true, true, true, true, true, true, true, true, true, true, true, true, true, true, true, true, true, true, false, false, false, false, false, false, false, false, false, false, false, false, false, false, false, false, false, false, false, false, false, false, false, false, false, false] rfl rfl (by kernel_rfl) (fun _ _ _ h => h) (Or.inl ⟨by rfl, ?_⟩) ?_ ?_
     rotate_left
     ·intro w'
      go_simp
      with_reducible rfl
     rotate_left
     ·simp only [Act.put, List.setIfInBounds_toArray, List.set_cons_zero, List.set_cons_succ, i64_w, i32_w]
      rfl
     refine pure_ (i := 21) (N := some 112) (v := ?_) (a' := ?_) #[true, true, true, true, true, true, true, true, true, true, true, true, true, true, true, true, true, true, true, true, true, true, false, false, false, false, false, false, false, false, false, false, false, false, false, false, false, false, false, false, false, false, false, false, false, false, false] rfl rfl (by kernel_rfl) (fun _ _ _ h => h) (Or.inl ⟨by rfl, ?_⟩) ?_ ?_
     rotate_left
     ·intro w'
      go_simp
      with_reducible rfl
     rotate_left
     ·simp only [Act.put, List.setIfInBounds_toArray, List.set_cons_zero, List.set_cons_succ, i64_w, i32_w]
      rfl
     refine pure_ (i := 22) (N := some 113) (v := ?_) (a' := ?_) #[true, true, true, true, true, true, true, true, true, true, true, true, true, true, true, true, true, true, true, true, true, true, true, false, false, false, false, false, false, false, false, false, false, false, false, false, false, false, false, false, false, false, false, false, false, false, false] rfl rfl (by kernel_rfl) (fun _ _ _ h => h) (Or.inl ⟨by rfl, ?_⟩) ?_ ?_
     rotate_left
     ·intro w'
      go_simp
      with_reducible rfl
     rotate_left
     ·simp only [Act.put, List.setIfInBounds_toArray, List.set_cons_zero, List.set_cons_succ, i64_w, i32_w]
      rfl
     refine pure_ (i := 23) (N := some 114) (v := ?_) (a' := ?_) #[true, true, true, true, true, true, true, true, true, true, true, true, true, true, true, true, true, true, true, true, true, true, true, true, false, false, false, false, false, false, false, false, false, false, false, false, false, false, false, false, false, false, false, false, false, false, false] rfl rfl (by kernel_rfl) (fun _ _ _ h => h) (Or.inl ⟨by rfl, ?_⟩) ?_ ?_
     rotate_left
     ·intro w'
      go_simp
      with_reducible rfl
     rotate_left
     ·simp only [Act.put, List.setIfInBounds_toArray, List.set_cons_zero, List.set_cons_succ, i64_w, i32_w]
      rfl
     refine pure_ (i := 24) (N := some 115) (v := ?_) (a' := ?_) #[true, true, true, true, true, true, true, true, true, true, true, true, true, true, true, true, true, true, true, true, true, true, true, true, true, false, false, false, false, false, false, false, false, false, false, false, false, false, false, false, false, false, false, false, false, false, false] rfl rfl (by kernel_rfl) (fun _ _ _ h => h) (Or.inl ⟨by rfl, ?_⟩) ?_ ?_
     rotate_left
     ·intro w'
      go_simp
      with_reducible rfl
     rotate_left
     ·simp only [Act.put, List.setIfInBounds_toArray, List.set_cons_zero, List.set_cons_succ, i64_w, i32_w]
      rfl
     refine pure_ (i := 25) (N := some 116) (v := ?_) (a' := ?_) #[true, true, true, true, true, true, true, true, true, true, true, true, true, true, true, true, true, true, true, true, true, true, true, true, true, true, false, false, false, false, false, false, false, false, false, false, false, false, false, false, false, false, false, false, false, false, false] rfl rfl (by kernel_rfl) (fun _ _ _ h => h) (Or.inl ⟨by rfl, ?_⟩) ?_ ?_
     rotate_left
     ·intro w'
      go_simp
      with_reducible rfl
     rotate_left
     ·simp only [Act.put, List.setIfInBounds_toArray, List.set_cons_zero, List.set_cons_succ, i64_w, i32_w]
      rfl
     refine pure_ (i := 26) (N := some 117) (v := ?_) (a' := ?_) #[true, true, true, true, true, true, true, true, true, true, true, true, true, true, true, true, true, true, true, true, true, true, true, true, true, true, true, false, false, false, false, false, false, false, false, false, false, false, false, false, false, false, false, false, false, false, false] rfl rfl (by kernel_rfl) (fun _ _ _ h => h) (Or.inl ⟨by rfl, ?_⟩) ?_ ?_
     rotate_left
     ·intro w'
      go_simp
      with_reducible rfl
     rotate_left
     ·simp only [Act.put, List.setIfInBounds_toArray, List.set_cons_zero, List.set_cons_succ, i64_w, i32_w]
      rfl
     refine take_ (i := 27) (N := some 118) (v := ?_) (a' := ?_) #[true, true, true, true, true, true, true, true, true, true, true, true, true, true, true, true, true, true, true, true, true, true, true, true, true, true, true, true, false, false, false, false, false, false, false, false, false, false, false, false, false, false, false, false, false, false, false] rfl rfl (by kernel_rfl) (fun _ _ _ h => h) (Or.inl ⟨by rfl, ?_⟩) hHeld ?_ ?_
     rotate_left
     ·rintro w' ⟨s0, s1⟩
      go_simp
      with_reducible rfl
     rotate_left
     ·simp only [Act.put, List.setIfInBounds_toArray, List.set_cons_zero, List.set_cons_succ, i64_w, i32_w]
      rfl
     refine pure_ (i := 28) (N := some 119) (v := ?_) (a' := ?_) #[true, true, true, true, true, true, true, true, true, true, true, true, true, true, true, true, true, true, true, true, true, true, true, true, true, true, true, true, true, false, false, false, false, false, false, false, false, false, false, false, false, false, false, false, false, false, false] rfl rfl (by kernel_rfl) (fun _ _ _ h => h) (Or.inl ⟨by rfl, ?_⟩) ?_ ?_
     rotate_left
     ·intro w'
      go_simp
      with_reducible rfl
     rotate_left
     ·simp only [Act.put, List.setIfInBounds_toArray, List.set_cons_zero, List.set_cons_succ, i64_w, i32_w]
      rfl
     refine pure_ (i := 29) (N := some 120) (v := ?_) (a' := ?_) #[true, true, true, true, true, true, true, true, true, true, true, true, true, true, true, true, true, true, true, true, true, true, true, true, true, true, true, true, true, true, false, false, false, false, false, false, false, false, false, false, false, false, false, false, false, false, false] rfl rfl (by kernel_rfl) (fun _ _ _ h => h) (Or.inl ⟨by rfl, ?_⟩) ?_ ?_
     rotate_left
     ·intro w'
      go_simp
      with_reducible rfl
     rotate_left
     ·simp only [Act.put, List.setIfInBounds_toArray, List.set_cons_zero, List.set_cons_succ, i64_w, i32_w]
      rfl
     refine pure_ (i := 30) (N := some 121) (v := undef) (a' := ?_) #[true, true, true, true, true, true, true, true, true, true, true, true, true, true, true, true, true, true, true, true, true, true, true, true, true, true, true, true, true, true, true, false, false, false, false, false, false, false, false, false, false, false, false, false, false, false, false] rfl rfl (by kernel_rfl) (fun _ _ _ h => h) (Or.inr ⟨by rfl, rfl⟩) ?_ ?_
     rotate_left
     ·simp only [Act.put, List.setIfInBounds_toArray, List.set_cons_zero, List.set_cons_succ, i64_w, i32_w]
      rfl
     refine pure_ (i := 31) (N := some 122) (v := undef) (a' := ?_) #[true, true, true, true, true, true, true, true, true, true, true, true, true, true, true, true, true, true, true, true, true, true, true, true, true, true, true, true, true, true, true, true, false, false, false, false, false, false, false, false, false, false, false, false, false, false, false] rfl rfl (by kernel_rfl) (fun _ _ _ h => h) (Or.inr ⟨by rfl, rfl⟩) ?_ ?_
     rotate_left
     ·simp only [Act.put, List.setIfInBounds_toArray, List.set_cons_zero, List.set_cons_succ, i64_w, i32_w]
      rfl
     refine pure_ (i := 32) (N := some 123) (v := undef) (a' := ?_) #[true, true, true, true, true, true, true, true, true, true, true, true, true, true, true, true, true, true, true, true, true, true, true, true, true, true, true, true, true, true, true, true, true, false, false, false, false, false, false, false, false, false, false, false, false, false, false] rfl rfl (by kernel_rfl) (fun _ _ _ h => h) (Or.inr ⟨by rfl, rfl⟩) ?_ ?_
     rotate_left
     ·simp only [Act.put, List.setIfInBounds_toArray, List.set_cons_zero, List.set_cons_succ, i64_w, i32_w]
      rfl
     refine pure_ (i := 33) (N := some 124) (v := undef) (a' := ?_) #[true, true, true, true, true, true, true, true, true, true, true, true, true, true, true, true, true, true, true, true, true, true, true, true, true, true, true, true, true, true, true, true, true, true, false, false, false, false, false, false, false, false, false, false, false, false, false] rfl rfl (by kernel_rfl) (fun _ _ _ h => h) (Or.inr ⟨by rfl, rfl⟩) ?_ ?_
     rotate_left
     ·simp only [Act.put, List.setIfInBounds_toArray, List.set_cons_zero, List.set_cons_succ, i64_w, i32_w]
      rfl
     refine pure_ (i := 34) (N := some 125) (v := undef) (a' := ?_) #[true, true, true, true, true, true, true, true, true, true, true, true, true, true, true, true, true, true, true, true, true, true, true, true, true, true, true, true, true, true, true, true, true, true, true, false, false, false, false, false, false, false, false, false, false, false, false] rfl rfl (by kernel_rfl) (fun _ _ _ h => h) (Or.inr ⟨by rfl, rfl⟩) ?_ ?_
     rotate_left
     ·simp only [Act.put, List.setIfInBounds_toArray, List.set_cons_zero, List.set_cons_succ, i64_w, i32_w]
      rfl
     refine pure_ (i := 35) (N := some 126) (v := undef) (a' := ?_) #[true, true, true, true, true, true, true, true, true, true, true, true, true, true, true, true, true, true, true, true, true, true, true, true, true, true, true, true, true, true, true, true, true, true, true, true, false, false, false, false, false, false, false, false, false, false, false] rfl rfl (by kernel_rfl) (fun _ _ _ h => h) (Or.inr ⟨by rfl, rfl⟩) ?_ ?_
     rotate_left
     ·simp only [Act.put, List.setIfInBounds_toArray, List.set_cons_zero, List.set_cons_succ, i64_w, i32_w]
      rfl
     refine pure_ (i := 36) (N := some 127) (v := undef) (a' := ?_) #[true, true, true, true, true, true, true, true, true, true, true, true, true, true, true, true, true, true, true, true, true, true, true, true, true, true, true, true, true, true, true, true, true, true, true, true, true, false, false, false, false, false, false, false, false, false, false] rfl rfl (by kernel_rfl) (fun _ _ _ h => h) (Or.inr ⟨by rfl, rfl⟩) ?_ ?_
     rotate_left
     ·simp only [Act.put, List.setIfInBounds_toArray, List.set_cons_zero, List.set_cons_succ, i64_w, i32_w]
      rfl
     refine pure_ (i := 37) (N := some 128) (v := undef) (a' := ?_) #[true, true, true, true, true, true, true, true, true, true, true, true, true, true, true, true, true, true, true, true, true, true, true, true, true, true, true, true, true, true, true, true, true, true, true, true, true, true, false, false, false, false, false, false, false, false, false] rfl rfl (by kernel_rfl) (fun _ _ _ h => h) (Or.inr ⟨by rfl, rfl⟩) ?_ ?_
     rotate_left
     ·simp only [Act.put, List.setIfInBounds_toArray, List.set_cons_zero, List.set_cons_succ, i64_w, i32_w]
      rfl
     refine pure_ (i := 38) (N := some 129) (v := undef) (a' := ?_) #[true, true, true, true, true, true, true, true, true, true, true, true, true, true, true, true, true, true, true, true, true, true, true, true, true, true, true, true, true, true, true, true, true, true, true, true, true, true, true, false, false, false, false, false, false, false, false] rfl rfl (by kernel_rfl) (fun _ _ _ h => h) (Or.inr ⟨by rfl, rfl⟩) ?_ ?_
     rotate_left
     ·simp only [Act.put, List.setIfInBounds_toArray, List.set_cons_zero, List.set_cons_succ, i64_w, i32_w]
      rfl
     refine pure_ (i := 39) (N := some 130) (v := undef) (a' := ?_) #[true, true, true, true, true, true, true, true, true, true, true, true, true, true, true, true, true, true, true, true, true, true, true, true, true, true, true, true, true, true, true, true, true, true, true, true, true, true, true, true, false, false, false, false, false, false, false] rfl rfl (by kernel_rfl) (fun _ _ _ h => h) (Or.inr ⟨by rfl, rfl⟩) ?_ ?_
     rotate_left
     ·simp only [Act.put, List.setIfInBounds_toArray, List.set_cons_zero, List.set_cons_succ, i64_w, i32_w]
      rfl
     refine pure_ (i := 40) (N := some 131) (v := undef) (a' := ?_) #[true, true, true, true, true, true, true, true, true, true, true, true, true, true, true, true, true, true, true, true, true, true, true, true, true, true, true, true, true, true, true, true, true, true, true, true, true, true, true, true, true, false, false, false, false, false, false] rfl rfl (by kernel_rfl) (fun _ _ _ h => h) (Or.inr ⟨by rfl, rfl⟩) ?_ ?_
     rotate_left
     ·simp only [Act.put, List.setIfInBounds_toArray, List.set_cons_zero, List.set_cons_succ, i64_w, i32_w]
      rfl
     refine pure_ (i := 41) (N := some 132) (v := undef) (a' := ?_) #[true, true, true, true, true, true, true, true, true, true, true, true, true, true, true, true, true, true, true, true, true, true, true, true, true, true, true, true, true, true, true, true, true, true, true, true, true, true, true, true, true, true, false, false, false, false, false] rfl rfl (by kernel_rfl) (fun _ _ _ h => h) (Or.inr ⟨by rfl, rfl⟩) ?_ ?_
     rotate_left
     ·simp only [Act.put, List.setIfInBounds_toArray, List.set_cons_zero, List.set_cons_succ, i64_w, i32_w]
      rfl
     refine pure_ (i := 42) (N := some 133) (v := undef) (a' := ?_) #[true, true, true, true, true, true, true, true, true, true, true, true, true, true, true, true, true, true, true, true, true, true, true, true, true, true, true, true, true, true, true, true, true, true, true, true, true, true, true, true, true, true, true, false, false, false, false] rfl rfl (by kernel_rfl) (fun _ _ _ h => h) (Or.inr ⟨by rfl, rfl⟩) ?_ ?_
     rotate_left
     ·simp only [Act.put, List.setIfInBounds_toArray, List.set_cons_zero, List.set_cons_succ, i64_w, i32_w]
      rfl
     refine pure_ (i := 43) (N := some 134) (v := undef) (a' := ?_) #[true, true, true, true, true, true, true, true, true, true, true, true, true, true, true, true, true, true, true, true, true, true, true, true, true, true, true, true, true, true, true, true, true, true, true, true, true, true, true, true, true, true, true, true, false, false, false] rfl rfl (by kernel_rfl) (fun _ _ _ h => h) (Or.inr ⟨by rfl, rfl⟩) ?_ ?_
     rotate_left
     ·simp only [Act.put, List.setIfInBounds_toArray, List.set_cons_zero, List.set_cons_succ, i64_w, i32_w]
      rfl
     refine pure_ (i := 44) (N := some 135) (v := undef) (a' := ?_) #[true, true, true, true, true, true, true, true, true, true, true, true, true, true, true, true, true, true, true, true, true, true, true, true, true, true, true, true, true, true, true, true, true, true, true, true, true, true, true, true, true, true, true, true, true, false, false] rfl rfl (by kernel_rfl) (fun _ _ _ h => h) (Or.inr ⟨by rfl, rfl⟩) ?_ ?_
     rotate_left
     ·simp only [Act.put, List.setIfInBounds_toArray, List.set_cons_zero, List.set_cons_succ, i64_w, i32_w]
      rfl
     refine pure_ (i := 45) (N := some 136) (v := ?_) (a' := ?_) #[true, true, true, true, true, true, true, true, true, true, true, true, true, true, true, true, true, true, true, true, true, true, true, true, true, true, true, true, true, true, true, true, true, true, true, true, true, true, true, true, true, true, true, true, true, true, false] rfl rfl (by kernel_rfl) (fun _ _ _ h => h) (Or.inl ⟨by rfl, ?_⟩) ?_ ?_
     rotate_left
     ·intro w'
      go_simp
      with_reducible rfl
     rotate_left
     ·simp only [Act.put, List.setIfInBounds_toArray, List.set_cons_zero, List.set_cons_succ, i64_w, i32_w]
      rfl
     refine pure_ (i := 46) (N := some 137) (v := ?_) (a' := ?_) #[true, true, true, true, true, true, true, true, true, true, true, true, true, true, true, true, true, true, true, true, true, true, true, true, true, true, true, true, true, true, true, true, true, true, true, true, true, true, true, true, true, true, true, true, true, true, true] rfl rfl (by kernel_rfl) (fun _ _ _ h => h) (Or.inl ⟨by rfl, ?_⟩) ?_ ?_
     rotate_left
     ·intro w'
      go_simp
      with_reducible rfl
     rotate_left
     ·simp only [Act.put, List.setIfInBounds_toArray, List.set_cons_zero, List.set_cons_succ, i64_w, i32_w]
      rfl
     refine done_ (by kernel_rfl) ?_
     have QE := Aside0.mk (show QQ w w2 gb g g2 A0 c0 gs (al ++ [n0]) (st.push n0) vr' (al ++ [n0]) (((st.push n0).pops gs.length : Nat) : Int) by rw [pops_push IR.out]; exact Q2.out)
     have ALE := Aside0.mk (show (al ++ [n0]).length ≤ 60 + (i + 1) by have := hal.out; simp; omega)
     obtain ⟨al', hal'⟩ : ∃ al', al' = al ++ [n0] := ⟨_, rfl⟩
     obtain ⟨st', hst'⟩ : ∃ st', st' = st.push n0 := ⟨_, rfl⟩
     rw [← hal', ← hst'] at QE
     rw [← hal'] at ALE
     clear hal' hst' Q1 Q2
     obtain ⟨F2, Ag2, cg2, vs2, bm2, nm2, vw2, f2, hsw2, _⟩ := QE.out.sw
     have SW2 := Aside0.mk hsw2
     clear hsw2
     obtain ⟨d, hd⟩ : ∃ d, d = resG gs (marksS gs al') gs.length := ⟨_, rfl⟩
     obtain ⟨m, hm⟩ : ∃ m, m = al'.map (plOf (marksS gs al')) := ⟨_, rfl⟩
     have KE2 := Aside0.mk (show keepS gs al' = (d, m, 0) by unfold keepS; rw [if_pos QE.out.start, hd, hm])
     have DE := Aside0.mk hd
     have ME := Aside0.mk hm
     have PD := Aside0.mk (pops_done QE.out.start QE.out.inv QE.out.good)
     have PLE := Aside0.mk (pops_le QE.out.start QE.out.inv QE.out.good)
     clear hd hm
     obtain ⟨ks2, hks⟩ := same_f (gs := d) (by rw [DE.out, resG_length]; have := cnt_le (marksS gs al') gs.length; have := valid_len (start_in QE.out.start).1; omega) (wf_kids (by rw [DE.out]; exact resG_wf (start_in QE.out.start).1 HW.out))
     obtain ⟨ki2, hki⟩ := ints_f (l := m) (by rw [ME.out, List.length_map]; have := ALE.out; have := HOL.out; omega)
     have KS2 := Aside0.mk (hks ks2 (Nat.le_refl _))
     have KI2 := Aside0.mk (hki ki2 (Nat.le_refl _))
     clear hks hki
     by_cases hw : st'.wait = []
     ·have HW' := Aside0.mk hw
      clear hw
      go_wp2_with (first
       | (go_at_call 26; have hk_ := result_f SW2.out HW'.out (start_in QE.out.start).1 HW.out (start_in QE.out.start).2 (by have := ALE.out; have := HOL.out; omega) d m (by rw [mark_done QE.out.start QE.out.inv HW'.out]; exact DE.out) (by rw [mark_done QE.out.start QE.out.inv HW'.out]; exact ME.out); (with_reducible refine hk_.mono ?_); rintro e w3 ⟨Ax, cx, Ay, cy, rfl, hc1_, hc2_, hf, hb⟩; have D3 := Aside0.mk hb; have FX3 := Aside0.mk hf; have LX := Aside0.mk (And.intro hc1_ hc2_); clear hf hb hc1_ hc2_ hk_)
       | ((with_reducible refine gate_dst (N := 19) rfl ?_); refine box_event ?bg19 (N := 19) ?bd19 (cs := #[.slice none 0 0]) (t := 24) ?br19 ?_; (case bd19 => rfl); (case bg19 => rfl); (case br19 => first | (go_simp; done) | (go_simp; rfl)); intro b19 hg w4 hbox hb; have ALb := Aside0.mk hb; have BXb := Aside0.mk hbox; have GBb := Aside0.mk hg; have zb := blk_frozen hbox 0; have qb : w4.cell? ⟨b19, 0, none⟩ = some (.slice none 0 0) := (blk_cell hbox 0).trans rfl; clear hg hbox hb)
       | ((with_reducible refine gate_store (t := 24) (p := 19) rfl ?_); refine store_event (t := 24) (p := 19) (w1 := w4.setCell ⟨b19, 0, none⟩ (.slice Ax d.length cx)) rfl rfl rfl ?st19 ?_; (case st19 => first | (go_simp; done) | (go_simp; rfl)); intro w5 hwk; have hB : Below w3.heap.size w3 w5 := (by rw [hwk]; exact ALb.out.setCell (p := ⟨b19, 0, none⟩) (Nat.le_of_eq GBb.out.symm) _); have hbx : w5.heap[b19]? = some (.cells #[.slice Ax d.length cx] 24 (0, 0)) := (by rw [hwk]; exact blk_put (cs := #[.slice none 0 0]) BXb.out 0 _ rfl); clear hwk; have D5 := Aside0.mk (D3.out.trans (hB.mono D3.out.size)); have FX5 := Aside0.mk (Foot.below FX3.out hB); have B19 := Aside0.mk hbx; clear hB hbx zb qb)
       | (go_at_call 27; have hk_ := rresult_done (p := st'.pops gs.length) (QE.out.rw.below D5.out) (HG.out _ (QE.out.below.trans (D5.out.mono QE.out.below.size))) HC0.out QE.out.start (wf_kids HW.out) (by have := ALE.out; have := HOL.out; omega) (PD.out.2 HW'.out) d m KE2.out; (with_reducible refine hk_.mono ?_); rintro e w6 ⟨Az, cz, Aq, cq, rfl, hc1_, hc2_, hf, hb⟩; have D6 := Aside0.mk (D5.out.trans (hb.mono D5.out.size)); have FX6 := Aside0.mk (Foot.below FX5.out hb); have FY6 := Aside0.mk hf; have LY := Aside0.mk (And.intro hc1_ hc2_); have B196 := Aside0.mk ((hb.block b19 (blk_lt B19.out)).trans B19.out); clear hf hb hc1_ hc2_ hk_)
       | ((with_reducible refine gate_dst (N := 22) rfl ?_); refine box_event ?bg22 (N := 22) ?bd22 (cs := #[.slice none 0 0]) (t := 24) ?br22 ?_; (case bd22 => rfl); (case bg22 => rfl); (case br22 => first | (go_simp; done) | (go_simp; rfl)); intro b22 hg w7 hbox hb; have ALb := Aside0.mk hb; have BXb := Aside0.mk hbox; have GBb := Aside0.mk hg; have zb := blk_frozen hbox 0; have qb : w7.cell? ⟨b22, 0, none⟩ = some (.slice none 0 0) := (blk_cell hbox 0).trans rfl; clear hg hbox hb)
       | ((with_reducible refine gate_store (t := 24) (p := 22) rfl ?_); refine store_event (t := 24) (p := 22) (w1 := w7.setCell ⟨b22, 0, none⟩ (.slice Az d.length cz)) rfl rfl rfl ?st22 ?_; (case st22 => first | (go_simp; done) | (go_simp; rfl)); intro w8 hwk; have hB : Below w6.heap.size w6 w8 := (by rw [hwk]; exact ALb.out.setCell (p := ⟨b22, 0, none⟩) (Nat.le_of_eq GBb.out.symm) _); have hbx : w8.heap[b22]? = some (.cells #[.slice Az d.length cz] 24 (0, 0)) := (by rw [hwk]; exact blk_put (cs := #[.slice none 0 0]) BXb.out 0 _ rfl); clear hwk; have D8 := Aside0.mk (D6.out.trans (hB.mono D6.out.size)); have FX8 := Aside0.mk (Foot.below FX6.out hB); have FY8 := Aside0.mk (Foot.below FY6.out hB); have c19 : w8.cell? ⟨b19, 0, none⟩ = some (.slice Ax d.length cx) := (blk_cell ((hB.block b19 (blk_lt B196.out)).trans B196.out) 0).trans rfl; have c22 : w8.cell? ⟨b22, 0, none⟩ = some (.slice Az d.length cz) := (blk_cell hbx 0).trans rfl; clear hB hbx zb qb)
       | (go_at_call 20; have hk_ := same_h (W := w8) d d.length rfl FX8.out.now.1 FY8.out.now.1 LX.out.1 LY.out.1 ks2 KS2.out; (with_reducible refine hk_.mono ?_); rintro e w9 ⟨rfl, hb⟩; have D9 := Aside0.mk (D8.out.trans (hb.mono D8.out.size)); have FX9 := Aside0.mk (Foot.below FX8.out hb); have FY9 := Aside0.mk (Foot.below FY8.out hb); clear hb hk_)
       | (go_at_call 21; have hk_ := ints_h (W := w9) m m.length rfl FX9.out.now.2 FY9.out.now.2 LX.out.2 LY.out.2 ki2 KI2.out; (with_reducible refine hk_.mono ?_); rintro e w10 ⟨rfl, hb⟩; have D10 := Aside0.mk (D9.out.trans (hb.below.mono D9.out.size)); clear hb hk_))
      go_roundg (ops.length - (i + 1))
      case measure => omega
      case rel => exact ⟨i + 1, al', st', vr', by omega, by omega, (by have := HOL.out; rw [wrap_nat (by omega)]), ⟨QE.out.step D10.out⟩, ALE⟩
     ·have HW' := Aside0.mk hw
      clear hw
      go_wp2_with (first
       | (go_at_call 26; have hk_ := result_waits SW2.out HW'.out; (with_reducible refine hk_.mono ?_); rintro e w3 ⟨rfl, hb⟩; have D3 := Aside0.mk hb; clear hb hk_)
       | ((with_reducible refine gate_dst (N := 19) rfl ?_); refine box_event ?bg19 (N := 19) ?bd19 (cs := #[.slice none 0 0]) (t := 24) ?br19 ?_; (case bd19 => rfl); (case bg19 => rfl); (case br19 => first | (go_simp; done) | (go_simp; rfl)); intro b19 hg w4 hbox hb; have ALb := Aside0.mk hb; have BXb := Aside0.mk hbox; have GBb := Aside0.mk hg; have zb := blk_frozen hbox 0; have qb : w4.cell? ⟨b19, 0, none⟩ = some (.slice none 0 0) := (blk_cell hbox 0).trans rfl; clear hg hbox hb)
       | ((with_reducible refine gate_store (t := 24) (p := 19) rfl ?_); refine store_event (t := 24) (p := 19) (w1 := w4.setCell ⟨b19, 0, none⟩ (.slice none 0 0)) rfl rfl rfl ?st19 ?_; (case st19 => first | (go_simp; done) | (go_simp; rfl)); intro w5 hwk; have hB : Below w3.heap.size w3 w5 := (by rw [hwk]; exact ALb.out.setCell (p := ⟨b19, 0, none⟩) (Nat.le_of_eq GBb.out.symm) _); have hbx : w5.heap[b19]? = some (.cells #[.slice none 0 0] 24 (0, 0)) := (by rw [hwk]; exact blk_put (cs := #[.slice none 0 0]) BXb.out 0 _ rfl); clear hwk; have D5 := Aside0.mk (D3.out.trans (hB.mono D3.out.size)); have B19 := Aside0.mk hbx; clear hB hbx zb qb)
       | (go_at_call 27; have hk_ := rresult_waits (p := st'.pops gs.length) (QE.out.rw.below D5.out) (HG.out _ (QE.out.below.trans (D5.out.mono QE.out.below.size))) HC0.out QE.out.start (wf_kids HW.out) (by have := ALE.out; have := HOL.out; omega) (by rcases Nat.lt_or_ge (st'.pops gs.length) (reachN gs al') with h | h; exact h; exact absurd (PD.out.1 (Nat.le_antisymm PLE.out h)) HW'.out); (with_reducible refine hk_.mono ?_); rintro e w6 ⟨rfl, hb⟩; have D6 := Aside0.mk (D5.out.trans (hb.mono D5.out.size)); have B196 := Aside0.mk ((hb.block b19 (blk_lt B19.out)).trans B19.out); clear hb hk_)
       | ((with_reducible refine gate_dst (N := 22) rfl ?_); refine box_event ?bg22 (N := 22) ?bd22 (cs := #[.slice none 0 0]) (t := 24) ?br22 ?_; (case bd22 => rfl); (case bg22 => rfl); (case br22 => first | (go_simp; done) | (go_simp; rfl)); intro b22 hg w7 hbox hb; have ALb := Aside0.mk hb; have BXb := Aside0.mk hbox; have GBb := Aside0.mk hg; have zb := blk_frozen hbox 0; have qb : w7.cell? ⟨b22, 0, none⟩ = some (.slice none 0 0) := (blk_cell hbox 0).trans rfl; clear hg hbox hb)
       | ((with_reducible refine gate_store (t := 24) (p := 22) rfl ?_); refine store_event (t := 24) (p := 22) (w1 := w7.setCell ⟨b22, 0, none⟩ (.slice none 0 0)) rfl rfl rfl ?st22 ?_; (case st22 => first | (go_simp; done) | (go_simp; rfl)); intro w8 hwk; have hB : Below w6.heap.size w6 w8 := (by rw [hwk]; exact ALb.out.setCell (p := ⟨b22, 0, none⟩) (Nat.le_of_eq GBb.out.symm) _); have hbx : w8.heap[b22]? = some (.cells #[.slice none 0 0] 24 (0, 0)) := (by rw [hwk]; exact blk_put (cs := #[.slice none 0 0]) BXb.out 0 _ rfl); clear hwk; have D8 := Aside0.mk (D6.out.trans (hB.mono D6.out.size)); have c19 : w8.cell? ⟨b19, 0, none⟩ = some (.slice none 0 0) := (blk_cell ((hB.block b19 (blk_lt B196.out)).trans B196.out) 0).trans rfl; have c22 : w8.cell? ⟨b22, 0, none⟩ = some (.slice none 0 0) := (blk_cell hbx 0).trans rfl; clear hB hbx zb qb)
       | (go_at_call 20; have hk_ := same_nil w8 0 0; (with_reducible refine hk_.mono ?_); rintro e w9 ⟨rfl, hb⟩; have D9 := Aside0.mk (D8.out.trans (hb.mono D8.out.size)); clear hb hk_)
       | (go_at_call 21; have hk_ := ints_nil w9; (with_reducible refine hk_.mono ?_); rintro e w10 ⟨rfl, hb⟩; have D10 := Aside0.mk (D9.out.trans (hb.below.mono D9.out.size)); clear hb hk_))
      go_roundg (ops.length - (i + 1))
      case measure => omega
      case rel => exact ⟨i + 1, al', st', vr', by omega, by omega, (by have := HOL.out; rw [wrap_nat (by omega)]), ⟨QE.out.step D10.out⟩, ALE⟩
    ·have IR := Aside0.mk hir
     clear hir
     go_upto_region 13 with fail
     have HELD := Aside0.mk (show wr.drew.cell? (ad.add (i * 2)) = some (.bool true) ∧ wr.drew.cell? ⟨(ad.add (i * 2)).block, (ad.add (i * 2)).off + 1, none⟩ = some (.int .i64 n0) from ⟨(hQQ.out.below.cell (World.block_lt_of_cell? _ _ X0.out)).trans X0.out, (hQQ.out.below.cell (World.block_lt_of_cell? _ _ X1.out)).trans X1.out⟩)
     refine start_ (n := 47) (S := fun w' => w'.cell? (ad.add (i * 2)) = some (.bool true) ∧ w'.cell? ⟨(ad.add (i * 2)).block, (ad.add (i * 2)).off + 1, none⟩ = some (.int .i64 n0)) (ds := []) #[false, false, false, false, false, false, false, false, false, false, false, false, false, false, false, false, false, false, false, false, false, false, false, false, false, false, false, false, false, false, false, false, false, false, false, false, false, false, false, false, false, false, false, false, false, false, false] (by kernel_rfl) rfl rfl HELD.out (fun hHeld => ?_)
     refine pure_ (i := 0) (N := some 91) (v := ?_) (a' := ?_) #[true, false, false, false, false, false, false, false, false, false, false, false, false, false, false, false, false, false, false, false, false, false, false, false, false, false, false, false, false, false, false, false, false, false, false, false, false, false, false, false, false, false, false, false, false, false, false] rfl rfl (by kernel_rfl) (fun _ _ _ h => h) (Or.inl ⟨by rfl, ?_⟩) ?_ ?_
     rotate_left
     ·intro w'
      go_simp
      with_reducible rfl
     rotate_left
     ·simp only [Act.put, List.setIfInBounds_toArray, List.set_cons_zero, List.set_cons_succ, i64_w, i32_w]
      rfl
     refine pure_ (i := 1) (N := some 92) (v := ?_) (a' := ?_) #[true, true, false, false, false, false, false, false, false, false, false, false, false, false, false, false, false, false, false, false, false, false, false, false, false, false, false, false, false, false, false, false, false, false, false, false, false, false, false, false, false, false, false, false, false, false, false] rfl rfl (by kernel_rfl) (fun _ _ _ h => h) (Or.inl ⟨by rfl, ?_⟩) ?_ ?_
     rotate_left
     ·intro w'
      go_simp
      with_reducible rfl
     rotate_left
     ·simp only [Act.put, List.setIfInBounds_toArray, List.set_cons_zero, List.set_cons_succ, i64_w, i32_w]
      rfl
     refine pure_ (i := 2) (N := some 93) (v := ?_) (a' := ?_) #[true, true, true, false, false, false, false, false, false, false, false, false, false, false, false, false, false, false, false, false, false, false, false, false, false, false, false, false, false, false, false, false, false, false, false, false, false, false, false, false, false, false, false, false, false, false, false] rfl rfl (by kernel_rfl) (fun _ _ _ h => h) (Or.inl ⟨by rfl, ?_⟩) ?_ ?_
     rotate_left
     ·intro w'
      go_simp
      with_reducible rfl
     rotate_left
     ·simp only [Act.put, List.setIfInBounds_toArray, List.set_cons_zero, List.set_cons_succ, i64_w, i32_w]
      rfl
     refine pure_ (i := 3) (N := some 94) (v := ?_) (a' := ?_) #[true, true, true, true, false, false, false, false, false, false, false, false, false, false, false, false, false, false, false, false, false, false, false, false, false, false, false, false, false, false, false, false, false, false, false, false, false, false, false, false, false, false, false, false, false, false, false] rfl rfl (by kernel_rfl) (fun _ _ _ h => h) (Or.inl ⟨by rfl, ?_⟩) ?_ ?_
     rotate_left
     ·intro w'
      go_simp
      with_reducible rfl
     rotate_left
     ·simp only [Act.put, List.setIfInBounds_toArray, List.set_cons_zero, List.set_cons_succ, i64_w, i32_w]
      rfl
     refine take_ (i := 4) (N := some 95) (v := ?_) (a' := ?_) #[true, true, true, true, true, false, false, false, false, false, false, false, false, false, false, false, false, false, false, false, false, false, false, false, false, false, false, false, false, false, false, false, false, false, false, false, false, false, false, false, false, false, false, false, false, false, false] rfl rfl (by kernel_rfl) (fun _ _ _ h => h) (Or.inl ⟨by rfl, ?_⟩) hHeld ?_ ?_
     rotate_left
     ·rintro w' ⟨s0, s1⟩
      go_simp
      with_reducible rfl
     rotate_left
     ·simp only [Act.put, List.setIfInBounds_toArray, List.set_cons_zero, List.set_cons_succ, i64_w, i32_w]
      rfl
     refine pure_ (i := 5) (N := some 96) (v := ?_) (a' := ?_) #[true, true, true, true, true, true, false, false, false, false, false, false, false, false, false, false, false, false, false, false, false, false, false, false, false, false, false, false, false, false, false, false, false, false, false, false, false, false, false, false, false, false, false, false, false, false, false] rfl rfl (by kernel_rfl) (fun _ _ _ h => h) (Or.inl ⟨by rfl, ?_⟩) ?_ ?_
     rotate_left
     ·intro w'
      go_simp
      with_reducible rfl
     rotate_left
     ·simp only [Act.put, List.setIfInBounds_toArray, List.set_cons_zero, List.set_cons_succ, i64_w, i32_w]
      rfl
     refine pure_ (i := 6) (N := some 97) (v := ?_) (a' := ?_) #[true, true, true, true, true, true, true, false, false, false, false, false, false, false, false, false, false, false, false, false, false, false, false, false, false, false, false, false, false, false, false, false, false, false, false, false, false, false, false, false, false, false, false, false, false, false, false] rfl rfl (by kernel_rfl) (fun _ _ _ h => h) (Or.inl ⟨by rfl, ?_⟩) ?_ ?_
     rotate_left
     ·intro w'
      go_simp
      with_reducible rfl
     rotate_left
     ·simp only [Act.put, List.setIfInBounds_toArray, List.set_cons_zero, List.set_cons_succ, i64_w, i32_w]
      rfl
     refine pure_ (i := 7) (N := some 98) (v := ?_) (a' := ?_) #[true, true, true, true, true, true, true, true, false, false, false, false, false, false, false, false, false, false, false, false, false, false, false, false, false, false, false, false, false, false, false, false, false, false, false, false, false, false, false, false, false, false, false, false, false, false, false] rfl rfl (by kernel_rfl) (fun _ _ _ h => h) (Or.inl ⟨by rfl, ?_⟩) ?_ ?_
     rotate_left
     ·intro w'
      go_simp
      with_reducible rfl
     rotate_left
     ·simp only [Act.put, List.setIfInBounds_toArray, List.set_cons_zero, List.set_cons_succ, i64_w, i32_w]
      rfl
     refine pure_ (i := 8) (N := some 99) (v := ?_) (a' := ?_) #[true, true, true, true, true, true, true, true, true, false, false, false, false, false, false, false, false, false, false, false, false, false, false, false, false, false, false, false, false, false, false, false, false, false, false, false, false, false, false, false, false, false, false, false, false, false, false] rfl rfl (by kernel_rfl) (fun _ _ _ h => h) (Or.inl ⟨by rfl, ?_⟩) ?_ ?_
     rotate_left
     ·intro w'
      go_simp
      with_reducible rfl
     rotate_left
     ·simp only [Act.put, List.setIfInBounds_toArray, List.set_cons_zero, List.set_cons_succ, i64_w, i32_w]
      rfl
     refine pure_ (i := 9) (N := some 100) (v := ?_) (a' := ?_) #[true, true, true, true, true, true, true, true, true, true, false, false, false, false, false, false, false, false, false, false, false, false, false, false, false, false, false, false, false, false, false, false, false, false, false, false, false, false, false, false, false, false, false, false, false, false, false] rfl rfl (by kernel_rfl) (fun _ _ _ h => h) (Or.inl ⟨by rfl, ?_⟩) ?_ ?_
     rotate_left
     ·intro w'
      go_simp
      with_reducible rfl
     rotate_left
     ·simp only [Act.put, List.setIfInBounds_toArray, List.set_cons_zero, List.set_cons_succ, i64_w, i32_w]
      rfl
     refine pure_ (i := 10) (N := some 101) (v := ?_) (a' := ?_) #[true, true, true, true, true, true, true, true, true, true, true, false, false, false, false, false, false, false, false, false, false, false, false, false, false, false, false, false, false, false, false, false, false, false, false, false, false, false, false, false, false, false, false, false, false, false, false] rfl rfl (by kernel_rfl) (fun _ _ _ h => h) (Or.inl ⟨by rfl, ?_⟩) ?_ ?_
     rotate_left
     ·intro w'
      go_simp
      with_reducible rfl
     rotate_left
     ·simp only [Act.put, List.setIfInBounds_toArray, List.set_cons_zero, List.set_cons_succ, i64_w, i32_w]
      rfl
     refine take_ (i := 11) (N := some 102) (v := ?_) (a' := ?_) #[true, true, true, true, true, true, true, true, true, true, true, true, false, false, false, false, false, false, false, false, false, false, false, false, false, false, false, false, false, false, false, false, false, false, false, false, false, false, false, false, false, false, false, false, false, false, false] rfl rfl (by kernel_rfl) (fun _ _ _ h => h) (Or.inl ⟨by rfl, ?_⟩) hHeld ?_ ?_
     rotate_left
     ·rintro w' ⟨s0, s1⟩
      go_simp
      with_reducible rfl
     rotate_left
     ·simp only [Act.put, List.setIfInBounds_toArray, List.set_cons_zero, List.set_cons_succ, i64_w, i32_w]
      rfl
     refine pure_ (i := 13) (N := some 104) (v := ?_) (a' := ?_) #[true, true, true, true, true, true, true, true, true, true, true, true, false, true, false, false, false, false, false, false, false, false, false, false, false, false, false, false, false, false, false, false, false, false, false, false, false, false, false, false, false, false, false, false, false, false, false] rfl rfl (by kernel_rfl) (fun _ _ _ h => h) (Or.inl ⟨by rfl, ?_⟩) ?_ ?_
     rotate_left
     ·intro w'
      go_simp
      with_reducible rfl
     rotate_left
     ·simp only [Act.put, List.setIfInBounds_toArray, List.set_cons_zero, List.set_cons_succ, i64_w, i32_w]
      rfl
     refine pure_ (i := 14) (N := some 105) (v := ?_) (a' := ?_) #[true, true, true, true, true, true, true, true, true, true, true, true, false, true, true, false, false, false, false, false, false, false, false, false, false, false, false, false, false, false, false, false, false, false, false, false, false, false, false, false, false, false, false, false, false, false, false] rfl rfl (by kernel_rfl) (fun _ _ _ h => h) (Or.inl ⟨by rfl, ?_⟩) ?_ ?_
     rotate_left
     ·intro w'
      go_simp
      with_reducible rfl
     rotate_left
     ·simp only [Act.put, List.setIfInBounds_toArray, List.set_cons_zero, List.set_cons_succ, i64_w, i32_w]
      rfl
     refine pure_ (i := 15) (N := some 106) (v := ?_) (a' := ?_) #[true, true, true, true, true, true, true, true, true, true, true, true, false, true, true, true, false, false, false, false, false, false, false, false, false, false, false, false, false, false, false, false, false, false, false, false, false, false, false, false, false, false, false, false, false, false, false] rfl rfl (by kernel_rfl) (fun _ _ _ h => h) (Or.inl ⟨by rfl, ?_⟩) ?_ ?_
     rotate_left
     ·intro w'
      go_simp
      with_reducible rfl
     rotate_left
     ·simp only [Act.put, List.setIfInBounds_toArray, List.set_cons_zero, List.set_cons_succ, i64_w, i32_w]
      rfl
     refine pure_ (i := 16) (N := some 107) (v := ?_) (a' := ?_) #[true, true, true, true, true, true, true, true, true, true, true, true, false, true, true, true, true, false, false, false, false, false, false, false, false, false, false, false, false, false, false, false, false, false, false, false, false, false, false, false, false, false, false, false, false, false, false] rfl rfl (by kernel_rfl) (fun _ _ _ h => h) (Or.inl ⟨by rfl, ?_⟩) ?_ ?_
     rotate_left
     ·intro w'
      go_simp
      with_reducible rfl
     rotate_left
     ·simp only [Act.put, List.setIfInBounds_toArray, List.set_cons_zero, List.set_cons_succ, i64_w, i32_w]
      rfl
     refine pure_ (i := 17) (N := some 108) (v := ?_) (a' := ?_) #[true, true, true, true, true, true, true, true, true, true, true, true, false, true, true, true, true, true, false, false, false, false, false, false, false, false, false, false, false, false, false, false, false, false, false, false, false, false, false, false, false, false, false, false, false, false, false] rfl rfl (by kernel_rfl) (fun _ _ _ h => h) (Or.inl ⟨by rfl, ?_⟩) ?_ ?_
     rotate_left
     ·intro w'
      go_simp
      with_reducible rfl
     rotate_left
     ·simp only [Act.put, List.setIfInBounds_toArray, List.set_cons_zero, List.set_cons_succ, i64_w, i32_w]
      rfl
     refine take_ (i := 18) (N := some 109) (v := ?_) (a' := ?_) #[true, true, true, true, true, true, true, true, true, true, true, true, false, true, true, true, true, true, true, false, false, false, false, false, false, false, false, false, false, false, false, false, false, false, false, false, false, false, false, false, false, false, false, false, false, false, false] rfl rfl (by kernel_rfl) (fun _ _ _ h => h) (Or.inl ⟨by rfl, ?_⟩) hHeld ?_ ?_
     rotate_left
     ·rintro w' ⟨s0, s1⟩
      go_simp
      with_reducible rfl
     rotate_left
     ·simp only [Act.put, List.setIfInBounds_toArray, List.set_cons_zero, List.set_cons_succ, i64_w, i32_w]
      rfl
     refine one_ (i := 12) (N := some 103) #[true, true, true, true, true, true, true, true, true, true, true, true, true, true, true, true, true, true, true, false, false, false, false, false, false, false, false, false, false, false, false, false, false, false, false, false, false, false, false, false, false, false, false, false, false, false, false] rfl rfl (by kernel_rfl) (by decide) (fun K hK => ?_)
     refine call_ 22 #[.pointer (some ⟨g, 0, none⟩), .int .i64 n0] ?hw rfl ?hr ?_
     case hw => rfl
     case hr => simp [execOp, resolve, Deferred.ofValue, invoke, Act.eval, eg22]
     refine (add_refused (SWR.out.below (below_drew (Below.refl wr.heap.size wr))) n0 IR.out).mono ?_
     rintro e w1 ⟨rfl, rfl⟩
     refine ⟨_, rfl, ?_⟩
     refine hK.out _ _ HELD.out (fun hHeld => ?_)
     clear hK K
     refine norm_ (a' := ?_) ?_ ?_
     rotate_left
     ·show Act.put _ (some 103) _ = _
      simp only [Act.put, List.setIfInBounds_toArray, List.set_cons_zero, List.set_cons_succ, i64_w, i32_w]
      rfl
     refine one_ (i := 19) (N := some 110) #[true, true, true, true, true, true, true, true, true, true, true, true, true, true, true, true, true, true, true, true, false, false, false, false, false, false, false, false, false, false, false, false, false, false, false, false, false, false, false, false, false, false, false, false, false, false, false] rfl rfl (by kernel_rfl) (by decide) (fun K hK => ?_)
     refine call_ 23 #[.pointer (some ⟨g2, 0, none⟩), .int .i64 n0] ?hw rfl ?hr ?_
     case hw => rfl
     case hr => simp [execOp, resolve, Deferred.ofValue, invoke, Act.eval, eg23]
     refine (radd_refused (hQQ.out.rw.below (below_drew (Below.refl wr.heap.size wr))) n0 IR.out).mono ?_
     rintro e w2 ⟨rfl, rfl⟩
     refine ⟨_, rfl, ?_⟩
     refine hK.out _ _ HELD.out (fun hHeld => ?_)
     clear hK K
     refine norm_ (a' := ?_) ?_ ?_
     rotate_left
     ·show Act.put _ (some 110) _ = _
      simp only [Act.put, List.setIfInBounds_toArray, List.set_cons_zero, List.set_cons_succ, i64_w, i32_w]
      rfl
     refine pure_ (i := 20) (N := some 111) (v := ?_) (a' := ?_) #[true, true, true, true, true, true, true, true, true, true, true, true, true, true, true, true, true, true, true, true, true, false, false, false, false, false, false, false, false, false, false, false, false, false, false, false, false, false, false, false, false, false, false, false, false, false, false] rfl rfl (by kernel_rfl) (fun _ _ _ h => h) (Or.inl ⟨by rfl, ?_⟩) ?_ ?_
     rotate_left
     ·intro w'
      go_simp
      with_reducible rfl
     rotate_left
     ·simp only [Act.put, List.setIfInBounds_toArray, List.set_cons_zero, List.set_cons_succ, i64_w, i32_w]
      rfl
     refine pure_ (i := 21) (N := some 112) (v := ?_) (a' := ?_) #[true, true, true, true, true, true, true, true, true, true, true, true, true, true, true, true, true, true, true, true, true, true, false, false, false, false, false, false, false, false, false, false, false, false, false, false, false, false, false, false, false, false, false, false, false, false, false] rfl rfl (by kernel_rfl) (fun _ _ _ h => h) (Or.inl ⟨by rfl, ?_⟩) ?_ ?_
     rotate_left
     ·intro w'
      go_simp
      with_reducible rfl
     rotate_left
     ·simp only [Act.put, List.setIfInBounds_toArray, List.set_cons_zero, List.set_cons_succ, i64_w, i32_w]
      rfl
     refine pure_ (i := 22) (N := some 113) (v := ?_) (a' := ?_) #[true, true, true, true, true, true, true, true, true, true, true, true, true, true, true, true, true, true, true, true, true, true, true, false, false, false, false, false, false, false, false, false, false, false, false, false, false, false, false, false, false, false, false, false, false, false, false] rfl rfl (by kernel_rfl) (fun _ _ _ h => h) (Or.inl ⟨by rfl, ?_⟩) ?_ ?_
     rotate_left
     ·intro w'
      go_simp
      with_reducible rfl
     rotate_left
     ·simp only [Act.put, List.setIfInBounds_toArray, List.set_cons_zero, List.set_cons_succ, i64_w, i32_w]
      rfl
     refine pure_ (i := 23) (N := some 114) (v := ?_) (a' := ?_) #[true, true, true, true, true, true, true, true, true, true, true, true, true, true, true, true, true, true, true, true, true, true, true, true, false, false, false, false, false, false, false, false, false, false, false, false, false, false, false, false, false, false, false, false, false, false, false] rfl rfl (by kernel_rfl) (fun _ _ _ h => h) (Or.inl ⟨by rfl, ?_⟩) ?_ ?_
     rotate_left
     ·intro w'
      go_simp
      with_reducible rfl
     rotate_left
     ·simp only [Act.put, List.setIfInBounds_toArray, List.set_cons_zero, List.set_cons_succ, i64_w, i32_w]
      rfl
     refine pure_ (i := 24) (N := some 115) (v := ?_) (a' := ?_) #[true, true, true, true, true, true, true, true, true, true, true, true, true, true, true, true, true, true, true, true, true, true, true, true, true, false, false, false, false, false, false, false, false, false, false, false, false, false, false, false, false, false, false, false, false, false, false] rfl rfl (by kernel_rfl) (fun _ _ _ h => h) (Or.inl ⟨by rfl, ?_⟩) ?_ ?_
     rotate_left
     ·intro w'
      go_simp
      with_reducible rfl
     rotate_left
     ·simp only [Act.put, List.setIfInBounds_toArray, List.set_cons_zero, List.set_cons_succ, i64_w, i32_w]
      rfl
     refine pure_ (i := 25) (N := some 116) (v := ?_) (a' := ?_) #[true, true, true, true, true, true, true, true, true, true, true, true, true, true, true, true, true, true, true, true, true, true, true, true, true, true, false, false, false, false, false, false, false, false, false, false, false, false, false, false, false, false, false, false, false, false, false] rfl rfl (by kernel_rfl) (fun _ _ _ h => h) (Or.inl ⟨by rfl, ?_⟩) ?_ ?_
     rotate_left
     ·intro w'
      go_simp
      with_reducible rfl
     rotate_left
     ·simp only [Act.put, List.setIfInBounds_toArray, List.set_cons_zero, List.set_cons_succ, i64_w, i32_w]
      rfl
     refine pure_ (i := 26) (N := some 117) (v := ?_) (a' := ?_) #[true, true, true, true, true, true, true, true, true, true, true, true, true, true, true, true, true, true, true, true, true, true, true, true, true, true, true, false, false, false, false, false, false, false, false, false, false, false, false, false, false, false, false, false, false, false, false] rfl rfl (by kernel_rfl) (fun _ _ _ h => h) (Or.inl ⟨by rfl, ?_⟩) ?_ ?_
     rotate_left
     ·intro w'
      go_simp
      with_reducible rfl
     rotate_left
     ·simp only [Act.put, List.setIfInBounds_toArray, List.set_cons_zero, List.set_cons_succ, i64_w, i32_w]
      rfl
     refine take_ (i := 27) (N := some 118) (v := ?_) (a' := ?_) #[true, true, true, true, true, true, true, true, true, true, true, true, true, true, true, true, true, true, true, true, true, true, true, true, true, true, true, true, false, false, false, false, false, false, false, false, false, false, false, false, false, false, false, false, false, false, false] rfl rfl (by kernel_rfl) (fun _ _ _ h => h) (Or.inl ⟨by rfl, ?_⟩) hHeld ?_ ?_
     rotate_left
     ·rintro w' ⟨s0, s1⟩
      go_simp
      with_reducible rfl
     rotate_left
     ·simp only [Act.put, List.setIfInBounds_toArray, List.set_cons_zero, List.set_cons_succ, i64_w, i32_w]
      rfl
     refine pure_ (i := 28) (N := some 119) (v := ?_) (a' := ?_) #[true, true, true, true, true, true, true, true, true, true, true, true, true, true, true, true, true, true, true, true, true, true, true, true, true, true, true, true, true, false, false, false, false, false, false, false, false, false, false, false, false, false, false, false, false, false, false] rfl rfl (by kernel_rfl) (fun _ _ _ h => h) (Or.inl ⟨by rfl, ?_⟩) ?_ ?_
     rotate_left
     ·intro w'
      go_simp
      with_reducible rfl
     rotate_left
     ·simp only [Act.put, List.setIfInBounds_toArray, List.set_cons_zero, List.set_cons_succ, i64_w, i32_w]
      rfl
     refine pure_ (i := 29) (N := some 120) (v := ?_) (a' := ?_) #[true, true, true, true, true, true, true, true, true, true, true, true, true, true, true, true, true, true, true, true, true, true, true, true, true, true, true, true, true, true, false, false, false, false, false, false, false, false, false, false, false, false, false, false, false, false, false] rfl rfl (by kernel_rfl) (fun _ _ _ h => h) (Or.inl ⟨by rfl, ?_⟩) ?_ ?_
     rotate_left
     ·intro w'
      go_simp
      with_reducible rfl
     rotate_left
     ·simp only [Act.put, List.setIfInBounds_toArray, List.set_cons_zero, List.set_cons_succ, i64_w, i32_w]
      rfl
     refine pure_ (i := 30) (N := some 121) (v := undef) (a' := ?_) #[true, true, true, true, true, true, true, true, true, true, true, true, true, true, true, true, true, true, true, true, true, true, true, true, true, true, true, true, true, true, true, false, false, false, false, false, false, false, false, false, false, false, false, false, false, false, false] rfl rfl (by kernel_rfl) (fun _ _ _ h => h) (Or.inr ⟨by rfl, rfl⟩) ?_ ?_
     rotate_left
     ·simp only [Act.put, List.setIfInBounds_toArray, List.set_cons_zero, List.set_cons_succ, i64_w, i32_w]
      rfl
     refine pure_ (i := 31) (N := some 122) (v := undef) (a' := ?_) #[true, true, true, true, true, true, true, true, true, true, true, true, true, true, true, true, true, true, true, true, true, true, true, true, true, true, true, true, true, true, true, true, false, false, false, false, false, false, false, false, false, false, false, false, false, false, false] rfl rfl (by kernel_rfl) (fun _ _ _ h => h) (Or.inr ⟨by rfl, rfl⟩) ?_ ?_
     rotate_left
     ·simp only [Act.put, List.setIfInBounds_toArray, List.set_cons_zero, List.set_cons_succ, i64_w, i32_w]
      rfl
     refine pure_ (i := 32) (N := some 123) (v := undef) (a' := ?_) #[true, true, true, true, true, true, true, true, true, true, true, true, true, true, true, true, true, true, true, true, true, true, true, true, true, true, true, true, true, true, true, true, true, false, false, false, false, false, false, false, false, false, false, false, false, false, false] rfl rfl (by kernel_rfl) (fun _ _ _ h => h) (Or.inr ⟨by rfl, rfl⟩) ?_ ?_
     rotate_left
     ·simp only [Act.put, List.setIfInBounds_toArray, List.set_cons_zero, List.set_cons_succ, i64_w, i32_w]
      rfl
     refine pure_ (i := 33) (N := some 124) (v := undef) (a' := ?_) #[true, true, true, true, true, true, true, true, true, true, true, true, true, true, true, true, true, true, true, true, true, true, true, true, true, true, true, true, true, true, true, true, true, true, false, false, false, false, false, false, false, false, false, false, false, false, false] rfl rfl (by kernel_rfl) (fun _ _ _ h => h) (Or.inr ⟨by rfl, rfl⟩) ?_ ?_
     rotate_left
     ·simp only [Act.put, List.setIfInBounds_toArray, List.set_cons_zero, List.set_cons_succ, i64_w, i32_w]
      rfl
     refine pure_ (i := 34) (N := some 125) (v := undef) (a' := ?_) #[true, true, true, true, true, true, true, true, true, true, true, true, true, true, true, true, true, true, true, true, true, true, true, true, true, true, true, true, true, true, true, true, true, true, true, false, false, false, false, false, false, false, false, false, false, false, false] rfl rfl (by kernel_rfl) (fun _ _ _ h => h) (Or.inr ⟨by rfl, rfl⟩) ?_ ?_
     rotate_left
     ·simp only [Act.put, List.setIfInBounds_toArray, List.set_cons_zero, List.set_cons_succ, i64_w, i32_w]
      rfl
     refine pure_ (i := 35) (N := some 126) (v := undef) (a' := ?_) #[true, true, true, true, true, true, true, true, true, true, true, true, true, true, true, true, true, true, true, true, true, true, true, true, true, true, true, true, true, true, true, true, true, true, true, true, false, false, false, false, false, false, false, false, false, false, false] rfl rfl (by kernel_rfl) (fun _ _ _ h => h) (Or.inr ⟨by rfl, rfl⟩) ?_ ?_
     rotate_left
     ·simp only [Act.put, List.setIfInBounds_toArray, List.set_cons_zero, List.set_cons_succ, i64_w, i32_w]
      rfl
     refine pure_ (i := 36) (N := some 127) (v := undef) (a' := ?_) #[true, true, true, true, true, true, true, true, true, true, true, true, true, true, true, true, true, true, true, true, true, true, true, true, true, true, true, true, true, true, true, true, true, true, true, true, true, false, false, false, false, false, false, false, false, false, false] rfl rfl (by kernel_rfl) (fun _ _ _ h => h) (Or.inr ⟨by rfl, rfl⟩) ?_ ?_
     rotate_left
     ·simp only [Act.put, List.setIfInBounds_toArray, List.set_cons_zero, List.set_cons_succ, i64_w, i32_w]
      rfl
     refine pure_ (i := 37) (N := some 128) (v := undef) (a' := ?_) #[true, true, true, true, true, true, true, true, true, true, true, true, true, true, true, true, true, true, true, true, true, true, true, true, true, true, true, true, true, true, true, true, true, true, true, true, true, true, false, false, false, false, false, false, false, false, false] rfl rfl (by kernel_rfl) (fun _ _ _ h => h) (Or.inr ⟨by rfl, rfl⟩) ?_ ?_
     rotate_left
     ·simp only [Act.put, List.setIfInBounds_toArray, List.set_cons_zero, List.set_cons_succ, i64_w, i32_w]
      rfl
     refine pure_ (i := 38) (N := some 129) (v := undef) (a' := ?_) #[true, true, true, true, true, true, true, true, true, true, true, true, true, true, true, true, true, true, true, true, true, true, true, true, true, true, true, true, true, true, true, true, true, true, true, true, true, true, true, false, false, false, false, false, false, false, false] rfl rfl (by kernel_rfl) (fun _ _ _ h => h) (Or.inr ⟨by rfl, rfl⟩) ?_ ?_
     rotate_left
     ·simp only [Act.put, List.setIfInBounds_toArray, List.set_cons_zero, List.set_cons_succ, i64_w, i32_w]
      rfl
     refine pure_ (i := 39) (N := some 130) (v := undef) (a' := ?_) #[true, true, true, true, true, true, true, true, true, true, true, true, true, true, true, true, true, true, true, true, true, true, true, true, true, true, true, true, true, true, true, true, true, true, true, true, true, true, true, true, false, false, false, false, false, false, false] rfl rfl (by kernel_rfl) (fun _ _ _ h => h) (Or.inr ⟨by rfl, rfl⟩) ?_ ?_
     rotate_left
     ·simp only [Act.put, List.setIfInBounds_toArray, List.set_cons_zero, List.set_cons_succ, i64_w, i32_w]
      rfl
     refine pure_ (i := 40) (N := some 131) (v := undef) (a' := ?_) #[true, true, true, true, true, true, true, true, true, true, true, true, true, true, true, true, true, true, true, true, true, true, true, true, true, true, true, true, true, true, true, true, true, true, true, true, true, true, true, true, true, false, false, false, false, false, false] rfl rfl (by kernel_rfl) (fun _ _ _ h => h) (Or.inr ⟨by rfl, rfl⟩) ?_ ?_
     rotate_left
     ·simp only [Act.put, List.setIfInBounds_toArray, List.set_cons_zero, List.set_cons_succ, i64_w, i32_w]
      rfl
     refine pure_ (i := 41) (N := some 132) (v := undef) (a' := ?_) #[true, true, true, true, true, true, true, true, true, true, true, true, true, true, true, true, true, true, true, true, true, true, true, true, true, true, true, true, true, true, true, true, true, true, true, true, true, true, true, true, true, true, false, false, false, false, false] rfl rfl (by kernel_rfl) (fun _ _ _ h => h) (Or.inr ⟨by rfl, rfl⟩) ?_ ?_
     rotate_left
     ·simp only [Act.put, List.setIfInBounds_toArray, List.set_cons_zero, List.set_cons_succ, i64_w, i32_w]
      rfl
     refine pure_ (i := 42) (N := some 133) (v := undef) (a' := ?_) #[true, true, true, true, true, true, true, true, true, true, true, true, true, true, true, true, true, true, true, true, true, true, true, true, true, true, true, true, true, true, true, true, true, true, true, true, true, true, true, true, true, true, true, false, false, false, false] rfl rfl (by kernel_rfl) (fun _ _ _ h => h) (Or.inr ⟨by rfl, rfl⟩) ?_ ?_
     rotate_left
     ·simp only [Act.put, List.setIfInBounds_toArray, List.set_cons_zero, List.set_cons_succ, i64_w, i32_w]
      rfl
     refine pure_ (i := 43) (N := some 134) (v := undef) (a' := ?_) #[true, true, true, true, true, true, true, true, true, true, true, true, true, true, true, true, true, true, true, true, true, true, true, true, true, true, true, true, true, true, true, true, true, true, true, true, true, true, true, true, true, true, true, true, false, false, false] rfl rfl (by kernel_rfl) (fun _ _ _ h => h) (Or.inr ⟨by rfl, rfl⟩) ?_ ?_
     rotate_left
     ·simp only [Act.put, List.setIfInBounds_toArray, List.set_cons_zero, List.set_cons_succ, i64_w, i32_w]
      rfl
     refine pure_ (i := 44) (N := some 135) (v := undef) (a' := ?_) #[true, true, true, true, true, true, true, true, true, true, true, true, true, true, true, true, true, true, true, true, true, true, true, true, true, true, true, true, true, true, true, true, true, true, true, true, true, true, true, true, true, true, true, true, true, false, false] rfl rfl (by kernel_rfl) (fun _ _ _ h => h) (Or.inr ⟨by rfl, rfl⟩) ?_ ?_
     rotate_left
     ·simp only [Act.put, List.setIfInBounds_toArray, List.set_cons_zero, List.set_cons_succ, i64_w, i32_w]
      rfl
     refine pure_ (i := 45) (N := some 136) (v := ?_) (a' := ?_) #[true, true, true, true, true, true, true, true, true, true, true, true, true, true, true, true, true, true, true, true, true, true, true, true, true, true, true, true, true, true, true, true, true, true, true, true, true, true, true, true, true, true, true, true, true, true, false] rfl rfl (by kernel_rfl) (fun _ _ _ h => h) (Or.inl ⟨by rfl, ?_⟩) ?_ ?_
     rotate_left
     ·intro w'
      go_simp
      with_reducible rfl
     rotate_left
     ·simp only [Act.put, List.setIfInBounds_toArray, List.set_cons_zero, List.set_cons_succ, i64_w, i32_w]
      rfl
     refine pure_ (i := 46) (N := some 137) (v := ?_) (a' := ?_) #[true, true, true, true, true, true, true, true, true, true, true, true, true, true, true, true, true, true, true, true, true, true, true, true, true, true, true, true, true, true, true, true, true, true, true, true, true, true, true, true, true, true, true, true, true, true, true] rfl rfl (by kernel_rfl) (fun _ _ _ h => h) (Or.inl ⟨by rfl, ?_⟩) ?_ ?_
     rotate_left
     ·intro w'
      go_simp
      with_reducible rfl
     rotate_left
     ·simp only [Act.put, List.setIfInBounds_toArray, List.set_cons_zero, List.set_cons_succ, i64_w, i32_w]
      rfl
     refine done_ (by kernel_rfl) ?_
     have QE := Aside0.mk (show QQ w wr.drew gb g g2 A0 c0 gs al st vr al ((st.pops gs.length : Nat) : Int) from hQQ.out.step (below_drew (Below.refl wr.heap.size wr)))
     have ALE := Aside0.mk (show al.length ≤ 60 + (i + 1) by have := hal.out; omega)
     obtain ⟨al', hal'⟩ : ∃ al', al' = al := ⟨_, rfl⟩
     obtain ⟨st', hst'⟩ : ∃ st', st' = st := ⟨_, rfl⟩
     obtain ⟨vr', hvr'⟩ : ∃ vr', vr' = vr := ⟨_, rfl⟩
     obtain ⟨w2, hw2⟩ : ∃ w2, w2 = wr.drew := ⟨_, rfl⟩
     rw [← hal', ← hst', ← hvr', ← hw2] at QE
     rw [← hal'] at ALE
     rw [← hw2]
     clear hal' hst' hvr' hw2
     obtain ⟨F2, Ag2, cg2, vs2, bm2, nm2, vw2, f2, hsw2, _⟩ := QE.out.sw
     have SW2 := Aside0.mk hsw2
     clear hsw2
     obtain ⟨d, hd⟩ : ∃ d, d = resG gs (marksS gs al') gs.length := ⟨_, rfl⟩
     obtain ⟨m, hm⟩ : ∃ m, m = al'.map (plOf (marksS gs al')) := ⟨_, rfl⟩
     have KE2 := Aside0.mk (show keepS gs al' = (d, m, 0) by unfold keepS; rw [if_pos QE.out.start, hd, hm])
     have DE := Aside0.mk hd
     have ME := Aside0.mk hm
     have PD := Aside0.mk (pops_done QE.out.start QE.out.inv QE.out.good)
     have PLE := Aside0.mk (pops_le QE.out.start QE.out.inv QE.out.good)
     clear hd hm
     obtain ⟨ks2, hks⟩ := same_f (gs := d) (by rw [DE.out, resG_length]; have := cnt_le (marksS gs al') gs.length; have := valid_len (start_in QE.out.start).1; omega) (wf_kids (by rw [DE.out]; exact resG_wf (start_in QE.out.start).1 HW.out))
     obtain ⟨ki2, hki⟩ := ints_f (l := m) (by rw [ME.out, List.length_map]; have := ALE.out; have := HOL.out; omega)
     have KS2 := Aside0.mk (hks ks2 (Nat.le_refl _))
     have KI2 := Aside0.mk (hki ki2 (Nat.le_refl _))
     clear hks hki
     by_cases hw : st'.wait = []
     ·have HW' := Aside0.mk hw
      clear hw
      go_wp2_with (first
       | (go_at_call 26; have hk_ := result_f SW2.out HW'.out (start_in QE.out.start).1 HW.out (start_in QE.out.start).2 (by have := ALE.out; have := HOL.out; omega) d m (by rw [mark_done QE.out.start QE.out.inv HW'.out]; exact DE.out) (by rw [mark_done QE.out.start QE.out.inv HW'.out]; exact ME.out); (with_reducible refine hk_.mono ?_); rintro e w3 ⟨Ax, cx, Ay, cy, rfl, hc1_, hc2_, hf, hb⟩; have D3 := Aside0.mk hb; have FX3 := Aside0.mk hf; have LX := Aside0.mk (And.intro hc1_ hc2_); clear hf hb hc1_ hc2_ hk_)
       | ((with_reducible refine gate_dst (N := 19) rfl ?_); refine box_event ?bg19 (N := 19) ?bd19 (cs := #[.slice none 0 0]) (t := 24) ?br19 ?_; (case bd19 => rfl); (case bg19 => rfl); (case br19 => first | (go_simp; done) | (go_simp; rfl)); intro b19 hg w4 hbox hb; have ALb := Aside0.mk hb; have BXb := Aside0.mk hbox; have GBb := Aside0.mk hg; have zb := blk_frozen hbox 0; have qb : w4.cell? ⟨b19, 0, none⟩ = some (.slice none 0 0) := (blk_cell hbox 0).trans rfl; clear hg hbox hb)
       | ((with_reducible refine gate_store (t := 24) (p := 19) rfl ?_); refine store_event (t := 24) (p := 19) (w1 := w4.setCell ⟨b19, 0, none⟩ (.slice Ax d.length cx)) rfl rfl rfl ?st19 ?_; (case st19 => first | (go_simp; done) | (go_simp; rfl)); intro w5 hwk; have hB : Below w3.heap.size w3 w5 := (by rw [hwk]; exact ALb.out.setCell (p := ⟨b19, 0, none⟩) (Nat.le_of_eq GBb.out.symm) _); have hbx : w5.heap[b19]? = some (.cells #[.slice Ax d.length cx] 24 (0, 0)) := (by rw [hwk]; exact blk_put (cs := #[.slice none 0 0]) BXb.out 0 _ rfl); clear hwk; have D5 := Aside0.mk (D3.out.trans (hB.mono D3.out.size)); have FX5 := Aside0.mk (Foot.below FX3.out hB); have B19 := Aside0.mk hbx; clear hB hbx zb qb)
       | (go_at_call 27; have hk_ := rresult_done (p := st'.pops gs.length) (QE.out.rw.below D5.out) (HG.out _ (QE.out.below.trans (D5.out.mono QE.out.below.size))) HC0.out QE.out.start (wf_kids HW.out) (by have := ALE.out; have := HOL.out; omega) (PD.out.2 HW'.out) d m KE2.out; (with_reducible refine hk_.mono ?_); rintro e w6 ⟨Az, cz, Aq, cq, rfl, hc1_, hc2_, hf, hb⟩; have D6 := Aside0.mk (D5.out.trans (hb.mono D5.out.size)); have FX6 := Aside0.mk (Foot.below FX5.out hb); have FY6 := Aside0.mk hf; have LY := Aside0.mk (And.intro hc1_ hc2_); have B196 := Aside0.mk ((hb.block b19 (blk_lt B19.out)).trans B19.out); clear hf hb hc1_ hc2_ hk_)
       | ((with_reducible refine gate_dst (N := 22) rfl ?_); refine box_event ?bg22 (N := 22) ?bd22 (cs := #[.slice none 0 0]) (t := 24) ?br22 ?_; (case bd22 => rfl); (case bg22 => rfl); (case br22 => first | (go_simp; done) | (go_simp; rfl)); intro b22 hg w7 hbox hb; have ALb := Aside0.mk hb; have BXb := Aside0.mk hbox; have GBb := Aside0.mk hg; have zb := blk_frozen hbox 0; have qb : w7.cell? ⟨b22, 0, none⟩ = some (.slice none 0 0) := (blk_cell hbox 0).trans rfl; clear hg hbox hb)
       | ((with_reducible refine gate_store (t := 24) (p := 22) rfl ?_); refine store_event (t := 24) (p := 22) (w1 := w7.setCell ⟨b22, 0, none⟩ (.slice Az d.length cz)) rfl rfl rfl ?st22 ?_; (case st22 => first | (go_simp; done) | (go_simp; rfl)); intro w8 hwk; have hB : Below w6.heap.size w6 w8 := (by rw [hwk]; exact ALb.out.setCell (p := ⟨b22, 0, none⟩) (Nat.le_of_eq GBb.out.symm) _); have hbx : w8.heap[b22]? = some (.cells #[.slice Az d.length cz] 24 (0, 0)) := (by rw [hwk]; exact blk_put (cs := #[.slice none 0 0]) BXb.out 0 _ rfl); clear hwk; have D8 := Aside0.mk (D6.out.trans (hB.mono D6.out.size)); have FX8 := Aside0.mk (Foot.below FX6.out hB); have FY8 := Aside0.mk (Foot.below FY6.out hB); have c19 : w8.cell? ⟨b19, 0, none⟩ = some (.slice Ax d.length cx) := (blk_cell ((hB.block b19 (blk_lt B196.out)).trans B196.out) 0).trans rfl; have c22 : w8.cell? ⟨b22, 0, none⟩ = some (.slice Az d.length cz) := (blk_cell hbx 0).trans rfl; clear hB hbx zb qb)
       | (go_at_call 20; have hk_ := same_h (W := w8) d d.length rfl FX8.out.now.1 FY8.out.now.1 LX.out.1 LY.out.1 ks2 KS2.out; (with_reducible refine hk_.mono ?_); rintro e w9 ⟨rfl, hb⟩; have D9 := Aside0.mk (D8.out.trans (hb.mono D8.out.size)); have FX9 := Aside0.mk (Foot.below FX8.out hb); have FY9 := Aside0.mk (Foot.below FY8.out hb); clear hb hk_)
       | (go_at_call 21; have hk_ := ints_h (W := w9) m m.length rfl FX9.out.now.2 FY9.out.now.2 LX.out.2 LY.out.2 ki2 KI2.out; (with_reducible refine hk_.mono ?_); rintro e w10 ⟨rfl, hb⟩; have D10 := Aside0.mk (D9.out.trans (hb.below.mono D9.out.size)); clear hb hk_))
      go_roundg (ops.length - (i + 1))
      case measure => omega
      case rel => exact ⟨i + 1, al', st', vr', by omega, by omega, (by have := HOL.out; rw [wrap_nat (by omega)]), ⟨QE.out.step D10.out⟩, ALE⟩
     ·have HW' := Aside0.mk hw
      clear hw
      go_wp2_with (first
       | (go_at_call 26; have hk_ := result_waits SW2.out HW'.out; (with_reducible refine hk_.mono ?_); rintro e w3 ⟨rfl, hb⟩; have D3 := Aside0.mk hb; clear hb hk_)
       | ((with_reducible refine gate_dst (N := 19) rfl ?_); refine box_event ?bg19 (N := 19) ?bd19 (cs := #[.slice none 0 0]) (t := 24) ?br19 ?_; (case bd19 => rfl); (case bg19 => rfl); (case br19 => first | (go_simp; done) | (go_simp; rfl)); intro b19 hg w4 hbox hb; have ALb := Aside0.mk hb; have BXb := Aside0.mk hbox; have GBb := Aside0.mk hg; have zb := blk_frozen hbox 0; have qb : w4.cell? ⟨b19, 0, none⟩ = some (.slice none 0 0) := (blk_cell hbox 0).trans rfl; clear hg hbox hb)
       | ((with_reducible refine gate_store (t := 24) (p := 19) rfl ?_); refine store_event (t := 24) (p := 19) (w1 := w4.setCell ⟨b19, 0, none⟩ (.slice none 0 0)) rfl rfl rfl ?st19 ?_; (case st19 => first | (go_simp; done) | (go_simp; rfl)); intro w5 hwk; have hB : Below w3.heap.size w3 w5 := (by rw [hwk]; exact ALb.out.setCell (p := ⟨b19, 0, none⟩) (Nat.le_of_eq GBb.out.symm) _); have hbx : w5.heap[b19]? = some (.cells #[.slice none 0 0] 24 (0, 0)) := (by rw [hwk]; exact blk_put (cs := #[.slice none 0 0]) BXb.out 0 _ rfl); clear hwk; have D5 := Aside0.mk (D3.out.trans (hB.mono D3.out.size)); have B19 := Aside0.mk hbx; clear hB hbx zb qb)
       | (go_at_call 27; have hk_ := rresult_waits (p := st'.pops gs.length) (QE.out.rw.below D5.out) (HG.out _ (QE.out.below.trans (D5.out.mono QE.out.below.size))) HC0.out QE.out.start (wf_kids HW.out) (by have := ALE.out; have := HOL.out; omega) (by rcases Nat.lt_or_ge (st'.pops gs.length) (reachN gs al') with h | h; exact h; exact absurd (PD.out.1 (Nat.le_antisymm PLE.out h)) HW'.out); (with_reducible refine hk_.mono ?_); rintro e w6 ⟨rfl, hb⟩; have D6 := Aside0.mk (D5.out.trans (hb.mono D5.out.size)); have B196 := Aside0.mk ((hb.block b19 (blk_lt B19.out)).trans B19.out); clear hb hk_)
       | ((with_reducible refine gate_dst (N := 22) rfl ?_); refine box_event ?bg22 (N := 22) ?bd22 (cs := #[.slice none 0 0]) (t := 24) ?br22 ?_; (case bd22 => rfl); (case bg22 => rfl); (case br22 => first | (go_simp; done) | (go_simp; rfl)); intro b22 hg w7 hbox hb; have ALb := Aside0.mk hb; have BXb := Aside0.mk hbox; have GBb := Aside0.mk hg; have zb := blk_frozen hbox 0; have qb : w7.cell? ⟨b22, 0, none⟩ = some (.slice none 0 0) := (blk_cell hbox 0).trans rfl; clear hg hbox hb)
       | ((with_reducible refine gate_store (t := 24) (p := 22) rfl ?_); refine store_event (t := 24) (p := 22) (w1 := w7.setCell ⟨b22, 0, none⟩ (.slice none 0 0)) rfl rfl rfl ?st22 ?_; (case st22 => first | (go_simp; done) | (go_simp; rfl)); intro w8 hwk; have hB : Below w6.heap.size w6 w8 := (by rw [hwk]; exact ALb.out.setCell (p := ⟨b22, 0, none⟩) (Nat.le_of_eq GBb.out.symm) _); have hbx : w8.heap[b22]? = some (.cells #[.slice none 0 0] 24 (0, 0)) := (by rw [hwk]; exact blk_put (cs := #[.slice none 0 0]) BXb.out 0 _ rfl); clear hwk; have D8 := Aside0.mk (D6.out.trans (hB.mono D6.out.size)); have c19 : w8.cell? ⟨b19, 0, none⟩ = some (.slice none 0 0) := (blk_cell ((hB.block b19 (blk_lt B196.out)).trans B196.out) 0).trans rfl; have c22 : w8.cell? ⟨b22, 0, none⟩ = some (.slice none 0 0) := (blk_cell hbx 0).trans rfl; clear hB hbx zb qb)
       | (go_at_call 20; have hk_ := same_nil w8 0 0; (with_reducible refine hk_.mono ?_); rintro e w9 ⟨rfl, hb⟩; have D9 := Aside0.mk (D8.out.trans (hb.mono D8.out.size)); clear hb hk_)
       | (go_at_call 21; have hk_ := ints_nil w9; (with_reducible refine hk_.mono ?_); rintro e w10 ⟨rfl, hb⟩; have D10 := Aside0.mk (D9.out.trans (hb.below.mono D9.out.size)); clear hb hk_))
      go_roundg (ops.length - (i + 1))
      case measure => omega
      case rel => exact ⟨i + 1, al', st', vr', by omega, by omega, (by have := HOL.out; rw [wrap_nat (by omega)]), ⟨QE.out.step D10.out⟩, ALE⟩
   | false =>
    obtain ⟨st', hst⟩ : ∃ st', st' = st.steps gs n0.toNat := ⟨_, rfl⟩
    have STE := Aside0.mk hst
    clear hst
    have INV := Aside0.mk (show Inv gs al st' by rw [STE.out]; exact Inv.steps _ hQQ.out.inv)
    have GOOD := Aside0.mk (show st'.Good gs.length by rw [STE.out]; exact steps_good IN.out _ hQQ.out.good)
    have PL := Aside0.mk (pops_le hQQ.out.start hQQ.out.inv hQQ.out.good)
    have PQ := Aside0.mk (show st'.pops gs.length = st.pops gs.length + min n0.toNat (reachN gs al - st.pops gs.length) by rw [STE.out]; exact pops_steps hQQ.out.start IN.out n0.toNat hQQ.out.inv hQQ.out.good)
    have PDD := Aside0.mk (pops_done hQQ.out.start INV.out GOOD.out)
    by_cases hw : st'.wait = []
    ·have SB := Aside0.mk (decide_eq_true hw)
     have RB := Aside0.mk (show decide (((st'.pops gs.length : Nat) : Int) = (reachN gs al : Int)) = true from decide_eq_true (by rw [PDD.out.2 hw]))
     have HWS := Aside0.mk hw
     clear hw
     go_upto_region 13 with fail
     have HELD := Aside0.mk (show wr.drew.cell? (ad.add (i * 2)) = some (.bool false) ∧ wr.drew.cell? ⟨(ad.add (i * 2)).block, (ad.add (i * 2)).off + 1, none⟩ = some (.int .i64 n0) from ⟨(hQQ.out.below.cell (World.block_lt_of_cell? _ _ X0.out)).trans X0.out, (hQQ.out.below.cell (World.block_lt_of_cell? _ _ X1.out)).trans X1.out⟩)
     refine start_ (n := 47) (S := fun w' => w'.cell? (ad.add (i * 2)) = some (.bool false) ∧ w'.cell? ⟨(ad.add (i * 2)).block, (ad.add (i * 2)).off + 1, none⟩ = some (.int .i64 n0)) (ds := []) #[false, false, false, false, false, false, false, false, false, false, false, false, false, false, false, false, false, false, false, false, false, false, false, false, false, false, false, false, false, false, false, false, false, false, false, false, false, false, false, false, false, false, false, false, false, false, false] (by kernel_rfl) rfl rfl HELD.out (fun hHeld => ?_)
     refine pure_ (i := 0) (N := some 91) (v := ?_) (a' := ?_) #[true, false, false, false, false, false, false, false, false, false, false, false, false, false, false, false, false, false, false, false, false, false, false, false, false, false, false, false, false, false, false, false, false, false, false, false, false, false, false, false, false, false, false, false, false, false, false] rfl rfl (by kernel_rfl) (fun _ _ _ h => h) (Or.inl ⟨by rfl, ?_⟩) ?_ ?_
     rotate_left
     ·intro w'
      go_simp
      with_reducible rfl
     rotate_left
     ·simp only [Act.put, List.setIfInBounds_toArray, List.set_cons_zero, List.set_cons_succ, i64_w, i32_w]
      rfl
     refine pure_ (i := 1) (N := some 92) (v := ?_) (a' := ?_) #[true, true, false, false, false, false, false, false, false, false, false, false, false, false, false, false, false, false, false, false, false, false, false, false, false, false, false, false, false, false, false, false, false, false, false, false, false, false, false, false, false, false, false, false, false, false, false] rfl rfl (by kernel_rfl) (fun _ _ _ h => h) (Or.inl ⟨by rfl, ?_⟩) ?_ ?_
     rotate_left
     ·intro w'
      go_simp
      with_reducible rfl
     rotate_left
     ·simp only [Act.put, List.setIfInBounds_toArray, List.set_cons_zero, List.set_cons_succ, i64_w, i32_w]
      rfl
     refine pure_ (i := 2) (N := some 93) (v := ?_) (a' := ?_) #[true, true, true, false, false, false, false, false, false, false, false, false, false, false, false, false, false, false, false, false, false, false, false, false, false, false, false, false, false, false, false, false, false, false, false, false, false, false, false, false, false, false, false, false, false, false, false] rfl rfl (by kernel_rfl) (fun _ _ _ h => h) (Or.inl ⟨by rfl, ?_⟩) ?_ ?_
     rotate_left
     ·intro w'
      go_simp
      with_reducible rfl
     rotate_left
     ·simp only [Act.put, List.setIfInBounds_toArray, List.set_cons_zero, List.set_cons_succ, i64_w, i32_w]
      rfl
     refine pure_ (i := 3) (N := some 94) (v := ?_) (a' := ?_) #[true, true, true, true, false, false, false, false, false, false, false, false, false, false, false, false, false, false, false, false, false, false, false, false, false, false, false, false, false, false, false, false, false, false, false, false, false, false, false, false, false, false, false, false, false, false, false] rfl rfl (by kernel_rfl) (fun _ _ _ h => h) (Or.inl ⟨by rfl, ?_⟩) ?_ ?_
     rotate_left
     ·intro w'
      go_simp
      with_reducible rfl
     rotate_left
     ·simp only [Act.put, List.setIfInBounds_toArray, List.set_cons_zero, List.set_cons_succ, i64_w, i32_w]
      rfl
     refine take_ (i := 4) (N := some 95) (v := ?_) (a' := ?_) #[true, true, true, true, true, false, false, false, false, false, false, false, false, false, false, false, false, false, false, false, false, false, false, false, false, false, false, false, false, false, false, false, false, false, false, false, false, false, false, false, false, false, false, false, false, false, false] rfl rfl (by kernel_rfl) (fun _ _ _ h => h) (Or.inl ⟨by rfl, ?_⟩) hHeld ?_ ?_
     rotate_left
     ·rintro w' ⟨s0, s1⟩
      go_simp
      with_reducible rfl
     rotate_left
     ·simp only [Act.put, List.setIfInBounds_toArray, List.set_cons_zero, List.set_cons_succ, i64_w, i32_w]
      rfl
     refine pure_ (i := 5) (N := some 96) (v := ?_) (a' := ?_) #[true, true, true, true, true, true, false, false, false, false, false, false, false, false, false, false, false, false, false, false, false, false, false, false, false, false, false, false, false, false, false, false, false, false, false, false, false, false, false, false, false, false, false, false, false, false, false] rfl rfl (by kernel_rfl) (fun _ _ _ h => h) (Or.inl ⟨by rfl, ?_⟩) ?_ ?_
     rotate_left
     ·intro w'
      go_simp
      with_reducible rfl
     rotate_left
     ·simp only [Act.put, List.setIfInBounds_toArray, List.set_cons_zero, List.set_cons_succ, i64_w, i32_w]
      rfl
     refine pure_ (i := 6) (N := some 97) (v := undef) (a' := ?_) #[true, true, true, true, true, true, true, false, false, false, false, false, false, false, false, false, false, false, false, false, false, false, false, false, false, false, false, false, false, false, false, false, false, false, false, false, false, false, false, false, false, false, false, false, false, false, false] rfl rfl (by kernel_rfl) (fun _ _ _ h => h) (Or.inr ⟨by rfl, rfl⟩) ?_ ?_
     rotate_left
     ·simp only [Act.put, List.setIfInBounds_toArray, List.set_cons_zero, List.set_cons_succ, i64_w, i32_w]
      rfl
     refine pure_ (i := 7) (N := some 98) (v := undef) (a' := ?_) #[true, true, true, true, true, true, true, true, false, false, false, false, false, false, false, false, false, false, false, false, false, false, false, false, false, false, false, false, false, false, false, false, false, false, false, false, false, false, false, false, false, false, false, false, false, false, false] rfl rfl (by kernel_rfl) (fun _ _ _ h => h) (Or.inr ⟨by rfl, rfl⟩) ?_ ?_
     rotate_left
     ·simp only [Act.put, List.setIfInBounds_toArray, List.set_cons_zero, List.set_cons_succ, i64_w, i32_w]
      rfl
     refine pure_ (i := 8) (N := some 99) (v := undef) (a' := ?_) #[true, true, true, true, true, true, true, true, true, false, false, false, false, false, false, false, false, false, false, false, false, false, false, false, false, false, false, false, false, false, false, false, false, false, false, false, false, false, false, false, false, false, false, false, false, false, false] rfl rfl (by kernel_rfl) (fun _ _ _ h => h) (Or.inr ⟨by rfl, rfl⟩) ?_ ?_
     rotate_left
     ·simp only [Act.put, List.setIfInBounds_toArray, List.set_cons_zero, List.set_cons_succ, i64_w, i32_w]
      rfl
     refine pure_ (i := 9) (N := some 100) (v := undef) (a' := ?_) #[true, true, true, true, true, true, true, true, true, true, false, false, false, false, false, false, false, false, false, false, false, false, false, false, false, false, false, false, false, false, false, false, false, false, false, false, false, false, false, false, false, false, false, false, false, false, false] rfl rfl (by kernel_rfl) (fun _ _ _ h => h) (Or.inr ⟨by rfl, rfl⟩) ?_ ?_
     rotate_left
     ·simp only [Act.put, List.setIfInBounds_toArray, List.set_cons_zero, List.set_cons_succ, i64_w, i32_w]
      rfl
     refine pure_ (i := 10) (N := some 101) (v := undef) (a' := ?_) #[true, true, true, true, true, true, true, true, true, true, true, false, false, false, false, false, false, false, false, false, false, false, false, false, false, false, false, false, false, false, false, false, false, false, false, false, false, false, false, false, false, false, false, false, false, false, false] rfl rfl (by kernel_rfl) (fun _ _ _ h => h) (Or.inr ⟨by rfl, rfl⟩) ?_ ?_
     rotate_left
     ·simp only [Act.put, List.setIfInBounds_toArray, List.set_cons_zero, List.set_cons_succ, i64_w, i32_w]
      rfl
     refine pure_ (i := 11) (N := some 102) (v := undef) (a' := ?_) #[true, true, true, true, true, true, true, true, true, true, true, true, false, false, false, false, false, false, false, false, false, false, false, false, false, false, false, false, false, false, false, false, false, false, false, false, false, false, false, false, false, false, false, false, false, false, false] rfl rfl (by kernel_rfl) (fun _ _ _ h => h) (Or.inr ⟨by rfl, rfl⟩) ?_ ?_
     rotate_left
     ·simp only [Act.put, List.setIfInBounds_toArray, List.set_cons_zero, List.set_cons_succ, i64_w, i32_w]
      rfl
     refine pure_ (i := 12) (N := some 103) (v := undef) (a' := ?_) #[true, true, true, true, true, true, true, true, true, true, true, true, true, false, false, false, false, false, false, false, false, false, false, false, false, false, false, false, false, false, false, false, false, false, false, false, false, false, false, false, false, false, false, false, false, false, false] rfl rfl (by kernel_rfl) (fun _ _ _ h => h) (Or.inr ⟨by rfl, rfl⟩) ?_ ?_
     rotate_left
     ·simp only [Act.put, List.setIfInBounds_toArray, List.set_cons_zero, List.set_cons_succ, i64_w, i32_w]
      rfl
     refine pure_ (i := 13) (N := some 104) (v := undef) (a' := ?_) #[true, true, true, true, true, true, true, true, true, true, true, true, true, true, false, false, false, false, false, false, false, false, false, false, false, false, false, false, false, false, false, false, false, false, false, false, false, false, false, false, false, false, false, false, false, false, false] rfl rfl (by kernel_rfl) (fun _ _ _ h => h) (Or.inr ⟨by rfl, rfl⟩) ?_ ?_
     rotate_left
     ·simp only [Act.put, List.setIfInBounds_toArray, List.set_cons_zero, List.set_cons_succ, i64_w, i32_w]
      rfl
     refine pure_ (i := 14) (N := some 105) (v := undef) (a' := ?_) #[true, true, true, true, true, true, true, true, true, true, true, true, true, true, true, false, false, false, false, false, false, false, false, false, false, false, false, false, false, false, false, false, false, false, false, false, false, false, false, false, false, false, false, false, false, false, false] rfl rfl (by kernel_rfl) (fun _ _ _ h => h) (Or.inr ⟨by rfl, rfl⟩) ?_ ?_
     rotate_left
     ·simp only [Act.put, List.setIfInBounds_toArray, List.set_cons_zero, List.set_cons_succ, i64_w, i32_w]
      rfl
     refine pure_ (i := 15) (N := some 106) (v := undef) (a' := ?_) #[true, true, true, true, true, true, true, true, true, true, true, true, true, true, true, true, false, false, false, false, false, false, false, false, false, false, false, false, false, false, false, false, false, false, false, false, false, false, false, false, false, false, false, false, false, false, false] rfl rfl (by kernel_rfl) (fun _ _ _ h => h) (Or.inr ⟨by rfl, rfl⟩) ?_ ?_
     rotate_left
     ·simp only [Act.put, List.setIfInBounds_toArray, List.set_cons_zero, List.set_cons_succ, i64_w, i32_w]
      rfl
     refine pure_ (i := 16) (N := some 107) (v := undef) (a' := ?_) #[true, true, true, true, true, true, true, true, true, true, true, true, true, true, true, true, true, false, false, false, false, false, false, false, false, false, false, false, false, false, false, false, false, false, false, false, false, false, false, false, false, false, false, false, false, false, false] rfl rfl (by kernel_rfl) (fun _ _ _ h => h) (Or.inr ⟨by rfl, rfl⟩) ?_ ?_
     rotate_left
     ·simp only [Act.put, List.setIfInBounds_toArray, List.set_cons_zero, List.set_cons_succ, i64_w, i32_w]
      rfl
     refine pure_ (i := 17) (N := some 108) (v := undef) (a' := ?_) #[true, true, true, true, true, true, true, true, true, true, true, true, true, true, true, true, true, true, false, false, false, false, false, false, false, false, false, false, false, false, false, false, false, false, false, false, false, false, false, false, false, false, false, false, false, false, false] rfl rfl (by kernel_rfl) (fun _ _ _ h => h) (Or.inr ⟨by rfl, rfl⟩) ?_ ?_
     rotate_left
     ·simp only [Act.put, List.setIfInBounds_toArray, List.set_cons_zero, List.set_cons_succ, i64_w, i32_w]
      rfl
     refine pure_ (i := 18) (N := some 109) (v := undef) (a' := ?_) #[true, true, true, true, true, true, true, true, true, true, true, true, true, true, true, true, true, true, true, false, false, false, false, false, false, false, false, false, false, false, false, false, false, false, false, false, false, false, false, false, false, false, false, false, false, false, false] rfl rfl (by kernel_rfl) (fun _ _ _ h => h) (Or.inr ⟨by rfl, rfl⟩) ?_ ?_
     rotate_left
     ·simp only [Act.put, List.setIfInBounds_toArray, List.set_cons_zero, List.set_cons_succ, i64_w, i32_w]
      rfl
     refine pure_ (i := 19) (N := some 110) (v := undef) (a' := ?_) #[true, true, true, true, true, true, true, true, true, true, true, true, true, true, true, true, true, true, true, true, false, false, false, false, false, false, false, false, false, false, false, false, false, false, false, false, false, false, false, false, false, false, false, false, false, false, false] rfl rfl (by kernel_rfl) (fun _ _ _ h => h) (Or.inr ⟨by rfl, rfl⟩) ?_ ?_
     rotate_left
     ·simp only [Act.put, List.setIfInBounds_toArray, List.set_cons_zero, List.set_cons_succ, i64_w, i32_w]
      rfl
     refine pure_ (i := 20) (N := some 111) (v := undef) (a' := ?_) #[true, true, true, true, true, true, true, true, true, true, true, true, true, true, true, true, true, true, true, true, true, false, false, false, false, false, false, false, false, false, false, false, false, false, false, false, false, false, false, false, false, false, false, false, false, false, false] rfl rfl (by kernel_rfl) (fun _ _ _ h => h) (Or.inr ⟨by rfl, rfl⟩) ?_ ?_
     rotate_left
     ·simp only [Act.put, List.setIfInBounds_toArray, List.set_cons_zero, List.set_cons_succ, i64_w, i32_w]
      rfl
     refine pure_ (i := 21) (N := some 112) (v := ?_) (a' := ?_) #[true, true, true, true, true, true, true, true, true, true, true, true, true, true, true, true, true, true, true, true, true, true, false, false, false, false, false, false, false, false, false, false, false, false, false, false, false, false, false, false, false, false, false, false, false, false, false] rfl rfl (by kernel_rfl) (fun _ _ _ h => h) (Or.inl ⟨by rfl, ?_⟩) ?_ ?_
     rotate_left
     ·intro w'
      go_simp
      with_reducible rfl
     rotate_left
     ·simp only [Act.put, List.setIfInBounds_toArray, List.set_cons_zero, List.set_cons_succ, i64_w, i32_w]
      rfl
     refine pure_ (i := 22) (N := some 113) (v := ?_) (a' := ?_) #[true, true, true, true, true, true, true, true, true, true, true, true, true, true, true, true, true, true, true, true, true, true, true, false, false, false, false, false, false, false, false, false, false, false, false, false, false, false, false, false, false, false, false, false, false, false, false] rfl rfl (by kernel_rfl) (fun _ _ _ h => h) (Or.inl ⟨by rfl, ?_⟩) ?_ ?_
     rotate_left
     ·intro w'
      go_simp
      with_reducible rfl
     rotate_left
     ·simp only [Act.put, List.setIfInBounds_toArray, List.set_cons_zero, List.set_cons_succ, i64_w, i32_w]
      rfl
     refine pure_ (i := 23) (N := some 114) (v := ?_) (a' := ?_) #[true, true, true, true, true, true, true, true, true, true, true, true, true, true, true, true, true, true, true, true, true, true, true, true, false, false, false, false, false, false, false, false, false, false, false, false, false, false, false, false, false, false, false, false, false, false, false] rfl rfl (by kernel_rfl) (fun _ _ _ h => h) (Or.inl ⟨by rfl, ?_⟩) ?_ ?_
     rotate_left
     ·intro w'
      go_simp
      with_reducible rfl
     rotate_left
     ·simp only [Act.put, List.setIfInBounds_toArray, List.set_cons_zero, List.set_cons_succ, i64_w, i32_w]
      rfl
     refine pure_ (i := 24) (N := some 115) (v := ?_) (a' := ?_) #[true, true, true, true, true, true, true, true, true, true, true, true, true, true, true, true, true, true, true, true, true, true, true, true, true, false, false, false, false, false, false, false, false, false, false, false, false, false, false, false, false, false, false, false, false, false, false] rfl rfl (by kernel_rfl) (fun _ _ _ h => h) (Or.inl ⟨by rfl, ?_⟩) ?_ ?_
     rotate_left
     ·intro w'
      go_simp
      with_reducible rfl
     rotate_left
     ·simp only [Act.put, List.setIfInBounds_toArray, List.set_cons_zero, List.set_cons_succ, i64_w, i32_w]
      rfl
     refine pure_ (i := 25) (N := some 116) (v := ?_) (a' := ?_) #[true, true, true, true, true, true, true, true, true, true, true, true, true, true, true, true, true, true, true, true, true, true, true, true, true, true, false, false, false, false, false, false, false, false, false, false, false, false, false, false, false, false, false, false, false, false, false] rfl rfl (by kernel_rfl) (fun _ _ _ h => h) (Or.inl ⟨by rfl, ?_⟩) ?_ ?_
     rotate_left
     ·intro w'
      go_simp
      with_reducible rfl
     rotate_left
     ·simp only [Act.put, List.setIfInBounds_toArray, List.set_cons_zero, List.set_cons_succ, i64_w, i32_w]
      rfl
     refine pure_ (i := 26) (N := some 117) (v := ?_) (a' := ?_) #[true, true, true, true, true, true, true, true, true, true, true, true, true, true, true, true, true, true, true, true, true, true, true, true, true, true, true, false, false, false, false, false, false, false, false, false, false, false, false, false, false, false, false, false, false, false, false] rfl rfl (by kernel_rfl) (fun _ _ _ h => h) (Or.inl ⟨by rfl, ?_⟩) ?_ ?_
     rotate_left
     ·intro w'
      go_simp
      with_reducible rfl
     rotate_left
     ·simp only [Act.put, List.setIfInBounds_toArray, List.set_cons_zero, List.set_cons_succ, i64_w, i32_w]
      rfl
     refine take_ (i := 27) (N := some 118) (v := ?_) (a' := ?_) #[true, true, true, true, true, true, true, true, true, true, true, true, true, true, true, true, true, true, true, true, true, true, true, true, true, true, true, true, false, false, false, false, false, false, false, false, false, false, false, false, false, false, false, false, false, false, false] rfl rfl (by kernel_rfl) (fun _ _ _ h => h) (Or.inl ⟨by rfl, ?_⟩) hHeld ?_ ?_
     rotate_left
     ·rintro w' ⟨s0, s1⟩
      go_simp
      with_reducible rfl
     rotate_left
     ·simp only [Act.put, List.setIfInBounds_toArray, List.set_cons_zero, List.set_cons_succ, i64_w, i32_w]
      rfl
     refine pure_ (i := 28) (N := some 119) (v := ?_) (a' := ?_) #[true, true, true, true, true, true, true, true, true, true, true, true, true, true, true, true, true, true, true, true, true, true, true, true, true, true, true, true, true, false, false, false, false, false, false, false, false, false, false, false, false, false, false, false, false, false, false] rfl rfl (by kernel_rfl) (fun _ _ _ h => h) (Or.inl ⟨by rfl, ?_⟩) ?_ ?_
     rotate_left
     ·intro w'
      go_simp
      with_reducible rfl
     rotate_left
     ·simp only [Act.put, List.setIfInBounds_toArray, List.set_cons_zero, List.set_cons_succ, i64_w, i32_w]
      rfl
     refine pure_ (i := 29) (N := some 120) (v := ?_) (a' := ?_) #[true, true, true, true, true, true, true, true, true, true, true, true, true, true, true, true, true, true, true, true, true, true, true, true, true, true, true, true, true, true, false, false, false, false, false, false, false, false, false, false, false, false, false, false, false, false, false] rfl rfl (by kernel_rfl) (fun _ _ _ h => h) (Or.inl ⟨by rfl, ?_⟩) ?_ ?_
     rotate_left
     ·intro w'
      go_simp
      with_reducible rfl
     rotate_left
     ·simp only [Act.put, List.setIfInBounds_toArray, List.set_cons_zero, List.set_cons_succ, i64_w, i32_w]
      rfl
     refine pure_ (i := 30) (N := some 121) (v := ?_) (a' := ?_) #[true, true, true, true, true, true, true, true, true, true, true, true, true, true, true, true, true, true, true, true, true, true, true, true, true, true, true, true, true, true, true, false, false, false, false, false, false, false, false, false, false, false, false, false, false, false, false] rfl rfl (by kernel_rfl) (fun _ _ _ h => h) (Or.inl ⟨by rfl, ?_⟩) ?_ ?_
     rotate_left
     ·intro w'
      go_simp
      with_reducible rfl
     rotate_left
     ·simp only [Act.put, List.setIfInBounds_toArray, List.set_cons_zero, List.set_cons_succ, i64_w, i32_w]
      rfl
     refine pure_ (i := 31) (N := some 122) (v := ?_) (a' := ?_) #[true, true, true, true, true, true, true, true, true, true, true, true, true, true, true, true, true, true, true, true, true, true, true, true, true, true, true, true, true, true, true, true, false, false, false, false, false, false, false, false, false, false, false, false, false, false, false] rfl rfl (by kernel_rfl) (fun _ _ _ h => h) (Or.inl ⟨by rfl, ?_⟩) ?_ ?_
     rotate_left
     ·intro w'
      go_simp
      with_reducible rfl
     rotate_left
     ·simp only [Act.put, List.setIfInBounds_toArray, List.set_cons_zero, List.set_cons_succ, i64_w, i32_w]
      rfl
     refine pure_ (i := 32) (N := some 123) (v := ?_) (a' := ?_) #[true, true, true, true, true, true, true, true, true, true, true, true, true, true, true, true, true, true, true, true, true, true, true, true, true, true, true, true, true, true, true, true, true, false, false, false, false, false, false, false, false, false, false, false, false, false, false] rfl rfl (by kernel_rfl) (fun _ _ _ h => h) (Or.inl ⟨by rfl, ?_⟩) ?_ ?_
     rotate_left
     ·intro w'
      go_simp
      with_reducible rfl
     rotate_left
     ·simp only [Act.put, List.setIfInBounds_toArray, List.set_cons_zero, List.set_cons_succ, i64_w, i32_w]
      rfl
     refine pure_ (i := 33) (N := some 124) (v := ?_) (a' := ?_) #[true, true, true, true, true, true, true, true, true, true, true, true, true, true, true, true, true, true, true, true, true, true, true, true, true, true, true, true, true, true, true, true, true, true, false, false, false, false, false, false, false, false, false, false, false, false, false] rfl rfl (by kernel_rfl) (fun _ _ _ h => h) (Or.inl ⟨by rfl, ?_⟩) ?_ ?_
     rotate_left
     ·intro w'
      go_simp
      with_reducible rfl
     rotate_left
     ·simp only [Act.put, List.setIfInBounds_toArray, List.set_cons_zero, List.set_cons_succ, i64_w, i32_w]
      rfl
     refine pure_ (i := 34) (N := some 125) (v := ?_) (a' := ?_) #[true, true, true, true, true, true, true, true, true, true, true, true, true, true, true, true, true, true, true, true, true, true, true, true, true, true, true, true, true, true, true, true, true, true, true, false, false, false, false, false, false, false, false, false, false, false, false] rfl rfl (by kernel_rfl) (fun _ _ _ h => h) (Or.inl ⟨by rfl, ?_⟩) ?_ ?_
     rotate_left
     ·intro w'
      go_simp
      with_reducible rfl
     rotate_left
     ·simp only [Act.put, List.setIfInBounds_toArray, List.set_cons_zero, List.set_cons_succ, i64_w, i32_w]
      rfl
     refine take_ (i := 35) (N := some 126) (v := ?_) (a' := ?_) #[true, true, true, true, true, true, true, true, true, true, true, true, true, true, true, true, true, true, true, true, true, true, true, true, true, true, true, true, true, true, true, true, true, true, true, true, false, false, false, false, false, false, false, false, false, false, false] rfl rfl (by kernel_rfl) (fun _ _ _ h => h) (Or.inl ⟨by rfl, ?_⟩) hHeld ?_ ?_
     rotate_left
     ·rintro w' ⟨s0, s1⟩
      go_simp
      with_reducible rfl
     rotate_left
     ·simp only [Act.put, List.setIfInBounds_toArray, List.set_cons_zero, List.set_cons_succ, i64_w, i32_w]
      rfl
     refine pure_ (i := 37) (N := some 128) (v := ?_) (a' := ?_) #[true, true, true, true, true, true, true, true, true, true, true, true, true, true, true, true, true, true, true, true, true, true, true, true, true, true, true, true, true, true, true, true, true, true, true, true, false, true, false, false, false, false, false, false, false, false, false] rfl rfl (by kernel_rfl) (fun _ _ _ h => h) (Or.inl ⟨by rfl, ?_⟩) ?_ ?_
     rotate_left
     ·intro w'
      go_simp
      with_reducible rfl
     rotate_left
     ·simp only [Act.put, List.setIfInBounds_toArray, List.set_cons_zero, List.set_cons_succ, i64_w, i32_w]
      rfl
     refine pure_ (i := 38) (N := some 129) (v := ?_) (a' := ?_) #[true, true, true, true, true, true, true, true, true, true, true, true, true, true, true, true, true, true, true, true, true, true, true, true, true, true, true, true, true, true, true, true, true, true, true, true, false, true, true, false, false, false, false, false, false, false, false] rfl rfl (by kernel_rfl) (fun _ _ _ h => h) (Or.inl ⟨by rfl, ?_⟩) ?_ ?_
     rotate_left
     ·intro w'
      go_simp
      with_reducible rfl
     rotate_left
     ·simp only [Act.put, List.setIfInBounds_toArray, List.set_cons_zero, List.set_cons_succ, i64_w, i32_w]
      rfl
     refine pure_ (i := 39) (N := some 130) (v := ?_) (a' := ?_) #[true, true, true, true, true, true, true, true, true, true, true, true, true, true, true, true, true, true, true, true, true, true, true, true, true, true, true, true, true, true, true, true, true, true, true, true, false, true, true, true, false, false, false, false, false, false, false] rfl rfl (by kernel_rfl) (fun _ _ _ h => h) (Or.inl ⟨by rfl, ?_⟩) ?_ ?_
     rotate_left
     ·intro w'
      go_simp
      with_reducible rfl
     rotate_left
     ·simp only [Act.put, List.setIfInBounds_toArray, List.set_cons_zero, List.set_cons_succ, i64_w, i32_w]
      rfl
     refine pure_ (i := 40) (N := some 131) (v := ?_) (a' := ?_) #[true, true, true, true, true, true, true, true, true, true, true, true, true, true, true, true, true, true, true, true, true, true, true, true, true, true, true, true, true, true, true, true, true, true, true, true, false, true, true, true, true, false, false, false, false, false, false] rfl rfl (by kernel_rfl) (fun _ _ _ h => h) (Or.inl ⟨by rfl, ?_⟩) ?_ ?_
     rotate_left
     ·intro w'
      go_simp
      with_reducible rfl
     rotate_left
     ·simp only [Act.put, List.setIfInBounds_toArray, List.set_cons_zero, List.set_cons_succ, i64_w, i32_w]
      rfl
     refine pure_ (i := 41) (N := some 132) (v := ?_) (a' := ?_) #[true, true, true, true, true, true, true, true, true, true, true, true, true, true, true, true, true, true, true, true, true, true, true, true, true, true, true, true, true, true, true, true, true, true, true, true, false, true, true, true, true, true, false, false, false, false, false] rfl rfl (by kernel_rfl) (fun _ _ _ h => h) (Or.inl ⟨by rfl, ?_⟩) ?_ ?_
     rotate_left
     ·intro w'
      go_simp
      with_reducible rfl
     rotate_left
     ·simp only [Act.put, List.setIfInBounds_toArray, List.set_cons_zero, List.set_cons_succ, i64_w, i32_w]
      rfl
     refine take_ (i := 42) (N := some 133) (v := ?_) (a' := ?_) #[true, true, true, true, true, true, true, true, true, true, true, true, true, true, true, true, true, true, true, true, true, true, true, true, true, true, true, true, true, true, true, true, true, true, true, true, false, true, true, true, true, true, true, false, false, false, false] rfl rfl (by kernel_rfl) (fun _ _ _ h => h) (Or.inl ⟨by rfl, ?_⟩) hHeld ?_ ?_
     rotate_left
     ·rintro w' ⟨s0, s1⟩
      go_simp
      with_reducible rfl
     rotate_left
     ·simp only [Act.put, List.setIfInBounds_toArray, List.set_cons_zero, List.set_cons_succ, i64_w, i32_w]
      rfl
     refine one_ (i := 36) (N := some 127) #[true, true, true, true, true, true, true, true, true, true, true, true, true, true, true, true, true, true, true, true, true, true, true, true, true, true, true, true, true, true, true, true, true, true, true, true, true, true, true, true, true, true, true, false, false, false, false] rfl rfl (by kernel_rfl) (by decide) (fun K hK => ?_)
     refine call_ 24 #[.pointer (some ⟨g, 0, none⟩), .int .i64 n0] ?hw rfl ?hr ?_
     case hw => rfl
     case hr => simp [execOp, resolve, Deferred.ofValue, invoke, Act.eval, eg24]
     refine (step_calls (SWR.out.below (below_drew (Below.refl wr.heap.size wr))) hQQ.out.good IN.out (wf_kids HW.out) (valid_len (start_in hQQ.out.start).1) n0 OI.out).mono ?_
     rintro e w1 ⟨he, ha⟩
     rw [← STE.out] at he ha
     rw [SB.out] at he
     subst he
     obtain ⟨F', nm', vw', f', hsw', hF', hu⟩ := ha
     refine ⟨_, rfl, ?_⟩
     have Q1 := Aside0.mk ((hQQ.out.step (below_drew (Below.refl wr.heap.size wr))).turned FB.out.1 FB.out.2.1 FB.out.2.2.1 FB.out.2.2.2.1 hu (Kd.F_below FB.out.2.2.2.2 (below_drew (Below.refl wr.heap.size wr))) hsw' hF' INV.out GOOD.out hQQ.out.start)
     clear hsw' hF' hu
     have hx := And.intro ((Q1.out.below.cell (World.block_lt_of_cell? _ _ X0.out)).trans X0.out) ((Q1.out.below.cell (World.block_lt_of_cell? _ _ X1.out)).trans X1.out)
     have HX := Aside0.mk hx
     clear hx
     clear hHeld
     refine hK.out _ _ HX.out (fun hHeld => ?_)
     clear hK K
     refine norm_ (a' := ?_) ?_ ?_
     rotate_left
     ·show Act.put _ (some 127) _ = _
      simp only [Act.put, List.setIfInBounds_toArray, List.set_cons_zero, List.set_cons_succ, i64_w, i32_w]
      rfl
     refine one_ (i := 43) (N := some 134) #[true, true, true, true, true, true, true, true, true, true, true, true, true, true, true, true, true, true, true, true, true, true, true, true, true, true, true, true, true, true, true, true, true, true, true, true, true, true, true, true, true, true, true, true, false, false, false] rfl rfl (by kernel_rfl) (by decide) (fun K hK => ?_)
     refine call_ 25 #[.pointer (some ⟨g2, 0, none⟩), .int .i64 n0] ?hw rfl ?hr ?_
     case hw => rfl
     case hr => simp [execOp, resolve, Deferred.ofValue, invoke, Act.eval, eg25]
     refine (rstep_calls (p := st.pops gs.length) (q := st'.pops gs.length) Q1.out.rw (HG.out _ Q1.out.below) HC0.out hQQ.out.start (wf_kids HW.out) (by have := hal.out; have := HOL.out; omega) n0 PL.out PQ.out Q1.out.below.size).mono ?_
     rintro e w2 ⟨he, hrw, hu⟩
     rw [RB.out] at he
     subst he
     refine ⟨_, rfl, ?_⟩
     have Q2 := Aside0.mk (Q1.out.reffed (hu.mono (fun k hk => .inl hk)) hrw (fun k hk => .inl hk))
     clear hrw hu
     have hx := And.intro ((Q2.out.below.cell (World.block_lt_of_cell? _ _ X0.out)).trans X0.out) ((Q2.out.below.cell (World.block_lt_of_cell? _ _ X1.out)).trans X1.out)
     have HX := Aside0.mk hx
     clear hx
     clear hHeld
     refine hK.out _ _ HX.out (fun hHeld => ?_)
     clear hK K
     refine norm_ (a' := ?_) ?_ ?_
     rotate_left
     ·show Act.put _ (some 134) _ = _
      simp only [Act.put, List.setIfInBounds_toArray, List.set_cons_zero, List.set_cons_succ, i64_w, i32_w]
      rfl
     refine pure_ (i := 44) (N := some 135) (v := ?_) (a' := ?_) #[true, true, true, true, true, true, true, true, true, true, true, true, true, true, true, true, true, true, true, true, true, true, true, true, true, true, true, true, true, true, true, true, true, true, true, true, true, true, true, true, true, true, true, true, true, false, false] rfl rfl (by kernel_rfl) (fun _ _ _ h => h) (Or.inl ⟨by rfl, ?_⟩) ?_ ?_
     rotate_left
     ·intro w'
      go_simp
      with_reducible rfl
     rotate_left
     ·simp only [Act.put, List.setIfInBounds_toArray, List.set_cons_zero, List.set_cons_succ, i64_w, i32_w]
      rfl
     refine pure_ (i := 45) (N := some 136) (v := ?_) (a' := ?_) #[true, true, true, true, true, true, true, true, true, true, true, true, true, true, true, true, true, true, true, true, true, true, true, true, true, true, true, true, true, true, true, true, true, true, true, true, true, true, true, true, true, true, true, true, true, true, false] rfl rfl (by kernel_rfl) (fun _ _ _ h => h) (Or.inl ⟨by rfl, ?_⟩) ?_ ?_
     rotate_left
     ·intro w'
      go_simp
      with_reducible rfl
     rotate_left
     ·simp only [Act.put, List.setIfInBounds_toArray, List.set_cons_zero, List.set_cons_succ, i64_w, i32_w]
      rfl
     refine pure_ (i := 46) (N := some 137) (v := ?_) (a' := ?_) #[true, true, true, true, true, true, true, true, true, true, true, true, true, true, true, true, true, true, true, true, true, true, true, true, true, true, true, true, true, true, true, true, true, true, true, true, true, true, true, true, true, true, true, true, true, true, true] rfl rfl (by kernel_rfl) (fun _ _ _ h => h) (Or.inl ⟨by rfl, ?_⟩) ?_ ?_
     rotate_left
     ·intro w'
      go_simp
      with_reducible rfl
     rotate_left
     ·simp only [Act.put, List.setIfInBounds_toArray, List.set_cons_zero, List.set_cons_succ, i64_w, i32_w]
      rfl
     refine done_ (by kernel_rfl) ?_
     have QE := Aside0.mk (show QQ w w2 gb g g2 A0 c0 gs al st' vr al ((st'.pops gs.length : Nat) : Int) from Q2.out)
     have ALE := Aside0.mk (show al.length ≤ 60 + (i + 1) by have := hal.out; omega)
     obtain ⟨al', hal'⟩ : ∃ al', al' = al := ⟨_, rfl⟩
     obtain ⟨vr', hvr'⟩ : ∃ vr', vr' = vr := ⟨_, rfl⟩
     rw [← hal', ← hvr'] at QE
     rw [← hal'] at ALE
     clear hal' hvr' Q1 Q2
     have hw := HWS.out
     obtain ⟨F2, Ag2, cg2, vs2, bm2, nm2, vw2, f2, hsw2, _⟩ := QE.out.sw
     have SW2 := Aside0.mk hsw2
     clear hsw2
     obtain ⟨d, hd⟩ : ∃ d, d = resG gs (marksS gs al') gs.length := ⟨_, rfl⟩
     obtain ⟨m, hm⟩ : ∃ m, m = al'.map (plOf (marksS gs al')) := ⟨_, rfl⟩
     have KE2 := Aside0.mk (show keepS gs al' = (d, m, 0) by unfold keepS; rw [if_pos QE.out.start, hd, hm])
     have DE := Aside0.mk hd
     have ME := Aside0.mk hm
     have PD := Aside0.mk (pops_done QE.out.start QE.out.inv QE.out.good)
     have PLE := Aside0.mk (pops_le QE.out.start QE.out.inv QE.out.good)
     clear hd hm
     obtain ⟨ks2, hks⟩ := same_f (gs := d) (by rw [DE.out, resG_length]; have := cnt_le (marksS gs al') gs.length; have := valid_len (start_in QE.out.start).1; omega) (wf_kids (by rw [DE.out]; exact resG_wf (start_in QE.out.start).1 HW.out))
     obtain ⟨ki2, hki⟩ := ints_f (l := m) (by rw [ME.out, List.length_map]; have := ALE.out; have := HOL.out; omega)
     have KS2 := Aside0.mk (hks ks2 (Nat.le_refl _))
     have KI2 := Aside0.mk (hki ki2 (Nat.le_refl _))
     clear hks hki
     have HW' := Aside0.mk hw
     clear hw
     go_wp2_with (first
      | (go_at_call 26; have hk_ := result_f SW2.out HW'.out (start_in QE.out.start).1 HW.out (start_in QE.out.start).2 (by have := ALE.out; have := HOL.out; omega) d m (by rw [mark_done QE.out.start QE.out.inv HW'.out]; exact DE.out) (by rw [mark_done QE.out.start QE.out.inv HW'.out]; exact ME.out); (with_reducible refine hk_.mono ?_); rintro e w3 ⟨Ax, cx, Ay, cy, rfl, hc1_, hc2_, hf, hb⟩; have D3 := Aside0.mk hb; have FX3 := Aside0.mk hf; have LX := Aside0.mk (And.intro hc1_ hc2_); clear hf hb hc1_ hc2_ hk_)
      | ((with_reducible refine gate_dst (N := 19) rfl ?_); refine box_event ?bg19 (N := 19) ?bd19 (cs := #[.slice none 0 0]) (t := 24) ?br19 ?_; (case bd19 => rfl); (case bg19 => rfl); (case br19 => first | (go_simp; done) | (go_simp; rfl)); intro b19 hg w4 hbox hb; have ALb := Aside0.mk hb; have BXb := Aside0.mk hbox; have GBb := Aside0.mk hg; have zb := blk_frozen hbox 0; have qb : w4.cell? ⟨b19, 0, none⟩ = some (.slice none 0 0) := (blk_cell hbox 0).trans rfl; clear hg hbox hb)
      | ((with_reducible refine gate_store (t := 24) (p := 19) rfl ?_); refine store_event (t := 24) (p := 19) (w1 := w4.setCell ⟨b19, 0, none⟩ (.slice Ax d.length cx)) rfl rfl rfl ?st19 ?_; (case st19 => first | (go_simp; done) | (go_simp; rfl)); intro w5 hwk; have hB : Below w3.heap.size w3 w5 := (by rw [hwk]; exact ALb.out.setCell (p := ⟨b19, 0, none⟩) (Nat.le_of_eq GBb.out.symm) _); have hbx : w5.heap[b19]? = some (.cells #[.slice Ax d.length cx] 24 (0, 0)) := (by rw [hwk]; exact blk_put (cs := #[.slice none 0 0]) BXb.out 0 _ rfl); clear hwk; have D5 := Aside0.mk (D3.out.trans (hB.mono D3.out.size)); have FX5 := Aside0.mk (Foot.below FX3.out hB); have B19 := Aside0.mk hbx; clear hB hbx zb qb)
      | (go_at_call 27; have hk_ := rresult_done (p := st'.pops gs.length) (QE.out.rw.below D5.out) (HG.out _ (QE.out.below.trans (D5.out.mono QE.out.below.size))) HC0.out QE.out.start (wf_kids HW.out) (by have := ALE.out; have := HOL.out; omega) (PD.out.2 HW'.out) d m KE2.out; (with_reducible refine hk_.mono ?_); rintro e w6 ⟨Az, cz, Aq, cq, rfl, hc1_, hc2_, hf, hb⟩; have D6 := Aside0.mk (D5.out.trans (hb.mono D5.out.size)); have FX6 := Aside0.mk (Foot.below FX5.out hb); have FY6 := Aside0.mk hf; have LY := Aside0.mk (And.intro hc1_ hc2_); have B196 := Aside0.mk ((hb.block b19 (blk_lt B19.out)).trans B19.out); clear hf hb hc1_ hc2_ hk_)
      | ((with_reducible refine gate_dst (N := 22) rfl ?_); refine box_event ?bg22 (N := 22) ?bd22 (cs := #[.slice none 0 0]) (t := 24) ?br22 ?_; (case bd22 => rfl); (case bg22 => rfl); (case br22 => first | (go_simp; done) | (go_simp; rfl)); intro b22 hg w7 hbox hb; have ALb := Aside0.mk hb; have BXb := Aside0.mk hbox; have GBb := Aside0.mk hg; have zb := blk_frozen hbox 0; have qb : w7.cell? ⟨b22, 0, none⟩ = some (.slice none 0 0) := (blk_cell hbox 0).trans rfl; clear hg hbox hb)
      | ((with_reducible refine gate_store (t := 24) (p := 22) rfl ?_); refine store_event (t := 24) (p := 22) (w1 := w7.setCell ⟨b22, 0, none⟩ (.slice Az d.length cz)) rfl rfl rfl ?st22 ?_; (case st22 => first | (go_simp; done) | (go_simp; rfl)); intro w8 hwk; have hB : Below w6.heap.size w6 w8 := (by rw [hwk]; exact ALb.out.setCell (p := ⟨b22, 0, none⟩) (Nat.le_of_eq GBb.out.symm) _); have hbx : w8.heap[b22]? = some (.cells #[.slice Az d.length cz] 24 (0, 0)) := (by rw [hwk]; exact blk_put (cs := #[.slice none 0 0]) BXb.out 0 _ rfl); clear hwk; have D8 := Aside0.mk (D6.out.trans (hB.mono D6.out.size)); have FX8 := Aside0.mk (Foot.below FX6.out hB); have FY8 := Aside0.mk (Foot.below FY6.out hB); have c19 : w8.cell? ⟨b19, 0, none⟩ = some (.slice Ax d.length cx) := (blk_cell ((hB.block b19 (blk_lt B196.out)).trans B196.out) 0).trans rfl; have c22 : w8.cell? ⟨b22, 0, none⟩ = some (.slice Az d.length cz) := (blk_cell hbx 0).trans rfl; clear hB hbx zb qb)
      | (go_at_call 20; have hk_ := same_h (W := w8) d d.length rfl FX8.out.now.1 FY8.out.now.1 LX.out.1 LY.out.1 ks2 KS2.out; (with_reducible refine hk_.mono ?_); rintro e w9 ⟨rfl, hb⟩; have D9 := Aside0.mk (D8.out.trans (hb.mono D8.out.size)); have FX9 := Aside0.mk (Foot.below FX8.out hb); have FY9 := Aside0.mk (Foot.below FY8.out hb); clear hb hk_)
      | (go_at_call 21; have hk_ := ints_h (W := w9) m m.length rfl FX9.out.now.2 FY9.out.now.2 LX.out.2 LY.out.2 ki2 KI2.out; (with_reducible refine hk_.mono ?_); rintro e w10 ⟨rfl, hb⟩; have D10 := Aside0.mk (D9.out.trans (hb.below.mono D9.out.size)); clear hb hk_))
     go_roundg (ops.length - (i + 1))
     case measure => omega
     case rel => exact ⟨i + 1, al', st', vr', by omega, by omega, (by have := HOL.out; rw [wrap_nat (by omega)]), ⟨QE.out.step D10.out⟩, ALE⟩
    ·have SB := Aside0.mk (decide_eq_false hw)
     have RB := Aside0.mk (show decide (((st'.pops gs.length : Nat) : Int) = (reachN gs al : Int)) = false from decide_eq_false (fun h => hw (PDD.out.1 (by omega))))
     have HWS := Aside0.mk hw
     clear hw
     go_upto_region 13 with fail
     have HELD := Aside0.mk (show wr.drew.cell? (ad.add (i * 2)) = some (.bool false) ∧ wr.drew.cell? ⟨(ad.add (i * 2)).block, (ad.add (i * 2)).off + 1, none⟩ = some (.int .i64 n0) from ⟨(hQQ.out.below.cell (World.block_lt_of_cell? _ _ X0.out)).trans X0.out, (hQQ.out.below.cell (World.block_lt_of_cell? _ _ X1.out)).trans X1.out⟩)
     refine start_ (n := 47) (S := fun w' => w'.cell? (ad.add (i * 2)) = some (.bool false) ∧ w'.cell? ⟨(ad.add (i * 2)).block, (ad.add (i * 2)).off + 1, none⟩ = some (.int .i64 n0)) (ds := []) #[false, false, false, false, false, false, false, false, false, false, false, false, false, false, false, false, false, false, false, false, false, false, false, false, false, false, false, false, false, false, false, false, false, false, false, false, false, false, false, false, false, false, false, false, false, false, false] (by kernel_rfl) rfl rfl HELD.out (fun hHeld => ?_)
     refine pure_ (i := 0) (N := some 91) (v := ?_) (a' := ?_) #[true, false, false, false, false, false, false, false, false, false, false, false, false, false, false, false, false, false, false, false, false, false, false, false, false, false, false, false, false, false, false, false, false, false, false, false, false, false, false, false, false, false, false, false, false, false, false] rfl rfl (by kernel_rfl) (fun _ _ _ h => h) (Or.inl ⟨by rfl, ?_⟩) ?_ ?_
     rotate_left
     ·intro w'
      go_simp
      with_reducible rfl
     rotate_left
     ·simp only [Act.put, List.setIfInBounds_toArray, List.set_cons_zero, List.set_cons_succ, i64_w, i32_w]
      rfl
     refine pure_ (i := 1) (N := some 92) (v := ?_) (a' := ?_) #[true, true, false, false, false, false, false, false, false, false, false, false, false, false, false, false, false, false, false, false, false, false, false, false, false, false, false, false, false, false, false, false, false, false, false, false, false, false, false, false, false, false, false, false, false, false, false] rfl rfl (by kernel_rfl) (fun _ _ _ h => h) (Or.inl ⟨by rfl, ?_⟩) ?_ ?_
     rotate_left
     ·intro w'
      go_simp
      with_reducible rfl
     rotate_left
     ·simp only [Act.put, List.setIfInBounds_toArray, List.set_cons_zero, List.set_cons_succ, i64_w, i32_w]
      rfl
     refine pure_ (i := 2) (N := some 93) (v := ?_) (a' := ?_) #[true, true, true, false, false, false, false, false, false, false, false, false, false, false, false, false, false, false, false, false, false, false, false, false, false, false, false, false, false, false, false, false, false, false, false, false, false, false, false, false, false, false, false, false, false, false, false] rfl rfl (by kernel_rfl) (fun _ _ _ h => h) (Or.inl ⟨by rfl, ?_⟩) ?_ ?_
     rotate_left
     ·intro w'
      go_simp
      with_reducible rfl
     rotate_left
     ·simp only [Act.put, List.setIfInBounds_toArray, List.set_cons_zero, List.set_cons_succ, i64_w, i32_w]
      rfl
     refine pure_ (i := 3) (N := some 94) (v := ?_) (a' := ?_) #[true, true, true, true, false, false, false, false, false, false, false, false, false, false, false, false, false, false, false, false, false, false, false, false, false, false, false, false, false, false, false, false, false, false, false, false, false, false, false, false, false, false, false, false, false, false, false] rfl rfl (by kernel_rfl) (fun _ _ _ h => h) (Or.inl ⟨by rfl, ?_⟩) ?_ ?_
     rotate_left
     ·intro w'
      go_simp
      with_reducible rfl
     rotate_left
     ·simp only [Act.put, List.setIfInBounds_toArray, List.set_cons_zero, List.set_cons_succ, i64_w, i32_w]
      rfl
     refine take_ (i := 4) (N := some 95) (v := ?_) (a' := ?_) #[true, true, true, true, true, false, false, false, false, false, false, false, false, false, false, false, false, false, false, false, false, false, false, false, false, false, false, false, false, false, false, false, false, false, false, false, false, false, false, false, false, false, false, false, false, false, false] rfl rfl (by kernel_rfl) (fun _ _ _ h => h) (Or.inl ⟨by rfl, ?_⟩) hHeld ?_ ?_
     rotate_left
     ·rintro w' ⟨s0, s1⟩
      go_simp
      with_reducible rfl
     rotate_left
     ·simp only [Act.put, List.setIfInBounds_toArray, List.set_cons_zero, List.set_cons_succ, i64_w, i32_w]
      rfl
     refine pure_ (i := 5) (N := some 96) (v := ?_) (a' := ?_) #[true, true, true, true, true, true, false, false, false, false, false, false, false, false, false, false, false, false, false, false, false, false, false, false, false, false, false, false, false, false, false, false, false, false, false, false, false, false, false, false, false, false, false, false, false, false, false] rfl rfl (by kernel_rfl) (fun _ _ _ h => h) (Or.inl ⟨by rfl, ?_⟩) ?_ ?_
     rotate_left
     ·intro w'
      go_simp
      with_reducible rfl
     rotate_left
     ·simp only [Act.put, List.setIfInBounds_toArray, List.set_cons_zero, List.set_cons_succ, i64_w, i32_w]
      rfl
     refine pure_ (i := 6) (N := some 97) (v := undef) (a' := ?_) #[true, true, true, true, true, true, true, false, false, false, false, false, false, false, false, false, false, false, false, false, false, false, false, false, false, false, false, false, false, false, false, false, false, false, false, false, false, false, false, false, false, false, false, false, false, false, false] rfl rfl (by kernel_rfl) (fun _ _ _ h => h) (Or.inr ⟨by rfl, rfl⟩) ?_ ?_
     rotate_left
     ·simp only [Act.put, List.setIfInBounds_toArray, List.set_cons_zero, List.set_cons_succ, i64_w, i32_w]
      rfl
     refine pure_ (i := 7) (N := some 98) (v := undef) (a' := ?_) #[true, true, true, true, true, true, true, true, false, false, false, false, false, false, false, false, false, false, false, false, false, false, false, false, false, false, false, false, false, false, false, false, false, false, false, false, false, false, false, false, false, false, false, false, false, false, false] rfl rfl (by kernel_rfl) (fun _ _ _ h => h) (Or.inr ⟨by rfl, rfl⟩) ?_ ?_
     rotate_left
     ·simp only [Act.put, List.setIfInBounds_toArray, List.set_cons_zero, List.set_cons_succ, i64_w, i32_w]
      rfl
     refine pure_ (i := 8) (N := some 99) (v := undef) (a' := ?_) #[true, true, true, true, true, true, true, true, true, false, false, false, false, false, false, false, false, false, false, false, false, false, false, false, false, false, false, false, false, false, false, false, false, false, false, false, false, false, false, false, false, false, false, false, false, false, false] rfl rfl (by kernel_rfl) (fun _ _ _ h => h) (Or.inr ⟨by rfl, rfl⟩) ?_ ?_
     rotate_left
     ·simp only [Act.put, List.setIfInBounds_toArray, List.set_cons_zero, List.set_cons_succ, i64_w, i32_w]
      rfl
     refine pure_ (i := 9) (N := some 100) (v := undef) (a' := ?_) #[true, true, true, true, true, true, true, true, true, true, false, false, false, false, false, false, false, false, false, false, false, false, false, false, false, false, false, false, false, false, false, false, false, false, false, false, false, false, false, false, false, false, false, false, false, false, false] rfl rfl (by kernel_rfl) (fun _ _ _ h => h) (Or.inr ⟨by rfl, rfl⟩) ?_ ?_
     rotate_left
     ·simp only [Act.put, List.setIfInBounds_toArray, List.set_cons_zero, List.set_cons_succ, i64_w, i32_w]
      rfl
     refine pure_ (i := 10) (N := some 101) (v := undef) (a' := ?_) #[true, true, true, true, true, true, true, true, true, true, true, false, false, false, false, false, false, false, false, false, false, false, false, false, false, false, false, false, false, false, false, false, false, false, false, false, false, false, false, false, false, false, false, false, false, false, false] rfl rfl (by kernel_rfl) (fun _ _ _ h => h) (Or.inr ⟨by rfl, rfl⟩) ?_ ?_
     rotate_left
     ·simp only [Act.put, List.setIfInBounds_toArray, List.set_cons_zero, List.set_cons_succ, i64_w, i32_w]
      rfl
     refine pure_ (i := 11) (N := some 102) (v := undef) (a' := ?_) #[true, true, true, true, true, true, true, true, true, true, true, true, false, false, false, false, false, false, false, false, false, false, false, false, false, false, false, false, false, false, false, false, false, false, false, false, false, false, false, false, false, false, false, false, false, false, false] rfl rfl (by kernel_rfl) (fun _ _ _ h => h) (Or.inr ⟨by rfl, rfl⟩) ?_ ?_
     rotate_left
     ·simp only [Act.put, List.setIfInBounds_toArray, List.set_cons_zero, List.set_cons_succ, i64_w, i32_w]
      rfl
     refine pure_ (i := 12) (N := some 103) (v := undef) (a' := ?_) #[true, true, true, true, true, true, true, true, true, true, true, true, true, false, false, false, false, false, false, false, false, false, false, false, false, false, false, false, false, false, false, false, false, false, false, false, false, false, false, false, false, false, false, false, false, false, false] rfl rfl (by kernel_rfl) (fun _ _ _ h => h) (Or.inr ⟨by rfl, rfl⟩) ?_ ?_
     rotate_left
     ·simp only [Act.put, List.setIfInBounds_toArray, List.set_cons_zero, List.set_cons_succ, i64_w, i32_w]
      rfl
     refine pure_ (i := 13) (N := some 104) (v := undef) (a' := ?_) #[true, true, true, true, true, true, true, true, true, true, true, true, true, true, false, false, false, false, false, false, false, false, false, false, false, false, false, false, false, false, false, false, false, false, false, false, false, false, false, false, false, false, false, false, false, false, false] rfl rfl (by kernel_rfl) (fun _ _ _ h => h) (Or.inr ⟨by rfl, rfl⟩) ?_ ?_
     rotate_left
     ·simp only [Act.put, List.setIfInBounds_toArray, List.set_cons_zero, List.set_cons_succ, i64_w, i32_w]
      rfl
     refine pure_ (i := 14) (N := some 105) (v := undef) (a' := ?_) #[true, true, true, true, true, true, true, true, true, true, true, true, true, true, true, false, false, false, false, false, false, false, false, false, false, false, false, false, false, false, false, false, false, false, false, false, false, false, false, false, false, false, false, false, false, false, false] rfl rfl (by kernel_rfl) (fun _ _ _ h => h) (Or.inr ⟨by rfl, rfl⟩) ?_ ?_
     rotate_left
     ·simp only [Act.put, List.setIfInBounds_toArray, List.set_cons_zero, List.set_cons_succ, i64_w, i32_w]
      rfl
     refine pure_ (i := 15) (N := some 106) (v := undef) (a' := ?_) #[true, true, true, true, true, true, true, true, true, true, true, true, true, true, true, true, false, false, false, false, false, false, false, false, false, false, false, false, false, false, false, false, false, false, false, false, false, false, false, false, false, false, false, false, false, false, false] rfl rfl (by kernel_rfl) (fun _ _ _ h => h) (Or.inr ⟨by rfl, rfl⟩) ?_ ?_
     rotate_left
     ·simp only [Act.put, List.setIfInBounds_toArray, List.set_cons_zero, List.set_cons_succ, i64_w, i32_w]
      rfl
     refine pure_ (i := 16) (N := some 107) (v := undef) (a' := ?_) #[true, true, true, true, true, true, true, true, true, true, true, true, true, true, true, true, true, false, false, false, false, false, false, false, false, false, false, false, false, false, false, false, false, false, false, false, false, false, false, false, false, false, false, false, false, false, false] rfl rfl (by kernel_rfl) (fun _ _ _ h => h) (Or.inr ⟨by rfl, rfl⟩) ?_ ?_
     rotate_left
     ·simp only [Act.put, List.setIfInBounds_toArray, List.set_cons_zero, List.set_cons_succ, i64_w, i32_w]
      rfl
     refine pure_ (i := 17) (N := some 108) (v := undef) (a' := ?_) #[true, true, true, true, true, true, true, true, true, true, true, true, true, true, true, true, true, true, false, false, false, false, false, false, false, false, false, false, false, false, false, false, false, false, false, false, false, false, false, false, false, false, false, false, false, false, false] rfl rfl (by kernel_rfl) (fun _ _ _ h => h) (Or.inr ⟨by rfl, rfl⟩) ?_ ?_
     rotate_left
     ·simp only [Act.put, List.setIfInBounds_toArray, List.set_cons_zero, List.set_cons_succ, i64_w, i32_w]
      rfl
     refine pure_ (i := 18) (N := some 109) (v := undef) (a' := ?_) #[true, true, true, true, true, true, true, true, true, true, true, true, true, true, true, true, true, true, true, false, false, false, false, false, false, false, false, false, false, false, false, false, false, false, false, false, false, false, false, false, false, false, false, false, false, false, false] rfl rfl (by kernel_rfl) (fun _ _ _ h => h) (Or.inr ⟨by rfl, rfl⟩) ?_ ?_
     rotate_left
     ·simp only [Act.put, List.setIfInBounds_toArray, List.set_cons_zero, List.set_cons_succ, i64_w, i32_w]
      rfl
     refine pure_ (i := 19) (N := some 110) (v := undef) (a' := ?_) #[true, true, true, true, true, true, true, true, true, true, true, true, true, true, true, true, true, true, true, true, false, false, false, false, false, false, false, false, false, false, false, false, false, false, false, false, false, false, false, false, false, false, false, false, false, false, false] rfl rfl (by kernel_rfl) (fun _ _ _ h => h) (Or.inr ⟨by rfl, rfl⟩) ?_ ?_
     rotate_left
     ·simp only [Act.put, List.setIfInBounds_toArray, List.set_cons_zero, List.set_cons_succ, i64_w, i32_w]
      rfl
     refine pure_ (i := 20) (N := some 111) (v := undef) (a' := ?_) #[true, true, true, true, true, true, true, true, true, true, true, true, true, true, true, true, true, true, true, true, true, false, false, false, false, false, false, false, false, false, false, false, false, false, false, false, false, false, false, false, false, false, false, false, false, false, false] rfl rfl (by kernel_rfl) (fun _ _ _ h => h) (Or.inr ⟨by rfl, rfl⟩) ?_ ?_
     rotate_left
     ·simp only [Act.put, List.setIfInBounds_toArray, List.set_cons_zero, List.set_cons_succ, i64_w, i32_w]
      rfl
     refine pure_ (i := 21) (N := some 112) (v := ?_) (a' := ?_) #[true, true, true, true, true, true, true, true, true, true, true, true, true, true, true, true, true, true, true, true, true, true, false, false, false, false, false, false, false, false, false, false, false, false, false, false, false, false, false, false, false, false, false, false, false, false, false] rfl rfl (by kernel_rfl) (fun _ _ _ h => h) (Or.inl ⟨by rfl, ?_⟩) ?_ ?_
     rotate_left
     ·intro w'
      go_simp
      with_reducible rfl
     rotate_left
     ·simp only [Act.put, List.setIfInBounds_toArray, List.set_cons_zero, List.set_cons_succ, i64_w, i32_w]
      rfl
     refine pure_ (i := 22) (N := some 113) (v := ?_) (a' := ?_) #[true, true, true, true, true, true, true, true, true, true, true, true, true, true, true, true, true, true, true, true, true, true, true, false, false, false, false, false, false, false, false, false, false, false, false, false, false, false, false, false, false, false, false, false, false, false, false] rfl rfl (by kernel_rfl) (fun _ _ _ h => h) (Or.inl ⟨by rfl, ?_⟩) ?_ ?_
     rotate_left
     ·intro w'
      go_simp
      with_reducible rfl
     rotate_left
     ·simp only [Act.put, List.setIfInBounds_toArray, List.set_cons_zero, List.set_cons_succ, i64_w, i32_w]
      rfl
     refine pure_ (i := 23) (N := some 114) (v := ?_) (a' := ?_) #[true, true, true, true, true, true, true, true, true, true, true, true, true, true, true, true, true, true, true, true, true, true, true, true, false, false, false, false, false, false, false, false, false, false, false, false, false, false, false, false, false, false, false, false, false, false, false] rfl rfl (by kernel_rfl) (fun _ _ _ h => h) (Or.inl ⟨by rfl, ?_⟩) ?_ ?_
     rotate_left
     ·intro w'
      go_simp
      with_reducible rfl
     rotate_left
     ·simp only [Act.put, List.setIfInBounds_toArray, List.set_cons_zero, List.set_cons_succ, i64_w, i32_w]
      rfl
     refine pure_ (i := 24) (N := some 115) (v := ?_) (a' := ?_) #[true, true, true, true, true, true, true, true, true, true, true, true, true, true, true, true, true, true, true, true, true, true, true, true, true, false, false, false, false, false, false, false, false, false, false, false, false, false, false, false, false, false, false, false, false, false, false] rfl rfl (by kernel_rfl) (fun _ _ _ h => h) (Or.inl ⟨by rfl, ?_⟩) ?_ ?_
     rotate_left
     ·intro w'
      go_simp
      with_reducible rfl
     rotate_left
     ·simp only [Act.put, List.setIfInBounds_toArray, List.set_cons_zero, List.set_cons_succ, i64_w, i32_w]
      rfl
     refine pure_ (i := 25) (N := some 116) (v := ?_) (a' := ?_) #[true, true, true, true, true, true, true, true, true, true, true, true, true, true, true, true, true, true, true, true, true, true, true, true, true, true, false, false, false, false, false, false, false, false, false, false, false, false, false, false, false, false, false, false, false, false, false] rfl rfl (by kernel_rfl) (fun _ _ _ h => h) (Or.inl ⟨by rfl, ?_⟩) ?_ ?_
     rotate_left
     ·intro w'
      go_simp
      with_reducible rfl
     rotate_left
     ·simp only [Act.put, List.setIfInBounds_toArray, List.set_cons_zero, List.set_cons_succ, i64_w, i32_w]
      rfl
     refine pure_ (i := 26) (N := some 117) (v := ?_) (a' := ?_) #[true, true, true, true, true, true, true, true, true, true, true, true, true, true, true, true, true, true, true, true, true, true, true, true, true, true, true, false, false, false, false, false, false, false, false, false, false, false, false, false, false, false, false, false, false, false, false] rfl rfl (by kernel_rfl) (fun _ _ _ h => h) (Or.inl ⟨by rfl, ?_⟩) ?_ ?_
     rotate_left
     ·intro w'
      go_simp
      with_reducible rfl
     rotate_left
     ·simp only [Act.put, List.setIfInBounds_toArray, List.set_cons_zero, List.set_cons_succ, i64_w, i32_w]
      rfl
     refine take_ (i := 27) (N := some 118) (v := ?_) (a' := ?_) #[true, true, true, true, true, true, true, true, true, true, true, true, true, true, true, true, true, true, true, true, true, true, true, true, true, true, true, true, false, false, false, false, false, false, false, false, false, false, false, false, false, false, false, false, false, false, false] rfl rfl (by kernel_rfl) (fun _ _ _ h => h) (Or.inl ⟨by rfl, ?_⟩) hHeld ?_ ?_
     rotate_left
     ·rintro w' ⟨s0, s1⟩
      go_simp
      with_reducible rfl
     rotate_left
     ·simp only [Act.put, List.setIfInBounds_toArray, List.set_cons_zero, List.set_cons_succ, i64_w, i32_w]
      rfl
     refine pure_ (i := 28) (N := some 119) (v := ?_) (a' := ?_) #[true, true, true, true, true, true, true, true, true, true, true, true, true, true, true, true, true, true, true, true, true, true, true, true, true, true, true, true, true, false, false, false, false, false, false, false, false, false, false, false, false, false, false, false, false, false, false] rfl rfl (by kernel_rfl) (fun _ _ _ h => h) (Or.inl ⟨by rfl, ?_⟩) ?_ ?_
     rotate_left
     ·intro w'
      go_simp
      with_reducible rfl
     rotate_left
     ·simp only [Act.put, List.setIfInBounds_toArray, List.set_cons_zero, List.set_cons_succ, i64_w, i32_w]
      rfl
     refine pure_ (i := 29) (N := some 120) (v := ?_) (a' := ?_) #[true, true, true, true, true, true, true, true, true, true, true, true, true, true, true, true, true, true, true, true, true, true, true, true, true, true, true, true, true, true, false, false, false, false, false, false, false, false, false, false, false, false, false, false, false, false, false] rfl rfl (by kernel_rfl) (fun _ _ _ h => h) (Or.inl ⟨by rfl, ?_⟩) ?_ ?_
     rotate_left
     ·intro w'
      go_simp
      with_reducible rfl
     rotate_left
     ·simp only [Act.put, List.setIfInBounds_toArray, List.set_cons_zero, List.set_cons_succ, i64_w, i32_w]
      rfl
     refine pure_ (i := 30) (N := some 121) (v := ?_) (a' := ?_) #[true, true, true, true, true, true, true, true, true, true, true, true, true, true, true, true, true, true, true, true, true, true, true, true, true, true, true, true, true, true, true, false, false, false, false, false, false, false, false, false, false, false, false, false, false, false, false] rfl rfl (by kernel_rfl) (fun _ _ _ h => h) (Or.inl ⟨by rfl, ?_⟩) ?_ ?_
     rotate_left
     ·intro w'
      go_simp
      with_reducible rfl
     rotate_left
     ·simp only [Act.put, List.setIfInBounds_toArray, List.set_cons_zero, List.set_cons_succ, i64_w, i32_w]
      rfl
     refine pure_ (i := 31) (N := some 122) (v := ?_) (a' := ?_) #[true, true, true, true, true, true, true, true, true, true, true, true, true, true, true, true, true, true, true, true, true, true, true, true, true, true, true, true, true, true, true, true, false, false, false, false, false, false, false, false, false, false, false, false, false, false, false] rfl rfl (by kernel_rfl) (fun _ _ _ h => h) (Or.inl ⟨by rfl, ?_⟩) ?_ ?_
     rotate_left
     ·intro w'
      go_simp
      with_reducible rfl
     rotate_left
     ·simp only [Act.put, List.setIfInBounds_toArray, List.set_cons_zero, List.set_cons_succ, i64_w, i32_w]
      rfl
     refine pure_ (i := 32) (N := some 123) (v := ?_) (a' := ?_) #[true, true, true, true, true, true, true, true, true, true, true, true, true, true, true, true, true, true, true, true, true, true, true, true, true, true, true, true, true, true, true, true, true, false, false, false, false, false, false, false, false, false, false, false, false, false, false] rfl rfl (by kernel_rfl) (fun _ _ _ h => h) (Or.inl ⟨by rfl, ?_⟩) ?_ ?_
     rotate_left
     ·intro w'
      go_simp
      with_reducible rfl
     rotate_left
     ·simp only [Act.put, List.setIfInBounds_toArray, List.set_cons_zero, List.set_cons_succ, i64_w, i32_w]
      rfl
     refine pure_ (i := 33) (N := some 124) (v := ?_) (a' := ?_) #[true, true, true, true, true, true, true, true, true, true, true, true, true, true, true, true, true, true, true, true, true, true, true, true, true, true, true, true, true, true, true, true, true, true, false, false, false, false, false, false, false, false, false, false, false, false, false] rfl rfl (by kernel_rfl) (fun _ _ _ h => h) (Or.inl ⟨by rfl, ?_⟩) ?_ ?_
     rotate_left
     ·intro w'
      go_simp
      with_reducible rfl
     rotate_left
     ·simp only [Act.put, List.setIfInBounds_toArray, List.set_cons_zero, List.set_cons_succ, i64_w, i32_w]
      rfl
     refine pure_ (i := 34) (N := some 125) (v := ?_) (a' := ?_) #[true, true, true, true, true, true, true, true, true, true, true, true, true, true, true, true, true, true, true, true, true, true, true, true, true, true, true, true, true, true, true, true, true, true, true, false, false, false, false, false, false, false, false, false, false, false, false] rfl rfl (by kernel_rfl) (fun _ _ _ h => h) (Or.inl ⟨by rfl, ?_⟩) ?_ ?_
     rotate_left
     ·intro w'
      go_simp
      with_reducible rfl
     rotate_left
     ·simp only [Act.put, List.setIfInBounds_toArray, List.set_cons_zero, List.set_cons_succ, i64_w, i32_w]
      rfl
     refine take_ (i := 35) (N := some 126) (v := ?_) (a' := ?_) #[true, true, true, true, true, true, true, true, true, true, true, true, true, true, true, true, true, true, true, true, true, true, true, true, true, true, true, true, true, true, true, true, true, true, true, true, false, false, false, false, false, false, false, false, false, false, false] rfl rfl (by kernel_rfl) (fun _ _ _ h => h) (Or.inl ⟨by rfl, ?_⟩) hHeld ?_ ?_
     rotate_left
     ·rintro w' ⟨s0, s1⟩
      go_simp
      with_reducible rfl
     rotate_left
     ·simp only [Act.put, List.setIfInBounds_toArray, List.set_cons_zero, List.set_cons_succ, i64_w, i32_w]
      rfl
     refine pure_ (i := 37) (N := some 128) (v := ?_) (a' := ?_) #[true, true, true, true, true, true, true, true, true, true, true, true, true, true, true, true, true, true, true, true, true, true, true, true, true, true, true, true, true, true, true, true, true, true, true, true, false, true, false, false, false, false, false, false, false, false, false] rfl rfl (by kernel_rfl) (fun _ _ _ h => h) (Or.inl ⟨by rfl, ?_⟩) ?_ ?_
     rotate_left
     ·intro w'
      go_simp
      with_reducible rfl
     rotate_left
     ·simp only [Act.put, List.setIfInBounds_toArray, List.set_cons_zero, List.set_cons_succ, i64_w, i32_w]
      rfl
     refine pure_ (i := 38) (N := some 129) (v := ?_) (a' := ?_) #[true, true, true, true, true, true, true, true, true, true, true, true, true, true, true, true, true, true, true, true, true, true, true, true, true, true, true, true, true, true, true, true, true, true, true, true, false, true, true, false, false, false, false, false, false, false, false] rfl rfl (by kernel_rfl) (fun _ _ _ h => h) (Or.inl ⟨by rfl, ?_⟩) ?_ ?_
     rotate_left
     ·intro w'
      go_simp
      with_reducible rfl
     rotate_left
     ·simp only [Act.put, List.setIfInBounds_toArray, List.set_cons_zero, List.set_cons_succ, i64_w, i32_w]
      rfl
     refine pure_ (i := 39) (N := some 130) (v := ?_) (a' := ?_) #[true, true, true, true, true, true, true, true, true, true, true, true, true, true, true, true, true, true, true, true, true, true, true, true, true, true, true, true, true, true, true, true, true, true, true, true, false, true, true, true, false, false, false, false, false, false, false] rfl rfl (by kernel_rfl) (fun _ _ _ h => h) (Or.inl ⟨by rfl, ?_⟩) ?_ ?_
     rotate_left
     ·intro w'
      go_simp
      with_reducible rfl
     rotate_left
     ·simp only [Act.put, List.setIfInBounds_toArray, List.set_cons_zero, List.set_cons_succ, i64_w, i32_w]
      rfl
     refine pure_ (i := 40) (N := some 131) (v := ?_) (a' := ?_) #[true, true, true, true, true, true, true, true, true, true, true, true, true, true, true, true, true, true, true, true, true, true, true, true, true, true, true, true, true, true, true, true, true, true, true, true, false, true, true, true, true, false, false, false, false, false, false] rfl rfl (by kernel_rfl) (fun _ _ _ h => h) (Or.inl ⟨by rfl, ?_⟩) ?_ ?_
     rotate_left
     ·intro w'
      go_simp
      with_reducible rfl
     rotate_left
     ·simp only [Act.put, List.setIfInBounds_toArray, List.set_cons_zero, List.set_cons_succ, i64_w, i32_w]
      rfl
     refine pure_ (i := 41) (N := some 132) (v := ?_) (a' := ?_) #[true, true, true, true, true, true, true, true, true, true, true, true, true, true, true, true, true, true, true, true, true, true, true, true, true, true, true, true, true, true, true, true, true, true, true, true, false, true, true, true, true, true, false, false, false, false, false] rfl rfl (by kernel_rfl) (fun _ _ _ h => h) (Or.inl ⟨by rfl, ?_⟩) ?_ ?_
     rotate_left
     ·intro w'
      go_simp
      with_reducible rfl
     rotate_left
     ·simp only [Act.put, List.setIfInBounds_toArray, List.set_cons_zero, List.set_cons_succ, i64_w, i32_w]
      rfl
     refine take_ (i := 42) (N := some 133) (v := ?_) (a' := ?_) #[true, true, true, true, true, true, true, true, true, true, true, true, true, true, true, true, true, true, true, true, true, true, true, true, true, true, true, true, true, true, true, true, true, true, true, true, false, true, true, true, true, true, true, false, false, false, false] rfl rfl (by kernel_rfl) (fun _ _ _ h => h) (Or.inl ⟨by rfl, ?_⟩) hHeld ?_ ?_
     rotate_left
     ·rintro w' ⟨s0, s1⟩
      go_simp
      with_reducible rfl
     rotate_left
     ·simp only [Act.put, List.setIfInBounds_toArray, List.set_cons_zero, List.set_cons_succ, i64_w, i32_w]
      rfl
     refine one_ (i := 36) (N := some 127) #[true, true, true, true, true, true, true, true, true, true, true, true, true, true, true, true, true, true, true, true, true, true, true, true, true, true, true, true, true, true, true, true, true, true, true, true, true, true, true, true, true, true, true, false, false, false, false] rfl rfl (by kernel_rfl) (by decide) (fun K hK => ?_)
     refine call_ 24 #[.pointer (some ⟨g, 0, none⟩), .int .i64 n0] ?hw rfl ?hr ?_
     case hw => rfl
     case hr => simp [execOp, resolve, Deferred.ofValue, invoke, Act.eval, eg24]
     refine (step_calls (SWR.out.below (below_drew (Below.refl wr.heap.size wr))) hQQ.out.good IN.out (wf_kids HW.out) (valid_len (start_in hQQ.out.start).1) n0 OI.out).mono ?_
     rintro e w1 ⟨he, ha⟩
     rw [← STE.out] at he ha
     rw [SB.out] at he
     subst he
     obtain ⟨F', nm', vw', f', hsw', hF', hu⟩ := ha
     refine ⟨_, rfl, ?_⟩
     have Q1 := Aside0.mk ((hQQ.out.step (below_drew (Below.refl wr.heap.size wr))).turned FB.out.1 FB.out.2.1 FB.out.2.2.1 FB.out.2.2.2.1 hu (Kd.F_below FB.out.2.2.2.2 (below_drew (Below.refl wr.heap.size wr))) hsw' hF' INV.out GOOD.out hQQ.out.start)
     clear hsw' hF' hu
     have hx := And.intro ((Q1.out.below.cell (World.block_lt_of_cell? _ _ X0.out)).trans X0.out) ((Q1.out.below.cell (World.block_lt_of_cell? _ _ X1.out)).trans X1.out)
     have HX := Aside0.mk hx
     clear hx
     clear hHeld
     refine hK.out _ _ HX.out (fun hHeld => ?_)
     clear hK K
     refine norm_ (a' := ?_) ?_ ?_
     rotate_left
     ·show Act.put _ (some 127) _ = _
      simp only [Act.put, List.setIfInBounds_toArray, List.set_cons_zero, List.set_cons_succ, i64_w, i32_w]
      rfl
     refine one_ (i := 43) (N := some 134) #[true, true, true, true, true, true, true, true, true, true, true, true, true, true, true, true, true, true, true, true, true, true, true, true, true, true, true, true, true, true, true, true, true, true, true, true, true, true, true, true, true, true, true, true, false, false, false] rfl rfl (by kernel_rfl) (by decide) (fun K hK => ?_)
     refine call_ 25 #[.pointer (some ⟨g2, 0, none⟩), .int .i64 n0] ?hw rfl ?hr ?_
     case hw => rfl
     case hr => simp [execOp, resolve, Deferred.ofValue, invoke, Act.eval, eg25]
     refine (rstep_calls (p := st.pops gs.length) (q := st'.pops gs.length) Q1.out.rw (HG.out _ Q1.out.below) HC0.out hQQ.out.start (wf_kids HW.out) (by have := hal.out; have := HOL.out; omega) n0 PL.out PQ.out Q1.out.below.size).mono ?_
     rintro e w2 ⟨he, hrw, hu⟩
     rw [RB.out] at he
     subst he
     refine ⟨_, rfl, ?_⟩
     have Q2 := Aside0.mk (Q1.out.reffed (hu.mono (fun k hk => .inl hk)) hrw (fun k hk => .inl hk))
     clear hrw hu
     have hx := And.intro ((Q2.out.below.cell (World.block_lt_of_cell? _ _ X0.out)).trans X0.out) ((Q2.out.below.cell (World.block_lt_of_cell? _ _ X1.out)).trans X1.out)
     have HX := Aside0.mk hx
     clear hx
     clear hHeld
     refine hK.out _ _ HX.out (fun hHeld => ?_)
     clear hK K
     refine norm_ (a' := ?_) ?_ ?_
     rotate_left
     ·show Act.put _ (some 134) _ = _
      simp only [Act.put, List.setIfInBounds_toArray, List.set_cons_zero, List.set_cons_succ, i64_w, i32_w]
      rfl
     refine pure_ (i := 44) (N := some 135) (v := ?_) (a' := ?_) #[true, true, true, true, true, true, true, true, true, true, true, true, true, true, true, true, true, true, true, true, true, true, true, true, true, true, true, true, true, true, true, true, true, true, true, true, true, true, true, true, true, true, true, true, true, false, false] rfl rfl (by kernel_rfl) (fun _ _ _ h => h) (Or.inl ⟨by rfl, ?_⟩) ?_ ?_
     rotate_left
     ·intro w'
      go_simp
      with_reducible rfl
     rotate_left
     ·simp only [Act.put, List.setIfInBounds_toArray, List.set_cons_zero, List.set_cons_succ, i64_w, i32_w]
      rfl
     refine pure_ (i := 45) (N := some 136) (v := ?_) (a' := ?_) #[true, true, true, true, true, true, true, true, true, true, true, true, true, true, true, true, true, true, true, true, true, true, true, true, true, true, true, true, true, true, true, true, true, true, true, true, true, true, true, true, true, true, true, true, true, true, false] rfl rfl (by kernel_rfl) (fun _ _ _ h => h) (Or.inl ⟨by rfl, ?_⟩) ?_ ?_
     rotate_left
     ·intro w'
      go_simp
      with_reducible rfl
     rotate_left
     ·simp only [Act.put, List.setIfInBounds_toArray, List.set_cons_zero, List.set_cons_succ, i64_w, i32_w]
      rfl
     refine pure_ (i := 46) (N := some 137) (v := ?_) (a' := ?_) #[true, true, true, true, true, true, true, true, true, true, true, true, true, true, true, true, true, true, true, true, true, true, true, true, true, true, true, true, true, true, true, true, true, true, true, true, true, true, true, true, true, true, true, true, true, true, true] rfl rfl (by kernel_rfl) (fun _ _ _ h => h) (Or.inl ⟨by rfl, ?_⟩) ?_ ?_
     rotate_left
     ·intro w'
      go_simp
      with_reducible rfl
     rotate_left
     ·simp only [Act.put, List.setIfInBounds_toArray, List.set_cons_zero, List.set_cons_succ, i64_w, i32_w]
      rfl
     refine done_ (by kernel_rfl) ?_
     have QE := Aside0.mk (show QQ w w2 gb g g2 A0 c0 gs al st' vr al ((st'.pops gs.length : Nat) : Int) from Q2.out)
     have ALE := Aside0.mk (show al.length ≤ 60 + (i + 1) by have := hal.out; omega)
     obtain ⟨al', hal'⟩ : ∃ al', al' = al := ⟨_, rfl⟩
     obtain ⟨vr', hvr'⟩ : ∃ vr', vr' = vr := ⟨_, rfl⟩
     rw [← hal', ← hvr'] at QE
     rw [← hal'] at ALE
     clear hal' hvr' Q1 Q2
     have hw := HWS.out
     obtain ⟨F2, Ag2, cg2, vs2, bm2, nm2, vw2, f2, hsw2, _⟩ := QE.out.sw
     have SW2 := Aside0.mk hsw2
     clear hsw2
     obtain ⟨d, hd⟩ : ∃ d, d = resG gs (marksS gs al') gs.length := ⟨_, rfl⟩
     obtain ⟨m, hm⟩ : ∃ m, m = al'.map (plOf (marksS gs al')) := ⟨_, rfl⟩
     have KE2 := Aside0.mk (show keepS gs al' = (d, m, 0) by unfold keepS; rw [if_pos QE.out.start, hd, hm])
     have DE := Aside0.mk hd
     have ME := Aside0.mk hm
     have PD := Aside0.mk (pops_done QE.out.start QE.out.inv QE.out.good)
     have PLE := Aside0.mk (pops_le QE.out.start QE.out.inv QE.out.good)
     clear hd hm
     obtain ⟨ks2, hks⟩ := same_f (gs := d) (by rw [DE.out, resG_length]; have := cnt_le (marksS gs al') gs.length; have := valid_len (start_in QE.out.start).1; omega) (wf_kids (by rw [DE.out]; exact resG_wf (start_in QE.out.start).1 HW.out))
     obtain ⟨ki2, hki⟩ := ints_f (l := m) (by rw [ME.out, List.length_map]; have := ALE.out; have := HOL.out; omega)
     have KS2 := Aside0.mk (hks ks2 (Nat.le_refl _))
     have KI2 := Aside0.mk (hki ki2 (Nat.le_refl _))
     clear hks hki
     have HW' := Aside0.mk hw
     clear hw
     go_wp2_with (first
      | (go_at_call 26; have hk_ := result_waits SW2.out HW'.out; (with_reducible refine hk_.mono ?_); rintro e w3 ⟨rfl, hb⟩; have D3 := Aside0.mk hb; clear hb hk_)
      | ((with_reducible refine gate_dst (N := 19) rfl ?_); refine box_event ?bg19 (N := 19) ?bd19 (cs := #[.slice none 0 0]) (t := 24) ?br19 ?_; (case bd19 => rfl); (case bg19 => rfl); (case br19 => first | (go_simp; done) | (go_simp; rfl)); intro b19 hg w4 hbox hb; have ALb := Aside0.mk hb; have BXb := Aside0.mk hbox; have GBb := Aside0.mk hg; have zb := blk_frozen hbox 0; have qb : w4.cell? ⟨b19, 0, none⟩ = some (.slice none 0 0) := (blk_cell hbox 0).trans rfl; clear hg hbox hb)
      | ((with_reducible refine gate_store (t := 24) (p := 19) rfl ?_); refine store_event (t := 24) (p := 19) (w1 := w4.setCell ⟨b19, 0, none⟩ (.slice none 0 0)) rfl rfl rfl ?st19 ?_; (case st19 => first | (go_simp; done) | (go_simp; rfl)); intro w5 hwk; have hB : Below w3.heap.size w3 w5 := (by rw [hwk]; exact ALb.out.setCell (p := ⟨b19, 0, none⟩) (Nat.le_of_eq GBb.out.symm) _); have hbx : w5.heap[b19]? = some (.cells #[.slice none 0 0] 24 (0, 0)) := (by rw [hwk]; exact blk_put (cs := #[.slice none 0 0]) BXb.out 0 _ rfl); clear hwk; have D5 := Aside0.mk (D3.out.trans (hB.mono D3.out.size)); have B19 := Aside0.mk hbx; clear hB hbx zb qb)
      | (go_at_call 27; have hk_ := rresult_waits (p := st'.pops gs.length) (QE.out.rw.below D5.out) (HG.out _ (QE.out.below.trans (D5.out.mono QE.out.below.size))) HC0.out QE.out.start (wf_kids HW.out) (by have := ALE.out; have := HOL.out; omega) (by rcases Nat.lt_or_ge (st'.pops gs.length) (reachN gs al') with h | h; exact h; exact absurd (PD.out.1 (Nat.le_antisymm PLE.out h)) HW'.out); (with_reducible refine hk_.mono ?_); rintro e w6 ⟨rfl, hb⟩; have D6 := Aside0.mk (D5.out.trans (hb.mono D5.out.size)); have B196 := Aside0.mk ((hb.block b19 (blk_lt B19.out)).trans B19.out); clear hb hk_)
      | ((with_reducible refine gate_dst (N := 22) rfl ?_); refine box_event ?bg22 (N := 22) ?bd22 (cs := #[.slice none 0 0]) (t := 24) ?br22 ?_; (case bd22 => rfl); (case bg22 => rfl); (case br22 => first | (go_simp; done) | (go_simp; rfl)); intro b22 hg w7 hbox hb; have ALb := Aside0.mk hb; have BXb := Aside0.mk hbox; have GBb := Aside0.mk hg; have zb := blk_frozen hbox 0; have qb : w7.cell? ⟨b22, 0, none⟩ = some (.slice none 0 0) := (blk_cell hbox 0).trans rfl; clear hg hbox hb)
      | ((with_reducible refine gate_store (t := 24) (p := 22) rfl ?_); refine store_event (t := 24) (p := 22) (w1 := w7.setCell ⟨b22, 0, none⟩ (.slice none 0 0)) rfl rfl rfl ?st22 ?_; (case st22 => first | (go_simp; done) | (go_simp; rfl)); intro w8 hwk; have hB : Below w6.heap.size w6 w8 := (by rw [hwk]; exact ALb.out.setCell (p := ⟨b22, 0, none⟩) (Nat.le_of_eq GBb.out.symm) _); have hbx : w8.heap[b22]? = some (.cells #[.slice none 0 0] 24 (0, 0)) := (by rw [hwk]; exact blk_put (cs := #[.slice none 0 0]) BXb.out 0 _ rfl); clear hwk; have D8 := Aside0.mk (D6.out.trans (hB.mono D6.out.size)); have c19 : w8.cell? ⟨b19, 0, none⟩ = some (.slice none 0 0) := (blk_cell ((hB.block b19 (blk_lt B196.out)).trans B196.out) 0).trans rfl; have c22 : w8.cell? ⟨b22, 0, none⟩ = some (.slice none 0 0) := (blk_cell hbx 0).trans rfl; clear hB hbx zb qb)
      | (go_at_call 20; have hk_ := same_nil w8 0 0; (with_reducible refine hk_.mono ?_); rintro e w9 ⟨rfl, hb⟩; have D9 := Aside0.mk (D8.out.trans (hb.mono D8.out.size)); clear hb hk_)
      | (go_at_call 21; have hk_ := ints_nil w9; (with_reducible refine hk_.mono ?_); rintro e w10 ⟨rfl, hb⟩; have D10 := Aside0.mk (D9.out.trans (hb.below.mono D9.out.size)); clear hb hk_))
     go_roundg (ops.length - (i + 1))
     case measure => omega
     case rel => exact ⟨i + 1, al', st', vr', by omega, by omega, (by have := HOL.out; rw [wrap_nat (by omega)]), ⟨QE.out.step D10.out⟩, ALE⟩
  ·obtain rfl : i = ops.length := by omega
   have HBl := Aside0.mk hQQ.out.below
   go_wp2
   go_ret
   exact ⟨rfl, HBl.out⟩

theorem match_walk (A0 : Option Addr) (c0 : Nat) (gs : List S50) (A1 : Option Addr) (c1 : Nat) (rs : List Int) (A2 : Option Addr) (c2 : Nat) (ops : List S41) (w : World) (hT : Tabs w) (h0 : Kd.C k50 w A0 gs.length gs) (hc0 : gs.length ≤ c0) (h1 : Kd.C (Kd.int .i64) w A1 rs.length rs) (hc1 : rs.length ≤ c1) (h2 : Kd.C k41 w A2 ops.length ops) (hc2 : ops.length ≤ c2)
  (hg : ∀ g ∈ gs, goodG g) (hi : ∀ o ∈ ops, in64 o.f1) :
  Calls Tryd.prog 3 #[.agg #[.slice A0 gs.length c0], .slice A1 rs.length c1, .slice A2 ops.length c2] w fun e w' => e = .returned (.bool true) ∧ Below w.heap.size w w' := by
 cases hf : fewB gs rs ops.length with
 | false => exact match_many A0 c0 gs A1 c1 rs A2 c2 ops w hT h0 hc0 h1 hc1 h2 hc2 hg hi hf
 | true =>
  cases hs : startS gs rs with
  | false => exact match_nil A0 c0 gs A1 c1 rs A2 c2 ops w hT h0 hc0 h1 hc1 h2 hc2 hg hi hf hs
  | true => exact match_made A0 c0 gs A1 c1 rs A2 c2 ops w hT h0 hc0 h1 hc1 h2 hc2 hg hi hf hs
end Go.Proofs.YtcafgpfecfocnaaDoor.P

/- What the rows of the laws about sweeps share: the table out of the row's list, a world that holds the listed tables, an argument laid open. -/
namespace Go.Proofs.YtcafgpfecfocnaaDoor.RowBits
open Go.ChangeShapes Go.WideShapes Go.ChangeAt Go.RowKit Go.Proofs.YtcafgpfecfocnaaDoor.P Go.Proofs.YtcafgpfecfocnaaDoorW.PrintWords
set_option linter.unusedVariables false
set_option linter.unusedSimpArgs false

theorem own : ownKnob Tryd.prog.godebug = none := by kernel_rfl
theorem laidOut : laidOutB Tryd.prog = true := by kernel_rfl
theorem gPow : Tryd.prog.globalNamed "internal/strconv.uint64pow10" = some 0 := by kernel_rfl
theorem gPowType : (Tryd.prog.globals[0]?).map (·.type) = some 165 := by kernel_rfl
theorem cells165 : Tryd.prog.cellsOf 165 = 20 := by kernel_rfl
theorem cellsU64 : Tryd.prog.cellsOf 148 = 1 := by kernel_rfl
theorem powData : (Rows.laid_internal_strconv_uint64pow10 : DataW Unit) = Lib.tabData .u64 Lib.pow10Tab := by kernel_rfl

/-- What the rows list. -/
abbrev laid : List (String × DataW Unit) := [("math/bits.deBruijn32tab", Rows.laid_math_bits_deBruijn32tab), ("math/bits.deBruijn64tab", Rows.laid_math_bits_deBruijn64tab), ("internal/strconv.uint64pow10", Rows.laid_internal_strconv_uint64pow10)]
theorem table {W : World} (h : laidMetH Tryd.prog laid W) : Tabs W := by
  have h1 : laidMet Tryd.prog laid W := h
  have h2 := laidMet.tail (laidMet.tail h1)
  rw [powData] at h2
  exact Lib.tabIs_of_head gPow gPowType Tryd.underlying165 Tryd.underlying148 cellsU64 cells165 h2

def put (cs : Array Value) : Obj → Obj
  | .cells _ t frozen => .cells cs t frozen
  | o => o
def litVal : DataW Unit → Value
  | .lit (.int k n) => .int k n
  | _ => .bool false
def cellsOfD : DataW Unit → Array Value
  | .agg l => (l.map litVal).toArray
  | _ => #[]
/-- A world for the witness: the settled one, the tables holding what their initialisers lay. -/
noncomputable def laidWorld (os : Os) : World :=
  { World.holding Tryd.prog os ⟨#[], #[], []⟩ with heap := (((World.holding Tryd.prog os ⟨#[], #[], []⟩).heap.modify 0 (put (cellsOfD Rows.laid_internal_strconv_uint64pow10))).modify 2 (put (cellsOfD Rows.laid_math_bits_deBruijn32tab))).modify 3 (put (cellsOfD Rows.laid_math_bits_deBruijn64tab)) }
theorem laid_met (os : Os) (args : Array Value) : laidMet Tryd.prog laid ((laidWorld os).forCall (fun _ _ => 0) ⟨#[], args, []⟩).memory :=
  laidMet_of_run' 8 (by kernel_rfl) (by kernel_rfl)

section
variable {H : Type} {enc : TypeId × Value → H} {W : World} {base : Nat}
set_option maxRecDepth 100000 in
/-- A circuit that came in. -/
theorem open_circuit {spare : Nat → Bool} {held : Bool} {v : Value} {d : DataW H} {p : List MemPlace} (hval : Value.okWide Tryd.prog W .any base 24 v) (h : DataW.Trod enc Tryd.prog W 0 spare held 24 v d p) :
    ∃ A c, ∃ gs : List S50, v = .agg #[.slice A gs.length c] ∧ gs.length ≤ c ∧ Kd.C k50 W A gs.length gs ∧ ∀ g ∈ gs, goodG g := by
  have c24 : Tryd.prog.cellsOf 24 = 1 := by kernel_rfl
  have c22 : Tryd.prog.cellsOf 22 = 1 := by kernel_rfl
  obtain ⟨cs, rfl, hs⟩ := okWide_struct Tryd.underlying24 hval
  obtain ⟨fuel, hf⟩ := h
  obtain ⟨y0, n, _, hl, h0⟩ := trod_struct1 Tryd.underlying24 hf
  rw [c24] at hl hs
  rw [c22] at h0
  obtain ⟨c0, rfl⟩ : ∃ c0, cs = #[c0] := by
    obtain ⟨l⟩ := cs
    match l, hs with
    | [c0], _ => exact ⟨c0, rfl⟩
  have e0 : DataW.trod enc Tryd.prog W 0 spare held n 22 [c0] = some y0 := h0
  have hs : ∃ a len cap, c0 = .slice a len cap := by
    rcases Go.Deep.open_slice Tryd.underlying22 e0 with ⟨hcs, _⟩ | ⟨ad, len', cap', m, n, D, Pl, hcs, _⟩
    · exact ⟨_, _, _, by simpa using hcs⟩
    · exact ⟨_, _, _, by simpa using hcs⟩
  obtain ⟨a, len, cap, rfl⟩ := hs
  obtain ⟨gs, hll, hlc, hC, hin⟩ := open_gates Tryd.underlying22 e0
  subst hll
  exact ⟨a, cap, gs, rfl, hlc, hC, hin⟩
set_option maxRecDepth 100000 in
/-- Numbers that came in. -/
theorem open_nums {spare : Nat → Bool} {held : Bool} {v : Value} {d : DataW H} {p : List MemPlace} (hval : Value.okWide Tryd.prog W .any base 25 v) (h : DataW.Trod enc Tryd.prog W 0 spare held 25 v d p) :
    ∃ A c, ∃ l : List Int, v = .slice A l.length c ∧ l.length ≤ c ∧ Kd.C (Kd.int .i64) W A l.length l ∧ ∀ k ∈ l, in64 k := by
  obtain ⟨a, len, cap, rfl⟩ := okWide_slice Tryd.underlying25 hval
  obtain ⟨fuel, hf⟩ := h
  obtain ⟨l, hll, hlc, hC, hin⟩ := open_list64 Tryd.underlying25 Tryd.underlying3 (by kernel_rfl) hf
  subst hll
  exact ⟨a, cap, l, rfl, hlc, hC, hin⟩
end
end Go.Proofs.YtcafgpfecfocnaaDoor.RowBits

/- A list of operations that came in as an argument, laid open. -/
namespace Go.Proofs.YtcafgpfecfocnaaDoor.RowBits
open Go.ChangeShapes Go.WideShapes Go.ChangeAt Go.RowKit Go.Proofs.YtcafgpfecfocnaaDoor.P Go.Proofs.YtcafgpfecfocnaaDoorW.PrintWords
set_option linter.unusedVariables false
set_option linter.unusedSimpArgs false

section
variable {H : Type} {enc : TypeId × Value → H} {W : World} {base : Nat}
theorem two {cs : List Value} (h : cs.length = 2) : ∃ c0 c1, cs = [c0, c1] := by
  match cs, h with
  | [c0, c1], _ => exact ⟨_, _, rfl⟩
theorem open_op {spare : Nat → Bool} {held : Bool} {fuel : Nat} {cs : List Value} {x : DataW H × List MemPlace} (h : DataW.trod enc Tryd.prog W 0 spare held fuel 41 cs = some x) : ∃ o : S41, k41.K W o cs ∧ in64 o.f1 := by
  have c41 : Tryd.prog.cellsOf 41 = 2 := by kernel_rfl
  have d3 : Tryd.prog.cellsOf 3 = 1 := by kernel_rfl
  have d4 : Tryd.prog.cellsOf 4 = 1 := by kernel_rfl
  obtain ⟨y0, y1, n, _, hl, h0, h1⟩ := trod_struct2 Tryd.underlying41 h
  have hl2 : cs.length = 2 := hl.trans c41
  clear hl
  obtain ⟨c0, c1, rfl⟩ := two hl2
  rw [d4] at h0
  rw [d3] at h1
  have e0 : DataW.trod enc Tryd.prog W 0 spare held n 4 [c0] = some y0 := h0
  have e1 : DataW.trod enc Tryd.prog W 0 spare held n 3 [c1] = some y1 := h1
  obtain ⟨b, hb, _⟩ := DataW.trod_bool Tryd.underlying4 e0
  obtain ⟨n1, hn1, _, hw1⟩ := DataW.trod_int Tryd.underlying3 e1
  obtain rfl : c0 = .bool b := by simpa using hb
  obtain rfl : c1 = .int .i64 n1 := by simpa using hn1
  exact ⟨⟨b, n1⟩, k41_mk W ⟨b, n1⟩, wf_in64 hw1⟩
set_option maxRecDepth 100000 in
theorem open_ops {spare : Nat → Bool} {held : Bool} {v : Value} {d : DataW H} {p : List MemPlace} (hval : Value.okWide Tryd.prog W .any base 26 v) (h : DataW.Trod enc Tryd.prog W 0 spare held 26 v d p) :
    ∃ A c, ∃ l : List S41, v = .slice A l.length c ∧ l.length ≤ c ∧ Kd.C k41 W A l.length l ∧ ∀ o ∈ l, in64 o.f1 := by
  have c2 : Tryd.prog.cellsOf 41 = 2 := by kernel_rfl
  obtain ⟨a, len, cap, rfl⟩ := okWide_slice Tryd.underlying26 hval
  obtain ⟨fuel, hf⟩ := h
  have hf' : DataW.trod enc Tryd.prog W 0 spare held fuel 26 [.slice a len cap] = some (d, p) := hf
  rcases Go.Deep.open_slice Tryd.underlying26 hf' with ⟨hcs, _⟩ | ⟨ad, len', cap', m, n, D, Pl, hcs, _, hl, hm, hmm, _, hx⟩
  · simp at hcs
    obtain ⟨rfl, rfl, rfl⟩ := hcs
    exact ⟨none, 0, [], rfl, Nat.le_refl _, ⟨rfl, by decide, fun h => absurd h (by decide)⟩, fun k hk => by simp at hk⟩
  · simp at hcs
    obtain ⟨rfl, rfl, rfl⟩ := hcs
    have hlm : len ≤ m := by rw [hmm]; split <;> omega
    have hcap := maxLen_le hm
    letI : Inhabited S41 := ⟨z41⟩
    obtain ⟨G, hG⟩ := Go.Deep.choose_lt (α := S41) (n := len) (p := fun j g => (∃ c : List Value, c.length = 2 ∧ k41.K W g c ∧ ∀ i u, c[i]? = some u → W.cell? (ad.add (j * 2 + i)) = some u) ∧ in64 g.f1) (fun j hj => by
      obtain ⟨cs', h1, h2⟩ := hx j (by omega)
      rw [c2] at h1
      obtain ⟨_, hlen, hcell⟩ := World.cells?_some h1
      obtain ⟨g, hg1, hg2⟩ := open_op h2
      refine ⟨g, ⟨cs', hlen, hg1, fun i u hu => ?_⟩, hg2⟩
      have hi : i < 2 := by
        have := (List.getElem?_eq_some_iff.1 hu).1
        omega
      have h3 := hcell i hi
      rw [Go.Deep.add_add] at h3
      rw [h3, hu])
    have hlen : ((List.range len).map G).length = len := by simp
    refine ⟨some ad, cap, (List.range len).map G, by rw [hlen], by rw [hlen]; exact hl, ?_, fun g hg => ?_⟩
    · rw [hlen]
      refine ⟨hlen, by omega, fun _ => ⟨ad, rfl, fun j p hj => ?_⟩⟩
      obtain ⟨hjl, hjp⟩ := List.getElem?_eq_some_iff.1 hj
      simp at hjp
      subst hjp
      exact (hG j (by omega)).1
    · obtain ⟨j, hj, rfl⟩ := List.mem_map.1 hg
      exact (hG j (by simpa using hj)).2
end
end Go.Proofs.YtcafgpfecfocnaaDoor.RowBits

namespace Go.Proofs.YtcafgpfecfocnaaDoor.reapMatchesReference
open Go.ChangeShapes Go.WideShapes Go.ChangeAt Go.RowKit Go.Proofs.YtcafgpfecfocnaaDoor.P Go.Proofs.YtcafgpfecfocnaaDoorW.PrintWords Go.Proofs.YtcafgpfecfocnaaDoor.RowBits

set_option maxRecDepth 100000 in
theorem contract (H : Type) (enc : TypeId × Value → H) (W : World) (base : Nat) (args : Array Value) (ds gs : List (DataW H)) (before : List MemPlace)
    (hval : ∀ (j : Nat) t v, Tryd.f3.params[j]? = some t → args[j]? = some v → Value.okWide Tryd.prog W .any base t v)
    (hW : DataW.Whole enc Tryd.prog Tryd.f3.params.toList Rows.reapMatchesReferenceSpec.vars false W args.toList ds gs before) (hL : laidMetH Tryd.prog Rows.reapMatchesReferenceRow.laid W) :
    Calls Tryd.prog 3 args W fun e W' => ∃ v, e = .returned v ∧ Rows.reapMatchesReferenceSpec.post enc Tryd.prog Tryd.f3 false true false false W args v W' := by
  have hW' := hW
  obtain ⟨p, q, hA0, hV, rfl, hfz, hnd⟩ := hW
  have hA : DataW.TrodAll enc Tryd.prog W 0 (fun _ => true) true Tryd.f3.params.toList args.toList ds p := hA0
  rw [Tryd.params3] at hA hval
  obtain ⟨v0, vs0, d0, ds0, p0, q0, hargs, rfl, rfl, h0, r0⟩ := trodAll_cons hA
  obtain ⟨v1, vs1, d1, ds1, p1, q1, rfl, rfl, rfl, h1, r1⟩ := trodAll_cons r0
  obtain ⟨v2, vs2, d2, ds2, p2, q2, rfl, rfl, rfl, h2, r2⟩ := trodAll_cons r1
  obtain ⟨rfl, rfl, rfl⟩ := trodAll_nil r2
  obtain rfl : args = #[v0, v1, v2] := by cases args; simp_all
  obtain ⟨rfl, rfl⟩ := trodVars_none hV
  have k0 := h0
  have lt0 : ∀ x ∈ p0, x.block < W.heap.size := by obtain ⟨m, hm⟩ := k0; exact DataW.trod_lt m _ _ _ hm
  have k1 := h1
  have lt1 : ∀ x ∈ p1, x.block < W.heap.size := by obtain ⟨m, hm⟩ := k1; exact DataW.trod_lt m _ _ _ hm
  have k2 := h2
  have lt2 : ∀ x ∈ p2, x.block < W.heap.size := by obtain ⟨m, hm⟩ := k2; exact DataW.trod_lt m _ _ _ hm
  obtain ⟨A0, c0, l0, rfl, hc0, hC0, hg0⟩ := open_circuit (hval 0 24 v0 rfl rfl) h0
  obtain ⟨A1, c1, l1, rfl, hc1, hC1, hn1⟩ := open_nums (hval 1 25 v1 rfl rfl) h1
  obtain ⟨A2, c2, l2, rfl, hc2, hC2, ho2⟩ := open_ops (hval 2 26 v2 rfl rfl) h2
  clear hA0
  refine (match_walk A0 c0 l0 A1 c1 l1 A2 c2 l2 W (table hL) hC0 hc0 hC1 hc1 hC2 hc2 hg0 ho2).mono fun e W' ⟨he, bel⟩ => ?_
  subst he
  exact ⟨_, rfl, _, _, _, [], _, [], hW', trodAll_mk1 (shut_bool Tryd.underlying4 _), (trodAll_cons_mk (Below.trod laidOut (by kernel_rfl) (of_decide_eq_true (by kernel_rfl)) k0 bel lt0) (trodAll_cons_mk (Below.trod laidOut (by kernel_rfl) (of_decide_eq_true (by kernel_rfl)) k1 bel lt1) (trodAll_cons_mk (Below.trod laidOut (by kernel_rfl) (of_decide_eq_true (by kernel_rfl)) k2 bel lt2) trodAll_mk0))), rfl, bel.frame _, fun h => by cases h⟩
theorem reads (os : Os) {H : Type} (enc : TypeId × Value → H) : ∃ places, DataW.whole enc Tryd.prog ((laidWorld os).forCall (fun _ _ => 0) ⟨#[], #[.agg #[.slice none 0 0], .slice none 0 0, .slice none 0 0], []⟩).memory Tryd.f3.params.toList Rows.reapMatchesReferenceSpec.vars false #[Value.agg #[.slice none 0 0], Value.slice none 0 0, Value.slice none 0 0].toList 8 = some ([.agg [.nil], .nil, .nil], [], places) :=
  ⟨[], by kernel_rfl⟩
set_option maxRecDepth 100000 in
theorem lifted (os : Os) (started : os.Started) (H : Type) (enc : TypeId × Value → H) (F : Stop.Interp) :
    ReturnsInHanded {} Tryd.checked os 3 .any ((OpenSpec.ofChange Rows.reapMatchesReferenceSpec).preRow enc Tryd.prog Tryd.f3 Rows.reapMatchesReferenceRow.domain false Rows.reapMatchesReferenceRow.laid) (((OpenSpec.ofChange Rows.reapMatchesReferenceSpec).at F).post enc Tryd.prog Tryd.f3 false true false false) := by
  obtain ⟨places, hx⟩ := reads os enc
  refine returnsInHanded_of_row (C := Tryd.checked) (s := OpenSpec.ofChange Rows.reapMatchesReferenceSpec) own started (by kernel_rfl) Tryd.func3
    (witness_row_at (enc := enc) (C := Tryd.checked) false (laidWorld os) #[.agg #[.slice none 0 0], .slice none 0 0, .slice none 0 0] rfl (by kernel_rfl) (by kernel_rfl) (by kernel_rfl)
      (OpenSpec.preRow_of_cond 8 hx (by kernel_rfl) (fun k hk => by cases hk) (by kernel_rfl) (laid_met os _))) ?_
  intro W base args ds gs before hval hW _ _ _ hL _ _
  exact contract H enc W base args ds gs before hval hW hL
theorem said : Rows.ReapMatchesReferenceSaid :=
  OpenClaim.holds_of_cond 3 Tryd.f3 rfl rfl rfl rfl rfl rfl rfl ⟨rfl, rfl, rfl, rfl, rfl⟩ rfl rfl rfl rfl rfl (by kernel_rfl) Tryd.func3 (by kernel_rfl)
    (of_decide_eq_true (by kernel_rfl)) (by unfold Func.isWrapper; first | (rw [if_pos (by decide +kernel)]; kernel_rfl) | (rw [if_neg (by decide +kernel)]; exact ⟨rfl, rfl⟩))
    (fun os started H enc _ F => by rw [OpenClaim.pre_eq_preRow]; exact lifted os started H enc F)
theorem plain (f : FuncId) (fn : Func) (hf : Tryd.pinned.checked.prog.funcNamed "cleanse/cleanselaw18.ReapMatchesReference" = some f) (hfn : Tryd.pinned.checked.prog.funcs[f]? = some fn) :
    false = Tryd.pinned.checked.prog.looks [] ∧ ∀ (j : Nat) t, fn.params[j]? = some t → Tryd.pinned.checked.prog.wantsStandIn t = false := by
  obtain rfl : f = 3 := Option.some.inj ((show Tryd.prog.funcNamed "cleanse/cleanselaw18.ReapMatchesReference" = some 3 by kernel_rfl).symm.trans hf) |>.symm
  obtain rfl : fn = Tryd.f3 := (Option.some.inj (Tryd.func3.symm.trans hfn)).symm
  refine ⟨by kernel_rfl, fun j t ht => ?_⟩
  rw [Tryd.params3] at ht
  have hm := Array.mem_of_getElem? ht
  simp only [List.mem_toArray, List.mem_cons, List.not_mem_nil, or_false] at hm
  rcases hm with rfl | rfl | rfl
  · exact (show Tryd.prog.wantsStandIn 24 = false by kernel_rfl)
  · exact (show Tryd.prog.wantsStandIn 25 = false by kernel_rfl)
  · exact (show Tryd.prog.wantsStandIn 26 = false by kernel_rfl)
/-- The card. -/
theorem card : Rows.ReapMatchesReferenceCardSaid :=
  Claim7.holds_tied_plain_at .later [] _ _ _ _ said (fun _ h => by cases h) (by kernel_rfl) (fun _ h => by cases h) reapMatchesReference_row_tie rfl ⟨rfl, rfl⟩ (by kernel_rfl) rfl plain (by kernel_rfl)
end Go.Proofs.YtcafgpfecfocnaaDoor.reapMatchesReference
namespace Go.Proofs.YtcafgpfecfocnaaDoor
theorem reapMatchesReference_holds : Rows.ReapMatchesReferenceCardSaid := reapMatchesReference.card
end Go.Proofs.YtcafgpfecfocnaaDoor
