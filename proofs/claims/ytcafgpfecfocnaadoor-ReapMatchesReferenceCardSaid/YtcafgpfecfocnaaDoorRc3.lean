/- What the claim's proof needs: MatchN. -/
import Derived.Test.YtcafgpfecfocnaaDoorRc2
/- The walk of the law against the reference. Written by gen_rmr.py. -/
namespace Go.Proofs.YtcafgpfecfocnaaDoor.P
open Go.RowKit Go.Maps Go.Proofs.YtcafgpfecfocnaaDoorW.PrintWords Go.Proofs.YtcafgpfecfocnaaDoorW.PrintLast Go.Proofs.YtcafgpfecfocnaaDoorW.PrintMore
set_option linter.unusedVariables false
set_option linter.unusedSimpArgs false

theorem eg22 : ∀ args w, (callFunc 22 args).run Tryd.prog w = .ok (.enter 22 args) w := enters_of Tryd.func22 (by kernel_rfl) rfl
theorem eg23 : ∀ args w, (callFunc 23 args).run Tryd.prog w = .ok (.enter 23 args) w := enters_of Tryd.func23 (by kernel_rfl) rfl
theorem eg24 : ∀ args w, (callFunc 24 args).run Tryd.prog w = .ok (.enter 24 args) w := enters_of Tryd.func24 (by kernel_rfl) rfl
theorem eg25 : ∀ args w, (callFunc 25 args).run Tryd.prog w = .ok (.enter 25 args) w := enters_of Tryd.func25 (by kernel_rfl) rfl
/-- The reference's Keep, what came back told as a footprint. -/
theorem rkeep_f (W : World) (A0 : Option Addr) (c0 : Nat) (gs : List S50) (A1 : Option Addr) (c1 : Nat) (rs : List Int) (hw : ∀ g ∈ gs, g.f2.length ≤ 1099511627776) (hC : Kd.C k50 W A0 gs.length gs) (hc0 : gs.length ≤ c0) (hb : Kd.C (Kd.int .i64) W A1 rs.length rs) (hc1 : rs.length ≤ c1) (hrl : rs.length ≤ 1099511627776) (r1 : List S50) (r2 : List Int) (r3 : Int) (hk : keepS gs rs = (r1, r2, r3)) :
  Calls Tryd.prog 17 #[.agg #[.slice A0 gs.length c0], .slice A1 rs.length c1] W fun e W' => ∃ A c A1 c1, e = .returned (.tuple #[.agg #[.slice A r1.length c], .slice A1 r2.length c1, .int .i64 r3]) ∧ r1.length ≤ c ∧ r2.length ≤ c1 ∧ Foot (fun W'' => Kd.C k50 W'' A r1.length r1 ∧ Kd.C (Kd.int .i64) W'' A1 r2.length r2) W' (fun k => W.heap.size ≤ k) ∧ Below W.heap.size W W' := by
 obtain ⟨kk, hkk⟩ := refkeep_f (gs := gs) (rs := rs) hw hrl
 have h1 := hkk kk (Nat.le_refl _)
 rw [hk] at h1
 refine (cleanseref18_Keep.calls kk A0 c0 gs A1 c1 rs r1 r2 r3 W hC hc0 hb hc1 h1).mono ?_
 rintro e W' ⟨v0, v1, rfl, hS, hR, hB⟩
 obtain ⟨A, c, rfl⟩ := Kd.S_slice hS
 obtain ⟨A1, c1, rfl⟩ := Kd.R_slice hR
 exact ⟨A, c, A1, c1, rfl, (Kd.S_reads' hS).2.1, (Kd.R_reads' hR).2.1, Foot.and (Foot.rows (Kd.S_R hS)) (Foot.rows hR), hB⟩
theorem nil_gates (W : World) : Kd.C k50 W none ([] : List S50).length [] := ⟨rfl, by decide, fun h => absurd h (by decide)⟩
theorem nil_ints (W : World) : Kd.C (Kd.int .i64) W none ([] : List Int).length [] := ⟨rfl, by decide, fun h => absurd h (by decide)⟩
theorem same_nil (W : World) (c c' : Nat) : Calls Tryd.prog 20 #[.agg #[.slice none 0 0], .agg #[.slice none 0 0]] W fun e W' => e = .returned (.bool true) ∧ Below W.heap.size W W' :=
 same_h (W := W) [] 0 rfl (nil_gates W) (nil_gates W) (Nat.le_refl _) (Nat.le_refl _) 1 (by kernel_rfl)
theorem ints_nil (W : World) : Calls Tryd.prog 21 #[.slice none 0 0, .slice none 0 0] W fun e W' => e = .returned (.bool true) ∧ Drawn0 W W' :=
 ints_h (W := W) [] 0 rfl (nil_ints W) (nil_ints W) (Nat.le_refl _) (Nat.le_refl _) 1 (by kernel_rfl)

set_option maxRecDepth 100000 in
set_option maxHeartbeats 32000000 in
theorem match_many (A0 : Option Addr) (c0 : Nat) (gs : List S50) (A1 : Option Addr) (c1 : Nat) (rs : List Int) (A2 : Option Addr) (c2 : Nat) (ops : List S41) (w : World) (hT : Tabs w) (h0 : Kd.C k50 w A0 gs.length gs) (hc0 : gs.length ≤ c0) (h1 : Kd.C (Kd.int .i64) w A1 rs.length rs) (hc1 : rs.length ≤ c1) (h2 : Kd.C k41 w A2 ops.length ops) (hc2 : ops.length ≤ c2)
  (hg : ∀ g ∈ gs, goodG g) (hi : ∀ o ∈ ops, in64 o.f1) (hf : fewB gs rs ops.length = false) :
  Calls Tryd.prog 3 #[.agg #[.slice A0 gs.length c0], .slice A1 rs.length c1, .slice A2 ops.length c2] w fun e w' => e = .returned (.bool true) ∧ Below w.heap.size w w' := by
 have HT := Aside0.mk (fun (W : World) (hb : Below w.heap.size w W) => hT.below hb)
 have HF := Aside0.mk (fun (W : World) (hb : Below w.heap.size w W) => few_all A0 c0 gs A1 c1 rs A2 c2 ops W (Kd.C_below h0 hb) hc0 (Kd.C_below h1 hb) hc1 (Kd.C_below h2 hb) hc2)
 have HG := Aside0.mk (fun (W : World) (hb : Below w.heap.size w W) => Kd.C_below h0 hb)
 have HR := Aside0.mk (fun (W : World) (hb : Below w.heap.size w W) => Kd.C_below h1 hb)
 have HO := Aside0.mk (fun (W : World) (hb : Below w.heap.size w W) => Kd.C_below h2 hb)
 have HC0 := Aside0.mk hc0
 have HC1 := Aside0.mk hc1
 have HI := Aside0.mk hi
 clear h0 h1 h2 hT hc0 hc1 hc2 hi
 rw [hf] at HF
 clear hg hf
 go_enter Tryd.func3, Tryd.ntmps3
 go_wp2_with (first
  | ((with_reducible refine gate_dst (N := 3) rfl ?_); refine box_event ?hg (N := 3) ?hd (cs := #[.slice A0 gs.length c0]) (t := 24) ?hr ?_; (case hd => rfl); (case hg => rfl); (case hr => first | (go_simp; done) | (go_simp; rfl)); intro gb hg w1 hbox hb; have L1 := Aside0.mk hb; have BX1 := Aside0.mk hbox; have GB := Aside0.mk hg; have q1 : w1.cell? ⟨gb, 0, none⟩ = some (.slice A0 gs.length c0) := (blk_cell hbox 0).trans rfl; clear hg hbox hb)
  | (go_at_call 14; have hk_ := head_walk w1 (HT.out _ L1.out); (with_reducible refine hk_.mono ?_); rintro e w2 ⟨rfl, hb⟩; have L2 := Aside0.mk (L1.out.trans (hb.mono L1.out.size)); have E2 := Aside0.mk hb; have q2 := (hb.cell (World.block_lt_of_cell? _ _ q1)).trans q1; clear hb hk_)
  | (go_at_call 15; have hk_ := HF.out w2 L2.out; (with_reducible refine hk_.mono ?_); rintro e w3 ⟨rfl, hb⟩; have L3 := Aside0.mk (L2.out.trans (hb.mono L2.out.size)); clear hb hk_))
 go_ret
 exact ⟨rfl, L3.out⟩

set_option maxRecDepth 100000 in
set_option maxHeartbeats 32000000 in
theorem match_nil (A0 : Option Addr) (c0 : Nat) (gs : List S50) (A1 : Option Addr) (c1 : Nat) (rs : List Int) (A2 : Option Addr) (c2 : Nat) (ops : List S41) (w : World) (hT : Tabs w) (h0 : Kd.C k50 w A0 gs.length gs) (hc0 : gs.length ≤ c0) (h1 : Kd.C (Kd.int .i64) w A1 rs.length rs) (hc1 : rs.length ≤ c1) (h2 : Kd.C k41 w A2 ops.length ops) (hc2 : ops.length ≤ c2)
  (hg : ∀ g ∈ gs, goodG g) (hi : ∀ o ∈ ops, in64 o.f1) (hf : fewB gs rs ops.length = true) (hs : startS gs rs = false) :
  Calls Tryd.prog 3 #[.agg #[.slice A0 gs.length c0], .slice A1 rs.length c1, .slice A2 ops.length c2] w fun e w' => e = .returned (.bool true) ∧ Below w.heap.size w w' := by
 have HT := Aside0.mk (fun (W : World) (hb : Below w.heap.size w W) => hT.below hb)
 have HF := Aside0.mk (fun (W : World) (hb : Below w.heap.size w W) => few_all A0 c0 gs A1 c1 rs A2 c2 ops W (Kd.C_below h0 hb) hc0 (Kd.C_below h1 hb) hc1 (Kd.C_below h2 hb) hc2)
 have HG := Aside0.mk (fun (W : World) (hb : Below w.heap.size w W) => Kd.C_below h0 hb)
 have HR := Aside0.mk (fun (W : World) (hb : Below w.heap.size w W) => Kd.C_below h1 hb)
 have HO := Aside0.mk (fun (W : World) (hb : Below w.heap.size w W) => Kd.C_below h2 hb)
 have HC0 := Aside0.mk hc0
 have HC1 := Aside0.mk hc1
 have HI := Aside0.mk hi
 clear h0 h1 h2 hT hc0 hc1 hc2 hi
 have hf' := hf
 simp only [fewB, Bool.and_eq_true, decide_eq_true_eq] at hf'
 obtain ⟨hfs, hrl, hol⟩ := hf'
 have HW := Aside0.mk (few_wf hfs hg)
 have HRL := Aside0.mk hrl
 have HOL := Aside0.mk hol
 rw [hf] at HF
 clear hg hfs hrl hol hf
 have H18 := Aside0.mk (fun (W : World) (hb : Below w.heap.size w W) => start_calls A0 c0 gs A1 c1 rs W (HT.out W hb) HW.out (HG.out W hb) HC0.out (HR.out W hb) HC1.out (by have := HRL.out; omega))
 have HS := Aside0.mk hs
 rw [hs] at H18
 obtain ⟨d, hd⟩ : ∃ d : List S50, d = [] := ⟨_, rfl⟩
 obtain ⟨m, hm⟩ : ∃ m : List Int, m = [] := ⟨_, rfl⟩
 obtain ⟨e0, he0⟩ : ∃ e0 : Int, e0 = 1 := ⟨_, rfl⟩
 have KE := Aside0.mk (show keepS gs rs = (d, m, e0) by unfold keepS; rw [if_neg (by rw [hs]; decide), hd, hm, he0])
 obtain ⟨ks, hks⟩ := same_f (gs := d) (by rw [hd]; decide) (by rw [hd]; intro g hg; simp at hg)
 obtain ⟨ki, hki⟩ := ints_f (l := m) (by rw [hm]; decide)
 have KS := Aside0.mk (hks ks (Nat.le_refl _))
 have KI := Aside0.mk (hki ki (Nat.le_refl _))
 clear hks hki hd hm he0 hs
 go_enter Tryd.func3, Tryd.ntmps3
 go_wp2_with (first
  | ((with_reducible refine gate_dst (N := 3) rfl ?_); refine box_event ?hg (N := 3) ?hd (cs := #[.slice A0 gs.length c0]) (t := 24) ?hr ?_; (case hd => rfl); (case hg => rfl); (case hr => first | (go_simp; done) | (go_simp; rfl)); intro gb hg w1 hbox hb; have L1 := Aside0.mk hb; have BX1 := Aside0.mk hbox; have GB := Aside0.mk hg; have q1 : w1.cell? ⟨gb, 0, none⟩ = some (.slice A0 gs.length c0) := (blk_cell hbox 0).trans rfl; clear hg hbox hb)
  | (go_at_call 14; have hk_ := head_walk w1 (HT.out _ L1.out); (with_reducible refine hk_.mono ?_); rintro e w2 ⟨rfl, hb⟩; have L2 := Aside0.mk (L1.out.trans (hb.mono L1.out.size)); have E2 := Aside0.mk hb; have q2 := (hb.cell (World.block_lt_of_cell? _ _ q1)).trans q1; clear hb hk_)
  | (go_at_call 15; have hk_ := HF.out w2 L2.out; (with_reducible refine hk_.mono ?_); rintro e w3 ⟨rfl, hb⟩; have L3 := Aside0.mk (L2.out.trans (hb.mono L2.out.size)); have E3 := Aside0.mk (E2.out.trans (hb.mono E2.out.size)); have q3 := (hb.cell (World.block_lt_of_cell? _ _ q2)).trans q2; clear hb hk_)
  | (go_at_call 16; have hk_ := keep_f w3 A0 c0 gs A1 c1 rs.length rs rfl (HT.out _ L3.out) HW.out (HG.out _ L3.out) HC0.out (HR.out _ L3.out) HC1.out (by have := HRL.out; omega) d m e0 KE.out; (with_reducible refine hk_.mono ?_); rintro e w4 ⟨Ad, cd, Am, cm, rfl, hc1_, hc2_, hf, hb⟩; have L4 := Aside0.mk (L3.out.trans (hb.mono L3.out.size)); have E4 := Aside0.mk (E3.out.trans (hb.mono E3.out.size)); have FA4 := Aside0.mk hf; have LA := Aside0.mk (And.intro hc1_ hc2_); have q4 := (hb.cell (World.block_lt_of_cell? _ _ q3)).trans q3; clear hf hb hc1_ hc2_ hk_)
  | ((with_reducible refine gate_dst (N := 8) rfl ?_); refine box_event ?bg8 (N := 8) ?bd8 (cs := #[.slice none 0 0]) (t := 24) ?br8 ?_; (case bd8 => rfl); (case bg8 => rfl); (case br8 => first | (go_simp; done) | (go_simp; rfl)); intro b8 hg w5 hbox hb; have ALb := Aside0.mk hb; have BXb := Aside0.mk hbox; have GBb := Aside0.mk hg; have zb := blk_frozen hbox 0; have qb : w5.cell? ⟨b8, 0, none⟩ = some (.slice none 0 0) := (blk_cell hbox 0).trans rfl; clear hg hbox hb)
  | ((with_reducible refine gate_store (t := 24) (p := 8) rfl ?_); refine store_event (t := 24) (p := 8) (w1 := w5.setCell ⟨b8, 0, none⟩ (.slice Ad d.length cd)) rfl rfl rfl ?st8 ?_; (case st8 => first | (go_simp; done) | (go_simp; rfl)); intro w6 hwk; have hB : Below w4.heap.size w4 w6 := (by rw [hwk]; exact ALb.out.setCell (p := ⟨b8, 0, none⟩) (Nat.le_of_eq GBb.out.symm) _); have hbx : w6.heap[b8]? = some (.cells #[.slice Ad d.length cd] 24 (0, 0)) := (by rw [hwk]; exact blk_put (cs := #[.slice none 0 0]) BXb.out 0 _ rfl); clear hwk; have L6 := Aside0.mk (L4.out.trans (hB.mono L4.out.size)); have E6 := Aside0.mk (E4.out.trans (hB.mono E4.out.size)); have FA6 := Aside0.mk (Foot.below FA4.out hB); have B8 := Aside0.mk hbx; have q6 := (hB.cell (World.block_lt_of_cell? _ _ q4)).trans q4; clear hB hbx zb qb)
  | (go_at_call 17; have hk_ := rkeep_f w6 A0 c0 gs A1 c1 rs (wf_kids HW.out) (HG.out _ L6.out) HC0.out (HR.out _ L6.out) HC1.out (by have := HRL.out; omega) d m e0 KE.out; (with_reducible refine hk_.mono ?_); rintro e w7 ⟨Ae, ce, An, cn, rfl, hc1_, hc2_, hf, hb⟩; have L7 := Aside0.mk (L6.out.trans (hb.mono L6.out.size)); have E7 := Aside0.mk (E6.out.trans (hb.mono E6.out.size)); have FA7 := Aside0.mk (Foot.below FA6.out hb); have FB7 := Aside0.mk hf; have LB := Aside0.mk (And.intro hc1_ hc2_); have B87 := Aside0.mk ((hb.block b8 (blk_lt B8.out)).trans B8.out); have q7 := (hb.cell (World.block_lt_of_cell? _ _ q6)).trans q6; clear hf hb hc1_ hc2_ hk_)
  | ((with_reducible refine gate_dst (N := 11) rfl ?_); refine box_event ?bg11 (N := 11) ?bd11 (cs := #[.slice none 0 0]) (t := 24) ?br11 ?_; (case bd11 => rfl); (case bg11 => rfl); (case br11 => first | (go_simp; done) | (go_simp; rfl)); intro b11 hg w8 hbox hb; have ALb := Aside0.mk hb; have BXb := Aside0.mk hbox; have GBb := Aside0.mk hg; have zb := blk_frozen hbox 0; have qb : w8.cell? ⟨b11, 0, none⟩ = some (.slice none 0 0) := (blk_cell hbox 0).trans rfl; clear hg hbox hb)
  | ((with_reducible refine gate_store (t := 24) (p := 11) rfl ?_); refine store_event (t := 24) (p := 11) (w1 := w8.setCell ⟨b11, 0, none⟩ (.slice Ae d.length ce)) rfl rfl rfl ?st11 ?_; (case st11 => first | (go_simp; done) | (go_simp; rfl)); intro w9 hwk; have hB : Below w7.heap.size w7 w9 := (by rw [hwk]; exact ALb.out.setCell (p := ⟨b11, 0, none⟩) (Nat.le_of_eq GBb.out.symm) _); have hbx : w9.heap[b11]? = some (.cells #[.slice Ae d.length ce] 24 (0, 0)) := (by rw [hwk]; exact blk_put (cs := #[.slice none 0 0]) BXb.out 0 _ rfl); clear hwk; have L9 := Aside0.mk (L7.out.trans (hB.mono L7.out.size)); have E9 := Aside0.mk (E7.out.trans (hB.mono E7.out.size)); have FA9 := Aside0.mk (Foot.below FA7.out hB); have FB9 := Aside0.mk (Foot.below FB7.out hB); have B89 := Aside0.mk ((hB.block b8 (blk_lt B87.out)).trans B87.out); have B11 := Aside0.mk hbx; have q9 := (hB.cell (World.block_lt_of_cell? _ _ q7)).trans q7; clear hB hbx zb qb)
  | (go_at_call 18; have hk_ := H18.out w9 L9.out; (with_reducible refine hk_.mono ?_); rintro e w10 ⟨hb, ht, _⟩; obtain rfl := ht trivial; have L10 := Aside0.mk (L9.out.trans (hb.mono L9.out.size)); have E10 := Aside0.mk (E9.out.trans (hb.mono E9.out.size)); have FA10 := Aside0.mk (Foot.below FA9.out hb); have FB10 := Aside0.mk (Foot.below FB9.out hb); have B810 := Aside0.mk ((hb.block b8 (blk_lt B89.out)).trans B89.out); have B1110 := Aside0.mk ((hb.block b11 (blk_lt B11.out)).trans B11.out); have q10 := (hb.cell (World.block_lt_of_cell? _ _ q9)).trans q9; clear hb ht hk_)
  | (go_at_call 19; have hk_ := rstart_calls A0 c0 gs A1 c1 rs w10 (HG.out _ L10.out) HC0.out (HR.out _ L10.out) HC1.out (wf_kids HW.out) (by have := HRL.out; omega); (with_reducible refine hk_.mono ?_); rintro e w11 ⟨hb, ht, _⟩; obtain rfl := ht HS.out; have L11 := Aside0.mk (L10.out.trans (hb.mono L10.out.size)); have E11 := Aside0.mk (E10.out.trans (hb.mono E10.out.size)); have FA11 := Aside0.mk (Foot.below FA10.out hb); have FB11 := Aside0.mk (Foot.below FB10.out hb); have c8 : w11.cell? ⟨b8, 0, none⟩ = some (.slice Ad d.length cd) := (blk_cell ((hb.block b8 (blk_lt B810.out)).trans B810.out) 0).trans rfl; have c11 : w11.cell? ⟨b11, 0, none⟩ = some (.slice Ae d.length ce) := (blk_cell ((hb.block b11 (blk_lt B1110.out)).trans B1110.out) 0).trans rfl; clear hb ht hk_)
  | (go_at_call 20; have hk_ := same_h (W := w11) d d.length rfl FA11.out.now.1 FB11.out.now.1 LA.out.1 LB.out.1 ks KS.out; (with_reducible refine hk_.mono ?_); rintro e w12 ⟨rfl, hb⟩; have L12 := Aside0.mk (L11.out.trans (hb.mono L11.out.size)); have D12 := Aside0.mk hb; have FA12 := Aside0.mk (Foot.below FA11.out hb); have FB12 := Aside0.mk (Foot.below FB11.out hb); clear hb hk_)
  | (go_at_call 21; have hk_ := ints_h (W := w12) m m.length rfl FA12.out.now.2 FB12.out.now.2 LA.out.2 LB.out.2 ki KI.out; (with_reducible refine hk_.mono ?_); rintro e w13 ⟨rfl, hb⟩; have L13 := Aside0.mk (L12.out.trans (hb.below.mono L12.out.size)); have D13 := Aside0.mk (D12.out.trans (hb.below.mono D12.out.size)); clear hb hk_))
 clear L1 BX1 GB L2 E2 L3 E3 L4 E4 FA4 LA L6 E6 FA6 B8 L7 E7 FA7 FB7 LB B87 L9 E9 FA9 FB9 B89 B11 L10 E10 FA10 FB10 B810 B1110 L11 E11 FA11 FB11 L12 D12 FA12 FB12 q1 q2 q3 q4 q6 q7 q9 q10 c8 c11 ALb BXb GBb
 go_loopg [18] ops.length (fun gg s18 wr => ∃ i : Nat, i ≤ ops.length ∧ ops.length - i ≤ gg ∧ s18 = .int .i64 i ∧ Aside0 (Below w.heap.size w wr))
 case atStart => exact ⟨0, Nat.zero_le _, by omega, rfl, L13⟩
 case round =>
  clear L13 D13
  obtain ⟨i, hi, hgg, rfl, HB⟩ := hrel
  by_cases hlt : i < ops.length
  ·have hlt' : (i : Int) < (ops.length : Int) := by omega
   obtain ⟨ad, e, hx0, hx1⟩ := at_T41 (HO.out w (Below.refl _ _)) i (by omega) hlt'
   cases e
   rw [Int.toNat_natCast] at hx0 hx1
   obtain ⟨o, ho⟩ : ∃ o, o = rd_T41 ops (i : Int) := ⟨_, rfl⟩
   rw [← ho] at hx0 hx1
   have OI := Aside0.mk (show in64 o.f1 by
    rw [ho]; unfold rd_T41
    rw [Int.toNat_natCast, List.getD_eq_getElem?_getD, List.getElem?_eq_getElem hlt]
    exact HI.out _ (List.getElem_mem hlt))
   have X0 := Aside0.mk hx0
   have X1 := Aside0.mk hx1
   clear hx0 hx1 ho
   obtain ⟨b0, n0⟩ := o
   cases b0 with
   | true =>
    go_upto_region 13 with fail
    have HBc := Aside0.mk (HB.out.trans (below_drew (Below.refl w.heap.size wr) |>.mono (Nat.le_refl _)))
    have HELD := Aside0.mk (show wr.drew.cell? (ad.add (i * 2)) = some (.bool true) ∧ wr.drew.cell? ⟨(ad.add (i * 2)).block, (ad.add (i * 2)).off + 1, none⟩ = some (.int .i64 n0) from ⟨(HB.out.cell (World.block_lt_of_cell? _ _ X0.out)).trans X0.out, (HB.out.cell (World.block_lt_of_cell? _ _ X1.out)).trans X1.out⟩)
    refine start_ (n := 47) (S := fun w' => w'.cell? (ad.add (i * 2)) = some (.bool true) ∧ w'.cell? ⟨(ad.add (i * 2)).block, (ad.add (i * 2)).off + 1, none⟩ = some (.int .i64 n0)) (ds := []) #[false, false, false, false, false, false, false, false, false, false, false, false, false, false, false, false, false, false, false, false, false, false, false, false, false, false, false, false, false, false, false, false, false, false, false, false, false, false, false, false, false, false, false, false, false, false, false] (by kernel_rfl) rfl rfl HELD.out (fun hHeld => ?_)
    refine pure_ (i := 0) (N := some 91) (v := ?_) (a' := ?_) #[true, false, false, false, false, false, false, false, false, false, false, false, false, false, false, false, false, false, false, false, false, false, false, false, false, false, false, false, false, false, false, false, false, false, false, false, false, false, false, false, false, false, false, false, false, false, false] rfl rfl (by kernel_rfl) (fun _ _ _ h => h) (Or.inl ⟨by rfl, ?_⟩) ?_ ?_
    rotate_left
    ·intro w'
     go_simp
     with_reducible rfl
    rotate_left
    ·simp only [Act.put, List.setIfInBounds_toArray, List.set_cons_zero, List.set_cons_succ, i64_w, i32_w]
     rfl
    refine pure_ (i := 1) (N := some 92) (v := ?_) (a' := ?_) #[true, true, false, false, false, false, false, false, false, false, false, false, false, false, false, false, false, false, false, false, false, false, false, false, false, false, false, false, false, false, false, false, false, false, false, false, false, false, false, false, false, false, false, false, false, false, false] rfl rfl (by kernel_rfl) (fun _ _ _ h => h) (Or.inl ⟨by rfl, ?_⟩) ?_ ?_
    rotate_left
    ·intro w'
     go_simp
     with_reducible rfl
    rotate_left
    ·simp only [Act.put, List.setIfInBounds_toArray, List.set_cons_zero, List.set_cons_succ, i64_w, i32_w]
     rfl
    refine pure_ (i := 2) (N := some 93) (v := ?_) (a' := ?_) #[true, true, true, false, false, false, false, false, false, false, false, false, false, false, false, false, false, false, false, false, false, false, false, false, false, false, false, false, false, false, false, false, false, false, false, false, false, false, false, false, false, false, false, false, false, false, false] rfl rfl (by kernel_rfl) (fun _ _ _ h => h) (Or.inl ⟨by rfl, ?_⟩) ?_ ?_
    rotate_left
    ·intro w'
     go_simp
     with_reducible rfl
    rotate_left
    ·simp only [Act.put, List.setIfInBounds_toArray, List.set_cons_zero, List.set_cons_succ, i64_w, i32_w]
     rfl
    refine pure_ (i := 3) (N := some 94) (v := ?_) (a' := ?_) #[true, true, true, true, false, false, false, false, false, false, false, false, false, false, false, false, false, false, false, false, false, false, false, false, false, false, false, false, false, false, false, false, false, false, false, false, false, false, false, false, false, false, false, false, false, false, false] rfl rfl (by kernel_rfl) (fun _ _ _ h => h) (Or.inl ⟨by rfl, ?_⟩) ?_ ?_
    rotate_left
    ·intro w'
     go_simp
     with_reducible rfl
    rotate_left
    ·simp only [Act.put, List.setIfInBounds_toArray, List.set_cons_zero, List.set_cons_succ, i64_w, i32_w]
     rfl
    refine take_ (i := 4) (N := some 95) (v := ?_) (a' := ?_) #[true, true, true, true, true, false, false, false, false, false, false, false, false, false, false, false, false, false, false, false, false, false, false, false, false, false, false, false, false, false, false, false, false, false, false, false, false, false, false, false, false, false, false, false, false, false, false] rfl rfl (by kernel_rfl) (fun _ _ _ h => h) (Or.inl ⟨by rfl, ?_⟩) hHeld ?_ ?_
    rotate_left
    ·rintro w' ⟨s0, s1⟩
     go_simp
     with_reducible rfl
    rotate_left
    ·simp only [Act.put, List.setIfInBounds_toArray, List.set_cons_zero, List.set_cons_succ, i64_w, i32_w]
     rfl
    refine pure_ (i := 5) (N := some 96) (v := ?_) (a' := ?_) #[true, true, true, true, true, true, false, false, false, false, false, false, false, false, false, false, false, false, false, false, false, false, false, false, false, false, false, false, false, false, false, false, false, false, false, false, false, false, false, false, false, false, false, false, false, false, false] rfl rfl (by kernel_rfl) (fun _ _ _ h => h) (Or.inl ⟨by rfl, ?_⟩) ?_ ?_
    rotate_left
    ·intro w'
     go_simp
     with_reducible rfl
    rotate_left
    ·simp only [Act.put, List.setIfInBounds_toArray, List.set_cons_zero, List.set_cons_succ, i64_w, i32_w]
     rfl
    refine pure_ (i := 6) (N := some 97) (v := ?_) (a' := ?_) #[true, true, true, true, true, true, true, false, false, false, false, false, false, false, false, false, false, false, false, false, false, false, false, false, false, false, false, false, false, false, false, false, false, false, false, false, false, false, false, false, false, false, false, false, false, false, false] rfl rfl (by kernel_rfl) (fun _ _ _ h => h) (Or.inl ⟨by rfl, ?_⟩) ?_ ?_
    rotate_left
    ·intro w'
     go_simp
     with_reducible rfl
    rotate_left
    ·simp only [Act.put, List.setIfInBounds_toArray, List.set_cons_zero, List.set_cons_succ, i64_w, i32_w]
     rfl
    refine pure_ (i := 7) (N := some 98) (v := ?_) (a' := ?_) #[true, true, true, true, true, true, true, true, false, false, false, false, false, false, false, false, false, false, false, false, false, false, false, false, false, false, false, false, false, false, false, false, false, false, false, false, false, false, false, false, false, false, false, false, false, false, false] rfl rfl (by kernel_rfl) (fun _ _ _ h => h) (Or.inl ⟨by rfl, ?_⟩) ?_ ?_
    rotate_left
    ·intro w'
     go_simp
     with_reducible rfl
    rotate_left
    ·simp only [Act.put, List.setIfInBounds_toArray, List.set_cons_zero, List.set_cons_succ, i64_w, i32_w]
     rfl
    refine pure_ (i := 8) (N := some 99) (v := ?_) (a' := ?_) #[true, true, true, true, true, true, true, true, true, false, false, false, false, false, false, false, false, false, false, false, false, false, false, false, false, false, false, false, false, false, false, false, false, false, false, false, false, false, false, false, false, false, false, false, false, false, false] rfl rfl (by kernel_rfl) (fun _ _ _ h => h) (Or.inl ⟨by rfl, ?_⟩) ?_ ?_
    rotate_left
    ·intro w'
     go_simp
     with_reducible rfl
    rotate_left
    ·simp only [Act.put, List.setIfInBounds_toArray, List.set_cons_zero, List.set_cons_succ, i64_w, i32_w]
     rfl
    refine pure_ (i := 9) (N := some 100) (v := ?_) (a' := ?_) #[true, true, true, true, true, true, true, true, true, true, false, false, false, false, false, false, false, false, false, false, false, false, false, false, false, false, false, false, false, false, false, false, false, false, false, false, false, false, false, false, false, false, false, false, false, false, false] rfl rfl (by kernel_rfl) (fun _ _ _ h => h) (Or.inl ⟨by rfl, ?_⟩) ?_ ?_
    rotate_left
    ·intro w'
     go_simp
     with_reducible rfl
    rotate_left
    ·simp only [Act.put, List.setIfInBounds_toArray, List.set_cons_zero, List.set_cons_succ, i64_w, i32_w]
     rfl
    refine pure_ (i := 10) (N := some 101) (v := ?_) (a' := ?_) #[true, true, true, true, true, true, true, true, true, true, true, false, false, false, false, false, false, false, false, false, false, false, false, false, false, false, false, false, false, false, false, false, false, false, false, false, false, false, false, false, false, false, false, false, false, false, false] rfl rfl (by kernel_rfl) (fun _ _ _ h => h) (Or.inl ⟨by rfl, ?_⟩) ?_ ?_
    rotate_left
    ·intro w'
     go_simp
     with_reducible rfl
    rotate_left
    ·simp only [Act.put, List.setIfInBounds_toArray, List.set_cons_zero, List.set_cons_succ, i64_w, i32_w]
     rfl
    refine take_ (i := 11) (N := some 102) (v := ?_) (a' := ?_) #[true, true, true, true, true, true, true, true, true, true, true, true, false, false, false, false, false, false, false, false, false, false, false, false, false, false, false, false, false, false, false, false, false, false, false, false, false, false, false, false, false, false, false, false, false, false, false] rfl rfl (by kernel_rfl) (fun _ _ _ h => h) (Or.inl ⟨by rfl, ?_⟩) hHeld ?_ ?_
    rotate_left
    ·rintro w' ⟨s0, s1⟩
     go_simp
     with_reducible rfl
    rotate_left
    ·simp only [Act.put, List.setIfInBounds_toArray, List.set_cons_zero, List.set_cons_succ, i64_w, i32_w]
     rfl
    refine pure_ (i := 13) (N := some 104) (v := ?_) (a' := ?_) #[true, true, true, true, true, true, true, true, true, true, true, true, false, true, false, false, false, false, false, false, false, false, false, false, false, false, false, false, false, false, false, false, false, false, false, false, false, false, false, false, false, false, false, false, false, false, false] rfl rfl (by kernel_rfl) (fun _ _ _ h => h) (Or.inl ⟨by rfl, ?_⟩) ?_ ?_
    rotate_left
    ·intro w'
     go_simp
     with_reducible rfl
    rotate_left
    ·simp only [Act.put, List.setIfInBounds_toArray, List.set_cons_zero, List.set_cons_succ, i64_w, i32_w]
     rfl
    refine pure_ (i := 14) (N := some 105) (v := ?_) (a' := ?_) #[true, true, true, true, true, true, true, true, true, true, true, true, false, true, true, false, false, false, false, false, false, false, false, false, false, false, false, false, false, false, false, false, false, false, false, false, false, false, false, false, false, false, false, false, false, false, false] rfl rfl (by kernel_rfl) (fun _ _ _ h => h) (Or.inl ⟨by rfl, ?_⟩) ?_ ?_
    rotate_left
    ·intro w'
     go_simp
     with_reducible rfl
    rotate_left
    ·simp only [Act.put, List.setIfInBounds_toArray, List.set_cons_zero, List.set_cons_succ, i64_w, i32_w]
     rfl
    refine pure_ (i := 15) (N := some 106) (v := ?_) (a' := ?_) #[true, true, true, true, true, true, true, true, true, true, true, true, false, true, true, true, false, false, false, false, false, false, false, false, false, false, false, false, false, false, false, false, false, false, false, false, false, false, false, false, false, false, false, false, false, false, false] rfl rfl (by kernel_rfl) (fun _ _ _ h => h) (Or.inl ⟨by rfl, ?_⟩) ?_ ?_
    rotate_left
    ·intro w'
     go_simp
     with_reducible rfl
    rotate_left
    ·simp only [Act.put, List.setIfInBounds_toArray, List.set_cons_zero, List.set_cons_succ, i64_w, i32_w]
     rfl
    refine pure_ (i := 16) (N := some 107) (v := ?_) (a' := ?_) #[true, true, true, true, true, true, true, true, true, true, true, true, false, true, true, true, true, false, false, false, false, false, false, false, false, false, false, false, false, false, false, false, false, false, false, false, false, false, false, false, false, false, false, false, false, false, false] rfl rfl (by kernel_rfl) (fun _ _ _ h => h) (Or.inl ⟨by rfl, ?_⟩) ?_ ?_
    rotate_left
    ·intro w'
     go_simp
     with_reducible rfl
    rotate_left
    ·simp only [Act.put, List.setIfInBounds_toArray, List.set_cons_zero, List.set_cons_succ, i64_w, i32_w]
     rfl
    refine pure_ (i := 17) (N := some 108) (v := ?_) (a' := ?_) #[true, true, true, true, true, true, true, true, true, true, true, true, false, true, true, true, true, true, false, false, false, false, false, false, false, false, false, false, false, false, false, false, false, false, false, false, false, false, false, false, false, false, false, false, false, false, false] rfl rfl (by kernel_rfl) (fun _ _ _ h => h) (Or.inl ⟨by rfl, ?_⟩) ?_ ?_
    rotate_left
    ·intro w'
     go_simp
     with_reducible rfl
    rotate_left
    ·simp only [Act.put, List.setIfInBounds_toArray, List.set_cons_zero, List.set_cons_succ, i64_w, i32_w]
     rfl
    refine take_ (i := 18) (N := some 109) (v := ?_) (a' := ?_) #[true, true, true, true, true, true, true, true, true, true, true, true, false, true, true, true, true, true, true, false, false, false, false, false, false, false, false, false, false, false, false, false, false, false, false, false, false, false, false, false, false, false, false, false, false, false, false] rfl rfl (by kernel_rfl) (fun _ _ _ h => h) (Or.inl ⟨by rfl, ?_⟩) hHeld ?_ ?_
    rotate_left
    ·rintro w' ⟨s0, s1⟩
     go_simp
     with_reducible rfl
    rotate_left
    ·simp only [Act.put, List.setIfInBounds_toArray, List.set_cons_zero, List.set_cons_succ, i64_w, i32_w]
     rfl
    refine one_ (i := 12) (N := some 103) #[true, true, true, true, true, true, true, true, true, true, true, true, true, true, true, true, true, true, true, false, false, false, false, false, false, false, false, false, false, false, false, false, false, false, false, false, false, false, false, false, false, false, false, false, false, false, false] rfl rfl (by kernel_rfl) (by decide) (fun K hK => ?_)
    refine call_ 22 #[.pointer none, .int .i64 n0] ?hw rfl ?hr ?_
    case hw => rfl
    case hr => simp [execOp, resolve, Deferred.ofValue, invoke, Act.eval, eg22]
    refine (nadd _ n0).mono ?_
    rintro e w2 ⟨rfl, hb⟩
    refine ⟨_, rfl, ?_⟩
    have HBn := Aside0.mk (HBc.out.trans (hb.mono HBc.out.size))
    clear hb HBc
    have HBc := HBn
    clear HBn
    have hx := And.intro ((HBc.out.cell (World.block_lt_of_cell? _ _ X0.out)).trans X0.out) ((HBc.out.cell (World.block_lt_of_cell? _ _ X1.out)).trans X1.out)
    have HX := Aside0.mk hx
    clear hx
    clear hHeld
    refine hK.out _ _ HX.out (fun hHeld => ?_)
    clear hK K
    refine norm_ (a' := ?_) ?_ ?_
    rotate_left
    ·show Act.put _ (some 103) _ = _
     simp only [Act.put, List.setIfInBounds_toArray, List.set_cons_zero, List.set_cons_succ, i64_w, i32_w]
     rfl
    refine one_ (i := 19) (N := some 110) #[true, true, true, true, true, true, true, true, true, true, true, true, true, true, true, true, true, true, true, true, false, false, false, false, false, false, false, false, false, false, false, false, false, false, false, false, false, false, false, false, false, false, false, false, false, false, false] rfl rfl (by kernel_rfl) (by decide) (fun K hK => ?_)
    refine call_ 23 #[.pointer none, .int .i64 n0] ?hw rfl ?hr ?_
    case hw => rfl
    case hr => simp [execOp, resolve, Deferred.ofValue, invoke, Act.eval, eg23]
    refine (nradd _ n0).mono ?_
    rintro e w2 ⟨rfl, hb⟩
    refine ⟨_, rfl, ?_⟩
    have HBn := Aside0.mk (HBc.out.trans (hb.mono HBc.out.size))
    clear hb HBc
    have HBc := HBn
    clear HBn
    have hx := And.intro ((HBc.out.cell (World.block_lt_of_cell? _ _ X0.out)).trans X0.out) ((HBc.out.cell (World.block_lt_of_cell? _ _ X1.out)).trans X1.out)
    have HX := Aside0.mk hx
    clear hx
    clear hHeld
    refine hK.out _ _ HX.out (fun hHeld => ?_)
    clear hK K
    refine norm_ (a' := ?_) ?_ ?_
    rotate_left
    ·show Act.put _ (some 110) _ = _
     simp only [Act.put, List.setIfInBounds_toArray, List.set_cons_zero, List.set_cons_succ, i64_w, i32_w]
     rfl
    refine pure_ (i := 20) (N := some 111) (v := ?_) (a' := ?_) #[true, true, true, true, true, true, true, true, true, true, true, true, true, true, true, true, true, true, true, true, true, false, false, false, false, false, false, false, false, false, false, false, false, false, false, false, false, false, false, false, false, false, false, false, false, false, false] rfl rfl (by kernel_rfl) (fun _ _ _ h => h) (Or.inl ⟨by rfl, ?_⟩) ?_ ?_
    rotate_left
    ·intro w'
     go_simp
     with_reducible rfl
    rotate_left
    ·simp only [Act.put, List.setIfInBounds_toArray, List.set_cons_zero, List.set_cons_succ, i64_w, i32_w]
     rfl
    refine pure_ (i := 21) (N := some 112) (v := ?_) (a' := ?_) #[true, true, true, true, true, true, true, true, true, true, true, true, true, true, true, true, true, true, true, true, true, true, false, false, false, false, false, false, false, false, false, false, false, false, false, false, false, false, false, false, false, false, false, false, false, false, false] rfl rfl (by kernel_rfl) (fun _ _ _ h => h) (Or.inl ⟨by rfl, ?_⟩) ?_ ?_
    rotate_left
    ·intro w'
     go_simp
     with_reducible rfl
    rotate_left
    ·simp only [Act.put, List.setIfInBounds_toArray, List.set_cons_zero, List.set_cons_succ, i64_w, i32_w]
     rfl
    refine pure_ (i := 22) (N := some 113) (v := ?_) (a' := ?_) #[true, true, true, true, true, true, true, true, true, true, true, true, true, true, true, true, true, true, true, true, true, true, true, false, false, false, false, false, false, false, false, false, false, false, false, false, false, false, false, false, false, false, false, false, false, false, false] rfl rfl (by kernel_rfl) (fun _ _ _ h => h) (Or.inl ⟨by rfl, ?_⟩) ?_ ?_
    rotate_left
    ·intro w'
     go_simp
     with_reducible rfl
    rotate_left
    ·simp only [Act.put, List.setIfInBounds_toArray, List.set_cons_zero, List.set_cons_succ, i64_w, i32_w]
     rfl
    refine pure_ (i := 23) (N := some 114) (v := ?_) (a' := ?_) #[true, true, true, true, true, true, true, true, true, true, true, true, true, true, true, true, true, true, true, true, true, true, true, true, false, false, false, false, false, false, false, false, false, false, false, false, false, false, false, false, false, false, false, false, false, false, false] rfl rfl (by kernel_rfl) (fun _ _ _ h => h) (Or.inl ⟨by rfl, ?_⟩) ?_ ?_
    rotate_left
    ·intro w'
     go_simp
     with_reducible rfl
    rotate_left
    ·simp only [Act.put, List.setIfInBounds_toArray, List.set_cons_zero, List.set_cons_succ, i64_w, i32_w]
     rfl
    refine pure_ (i := 24) (N := some 115) (v := ?_) (a' := ?_) #[true, true, true, true, true, true, true, true, true, true, true, true, true, true, true, true, true, true, true, true, true, true, true, true, true, false, false, false, false, false, false, false, false, false, false, false, false, false, false, false, false, false, false, false, false, false, false] rfl rfl (by kernel_rfl) (fun _ _ _ h => h) (Or.inl ⟨by rfl, ?_⟩) ?_ ?_
    rotate_left
    ·intro w'
     go_simp
     with_reducible rfl
    rotate_left
    ·simp only [Act.put, List.setIfInBounds_toArray, List.set_cons_zero, List.set_cons_succ, i64_w, i32_w]
     rfl
    refine pure_ (i := 25) (N := some 116) (v := ?_) (a' := ?_) #[true, true, true, true, true, true, true, true, true, true, true, true, true, true, true, true, true, true, true, true, true, true, true, true, true, true, false, false, false, false, false, false, false, false, false, false, false, false, false, false, false, false, false, false, false, false, false] rfl rfl (by kernel_rfl) (fun _ _ _ h => h) (Or.inl ⟨by rfl, ?_⟩) ?_ ?_
    rotate_left
    ·intro w'
     go_simp
     with_reducible rfl
    rotate_left
    ·simp only [Act.put, List.setIfInBounds_toArray, List.set_cons_zero, List.set_cons_succ, i64_w, i32_w]
     rfl
    refine pure_ (i := 26) (N := some 117) (v := ?_) (a' := ?_) #[true, true, true, true, true, true, true, true, true, true, true, true, true, true, true, true, true, true, true, true, true, true, true, true, true, true, true, false, false, false, false, false, false, false, false, false, false, false, false, false, false, false, false, false, false, false, false] rfl rfl (by kernel_rfl) (fun _ _ _ h => h) (Or.inl ⟨by rfl, ?_⟩) ?_ ?_
    rotate_left
    ·intro w'
     go_simp
     with_reducible rfl
    rotate_left
    ·simp only [Act.put, List.setIfInBounds_toArray, List.set_cons_zero, List.set_cons_succ, i64_w, i32_w]
     rfl
    refine take_ (i := 27) (N := some 118) (v := ?_) (a' := ?_) #[true, true, true, true, true, true, true, true, true, true, true, true, true, true, true, true, true, true, true, true, true, true, true, true, true, true, true, true, false, false, false, false, false, false, false, false, false, false, false, false, false, false, false, false, false, false, false] rfl rfl (by kernel_rfl) (fun _ _ _ h => h) (Or.inl ⟨by rfl, ?_⟩) hHeld ?_ ?_
    rotate_left
    ·rintro w' ⟨s0, s1⟩
     go_simp
     with_reducible rfl
    rotate_left
    ·simp only [Act.put, List.setIfInBounds_toArray, List.set_cons_zero, List.set_cons_succ, i64_w, i32_w]
     rfl
    refine pure_ (i := 28) (N := some 119) (v := ?_) (a' := ?_) #[true, true, true, true, true, true, true, true, true, true, true, true, true, true, true, true, true, true, true, true, true, true, true, true, true, true, true, true, true, false, false, false, false, false, false, false, false, false, false, false, false, false, false, false, false, false, false] rfl rfl (by kernel_rfl) (fun _ _ _ h => h) (Or.inl ⟨by rfl, ?_⟩) ?_ ?_
    rotate_left
    ·intro w'
     go_simp
     with_reducible rfl
    rotate_left
    ·simp only [Act.put, List.setIfInBounds_toArray, List.set_cons_zero, List.set_cons_succ, i64_w, i32_w]
     rfl
    refine pure_ (i := 29) (N := some 120) (v := ?_) (a' := ?_) #[true, true, true, true, true, true, true, true, true, true, true, true, true, true, true, true, true, true, true, true, true, true, true, true, true, true, true, true, true, true, false, false, false, false, false, false, false, false, false, false, false, false, false, false, false, false, false] rfl rfl (by kernel_rfl) (fun _ _ _ h => h) (Or.inl ⟨by rfl, ?_⟩) ?_ ?_
    rotate_left
    ·intro w'
     go_simp
     with_reducible rfl
    rotate_left
    ·simp only [Act.put, List.setIfInBounds_toArray, List.set_cons_zero, List.set_cons_succ, i64_w, i32_w]
     rfl
    refine pure_ (i := 30) (N := some 121) (v := undef) (a' := ?_) #[true, true, true, true, true, true, true, true, true, true, true, true, true, true, true, true, true, true, true, true, true, true, true, true, true, true, true, true, true, true, true, false, false, false, false, false, false, false, false, false, false, false, false, false, false, false, false] rfl rfl (by kernel_rfl) (fun _ _ _ h => h) (Or.inr ⟨by rfl, rfl⟩) ?_ ?_
    rotate_left
    ·simp only [Act.put, List.setIfInBounds_toArray, List.set_cons_zero, List.set_cons_succ, i64_w, i32_w]
     rfl
    refine pure_ (i := 31) (N := some 122) (v := undef) (a' := ?_) #[true, true, true, true, true, true, true, true, true, true, true, true, true, true, true, true, true, true, true, true, true, true, true, true, true, true, true, true, true, true, true, true, false, false, false, false, false, false, false, false, false, false, false, false, false, false, false] rfl rfl (by kernel_rfl) (fun _ _ _ h => h) (Or.inr ⟨by rfl, rfl⟩) ?_ ?_
    rotate_left
    ·simp only [Act.put, List.setIfInBounds_toArray, List.set_cons_zero, List.set_cons_succ, i64_w, i32_w]
     rfl
    refine pure_ (i := 32) (N := some 123) (v := undef) (a' := ?_) #[true, true, true, true, true, true, true, true, true, true, true, true, true, true, true, true, true, true, true, true, true, true, true, true, true, true, true, true, true, true, true, true, true, false, false, false, false, false, false, false, false, false, false, false, false, false, false] rfl rfl (by kernel_rfl) (fun _ _ _ h => h) (Or.inr ⟨by rfl, rfl⟩) ?_ ?_
    rotate_left
    ·simp only [Act.put, List.setIfInBounds_toArray, List.set_cons_zero, List.set_cons_succ, i64_w, i32_w]
     rfl
    refine pure_ (i := 33) (N := some 124) (v := undef) (a' := ?_) #[true, true, true, true, true, true, true, true, true, true, true, true, true, true, true, true, true, true, true, true, true, true, true, true, true, true, true, true, true, true, true, true, true, true, false, false, false, false, false, false, false, false, false, false, false, false, false] rfl rfl (by kernel_rfl) (fun _ _ _ h => h) (Or.inr ⟨by rfl, rfl⟩) ?_ ?_
    rotate_left
    ·simp only [Act.put, List.setIfInBounds_toArray, List.set_cons_zero, List.set_cons_succ, i64_w, i32_w]
     rfl
    refine pure_ (i := 34) (N := some 125) (v := undef) (a' := ?_) #[true, true, true, true, true, true, true, true, true, true, true, true, true, true, true, true, true, true, true, true, true, true, true, true, true, true, true, true, true, true, true, true, true, true, true, false, false, false, false, false, false, false, false, false, false, false, false] rfl rfl (by kernel_rfl) (fun _ _ _ h => h) (Or.inr ⟨by rfl, rfl⟩) ?_ ?_
    rotate_left
    ·simp only [Act.put, List.setIfInBounds_toArray, List.set_cons_zero, List.set_cons_succ, i64_w, i32_w]
     rfl
    refine pure_ (i := 35) (N := some 126) (v := undef) (a' := ?_) #[true, true, true, true, true, true, true, true, true, true, true, true, true, true, true, true, true, true, true, true, true, true, true, true, true, true, true, true, true, true, true, true, true, true, true, true, false, false, false, false, false, false, false, false, false, false, false] rfl rfl (by kernel_rfl) (fun _ _ _ h => h) (Or.inr ⟨by rfl, rfl⟩) ?_ ?_
    rotate_left
    ·simp only [Act.put, List.setIfInBounds_toArray, List.set_cons_zero, List.set_cons_succ, i64_w, i32_w]
     rfl
    refine pure_ (i := 36) (N := some 127) (v := undef) (a' := ?_) #[true, true, true, true, true, true, true, true, true, true, true, true, true, true, true, true, true, true, true, true, true, true, true, true, true, true, true, true, true, true, true, true, true, true, true, true, true, false, false, false, false, false, false, false, false, false, false] rfl rfl (by kernel_rfl) (fun _ _ _ h => h) (Or.inr ⟨by rfl, rfl⟩) ?_ ?_
    rotate_left
    ·simp only [Act.put, List.setIfInBounds_toArray, List.set_cons_zero, List.set_cons_succ, i64_w, i32_w]
     rfl
    refine pure_ (i := 37) (N := some 128) (v := undef) (a' := ?_) #[true, true, true, true, true, true, true, true, true, true, true, true, true, true, true, true, true, true, true, true, true, true, true, true, true, true, true, true, true, true, true, true, true, true, true, true, true, true, false, false, false, false, false, false, false, false, false] rfl rfl (by kernel_rfl) (fun _ _ _ h => h) (Or.inr ⟨by rfl, rfl⟩) ?_ ?_
    rotate_left
    ·simp only [Act.put, List.setIfInBounds_toArray, List.set_cons_zero, List.set_cons_succ, i64_w, i32_w]
     rfl
    refine pure_ (i := 38) (N := some 129) (v := undef) (a' := ?_) #[true, true, true, true, true, true, true, true, true, true, true, true, true, true, true, true, true, true, true, true, true, true, true, true, true, true, true, true, true, true, true, true, true, true, true, true, true, true, true, false, false, false, false, false, false, false, false] rfl rfl (by kernel_rfl) (fun _ _ _ h => h) (Or.inr ⟨by rfl, rfl⟩) ?_ ?_
    rotate_left
    ·simp only [Act.put, List.setIfInBounds_toArray, List.set_cons_zero, List.set_cons_succ, i64_w, i32_w]
     rfl
    refine pure_ (i := 39) (N := some 130) (v := undef) (a' := ?_) #[true, true, true, true, true, true, true, true, true, true, true, true, true, true, true, true, true, true, true, true, true, true, true, true, true, true, true, true, true, true, true, true, true, true, true, true, true, true, true, true, false, false, false, false, false, false, false] rfl rfl (by kernel_rfl) (fun _ _ _ h => h) (Or.inr ⟨by rfl, rfl⟩) ?_ ?_
    rotate_left
    ·simp only [Act.put, List.setIfInBounds_toArray, List.set_cons_zero, List.set_cons_succ, i64_w, i32_w]
     rfl
    refine pure_ (i := 40) (N := some 131) (v := undef) (a' := ?_) #[true, true, true, true, true, true, true, true, true, true, true, true, true, true, true, true, true, true, true, true, true, true, true, true, true, true, true, true, true, true, true, true, true, true, true, true, true, true, true, true, true, false, false, false, false, false, false] rfl rfl (by kernel_rfl) (fun _ _ _ h => h) (Or.inr ⟨by rfl, rfl⟩) ?_ ?_
    rotate_left
    ·simp only [Act.put, List.setIfInBounds_toArray, List.set_cons_zero, List.set_cons_succ, i64_w, i32_w]
     rfl
    refine pure_ (i := 41) (N := some 132) (v := undef) (a' := ?_) #[true, true, true, true, true, true, true, true, true, true, true, true, true, true, true, true, true, true, true, true, true, true, true, true, true, true, true, true, true, true, true, true, true, true, true, true, true, true, true, true, true, true, false, false, false, false, false] rfl rfl (by kernel_rfl) (fun _ _ _ h => h) (Or.inr ⟨by rfl, rfl⟩) ?_ ?_
    rotate_left
    ·simp only [Act.put, List.setIfInBounds_toArray, List.set_cons_zero, List.set_cons_succ, i64_w, i32_w]
     rfl
    refine pure_ (i := 42) (N := some 133) (v := undef) (a' := ?_) #[true, true, true, true, true, true, true, true, true, true, true, true, true, true, true, true, true, true, true, true, true, true, true, true, true, true, true, true, true, true, true, true, true, true, true, true, true, true, true, true, true, true, true, false, false, false, false] rfl rfl (by kernel_rfl) (fun _ _ _ h => h) (Or.inr ⟨by rfl, rfl⟩) ?_ ?_
    rotate_left
    ·simp only [Act.put, List.setIfInBounds_toArray, List.set_cons_zero, List.set_cons_succ, i64_w, i32_w]
     rfl
    refine pure_ (i := 43) (N := some 134) (v := undef) (a' := ?_) #[true, true, true, true, true, true, true, true, true, true, true, true, true, true, true, true, true, true, true, true, true, true, true, true, true, true, true, true, true, true, true, true, true, true, true, true, true, true, true, true, true, true, true, true, false, false, false] rfl rfl (by kernel_rfl) (fun _ _ _ h => h) (Or.inr ⟨by rfl, rfl⟩) ?_ ?_
    rotate_left
    ·simp only [Act.put, List.setIfInBounds_toArray, List.set_cons_zero, List.set_cons_succ, i64_w, i32_w]
     rfl
    refine pure_ (i := 44) (N := some 135) (v := undef) (a' := ?_) #[true, true, true, true, true, true, true, true, true, true, true, true, true, true, true, true, true, true, true, true, true, true, true, true, true, true, true, true, true, true, true, true, true, true, true, true, true, true, true, true, true, true, true, true, true, false, false] rfl rfl (by kernel_rfl) (fun _ _ _ h => h) (Or.inr ⟨by rfl, rfl⟩) ?_ ?_
    rotate_left
    ·simp only [Act.put, List.setIfInBounds_toArray, List.set_cons_zero, List.set_cons_succ, i64_w, i32_w]
     rfl
    refine pure_ (i := 45) (N := some 136) (v := ?_) (a' := ?_) #[true, true, true, true, true, true, true, true, true, true, true, true, true, true, true, true, true, true, true, true, true, true, true, true, true, true, true, true, true, true, true, true, true, true, true, true, true, true, true, true, true, true, true, true, true, true, false] rfl rfl (by kernel_rfl) (fun _ _ _ h => h) (Or.inl ⟨by rfl, ?_⟩) ?_ ?_
    rotate_left
    ·intro w'
     go_simp
     with_reducible rfl
    rotate_left
    ·simp only [Act.put, List.setIfInBounds_toArray, List.set_cons_zero, List.set_cons_succ, i64_w, i32_w]
     rfl
    refine pure_ (i := 46) (N := some 137) (v := ?_) (a' := ?_) #[true, true, true, true, true, true, true, true, true, true, true, true, true, true, true, true, true, true, true, true, true, true, true, true, true, true, true, true, true, true, true, true, true, true, true, true, true, true, true, true, true, true, true, true, true, true, true] rfl rfl (by kernel_rfl) (fun _ _ _ h => h) (Or.inl ⟨by rfl, ?_⟩) ?_ ?_
    rotate_left
    ·intro w'
     go_simp
     with_reducible rfl
    rotate_left
    ·simp only [Act.put, List.setIfInBounds_toArray, List.set_cons_zero, List.set_cons_succ, i64_w, i32_w]
     rfl
    refine done_ (by kernel_rfl) ?_
    go_wp2_with (first
     | (go_at_call 26; have hk_ := nresult w2; (with_reducible refine hk_.mono ?_); rintro e w3 ⟨rfl, hb⟩; have D3 := Aside0.mk hb; clear hb hk_)
     | ((with_reducible refine gate_dst (N := 19) rfl ?_); refine box_event ?bg19 (N := 19) ?bd19 (cs := #[.slice none 0 0]) (t := 24) ?br19 ?_; (case bd19 => rfl); (case bg19 => rfl); (case br19 => first | (go_simp; done) | (go_simp; rfl)); intro b19 hg w4 hbox hb; have ALb := Aside0.mk hb; have BXb := Aside0.mk hbox; have GBb := Aside0.mk hg; have zb := blk_frozen hbox 0; have qb : w4.cell? ⟨b19, 0, none⟩ = some (.slice none 0 0) := (blk_cell hbox 0).trans rfl; clear hg hbox hb)
     | ((with_reducible refine gate_store (t := 24) (p := 19) rfl ?_); refine store_event (t := 24) (p := 19) (w1 := w4.setCell ⟨b19, 0, none⟩ (.slice none 0 0)) rfl rfl rfl ?st19 ?_; (case st19 => first | (go_simp; done) | (go_simp; rfl)); intro w5 hwk; have hB : Below w3.heap.size w3 w5 := (by rw [hwk]; exact ALb.out.setCell (p := ⟨b19, 0, none⟩) (Nat.le_of_eq GBb.out.symm) _); have hbx : w5.heap[b19]? = some (.cells #[.slice none 0 0] 24 (0, 0)) := (by rw [hwk]; exact blk_put (cs := #[.slice none 0 0]) BXb.out 0 _ rfl); clear hwk; have D5 := Aside0.mk (D3.out.trans (hB.mono D3.out.size)); have B19 := Aside0.mk hbx; clear hB hbx zb qb)
     | (go_at_call 27; have hk_ := nrresult w5; (with_reducible refine hk_.mono ?_); rintro e w6 ⟨rfl, hb⟩; have D6 := Aside0.mk (D5.out.trans (hb.mono D5.out.size)); have B196 := Aside0.mk ((hb.block b19 (blk_lt B19.out)).trans B19.out); clear hb hk_)
     | ((with_reducible refine gate_dst (N := 22) rfl ?_); refine box_event ?bg22 (N := 22) ?bd22 (cs := #[.slice none 0 0]) (t := 24) ?br22 ?_; (case bd22 => rfl); (case bg22 => rfl); (case br22 => first | (go_simp; done) | (go_simp; rfl)); intro b22 hg w7 hbox hb; have ALb := Aside0.mk hb; have BXb := Aside0.mk hbox; have GBb := Aside0.mk hg; have zb := blk_frozen hbox 0; have qb : w7.cell? ⟨b22, 0, none⟩ = some (.slice none 0 0) := (blk_cell hbox 0).trans rfl; clear hg hbox hb)
     | ((with_reducible refine gate_store (t := 24) (p := 22) rfl ?_); refine store_event (t := 24) (p := 22) (w1 := w7.setCell ⟨b22, 0, none⟩ (.slice none 0 0)) rfl rfl rfl ?st22 ?_; (case st22 => first | (go_simp; done) | (go_simp; rfl)); intro w8 hwk; have hB : Below w6.heap.size w6 w8 := (by rw [hwk]; exact ALb.out.setCell (p := ⟨b22, 0, none⟩) (Nat.le_of_eq GBb.out.symm) _); have hbx : w8.heap[b22]? = some (.cells #[.slice none 0 0] 24 (0, 0)) := (by rw [hwk]; exact blk_put (cs := #[.slice none 0 0]) BXb.out 0 _ rfl); clear hwk; have D8 := Aside0.mk (D6.out.trans (hB.mono D6.out.size)); have c19 : w8.cell? ⟨b19, 0, none⟩ = some (.slice none 0 0) := (blk_cell ((hB.block b19 (blk_lt B196.out)).trans B196.out) 0).trans rfl; have c22 : w8.cell? ⟨b22, 0, none⟩ = some (.slice none 0 0) := (blk_cell hbx 0).trans rfl; clear hB hbx zb qb)
     | (go_at_call 20; have hk_ := same_nil w8 0 0; (with_reducible refine hk_.mono ?_); rintro e w9 ⟨rfl, hb⟩; have D9 := Aside0.mk (D8.out.trans (hb.mono D8.out.size)); clear hb hk_)
     | (go_at_call 21; have hk_ := ints_nil w9; (with_reducible refine hk_.mono ?_); rintro e w10 ⟨rfl, hb⟩; have D10 := Aside0.mk (D9.out.trans (hb.below.mono D9.out.size)); clear hb hk_))
    go_roundg (ops.length - (i + 1))
    case measure => omega
    case rel => exact ⟨i + 1, by omega, by omega, (by have := HOL.out; rw [wrap_nat (by omega)]), ⟨HBc.out.trans (D10.out.mono HBc.out.size)⟩⟩
   | false =>
    go_upto_region 13 with fail
    have HBc := Aside0.mk (HB.out.trans (below_drew (Below.refl w.heap.size wr) |>.mono (Nat.le_refl _)))
    have HELD := Aside0.mk (show wr.drew.cell? (ad.add (i * 2)) = some (.bool false) ∧ wr.drew.cell? ⟨(ad.add (i * 2)).block, (ad.add (i * 2)).off + 1, none⟩ = some (.int .i64 n0) from ⟨(HB.out.cell (World.block_lt_of_cell? _ _ X0.out)).trans X0.out, (HB.out.cell (World.block_lt_of_cell? _ _ X1.out)).trans X1.out⟩)
    refine start_ (n := 47) (S := fun w' => w'.cell? (ad.add (i * 2)) = some (.bool false) ∧ w'.cell? ⟨(ad.add (i * 2)).block, (ad.add (i * 2)).off + 1, none⟩ = some (.int .i64 n0)) (ds := []) #[false, false, false, false, false, false, false, false, false, false, false, false, false, false, false, false, false, false, false, false, false, false, false, false, false, false, false, false, false, false, false, false, false, false, false, false, false, false, false, false, false, false, false, false, false, false, false] (by kernel_rfl) rfl rfl HELD.out (fun hHeld => ?_)
    refine pure_ (i := 0) (N := some 91) (v := ?_) (a' := ?_) #[true, false, false, false, false, false, false, false, false, false, false, false, false, false, false, false, false, false, false, false, false, false, false, false, false, false, false, false, false, false, false, false, false, false, false, false, false, false, false, false, false, false, false, false, false, false, false] rfl rfl (by kernel_rfl) (fun _ _ _ h => h) (Or.inl ⟨by rfl, ?_⟩) ?_ ?_
    rotate_left
    ·intro w'
     go_simp
     with_reducible rfl
    rotate_left
    ·simp only [Act.put, List.setIfInBounds_toArray, List.set_cons_zero, List.set_cons_succ, i64_w, i32_w]
     rfl
    refine pure_ (i := 1) (N := some 92) (v := ?_) (a' := ?_) #[true, true, false, false, false, false, false, false, false, false, false, false, false, false, false, false, false, false, false, false, false, false, false, false, false, false, false, false, false, false, false, false, false, false, false, false, false, false, false, false, false, false, false, false, false, false, false] rfl rfl (by kernel_rfl) (fun _ _ _ h => h) (Or.inl ⟨by rfl, ?_⟩) ?_ ?_
    rotate_left
    ·intro w'
     go_simp
     with_reducible rfl
    rotate_left
    ·simp only [Act.put, List.setIfInBounds_toArray, List.set_cons_zero, List.set_cons_succ, i64_w, i32_w]
     rfl
    refine pure_ (i := 2) (N := some 93) (v := ?_) (a' := ?_) #[true, true, true, false, false, false, false, false, false, false, false, false, false, false, false, false, false, false, false, false, false, false, false, false, false, false, false, false, false, false, false, false, false, false, false, false, false, false, false, false, false, false, false, false, false, false, false] rfl rfl (by kernel_rfl) (fun _ _ _ h => h) (Or.inl ⟨by rfl, ?_⟩) ?_ ?_
    rotate_left
    ·intro w'
     go_simp
     with_reducible rfl
    rotate_left
    ·simp only [Act.put, List.setIfInBounds_toArray, List.set_cons_zero, List.set_cons_succ, i64_w, i32_w]
     rfl
    refine pure_ (i := 3) (N := some 94) (v := ?_) (a' := ?_) #[true, true, true, true, false, false, false, false, false, false, false, false, false, false, false, false, false, false, false, false, false, false, false, false, false, false, false, false, false, false, false, false, false, false, false, false, false, false, false, false, false, false, false, false, false, false, false] rfl rfl (by kernel_rfl) (fun _ _ _ h => h) (Or.inl ⟨by rfl, ?_⟩) ?_ ?_
    rotate_left
    ·intro w'
     go_simp
     with_reducible rfl
    rotate_left
    ·simp only [Act.put, List.setIfInBounds_toArray, List.set_cons_zero, List.set_cons_succ, i64_w, i32_w]
     rfl
    refine take_ (i := 4) (N := some 95) (v := ?_) (a' := ?_) #[true, true, true, true, true, false, false, false, false, false, false, false, false, false, false, false, false, false, false, false, false, false, false, false, false, false, false, false, false, false, false, false, false, false, false, false, false, false, false, false, false, false, false, false, false, false, false] rfl rfl (by kernel_rfl) (fun _ _ _ h => h) (Or.inl ⟨by rfl, ?_⟩) hHeld ?_ ?_
    rotate_left
    ·rintro w' ⟨s0, s1⟩
     go_simp
     with_reducible rfl
    rotate_left
    ·simp only [Act.put, List.setIfInBounds_toArray, List.set_cons_zero, List.set_cons_succ, i64_w, i32_w]
     rfl
    refine pure_ (i := 5) (N := some 96) (v := ?_) (a' := ?_) #[true, true, true, true, true, true, false, false, false, false, false, false, false, false, false, false, false, false, false, false, false, false, false, false, false, false, false, false, false, false, false, false, false, false, false, false, false, false, false, false, false, false, false, false, false, false, false] rfl rfl (by kernel_rfl) (fun _ _ _ h => h) (Or.inl ⟨by rfl, ?_⟩) ?_ ?_
    rotate_left
    ·intro w'
     go_simp
     with_reducible rfl
    rotate_left
    ·simp only [Act.put, List.setIfInBounds_toArray, List.set_cons_zero, List.set_cons_succ, i64_w, i32_w]
     rfl
    refine pure_ (i := 6) (N := some 97) (v := undef) (a' := ?_) #[true, true, true, true, true, true, true, false, false, false, false, false, false, false, false, false, false, false, false, false, false, false, false, false, false, false, false, false, false, false, false, false, false, false, false, false, false, false, false, false, false, false, false, false, false, false, false] rfl rfl (by kernel_rfl) (fun _ _ _ h => h) (Or.inr ⟨by rfl, rfl⟩) ?_ ?_
    rotate_left
    ·simp only [Act.put, List.setIfInBounds_toArray, List.set_cons_zero, List.set_cons_succ, i64_w, i32_w]
     rfl
    refine pure_ (i := 7) (N := some 98) (v := undef) (a' := ?_) #[true, true, true, true, true, true, true, true, false, false, false, false, false, false, false, false, false, false, false, false, false, false, false, false, false, false, false, false, false, false, false, false, false, false, false, false, false, false, false, false, false, false, false, false, false, false, false] rfl rfl (by kernel_rfl) (fun _ _ _ h => h) (Or.inr ⟨by rfl, rfl⟩) ?_ ?_
    rotate_left
    ·simp only [Act.put, List.setIfInBounds_toArray, List.set_cons_zero, List.set_cons_succ, i64_w, i32_w]
     rfl
    refine pure_ (i := 8) (N := some 99) (v := undef) (a' := ?_) #[true, true, true, true, true, true, true, true, true, false, false, false, false, false, false, false, false, false, false, false, false, false, false, false, false, false, false, false, false, false, false, false, false, false, false, false, false, false, false, false, false, false, false, false, false, false, false] rfl rfl (by kernel_rfl) (fun _ _ _ h => h) (Or.inr ⟨by rfl, rfl⟩) ?_ ?_
    rotate_left
    ·simp only [Act.put, List.setIfInBounds_toArray, List.set_cons_zero, List.set_cons_succ, i64_w, i32_w]
     rfl
    refine pure_ (i := 9) (N := some 100) (v := undef) (a' := ?_) #[true, true, true, true, true, true, true, true, true, true, false, false, false, false, false, false, false, false, false, false, false, false, false, false, false, false, false, false, false, false, false, false, false, false, false, false, false, false, false, false, false, false, false, false, false, false, false] rfl rfl (by kernel_rfl) (fun _ _ _ h => h) (Or.inr ⟨by rfl, rfl⟩) ?_ ?_
    rotate_left
    ·simp only [Act.put, List.setIfInBounds_toArray, List.set_cons_zero, List.set_cons_succ, i64_w, i32_w]
     rfl
    refine pure_ (i := 10) (N := some 101) (v := undef) (a' := ?_) #[true, true, true, true, true, true, true, true, true, true, true, false, false, false, false, false, false, false, false, false, false, false, false, false, false, false, false, false, false, false, false, false, false, false, false, false, false, false, false, false, false, false, false, false, false, false, false] rfl rfl (by kernel_rfl) (fun _ _ _ h => h) (Or.inr ⟨by rfl, rfl⟩) ?_ ?_
    rotate_left
    ·simp only [Act.put, List.setIfInBounds_toArray, List.set_cons_zero, List.set_cons_succ, i64_w, i32_w]
     rfl
    refine pure_ (i := 11) (N := some 102) (v := undef) (a' := ?_) #[true, true, true, true, true, true, true, true, true, true, true, true, false, false, false, false, false, false, false, false, false, false, false, false, false, false, false, false, false, false, false, false, false, false, false, false, false, false, false, false, false, false, false, false, false, false, false] rfl rfl (by kernel_rfl) (fun _ _ _ h => h) (Or.inr ⟨by rfl, rfl⟩) ?_ ?_
    rotate_left
    ·simp only [Act.put, List.setIfInBounds_toArray, List.set_cons_zero, List.set_cons_succ, i64_w, i32_w]
     rfl
    refine pure_ (i := 12) (N := some 103) (v := undef) (a' := ?_) #[true, true, true, true, true, true, true, true, true, true, true, true, true, false, false, false, false, false, false, false, false, false, false, false, false, false, false, false, false, false, false, false, false, false, false, false, false, false, false, false, false, false, false, false, false, false, false] rfl rfl (by kernel_rfl) (fun _ _ _ h => h) (Or.inr ⟨by rfl, rfl⟩) ?_ ?_
    rotate_left
    ·simp only [Act.put, List.setIfInBounds_toArray, List.set_cons_zero, List.set_cons_succ, i64_w, i32_w]
     rfl
    refine pure_ (i := 13) (N := some 104) (v := undef) (a' := ?_) #[true, true, true, true, true, true, true, true, true, true, true, true, true, true, false, false, false, false, false, false, false, false, false, false, false, false, false, false, false, false, false, false, false, false, false, false, false, false, false, false, false, false, false, false, false, false, false] rfl rfl (by kernel_rfl) (fun _ _ _ h => h) (Or.inr ⟨by rfl, rfl⟩) ?_ ?_
    rotate_left
    ·simp only [Act.put, List.setIfInBounds_toArray, List.set_cons_zero, List.set_cons_succ, i64_w, i32_w]
     rfl
    refine pure_ (i := 14) (N := some 105) (v := undef) (a' := ?_) #[true, true, true, true, true, true, true, true, true, true, true, true, true, true, true, false, false, false, false, false, false, false, false, false, false, false, false, false, false, false, false, false, false, false, false, false, false, false, false, false, false, false, false, false, false, false, false] rfl rfl (by kernel_rfl) (fun _ _ _ h => h) (Or.inr ⟨by rfl, rfl⟩) ?_ ?_
    rotate_left
    ·simp only [Act.put, List.setIfInBounds_toArray, List.set_cons_zero, List.set_cons_succ, i64_w, i32_w]
     rfl
    refine pure_ (i := 15) (N := some 106) (v := undef) (a' := ?_) #[true, true, true, true, true, true, true, true, true, true, true, true, true, true, true, true, false, false, false, false, false, false, false, false, false, false, false, false, false, false, false, false, false, false, false, false, false, false, false, false, false, false, false, false, false, false, false] rfl rfl (by kernel_rfl) (fun _ _ _ h => h) (Or.inr ⟨by rfl, rfl⟩) ?_ ?_
    rotate_left
    ·simp only [Act.put, List.setIfInBounds_toArray, List.set_cons_zero, List.set_cons_succ, i64_w, i32_w]
     rfl
    refine pure_ (i := 16) (N := some 107) (v := undef) (a' := ?_) #[true, true, true, true, true, true, true, true, true, true, true, true, true, true, true, true, true, false, false, false, false, false, false, false, false, false, false, false, false, false, false, false, false, false, false, false, false, false, false, false, false, false, false, false, false, false, false] rfl rfl (by kernel_rfl) (fun _ _ _ h => h) (Or.inr ⟨by rfl, rfl⟩) ?_ ?_
    rotate_left
    ·simp only [Act.put, List.setIfInBounds_toArray, List.set_cons_zero, List.set_cons_succ, i64_w, i32_w]
     rfl
    refine pure_ (i := 17) (N := some 108) (v := undef) (a' := ?_) #[true, true, true, true, true, true, true, true, true, true, true, true, true, true, true, true, true, true, false, false, false, false, false, false, false, false, false, false, false, false, false, false, false, false, false, false, false, false, false, false, false, false, false, false, false, false, false] rfl rfl (by kernel_rfl) (fun _ _ _ h => h) (Or.inr ⟨by rfl, rfl⟩) ?_ ?_
    rotate_left
    ·simp only [Act.put, List.setIfInBounds_toArray, List.set_cons_zero, List.set_cons_succ, i64_w, i32_w]
     rfl
    refine pure_ (i := 18) (N := some 109) (v := undef) (a' := ?_) #[true, true, true, true, true, true, true, true, true, true, true, true, true, true, true, true, true, true, true, false, false, false, false, false, false, false, false, false, false, false, false, false, false, false, false, false, false, false, false, false, false, false, false, false, false, false, false] rfl rfl (by kernel_rfl) (fun _ _ _ h => h) (Or.inr ⟨by rfl, rfl⟩) ?_ ?_
    rotate_left
    ·simp only [Act.put, List.setIfInBounds_toArray, List.set_cons_zero, List.set_cons_succ, i64_w, i32_w]
     rfl
    refine pure_ (i := 19) (N := some 110) (v := undef) (a' := ?_) #[true, true, true, true, true, true, true, true, true, true, true, true, true, true, true, true, true, true, true, true, false, false, false, false, false, false, false, false, false, false, false, false, false, false, false, false, false, false, false, false, false, false, false, false, false, false, false] rfl rfl (by kernel_rfl) (fun _ _ _ h => h) (Or.inr ⟨by rfl, rfl⟩) ?_ ?_
    rotate_left
    ·simp only [Act.put, List.setIfInBounds_toArray, List.set_cons_zero, List.set_cons_succ, i64_w, i32_w]
     rfl
    refine pure_ (i := 20) (N := some 111) (v := undef) (a' := ?_) #[true, true, true, true, true, true, true, true, true, true, true, true, true, true, true, true, true, true, true, true, true, false, false, false, false, false, false, false, false, false, false, false, false, false, false, false, false, false, false, false, false, false, false, false, false, false, false] rfl rfl (by kernel_rfl) (fun _ _ _ h => h) (Or.inr ⟨by rfl, rfl⟩) ?_ ?_
    rotate_left
    ·simp only [Act.put, List.setIfInBounds_toArray, List.set_cons_zero, List.set_cons_succ, i64_w, i32_w]
     rfl
    refine pure_ (i := 21) (N := some 112) (v := ?_) (a' := ?_) #[true, true, true, true, true, true, true, true, true, true, true, true, true, true, true, true, true, true, true, true, true, true, false, false, false, false, false, false, false, false, false, false, false, false, false, false, false, false, false, false, false, false, false, false, false, false, false] rfl rfl (by kernel_rfl) (fun _ _ _ h => h) (Or.inl ⟨by rfl, ?_⟩) ?_ ?_
    rotate_left
    ·intro w'
     go_simp
     with_reducible rfl
    rotate_left
    ·simp only [Act.put, List.setIfInBounds_toArray, List.set_cons_zero, List.set_cons_succ, i64_w, i32_w]
     rfl
    refine pure_ (i := 22) (N := some 113) (v := ?_) (a' := ?_) #[true, true, true, true, true, true, true, true, true, true, true, true, true, true, true, true, true, true, true, true, true, true, true, false, false, false, false, false, false, false, false, false, false, false, false, false, false, false, false, false, false, false, false, false, false, false, false] rfl rfl (by kernel_rfl) (fun _ _ _ h => h) (Or.inl ⟨by rfl, ?_⟩) ?_ ?_
    rotate_left
    ·intro w'
     go_simp
     with_reducible rfl
    rotate_left
    ·simp only [Act.put, List.setIfInBounds_toArray, List.set_cons_zero, List.set_cons_succ, i64_w, i32_w]
     rfl
    refine pure_ (i := 23) (N := some 114) (v := ?_) (a' := ?_) #[true, true, true, true, true, true, true, true, true, true, true, true, true, true, true, true, true, true, true, true, true, true, true, true, false, false, false, false, false, false, false, false, false, false, false, false, false, false, false, false, false, false, false, false, false, false, false] rfl rfl (by kernel_rfl) (fun _ _ _ h => h) (Or.inl ⟨by rfl, ?_⟩) ?_ ?_
    rotate_left
    ·intro w'
     go_simp
     with_reducible rfl
    rotate_left
    ·simp only [Act.put, List.setIfInBounds_toArray, List.set_cons_zero, List.set_cons_succ, i64_w, i32_w]
     rfl
    refine pure_ (i := 24) (N := some 115) (v := ?_) (a' := ?_) #[true, true, true, true, true, true, true, true, true, true, true, true, true, true, true, true, true, true, true, true, true, true, true, true, true, false, false, false, false, false, false, false, false, false, false, false, false, false, false, false, false, false, false, false, false, false, false] rfl rfl (by kernel_rfl) (fun _ _ _ h => h) (Or.inl ⟨by rfl, ?_⟩) ?_ ?_
    rotate_left
    ·intro w'
     go_simp
     with_reducible rfl
    rotate_left
    ·simp only [Act.put, List.setIfInBounds_toArray, List.set_cons_zero, List.set_cons_succ, i64_w, i32_w]
     rfl
    refine pure_ (i := 25) (N := some 116) (v := ?_) (a' := ?_) #[true, true, true, true, true, true, true, true, true, true, true, true, true, true, true, true, true, true, true, true, true, true, true, true, true, true, false, false, false, false, false, false, false, false, false, false, false, false, false, false, false, false, false, false, false, false, false] rfl rfl (by kernel_rfl) (fun _ _ _ h => h) (Or.inl ⟨by rfl, ?_⟩) ?_ ?_
    rotate_left
    ·intro w'
     go_simp
     with_reducible rfl
    rotate_left
    ·simp only [Act.put, List.setIfInBounds_toArray, List.set_cons_zero, List.set_cons_succ, i64_w, i32_w]
     rfl
    refine pure_ (i := 26) (N := some 117) (v := ?_) (a' := ?_) #[true, true, true, true, true, true, true, true, true, true, true, true, true, true, true, true, true, true, true, true, true, true, true, true, true, true, true, false, false, false, false, false, false, false, false, false, false, false, false, false, false, false, false, false, false, false, false] rfl rfl (by kernel_rfl) (fun _ _ _ h => h) (Or.inl ⟨by rfl, ?_⟩) ?_ ?_
    rotate_left
    ·intro w'
     go_simp
     with_reducible rfl
    rotate_left
    ·simp only [Act.put, List.setIfInBounds_toArray, List.set_cons_zero, List.set_cons_succ, i64_w, i32_w]
     rfl
    refine take_ (i := 27) (N := some 118) (v := ?_) (a' := ?_) #[true, true, true, true, true, true, true, true, true, true, true, true, true, true, true, true, true, true, true, true, true, true, true, true, true, true, true, true, false, false, false, false, false, false, false, false, false, false, false, false, false, false, false, false, false, false, false] rfl rfl (by kernel_rfl) (fun _ _ _ h => h) (Or.inl ⟨by rfl, ?_⟩) hHeld ?_ ?_
    rotate_left
    ·rintro w' ⟨s0, s1⟩
     go_simp
     with_reducible rfl
    rotate_left
    ·simp only [Act.put, List.setIfInBounds_toArray, List.set_cons_zero, List.set_cons_succ, i64_w, i32_w]
     rfl
    refine pure_ (i := 28) (N := some 119) (v := ?_) (a' := ?_) #[true, true, true, true, true, true, true, true, true, true, true, true, true, true, true, true, true, true, true, true, true, true, true, true, true, true, true, true, true, false, false, false, false, false, false, false, false, false, false, false, false, false, false, false, false, false, false] rfl rfl (by kernel_rfl) (fun _ _ _ h => h) (Or.inl ⟨by rfl, ?_⟩) ?_ ?_
    rotate_left
    ·intro w'
     go_simp
     with_reducible rfl
    rotate_left
    ·simp only [Act.put, List.setIfInBounds_toArray, List.set_cons_zero, List.set_cons_succ, i64_w, i32_w]
     rfl
    refine pure_ (i := 29) (N := some 120) (v := ?_) (a' := ?_) #[true, true, true, true, true, true, true, true, true, true, true, true, true, true, true, true, true, true, true, true, true, true, true, true, true, true, true, true, true, true, false, false, false, false, false, false, false, false, false, false, false, false, false, false, false, false, false] rfl rfl (by kernel_rfl) (fun _ _ _ h => h) (Or.inl ⟨by rfl, ?_⟩) ?_ ?_
    rotate_left
    ·intro w'
     go_simp
     with_reducible rfl
    rotate_left
    ·simp only [Act.put, List.setIfInBounds_toArray, List.set_cons_zero, List.set_cons_succ, i64_w, i32_w]
     rfl
    refine pure_ (i := 30) (N := some 121) (v := ?_) (a' := ?_) #[true, true, true, true, true, true, true, true, true, true, true, true, true, true, true, true, true, true, true, true, true, true, true, true, true, true, true, true, true, true, true, false, false, false, false, false, false, false, false, false, false, false, false, false, false, false, false] rfl rfl (by kernel_rfl) (fun _ _ _ h => h) (Or.inl ⟨by rfl, ?_⟩) ?_ ?_
    rotate_left
    ·intro w'
     go_simp
     with_reducible rfl
    rotate_left
    ·simp only [Act.put, List.setIfInBounds_toArray, List.set_cons_zero, List.set_cons_succ, i64_w, i32_w]
     rfl
    refine pure_ (i := 31) (N := some 122) (v := ?_) (a' := ?_) #[true, true, true, true, true, true, true, true, true, true, true, true, true, true, true, true, true, true, true, true, true, true, true, true, true, true, true, true, true, true, true, true, false, false, false, false, false, false, false, false, false, false, false, false, false, false, false] rfl rfl (by kernel_rfl) (fun _ _ _ h => h) (Or.inl ⟨by rfl, ?_⟩) ?_ ?_
    rotate_left
    ·intro w'
     go_simp
     with_reducible rfl
    rotate_left
    ·simp only [Act.put, List.setIfInBounds_toArray, List.set_cons_zero, List.set_cons_succ, i64_w, i32_w]
     rfl
    refine pure_ (i := 32) (N := some 123) (v := ?_) (a' := ?_) #[true, true, true, true, true, true, true, true, true, true, true, true, true, true, true, true, true, true, true, true, true, true, true, true, true, true, true, true, true, true, true, true, true, false, false, false, false, false, false, false, false, false, false, false, false, false, false] rfl rfl (by kernel_rfl) (fun _ _ _ h => h) (Or.inl ⟨by rfl, ?_⟩) ?_ ?_
    rotate_left
    ·intro w'
     go_simp
     with_reducible rfl
    rotate_left
    ·simp only [Act.put, List.setIfInBounds_toArray, List.set_cons_zero, List.set_cons_succ, i64_w, i32_w]
     rfl
    refine pure_ (i := 33) (N := some 124) (v := ?_) (a' := ?_) #[true, true, true, true, true, true, true, true, true, true, true, true, true, true, true, true, true, true, true, true, true, true, true, true, true, true, true, true, true, true, true, true, true, true, false, false, false, false, false, false, false, false, false, false, false, false, false] rfl rfl (by kernel_rfl) (fun _ _ _ h => h) (Or.inl ⟨by rfl, ?_⟩) ?_ ?_
    rotate_left
    ·intro w'
     go_simp
     with_reducible rfl
    rotate_left
    ·simp only [Act.put, List.setIfInBounds_toArray, List.set_cons_zero, List.set_cons_succ, i64_w, i32_w]
     rfl
    refine pure_ (i := 34) (N := some 125) (v := ?_) (a' := ?_) #[true, true, true, true, true, true, true, true, true, true, true, true, true, true, true, true, true, true, true, true, true, true, true, true, true, true, true, true, true, true, true, true, true, true, true, false, false, false, false, false, false, false, false, false, false, false, false] rfl rfl (by kernel_rfl) (fun _ _ _ h => h) (Or.inl ⟨by rfl, ?_⟩) ?_ ?_
    rotate_left
    ·intro w'
     go_simp
     with_reducible rfl
    rotate_left
    ·simp only [Act.put, List.setIfInBounds_toArray, List.set_cons_zero, List.set_cons_succ, i64_w, i32_w]
     rfl
    refine take_ (i := 35) (N := some 126) (v := ?_) (a' := ?_) #[true, true, true, true, true, true, true, true, true, true, true, true, true, true, true, true, true, true, true, true, true, true, true, true, true, true, true, true, true, true, true, true, true, true, true, true, false, false, false, false, false, false, false, false, false, false, false] rfl rfl (by kernel_rfl) (fun _ _ _ h => h) (Or.inl ⟨by rfl, ?_⟩) hHeld ?_ ?_
    rotate_left
    ·rintro w' ⟨s0, s1⟩
     go_simp
     with_reducible rfl
    rotate_left
    ·simp only [Act.put, List.setIfInBounds_toArray, List.set_cons_zero, List.set_cons_succ, i64_w, i32_w]
     rfl
    refine pure_ (i := 37) (N := some 128) (v := ?_) (a' := ?_) #[true, true, true, true, true, true, true, true, true, true, true, true, true, true, true, true, true, true, true, true, true, true, true, true, true, true, true, true, true, true, true, true, true, true, true, true, false, true, false, false, false, false, false, false, false, false, false] rfl rfl (by kernel_rfl) (fun _ _ _ h => h) (Or.inl ⟨by rfl, ?_⟩) ?_ ?_
    rotate_left
    ·intro w'
     go_simp
     with_reducible rfl
    rotate_left
    ·simp only [Act.put, List.setIfInBounds_toArray, List.set_cons_zero, List.set_cons_succ, i64_w, i32_w]
     rfl
    refine pure_ (i := 38) (N := some 129) (v := ?_) (a' := ?_) #[true, true, true, true, true, true, true, true, true, true, true, true, true, true, true, true, true, true, true, true, true, true, true, true, true, true, true, true, true, true, true, true, true, true, true, true, false, true, true, false, false, false, false, false, false, false, false] rfl rfl (by kernel_rfl) (fun _ _ _ h => h) (Or.inl ⟨by rfl, ?_⟩) ?_ ?_
    rotate_left
    ·intro w'
     go_simp
     with_reducible rfl
    rotate_left
    ·simp only [Act.put, List.setIfInBounds_toArray, List.set_cons_zero, List.set_cons_succ, i64_w, i32_w]
     rfl
    refine pure_ (i := 39) (N := some 130) (v := ?_) (a' := ?_) #[true, true, true, true, true, true, true, true, true, true, true, true, true, true, true, true, true, true, true, true, true, true, true, true, true, true, true, true, true, true, true, true, true, true, true, true, false, true, true, true, false, false, false, false, false, false, false] rfl rfl (by kernel_rfl) (fun _ _ _ h => h) (Or.inl ⟨by rfl, ?_⟩) ?_ ?_
    rotate_left
    ·intro w'
     go_simp
     with_reducible rfl
    rotate_left
    ·simp only [Act.put, List.setIfInBounds_toArray, List.set_cons_zero, List.set_cons_succ, i64_w, i32_w]
     rfl
    refine pure_ (i := 40) (N := some 131) (v := ?_) (a' := ?_) #[true, true, true, true, true, true, true, true, true, true, true, true, true, true, true, true, true, true, true, true, true, true, true, true, true, true, true, true, true, true, true, true, true, true, true, true, false, true, true, true, true, false, false, false, false, false, false] rfl rfl (by kernel_rfl) (fun _ _ _ h => h) (Or.inl ⟨by rfl, ?_⟩) ?_ ?_
    rotate_left
    ·intro w'
     go_simp
     with_reducible rfl
    rotate_left
    ·simp only [Act.put, List.setIfInBounds_toArray, List.set_cons_zero, List.set_cons_succ, i64_w, i32_w]
     rfl
    refine pure_ (i := 41) (N := some 132) (v := ?_) (a' := ?_) #[true, true, true, true, true, true, true, true, true, true, true, true, true, true, true, true, true, true, true, true, true, true, true, true, true, true, true, true, true, true, true, true, true, true, true, true, false, true, true, true, true, true, false, false, false, false, false] rfl rfl (by kernel_rfl) (fun _ _ _ h => h) (Or.inl ⟨by rfl, ?_⟩) ?_ ?_
    rotate_left
    ·intro w'
     go_simp
     with_reducible rfl
    rotate_left
    ·simp only [Act.put, List.setIfInBounds_toArray, List.set_cons_zero, List.set_cons_succ, i64_w, i32_w]
     rfl
    refine take_ (i := 42) (N := some 133) (v := ?_) (a' := ?_) #[true, true, true, true, true, true, true, true, true, true, true, true, true, true, true, true, true, true, true, true, true, true, true, true, true, true, true, true, true, true, true, true, true, true, true, true, false, true, true, true, true, true, true, false, false, false, false] rfl rfl (by kernel_rfl) (fun _ _ _ h => h) (Or.inl ⟨by rfl, ?_⟩) hHeld ?_ ?_
    rotate_left
    ·rintro w' ⟨s0, s1⟩
     go_simp
     with_reducible rfl
    rotate_left
    ·simp only [Act.put, List.setIfInBounds_toArray, List.set_cons_zero, List.set_cons_succ, i64_w, i32_w]
     rfl
    refine one_ (i := 36) (N := some 127) #[true, true, true, true, true, true, true, true, true, true, true, true, true, true, true, true, true, true, true, true, true, true, true, true, true, true, true, true, true, true, true, true, true, true, true, true, true, true, true, true, true, true, true, false, false, false, false] rfl rfl (by kernel_rfl) (by decide) (fun K hK => ?_)
    refine call_ 24 #[.pointer none, .int .i64 n0] ?hw rfl ?hr ?_
    case hw => rfl
    case hr => simp [execOp, resolve, Deferred.ofValue, invoke, Act.eval, eg24]
    refine (nstep _ n0).mono ?_
    rintro e w2 ⟨rfl, hb⟩
    refine ⟨_, rfl, ?_⟩
    have HBn := Aside0.mk (HBc.out.trans (hb.mono HBc.out.size))
    clear hb HBc
    have HBc := HBn
    clear HBn
    have hx := And.intro ((HBc.out.cell (World.block_lt_of_cell? _ _ X0.out)).trans X0.out) ((HBc.out.cell (World.block_lt_of_cell? _ _ X1.out)).trans X1.out)
    have HX := Aside0.mk hx
    clear hx
    clear hHeld
    refine hK.out _ _ HX.out (fun hHeld => ?_)
    clear hK K
    refine norm_ (a' := ?_) ?_ ?_
    rotate_left
    ·show Act.put _ (some 127) _ = _
     simp only [Act.put, List.setIfInBounds_toArray, List.set_cons_zero, List.set_cons_succ, i64_w, i32_w]
     rfl
    refine one_ (i := 43) (N := some 134) #[true, true, true, true, true, true, true, true, true, true, true, true, true, true, true, true, true, true, true, true, true, true, true, true, true, true, true, true, true, true, true, true, true, true, true, true, true, true, true, true, true, true, true, true, false, false, false] rfl rfl (by kernel_rfl) (by decide) (fun K hK => ?_)
    refine call_ 25 #[.pointer none, .int .i64 n0] ?hw rfl ?hr ?_
    case hw => rfl
    case hr => simp [execOp, resolve, Deferred.ofValue, invoke, Act.eval, eg25]
    refine (nrstep _ n0).mono ?_
    rintro e w2 ⟨rfl, hb⟩
    refine ⟨_, rfl, ?_⟩
    have HBn := Aside0.mk (HBc.out.trans (hb.mono HBc.out.size))
    clear hb HBc
    have HBc := HBn
    clear HBn
    have hx := And.intro ((HBc.out.cell (World.block_lt_of_cell? _ _ X0.out)).trans X0.out) ((HBc.out.cell (World.block_lt_of_cell? _ _ X1.out)).trans X1.out)
    have HX := Aside0.mk hx
    clear hx
    clear hHeld
    refine hK.out _ _ HX.out (fun hHeld => ?_)
    clear hK K
    refine norm_ (a' := ?_) ?_ ?_
    rotate_left
    ·show Act.put _ (some 134) _ = _
     simp only [Act.put, List.setIfInBounds_toArray, List.set_cons_zero, List.set_cons_succ, i64_w, i32_w]
     rfl
    refine pure_ (i := 44) (N := some 135) (v := ?_) (a' := ?_) #[true, true, true, true, true, true, true, true, true, true, true, true, true, true, true, true, true, true, true, true, true, true, true, true, true, true, true, true, true, true, true, true, true, true, true, true, true, true, true, true, true, true, true, true, true, false, false] rfl rfl (by kernel_rfl) (fun _ _ _ h => h) (Or.inl ⟨by rfl, ?_⟩) ?_ ?_
    rotate_left
    ·intro w'
     go_simp
     with_reducible rfl
    rotate_left
    ·simp only [Act.put, List.setIfInBounds_toArray, List.set_cons_zero, List.set_cons_succ, i64_w, i32_w]
     rfl
    refine pure_ (i := 45) (N := some 136) (v := ?_) (a' := ?_) #[true, true, true, true, true, true, true, true, true, true, true, true, true, true, true, true, true, true, true, true, true, true, true, true, true, true, true, true, true, true, true, true, true, true, true, true, true, true, true, true, true, true, true, true, true, true, false] rfl rfl (by kernel_rfl) (fun _ _ _ h => h) (Or.inl ⟨by rfl, ?_⟩) ?_ ?_
    rotate_left
    ·intro w'
     go_simp
     with_reducible rfl
    rotate_left
    ·simp only [Act.put, List.setIfInBounds_toArray, List.set_cons_zero, List.set_cons_succ, i64_w, i32_w]
     rfl
    refine pure_ (i := 46) (N := some 137) (v := ?_) (a' := ?_) #[true, true, true, true, true, true, true, true, true, true, true, true, true, true, true, true, true, true, true, true, true, true, true, true, true, true, true, true, true, true, true, true, true, true, true, true, true, true, true, true, true, true, true, true, true, true, true] rfl rfl (by kernel_rfl) (fun _ _ _ h => h) (Or.inl ⟨by rfl, ?_⟩) ?_ ?_
    rotate_left
    ·intro w'
     go_simp
     with_reducible rfl
    rotate_left
    ·simp only [Act.put, List.setIfInBounds_toArray, List.set_cons_zero, List.set_cons_succ, i64_w, i32_w]
     rfl
    refine done_ (by kernel_rfl) ?_
    go_wp2_with (first
     | (go_at_call 26; have hk_ := nresult w2; (with_reducible refine hk_.mono ?_); rintro e w3 ⟨rfl, hb⟩; have D3 := Aside0.mk hb; clear hb hk_)
     | ((with_reducible refine gate_dst (N := 19) rfl ?_); refine box_event ?bg19 (N := 19) ?bd19 (cs := #[.slice none 0 0]) (t := 24) ?br19 ?_; (case bd19 => rfl); (case bg19 => rfl); (case br19 => first | (go_simp; done) | (go_simp; rfl)); intro b19 hg w4 hbox hb; have ALb := Aside0.mk hb; have BXb := Aside0.mk hbox; have GBb := Aside0.mk hg; have zb := blk_frozen hbox 0; have qb : w4.cell? ⟨b19, 0, none⟩ = some (.slice none 0 0) := (blk_cell hbox 0).trans rfl; clear hg hbox hb)
     | ((with_reducible refine gate_store (t := 24) (p := 19) rfl ?_); refine store_event (t := 24) (p := 19) (w1 := w4.setCell ⟨b19, 0, none⟩ (.slice none 0 0)) rfl rfl rfl ?st19 ?_; (case st19 => first | (go_simp; done) | (go_simp; rfl)); intro w5 hwk; have hB : Below w3.heap.size w3 w5 := (by rw [hwk]; exact ALb.out.setCell (p := ⟨b19, 0, none⟩) (Nat.le_of_eq GBb.out.symm) _); have hbx : w5.heap[b19]? = some (.cells #[.slice none 0 0] 24 (0, 0)) := (by rw [hwk]; exact blk_put (cs := #[.slice none 0 0]) BXb.out 0 _ rfl); clear hwk; have D5 := Aside0.mk (D3.out.trans (hB.mono D3.out.size)); have B19 := Aside0.mk hbx; clear hB hbx zb qb)
     | (go_at_call 27; have hk_ := nrresult w5; (with_reducible refine hk_.mono ?_); rintro e w6 ⟨rfl, hb⟩; have D6 := Aside0.mk (D5.out.trans (hb.mono D5.out.size)); have B196 := Aside0.mk ((hb.block b19 (blk_lt B19.out)).trans B19.out); clear hb hk_)
     | ((with_reducible refine gate_dst (N := 22) rfl ?_); refine box_event ?bg22 (N := 22) ?bd22 (cs := #[.slice none 0 0]) (t := 24) ?br22 ?_; (case bd22 => rfl); (case bg22 => rfl); (case br22 => first | (go_simp; done) | (go_simp; rfl)); intro b22 hg w7 hbox hb; have ALb := Aside0.mk hb; have BXb := Aside0.mk hbox; have GBb := Aside0.mk hg; have zb := blk_frozen hbox 0; have qb : w7.cell? ⟨b22, 0, none⟩ = some (.slice none 0 0) := (blk_cell hbox 0).trans rfl; clear hg hbox hb)
     | ((with_reducible refine gate_store (t := 24) (p := 22) rfl ?_); refine store_event (t := 24) (p := 22) (w1 := w7.setCell ⟨b22, 0, none⟩ (.slice none 0 0)) rfl rfl rfl ?st22 ?_; (case st22 => first | (go_simp; done) | (go_simp; rfl)); intro w8 hwk; have hB : Below w6.heap.size w6 w8 := (by rw [hwk]; exact ALb.out.setCell (p := ⟨b22, 0, none⟩) (Nat.le_of_eq GBb.out.symm) _); have hbx : w8.heap[b22]? = some (.cells #[.slice none 0 0] 24 (0, 0)) := (by rw [hwk]; exact blk_put (cs := #[.slice none 0 0]) BXb.out 0 _ rfl); clear hwk; have D8 := Aside0.mk (D6.out.trans (hB.mono D6.out.size)); have c19 : w8.cell? ⟨b19, 0, none⟩ = some (.slice none 0 0) := (blk_cell ((hB.block b19 (blk_lt B196.out)).trans B196.out) 0).trans rfl; have c22 : w8.cell? ⟨b22, 0, none⟩ = some (.slice none 0 0) := (blk_cell hbx 0).trans rfl; clear hB hbx zb qb)
     | (go_at_call 20; have hk_ := same_nil w8 0 0; (with_reducible refine hk_.mono ?_); rintro e w9 ⟨rfl, hb⟩; have D9 := Aside0.mk (D8.out.trans (hb.mono D8.out.size)); clear hb hk_)
     | (go_at_call 21; have hk_ := ints_nil w9; (with_reducible refine hk_.mono ?_); rintro e w10 ⟨rfl, hb⟩; have D10 := Aside0.mk (D9.out.trans (hb.below.mono D9.out.size)); clear hb hk_))
    go_roundg (ops.length - (i + 1))
    case measure => omega
    case rel => exact ⟨i + 1, by omega, by omega, (by have := HOL.out; rw [wrap_nat (by omega)]), ⟨HBc.out.trans (D10.out.mono HBc.out.size)⟩⟩
  ·obtain rfl : i = ops.length := by omega
   go_wp2
   go_ret
   exact ⟨rfl, HB.out⟩
end Go.Proofs.YtcafgpfecfocnaaDoor.P
