/-
  ReapRoots: for every circuit, every list of roots and every two small numbers the law answers true, and all read afterwards as they did.
  Its conditions are the row's own: the three listed tables of the library hold at the start what the program's text lays (tied by the card).
-/
import Derived.Test.YtcafgpfecfocnaaDoorRd2
import Derived.Test.YtcafgpfecfocnaaDoorCards
import Derived.Test.YtcafgpfecfocnaaDoorTie
import Derived.Test.YtcafgpfecfocnaaDoorRd1
import Derived.WalkKit
import Derived.ProofKit
import Derived.OpenShut
import Derived.Carry
import Derived.Deep.DeepHandedRow
import Derived.Lib.LaidTab
import Derived.Stop.LaidErr
/- The walk of the law on roots. Written by gen_roots.py. -/
namespace Go.Proofs.YtcafgpfecfocnaaDoor.P
open Go.RowKit Go.Maps Go.Proofs.YtcafgpfecfocnaaDoorW.PrintWords Go.Proofs.YtcafgpfecfocnaaDoorW.PrintLast Go.Proofs.YtcafgpfecfocnaaDoorW.PrintMore
set_option linter.unusedVariables false
set_option linter.unusedSimpArgs false

theorem few_none (A0 : Option Addr) (c0 : Nat) (gs : List S50) (A1 : Option Addr) (c1 : Nat) (rs : List Int) (W : World) (h0 : Kd.C k50 W A0 gs.length gs) (hc0 : gs.length ≤ c0) (h1 : Kd.C (Kd.int .i64) W A1 rs.length rs) (hc1 : rs.length ≤ c1) :
    Calls Tryd.prog 15 #[.agg #[.slice A0 gs.length c0], .slice A1 rs.length c1, .slice none 0 0] W fun e W' => e = .returned (.bool (fewB gs rs 0)) ∧ Below W.heap.size W W' :=
  few_all A0 c0 gs A1 c1 rs none 0 [] W h0 hc0 h1 hc1 ⟨rfl, by decide, fun h => absurd h (by decide)⟩ (Nat.le_refl _)
theorem at_ints {W : World} {A : Option Addr} {n : Nat} {l : List Int} (h : Kd.C (Kd.int .i64) W A n l) (i : Nat) (hi : i < n) : ∃ ad, A = some ad ∧ W.cell? (ad.add i) = some (.int .i64 (rd l (i : Int))) := by
  obtain ⟨ad, c, e, _, hK, hc⟩ := Kd.C_get h 0 (i : Int) (by omega) (by omega)
  have hK2 : c = [.int .i64 (l.getD (i : Int).toNat 0)] := hK
  subst hK2
  have h0 := hc 0 _ rfl
  have h1 : W.cell? (ad.add (i * 1 + 0)) = some (.int .i64 (l.getD (i : Int).toNat 0)) := h0
  rw [Nat.mul_one, Nat.add_zero] at h1
  exact ⟨ad, e, h1⟩
/-- The list that the loop makes: what holds of it. -/
structure TL (B : Nat) (W0 W : World) (v : Value) (xs : List Int) : Prop where
  below : Below B W0 W
  row : QInts W v xs
  ge : ∀ k, v.ownBlock = some k → B ≤ k
theorem TL.grow {B : Nat} {W0 W W1 : World} {v v1 : Value} {xs : List Int} {i : Int} (h : TL B W0 W v xs) (hB : B ≤ W0.heap.size) (hq : QInts W1 v1 (xs ++ [i])) (hg : W.grownBy W1 v.ownBlock) (hat : v1.ownBlock = v.ownBlock ∨ ∃ b, v1.ownBlock = some b ∧ W.heap.size ≤ b) : TL B W0 W1 v1 (xs ++ [i]) where
  below := h.below.grown hg (by have := h.below.size; omega) h.ge
  row := hq
  ge := fun k hk => by
    rcases hat with h1 | ⟨b, h1, h2⟩
    · rw [h1] at hk; exact h.ge k hk
    · rw [h1] at hk
      obtain rfl := Option.some.inj hk
      have := h.below.size
      omega
theorem eg16 : ∀ args w, (callFunc 16 args).run Tryd.prog w = .ok (.enter 16 args) w := enters_of Tryd.func16 (by kernel_rfl) rfl
/-- A row of numbers that is new since B. -/
def NR (B : Nat) (w : World) (x : Value) (xs : List Int) : Prop := (Kd.int .i64).R 3 w B (fun k => x.ownBlock = some k) x xs
theorem NR.of {B : Nat} {w : World} {x : Value} {xs : List Int} {ok : Nat → Prop} (h : (Kd.int .i64).R 3 w B ok x xs) : NR B w x xs := ⟨fun _ hk => hk, h.2⟩
theorem NR.grown {B : Nat} {w w1 : World} {x : Value} {xs : List Int} {row : Option Nat} (h : NR B w x xs) (hg : w.grownBy w1 row) (hne : ∀ k, x.ownBlock = some k → some k ≠ row) : NR B w1 x xs := Kd.R_grown h hg hne
theorem NR.below {B : Nat} {w w1 : World} {x : Value} {xs : List Int} (h : NR B w x xs) (hb : Below w.heap.size w w1) : NR B w1 x xs := Kd.R_below h hb
def AP (x y : Value) : Prop := ∀ k, x.ownBlock = some k → y.ownBlock ≠ some k
theorem AP.new {B : Nat} {w : World} {x y : Value} {ys : List Int} (hn : ∃ b, x.ownBlock = some b ∧ w.heap.size ≤ b) (hy : NR B w y ys) : AP x y := fun k hx hk => by
  obtain ⟨b, h1, h2⟩ := hn
  rw [h1] at hx
  obtain rfl := Option.some.inj hx
  have := Kd.R_lt hy _ hk
  omega
theorem AP.symm {x y : Value} (h : AP x y) : AP y x := fun k hy hx => h k hx hy
theorem AP.at_ {B : Nat} {w : World} {x x' y : Value} {ys : List Int} (h : AP x y) (hat : x'.ownBlock = x.ownBlock ∨ ∃ b, x'.ownBlock = some b ∧ w.heap.size ≤ b) (hy : NR B w y ys) : AP x' y := by
  rcases hat with h1 | h1
  · exact fun k hk => h k (by rw [← h1]; exact hk)
  · exact AP.new h1 hy
theorem take_rev {rs : List Int} {j : Nat} (hj : j < rs.length) : rs.reverse.take (j + 1) = rs.reverse.take j ++ [rd rs ((rs.length - 1 - j : Nat) : Int)] := by
  rw [List.take_succ_eq_append_getElem (show j < rs.reverse.length by rw [List.length_reverse]; exact hj), List.getElem_reverse, rd_get rs _ (by omega)]

set_option maxRecDepth 100000 in
set_option maxHeartbeats 32000000 in
theorem roots_many (A0 : Option Addr) (c0 : Nat) (gs : List S50) (A1 : Option Addr) (c1 : Nat) (rs : List Int) (a2 a3 : Int) (w : World) (hT : Tabs w) (h0 : Kd.C k50 w A0 gs.length gs) (hc0 : gs.length ≤ c0) (h1 : Kd.C (Kd.int .i64) w A1 rs.length rs) (hc1 : rs.length ≤ c1)
    (hg : ∀ g ∈ gs, goodG g) (h2 : 0 ≤ a2 ∧ a2 < 256) (h3 : 0 ≤ a3 ∧ a3 < 256) (hf : fewB gs rs 0 = false ∨ rs = []) :
    Calls Tryd.prog 6 #[.agg #[.slice A0 gs.length c0], .slice A1 rs.length c1, .int .u8 a2, .int .u8 a3] w fun e w' => e = .returned (.bool true) ∧ Below w.heap.size w w' := by
  have HT := Aside0.mk (fun (W : World) (hb : Below w.heap.size w W) => hT.below hb)
  have HF := Aside0.mk (fun (W : World) (hb : Below w.heap.size w W) => few_none A0 c0 gs A1 c1 rs W (Kd.C_below h0 hb) hc0 (Kd.C_below h1 hb) hc1)
  have HG := Aside0.mk (fun (W : World) (hb : Below w.heap.size w W) => Kd.C_below h0 hb)
  have HR := Aside0.mk (fun (W : World) (hb : Below w.heap.size w W) => Kd.C_below h1 hb)
  have HC0 := Aside0.mk hc0
  have HC1 := Aside0.mk hc1
  have H2 := Aside0.mk h2
  have H3 := Aside0.mk h3
  clear h0 h1 h2 h3 hT hc0 hc1
  by_cases hfb : fewB gs rs 0 = false
  · rw [hfb] at HF
    clear hg hf hfb
    go_enter Tryd.func6, Tryd.ntmps6
    go_wp2_with (first
      | ((with_reducible refine gate_dst (N := 4) rfl ?_); refine box_event ?hg (N := 4) ?hd (cs := #[.slice A0 gs.length c0]) (t := 24) ?hr ?_; (case hd => rfl); (case hg => rfl); (case hr => first | (go_simp; done) | (go_simp; rfl)); intro gb hg w1 hbox hb; have L1 := Aside0.mk hb; have BX1 := Aside0.mk hbox; have GB := Aside0.mk hg; have q1 : w1.cell? ⟨gb, 0, none⟩ = some (.slice A0 gs.length c0) := (blk_cell hbox 0).trans rfl; clear hg hbox hb)
      | (go_at_call 14; have hk_ := head_walk w1 (HT.out _ L1.out); (with_reducible refine hk_.mono ?_); rintro e w2 ⟨rfl, hb⟩; have L2 := Aside0.mk (L1.out.trans (hb.mono L1.out.size)); have E2 := Aside0.mk hb; have q2 := (hb.cell (World.block_lt_of_cell? _ _ q1)).trans q1; clear hb hk_)
      | (go_at_call 15; have hk_ := HF.out w2 L2.out; (refine hk_.mono ?_); rintro e w3 ⟨rfl, hb⟩; have L3 := Aside0.mk (L2.out.trans (hb.mono L2.out.size)); have E3 := Aside0.mk (E2.out.trans (hb.mono E2.out.size)); have q3 := (hb.cell (World.block_lt_of_cell? _ _ q2)).trans q2; clear hb hk_))
    go_ret
    exact ⟨rfl, L3.out⟩
  · have hft : fewB gs rs 0 = true := by simpa using hfb
    obtain rfl : rs = [] := hf.resolve_left hfb
    rw [hft] at HF
    clear hg hf hfb hft
    go_enter Tryd.func6, Tryd.ntmps6
    go_wp2_with (first
      | ((with_reducible refine gate_dst (N := 4) rfl ?_); refine box_event ?hg (N := 4) ?hd (cs := #[.slice A0 gs.length c0]) (t := 24) ?hr ?_; (case hd => rfl); (case hg => rfl); (case hr => first | (go_simp; done) | (go_simp; rfl)); intro gb hg w1 hbox hb; have L1 := Aside0.mk hb; have BX1 := Aside0.mk hbox; have GB := Aside0.mk hg; have q1 : w1.cell? ⟨gb, 0, none⟩ = some (.slice A0 gs.length c0) := (blk_cell hbox 0).trans rfl; clear hg hbox hb)
      | (go_at_call 14; have hk_ := head_walk w1 (HT.out _ L1.out); (with_reducible refine hk_.mono ?_); rintro e w2 ⟨rfl, hb⟩; have L2 := Aside0.mk (L1.out.trans (hb.mono L1.out.size)); have E2 := Aside0.mk hb; have q2 := (hb.cell (World.block_lt_of_cell? _ _ q1)).trans q1; clear hb hk_)
      | (go_at_call 15; have hk_ := HF.out w2 L2.out; (refine hk_.mono ?_); rintro e w3 ⟨rfl, hb⟩; have L3 := Aside0.mk (L2.out.trans (hb.mono L2.out.size)); have E3 := Aside0.mk (E2.out.trans (hb.mono E2.out.size)); have q3 := (hb.cell (World.block_lt_of_cell? _ _ q2)).trans q2; clear hb hk_))
    go_ret
    exact ⟨rfl, L3.out⟩
set_option maxRecDepth 100000 in
set_option maxHeartbeats 32000000 in
theorem roots_wrong (A0 : Option Addr) (c0 : Nat) (gs : List S50) (A1 : Option Addr) (c1 : Nat) (rs : List Int) (a2 a3 : Int) (w : World) (hT : Tabs w) (h0 : Kd.C k50 w A0 gs.length gs) (hc0 : gs.length ≤ c0) (h1 : Kd.C (Kd.int .i64) w A1 rs.length rs) (hc1 : rs.length ≤ c1)
    (hg : ∀ g ∈ gs, goodG g) (h2 : 0 ≤ a2 ∧ a2 < 256) (h3 : 0 ≤ a3 ∧ a3 < 256) (hf : fewB gs rs 0 = true) (hr : rs ≠ []) (hs : startS gs rs = false) :
    Calls Tryd.prog 6 #[.agg #[.slice A0 gs.length c0], .slice A1 rs.length c1, .int .u8 a2, .int .u8 a3] w fun e w' => e = .returned (.bool true) ∧ Below w.heap.size w w' := by
  have HT := Aside0.mk (fun (W : World) (hb : Below w.heap.size w W) => hT.below hb)
  have HF := Aside0.mk (fun (W : World) (hb : Below w.heap.size w W) => few_none A0 c0 gs A1 c1 rs W (Kd.C_below h0 hb) hc0 (Kd.C_below h1 hb) hc1)
  have HG := Aside0.mk (fun (W : World) (hb : Below w.heap.size w W) => Kd.C_below h0 hb)
  have HR := Aside0.mk (fun (W : World) (hb : Below w.heap.size w W) => Kd.C_below h1 hb)
  have HC0 := Aside0.mk hc0
  have HC1 := Aside0.mk hc1
  have H2 := Aside0.mk h2
  have H3 := Aside0.mk h3
  clear h0 h1 h2 h3 hT hc0 hc1
  have hf' := hf
  simp only [fewB, Bool.and_eq_true, decide_eq_true_eq] at hf'
  obtain ⟨hfs, hrl, _⟩ := hf'
  have HW := Aside0.mk (few_wf hfs hg)
  have HRL := Aside0.mk hrl
  rw [hf] at HF
  clear hg hfs hrl hf
  have HS := Aside0.mk hs
  have hne : ¬ (rs.length : Int) = 0 := fun h => hr (List.eq_nil_of_length_eq_zero (by omega))
  clear hr
  obtain ⟨d, hd⟩ : ∃ d : List S50, d = [] := ⟨_, rfl⟩
  obtain ⟨m, hm⟩ : ∃ m : List Int, m = [] := ⟨_, rfl⟩
  obtain ⟨e0, he0⟩ : ∃ e0 : Int, e0 = 1 := ⟨_, rfl⟩
  have KE := Aside0.mk (show keepS gs rs = (d, m, e0) by unfold keepS; rw [if_neg (by rw [hs]; decide), hd, hm, he0])
  have hen : ¬ e0 = 0 := by omega
  clear hd hm he0 hs
  go_enter Tryd.func6, Tryd.ntmps6
  go_wp2_with (first
    | ((with_reducible refine gate_dst (N := 4) rfl ?_); refine box_event ?hg (N := 4) ?hd (cs := #[.slice A0 gs.length c0]) (t := 24) ?hr ?_; (case hd => rfl); (case hg => rfl); (case hr => first | (go_simp; done) | (go_simp; rfl)); intro gb hg w1 hbox hb; have L1 := Aside0.mk hb; have BX1 := Aside0.mk hbox; have GB := Aside0.mk hg; have q1 : w1.cell? ⟨gb, 0, none⟩ = some (.slice A0 gs.length c0) := (blk_cell hbox 0).trans rfl; clear hg hbox hb)
    | (go_at_call 14; have hk_ := head_walk w1 (HT.out _ L1.out); (with_reducible refine hk_.mono ?_); rintro e w2 ⟨rfl, hb⟩; have L2 := Aside0.mk (L1.out.trans (hb.mono L1.out.size)); have E2 := Aside0.mk hb; have q2 := (hb.cell (World.block_lt_of_cell? _ _ q1)).trans q1; clear hb hk_)
    | (go_at_call 15; have hk_ := HF.out w2 L2.out; (refine hk_.mono ?_); rintro e w3 ⟨rfl, hb⟩; have L3 := Aside0.mk (L2.out.trans (hb.mono L2.out.size)); have E3 := Aside0.mk (E2.out.trans (hb.mono E2.out.size)); have q3 := (hb.cell (World.block_lt_of_cell? _ _ q2)).trans q2; clear hb hk_)
    | (go_at_call 16; have hk_ := keep_f w3 A0 c0 gs A1 c1 rs.length rs rfl (HT.out _ L3.out) HW.out (HG.out _ L3.out) HC0.out (HR.out _ L3.out) HC1.out (by have := HRL.out; omega) d m e0 KE.out; (with_reducible refine hk_.mono ?_); rintro e w4 ⟨Ad, cd, Am, cm, rfl, hc1_, hc2_, hf, hb⟩; have L4 := Aside0.mk (L3.out.trans (hb.mono L3.out.size)); have E4 := Aside0.mk (E3.out.trans (hb.mono E3.out.size)); have FA4 := Aside0.mk hf; have LA := Aside0.mk (And.intro hc1_ hc2_); have q4 := (hb.cell (World.block_lt_of_cell? _ _ q3)).trans q3; clear hf hb hc1_ hc2_ hk_)
    | ((with_reducible refine gate_dst (N := 10) rfl ?_); refine box_event ?bg10 (N := 10) ?bd10 (cs := #[.slice none 0 0]) (t := 24) ?br10 ?_; (case bd10 => rfl); (case bg10 => rfl); (case br10 => first | (go_simp; done) | (go_simp; rfl)); intro b10 hg w5 hbox hb; have ALb := Aside0.mk hb; have BXb := Aside0.mk hbox; have GBb := Aside0.mk hg; have zb := blk_frozen hbox 0; have qb : w5.cell? ⟨b10, 0, none⟩ = some (.slice none 0 0) := (blk_cell hbox 0).trans rfl; clear hg hbox hb)
    | ((with_reducible refine gate_store (t := 24) (p := 10) rfl ?_); refine store_event (t := 24) (p := 10) (w1 := w5.setCell ⟨b10, 0, none⟩ (.slice Ad d.length cd)) rfl rfl rfl ?st10 ?_; (case st10 => first | (go_simp; done) | (go_simp; rfl)); intro w6 hwk; have hB : Below w4.heap.size w4 w6 := (by rw [hwk]; exact ALb.out.setCell (p := ⟨b10, 0, none⟩) (Nat.le_of_eq GBb.out.symm) _); have hbx : w6.heap[b10]? = some (.cells #[.slice Ad d.length cd] 24 (0, 0)) := (by rw [hwk]; exact blk_put (cs := #[.slice none 0 0]) BXb.out 0 _ rfl); clear hwk; have L6 := Aside0.mk (L4.out.trans (hB.mono L4.out.size)); have E6 := Aside0.mk (E4.out.trans (hB.mono E4.out.size)); have FA6 := Aside0.mk (Foot.below FA4.out hB); have B10 := Aside0.mk hbx; have q6 := (hB.cell (World.block_lt_of_cell? _ _ q4)).trans q4; clear hB hbx zb qb))
  go_ret
  exact ⟨rfl, L6.out⟩
set_option maxRecDepth 100000 in
set_option maxHeartbeats 32000000 in
theorem roots_right (A0 : Option Addr) (c0 : Nat) (gs : List S50) (A1 : Option Addr) (c1 : Nat) (rs : List Int) (a2 a3 : Int) (w : World) (hT : Tabs w) (h0 : Kd.C k50 w A0 gs.length gs) (hc0 : gs.length ≤ c0) (h1 : Kd.C (Kd.int .i64) w A1 rs.length rs) (hc1 : rs.length ≤ c1)
    (hg : ∀ g ∈ gs, goodG g) (h2 : 0 ≤ a2 ∧ a2 < 256) (h3 : 0 ≤ a3 ∧ a3 < 256) (hf : fewB gs rs 0 = true) (hr : rs ≠ []) (hs : startS gs rs = true) :
    Calls Tryd.prog 6 #[.agg #[.slice A0 gs.length c0], .slice A1 rs.length c1, .int .u8 a2, .int .u8 a3] w fun e w' => e = .returned (.bool true) ∧ Below w.heap.size w w' := by
  have HT := Aside0.mk (fun (W : World) (hb : Below w.heap.size w W) => hT.below hb)
  have HF := Aside0.mk (fun (W : World) (hb : Below w.heap.size w W) => few_none A0 c0 gs A1 c1 rs W (Kd.C_below h0 hb) hc0 (Kd.C_below h1 hb) hc1)
  have HG := Aside0.mk (fun (W : World) (hb : Below w.heap.size w W) => Kd.C_below h0 hb)
  have HR := Aside0.mk (fun (W : World) (hb : Below w.heap.size w W) => Kd.C_below h1 hb)
  have HC0 := Aside0.mk hc0
  have HC1 := Aside0.mk hc1
  have H2 := Aside0.mk h2
  have H3 := Aside0.mk h3
  clear h0 h1 h2 h3 hT hc0 hc1
  have hf' := hf
  simp only [fewB, Bool.and_eq_true, decide_eq_true_eq] at hf'
  obtain ⟨hfs, hrl, _⟩ := hf'
  have HW := Aside0.mk (few_wf hfs hg)
  have HRL := Aside0.mk hrl
  rw [hf] at HF
  clear hg hfs hrl hf
  have HS := Aside0.mk hs
  have hne : ¬ (rs.length : Int) = 0 := fun h => hr (List.eq_nil_of_length_eq_zero (by omega))
  clear hr
  obtain ⟨d, hd⟩ : ∃ d, d = resG gs (marksS gs rs) gs.length := ⟨_, rfl⟩
  obtain ⟨m, hm⟩ : ∃ m, m = rs.map (plOf (marksS gs rs)) := ⟨_, rfl⟩
  obtain ⟨e0, he0⟩ : ∃ e0 : Int, e0 = 0 := ⟨_, rfl⟩
  have KE := Aside0.mk (show keepS gs rs = (d, m, e0) by unfold keepS; rw [if_pos hs, hd, hm, he0])
  have DE := Aside0.mk hd
  obtain ⟨ks, hks⟩ := same_f (gs := d) (by rw [hd, resG_length]; have := cnt_le (marksS gs rs) gs.length; have := valid_len (start_in hs).1; omega) (wf_kids (by rw [hd]; exact resG_wf (start_in hs).1 HW.out))
  have KS := Aside0.mk (hks ks (Nat.le_refl _))
  have LOW := Aside0.mk (valid_low (start_in hs).1)
  have HLEN := Aside0.mk (valid_len (start_in hs).1)
  have RIN := Aside0.mk (start_in hs).2
  obtain ⟨qw, hqw, hqe⟩ := rem_at H2.out.1 H2.out.2 (show 0 < rs.length by omega)
  clear hks hd hm hs
  subst he0
  go_enter Tryd.func6, Tryd.ntmps6
  go_wp2_with (first
    | ((with_reducible refine gate_dst (N := 4) rfl ?_); refine box_event ?hg (N := 4) ?hd (cs := #[.slice A0 gs.length c0]) (t := 24) ?hr ?_; (case hd => rfl); (case hg => rfl); (case hr => first | (go_simp; done) | (go_simp; rfl)); intro gb hg w1 hbox hb; have L1 := Aside0.mk hb; have BX1 := Aside0.mk hbox; have GB := Aside0.mk hg; have q1 : w1.cell? ⟨gb, 0, none⟩ = some (.slice A0 gs.length c0) := (blk_cell hbox 0).trans rfl; clear hg hbox hb)
    | (go_at_call 14; have hk_ := head_walk w1 (HT.out _ L1.out); (with_reducible refine hk_.mono ?_); rintro e w2 ⟨rfl, hb⟩; have L2 := Aside0.mk (L1.out.trans (hb.mono L1.out.size)); have E2 := Aside0.mk hb; have q2 := (hb.cell (World.block_lt_of_cell? _ _ q1)).trans q1; clear hb hk_)
    | (go_at_call 15; have hk_ := HF.out w2 L2.out; (refine hk_.mono ?_); rintro e w3 ⟨rfl, hb⟩; have L3 := Aside0.mk (L2.out.trans (hb.mono L2.out.size)); have E3 := Aside0.mk (E2.out.trans (hb.mono E2.out.size)); have q3 := (hb.cell (World.block_lt_of_cell? _ _ q2)).trans q2; clear hb hk_)
    | (go_at_call 16; have hk_ := keep_f w3 A0 c0 gs A1 c1 rs.length rs rfl (HT.out _ L3.out) HW.out (HG.out _ L3.out) HC0.out (HR.out _ L3.out) HC1.out (by have := HRL.out; omega) d m 0 KE.out; (with_reducible refine hk_.mono ?_); rintro e w4 ⟨Ad, cd, Am, cm, rfl, hc1_, hc2_, hf, hb⟩; have L4 := Aside0.mk (L3.out.trans (hb.mono L3.out.size)); have E4 := Aside0.mk (E3.out.trans (hb.mono E3.out.size)); have FA4 := Aside0.mk hf; have LA := Aside0.mk (And.intro hc1_ hc2_); have q4 := (hb.cell (World.block_lt_of_cell? _ _ q3)).trans q3; clear hf hb hc1_ hc2_ hk_)
    | ((with_reducible refine gate_dst (N := 10) rfl ?_); refine box_event ?bg10 (N := 10) ?bd10 (cs := #[.slice none 0 0]) (t := 24) ?br10 ?_; (case bd10 => rfl); (case bg10 => rfl); (case br10 => first | (go_simp; done) | (go_simp; rfl)); intro b10 hg w5 hbox hb; have ALb := Aside0.mk hb; have BXb := Aside0.mk hbox; have GBb := Aside0.mk hg; have zb := blk_frozen hbox 0; have qb : w5.cell? ⟨b10, 0, none⟩ = some (.slice none 0 0) := (blk_cell hbox 0).trans rfl; clear hg hbox hb)
    | ((with_reducible refine gate_store (t := 24) (p := 10) rfl ?_); refine store_event (t := 24) (p := 10) (w1 := w5.setCell ⟨b10, 0, none⟩ (.slice Ad d.length cd)) rfl rfl rfl ?st10 ?_; (case st10 => first | (go_simp; done) | (go_simp; rfl)); intro w6 hwk; have hB : Below w4.heap.size w4 w6 := (by rw [hwk]; exact ALb.out.setCell (p := ⟨b10, 0, none⟩) (Nat.le_of_eq GBb.out.symm) _); have hbx : w6.heap[b10]? = some (.cells #[.slice Ad d.length cd] 24 (0, 0)) := (by rw [hwk]; exact blk_put (cs := #[.slice none 0 0]) BXb.out 0 _ rfl); clear hwk; have L6 := Aside0.mk (L4.out.trans (hB.mono L4.out.size)); have E6 := Aside0.mk (E4.out.trans (hB.mono E4.out.size)); have FA6 := Aside0.mk (Foot.below FA4.out hB); have B10 := Aside0.mk hbx; have q6 := (hB.cell (World.block_lt_of_cell? _ _ q4)).trans q4; clear hB hbx zb qb))
  have BX6 := Aside0.mk ((E6.out.block gb (blk_lt BX1.out)).trans BX1.out)
  have T6 := Aside0.mk (show TL w6.heap.size w6 w6 (.slice none 0 0) [] from ⟨Below.refl _ _, QInts.nil _, fun k hk => by simp [Value.ownBlock] at hk⟩)
  clear q1 q2 q3 q4 q6 L1 BX1 GB L2 E2 L3 E3 L4 E4 FA4 E6 ALb BXb GBb
  go_loopg [13, 14] rs.length (fun gg s13 s14 wr => ∃ j : Nat, j ≤ rs.length ∧ rs.length - j ≤ gg ∧ s14 = .int .i64 ((rs.length : Int) - 1 - (j : Int)) ∧ Aside0 (TL w6.heap.size w6 wr s13 (rs.reverse.take j)))
  case atStart => exact ⟨0, Nat.zero_le _, by omega, by congr 1; have := HRL.out; unfold wrap64; omega, T6⟩
  case round =>
    clear T6
    obtain ⟨j, hj, hgg, rfl, hTL⟩ := hrel
    obtain ⟨Av, nv, cv, rfl, hnv, hcv⟩ := hTL.out.row.form
    have NV := Aside0.mk hnv
    have CV := Aside0.mk hcv
    clear hnv hcv
    have LW := Aside0.mk (L6.out.trans (hTL.out.below.mono L6.out.size))
    by_cases hlt : j < rs.length
    · obtain ⟨p, hp⟩ : ∃ p, p = rs.length - 1 - j := ⟨_, rfl⟩
      rw [show (rs.length : Int) - 1 - (j : Int) = (p : Int) by omega]
      have hpl : (p : Int) < (rs.length : Int) := by omega
      obtain ⟨ad, e, x0⟩ := at_ints (HR.out wr LW.out) p (by omega)
      cases e
      have TK := Aside0.mk (take_rev hlt)
      rw [← hp] at TK
      have PJ := Aside0.mk hp
      clear hp
      go_wp2_with (first
        | (at_builtin; refine wp_append_q rfl _ _ rfl (.slice Av nv cv) (rs.reverse.take j) (rd rs (p : Int)) rfl rfl hTL.out.row (by have := HRL.out; rw [List.length_take]; omega) ?_; intro v1 W2 hq hg2 hat; obtain ⟨A1', n1', k1', e1, hn1, _⟩ := hq.form; subst e1; clear hn1; have TN := Aside0.mk (hTL.out.grow (Nat.le_refl _) hq hg2 hat); clear hq hg2 hat))
      go_roundg (rs.length - (j + 1))
      case measure => omega
      case rel => exact ⟨j + 1, by omega, by omega, by congr 1; have := PJ.out; have := HRL.out; unfold wrap64; omega, ⟨by rw [TK.out]; exact TN.out⟩⟩
    · obtain rfl : j = rs.length := by omega
      rw [show (rs.length : Int) - 1 - (rs.length : Int) = -1 by omega]
      obtain ⟨ad, e, x0⟩ := at_ints (HR.out wr LW.out) qw hqw
      cases e
      obtain ⟨r, hrr⟩ : ∃ r, r = rd rs (qw : Int) := ⟨_, rfl⟩
      have RMEM := Aside0.mk (show r ∈ rs by rw [hrr]; exact rd_mem rs qw hqw)
      have hrin := RIN.out r RMEM.out
      unfold inRange at hrin
      rw [← hrr] at x0
      have r0 : ¬ r < 0 := by omega
      have r1 : ¬ (gs.length : Int) ≤ r := by omega
      have r2 : 0 ≤ r := hrin.1
      have r3 : r < (gs.length : Int) := hrin.2
      have BXW := Aside0.mk ((hTL.out.below.block gb (blk_lt BX6.out)).trans BX6.out)
      have q0 : wr.cell? ⟨gb, 0, none⟩ = some (.slice A0 gs.length c0) := (blk_cell BXW.out 0).trans rfl
      obtain ⟨ag, Ak, ck, eg, g0, g1, g2, gl, gk⟩ := at_T50 (HG.out wr LW.out) r r2 r3
      cases eg
      have GK := Aside0.mk gk
      have GL := Aside0.mk gl
      have hqw1 : (0 : Int) ≤ (qw : Int) := by omega
      have hqw2 : (qw : Int) < (rs.length : Int) := by omega
      clear hrin hrr g0 g1 gl gk
      have FAW := Aside0.mk (Foot.below FA6.out hTL.out.below)
      have B10W := Aside0.mk ((hTL.out.below.block b10 (blk_lt B10.out)).trans B10.out)
      obtain ⟨qx, hqx0, hqx⟩ := rem_at H3.out.1 H3.out.2 (show 0 < gs.length by omega)
      have hgn : ¬ (gs.length : Int) = 0 := by omega
      have hgnil : ¬ gs = [] := fun e => by rw [e] at hgn; exact hgn rfl
      have QX := Aside0.mk (show inRange gs.length (qx : Int) from ⟨by omega, by omega⟩)
      obtain ⟨h, hh⟩ : ∃ h, h = resG gs (marksS gs (rs ++ [(qx : Int)])) gs.length := ⟨_, rfl⟩
      obtain ⟨m3, hm3⟩ : ∃ m3, m3 = (rs ++ [(qx : Int)]).map (plOf (marksS gs (rs ++ [(qx : Int)]))) := ⟨_, rfl⟩
      have KE3 := Aside0.mk (show keepS gs (rs ++ [(qx : Int)]) = (h, m3, 0) by unfold keepS; rw [if_pos (roots_more HS.out QX.out).1, hh, hm3])
      have hle : (d.length : Int) ≤ (h.length : Int) := by have := (roots_more HS.out QX.out).2; rw [← hh, ← DE.out] at this; omega
      clear hqx0 hh hm3
      obtain ⟨kl, hkl⟩ : ∃ kl, kl = (rd_T50 gs r).f2 := ⟨_, rfl⟩
      rw [← hkl] at g2 GK GL
      have KLE := Aside0.mk hkl
      clear hkl
      by_cases hk0 : kl.length = 0
      · have hk1 : ¬ (0 : Int) < (kl.length : Int) := by omega
        clear hk0
        go_upto_region 18 with fail
        have TLQ := Aside0.mk hTL.out.row
        obtain ⟨tl, htl⟩ : ∃ tl, tl = rs.reverse.take rs.length := ⟨_, rfl⟩
        rw [← htl] at TLQ
        have NL := Aside0.mk (show nv = tl.length by rw [htl]; exact NV.out)
        have TLL := Aside0.mk (show tl.length ≤ 61 by have := HRL.out; rw [htl]; simp; omega)
        have RS := Aside0.mk (roots_same HS.out (tl := tl) (by rw [htl]; intro r hr; rw [List.take_of_length_le (by simp)]; exact List.mem_reverse.2 hr) (by rw [htl]; intro r hr; rw [List.take_of_length_le (by simp)] at hr; exact .root r (List.mem_reverse.1 hr)))
        clear htl
        obtain ⟨m2, hm2⟩ : ∃ m2, m2 = tl.map (plOf (marksS gs rs)) := ⟨_, rfl⟩
        have KE2 := Aside0.mk (show keepS gs tl = (d, m2, 0) by unfold keepS; rw [if_pos RS.out.1, RS.out.2, hm2, DE.out])
        clear hm2
        clear g2 x0
        go_upto_region 19 with (first
          | (go_at_call 16; have hk_ := keep_f wr (some ag) c0 gs Av cv nv tl NL.out.symm (HT.out _ LW.out) HW.out (HG.out _ LW.out) HC0.out TLQ.out.reads.2.2 (by have := NL.out; have := CV.out; omega) (by have := TLL.out; omega) d m2 0 KE2.out; (with_reducible refine hk_.mono ?_); rintro e w7 ⟨Af, cf, Ag', cg', rfl, hc1_, hc2_, hf, hb⟩; have D7 := Aside0.mk hb; have FB7 := Aside0.mk hf; have LF := Aside0.mk (And.intro hc1_ hc2_); clear hf hb hc1_ hc2_ hk_)
          | ((with_reducible refine gate_dst (N := 17) rfl ?_); refine box_event ?bg17 (N := 17) ?bd17 (cs := #[.slice none 0 0]) (t := 24) ?br17 ?_; (case bd17 => rfl); (case bg17 => rfl); (case br17 => first | (go_simp; done) | (go_simp; rfl)); intro b17 hg w8 hbox hb; have ALb := Aside0.mk hb; have BXb := Aside0.mk hbox; have GBb := Aside0.mk hg; have zb := blk_frozen hbox 0; have qb : w8.cell? ⟨b17, 0, none⟩ = some (.slice none 0 0) := (blk_cell hbox 0).trans rfl; clear hg hbox hb)
          | ((with_reducible refine gate_store (t := 24) (p := 17) rfl ?_); refine store_event (t := 24) (p := 17) (w1 := w8.setCell ⟨b17, 0, none⟩ (.slice Af d.length cf)) rfl rfl rfl ?st17 ?_; (case st17 => first | (go_simp; done) | (go_simp; rfl)); intro w9 hwk; have hB : Below w7.heap.size w7 w9 := (by rw [hwk]; exact ALb.out.setCell (p := ⟨b17, 0, none⟩) (Nat.le_of_eq GBb.out.symm) _); have hbx : w9.heap[b17]? = some (.cells #[.slice Af d.length cf] 24 (0, 0)) := (by rw [hwk]; exact blk_put (cs := #[.slice none 0 0]) BXb.out 0 _ rfl); clear hwk; have D9 := Aside0.mk (D7.out.trans (hB.mono D7.out.size)); have FB9 := Aside0.mk (Foot.below FB7.out hB); have B17 := Aside0.mk hbx; clear hB hbx zb qb))
        have L9 := Aside0.mk (LW.out.trans (D9.out.mono LW.out.size))
        have FA9 := Aside0.mk (Foot.below FAW.out D9.out)
        have B109 := Aside0.mk ((D9.out.block b10 (blk_lt B10W.out)).trans B10W.out)
        have Q9 := Aside0.mk (show w9.cell? ⟨gb, 0, none⟩ = some (.slice (some ag) gs.length c0) from (blk_cell ((D9.out.block gb (blk_lt BXW.out)).trans BXW.out) 0).trans rfl)
        have HB := Aside0.mk (below_drew (Below.refl w9.heap.size w9))
        clear q0
        refine start_ (n := 21) (S := fun w' => w'.cell? ⟨gb, 0, none⟩ = some (.slice (some ag) gs.length c0)) (ds := []) #[false, false, false, false, false, false, false, false, false, false, false, false, false, false, false, false, false, false, false, false, false] (by kernel_rfl) rfl rfl Q9.out (fun hHeld => ?_)
        refine take_ (i := 0) (N := some 103) (v := ?_) (a' := ?_) #[true, false, false, false, false, false, false, false, false, false, false, false, false, false, false, false, false, false, false, false, false] rfl rfl (by kernel_rfl) (fun _ _ _ h => h) (Or.inl ⟨by rfl, ?_⟩) hHeld ?_ ?_
        rotate_left
        · intro w' s0
          go_simp
          with_reducible rfl
        rotate_left
        · simp only [Act.put, List.setIfInBounds_toArray, List.set_cons_zero, List.set_cons_succ, i64_w, i32_w]
          rfl
        refine pure_ (i := 2) (N := some 105) (v := ?_) (a' := ?_) #[true, false, true, false, false, false, false, false, false, false, false, false, false, false, false, false, false, false, false, false, false] rfl rfl (by kernel_rfl) (fun _ _ _ h => h) (Or.inl ⟨by rfl, ?_⟩) ?_ ?_
        rotate_left
        · intro w'
          go_simp
          with_reducible rfl
        rotate_left
        · simp only [Act.put, List.setIfInBounds_toArray, List.set_cons_zero, List.set_cons_succ, i64_w, i32_w]
          rfl
        refine pure_ (i := 4) (N := some 107) (v := ?_) (a' := ?_) #[true, false, true, false, true, false, false, false, false, false, false, false, false, false, false, false, false, false, false, false, false] rfl rfl (by kernel_rfl) (fun _ _ _ h => h) (Or.inl ⟨by rfl, ?_⟩) ?_ ?_
        rotate_left
        · intro w'
          go_simp
          with_reducible rfl
        rotate_left
        · simp only [Act.put, List.setIfInBounds_toArray, List.set_cons_zero, List.set_cons_succ, i64_w, i32_w]
          rfl
        refine pure_ (i := 5) (N := some 108) (v := ?_) (a' := ?_) #[true, false, true, false, true, true, false, false, false, false, false, false, false, false, false, false, false, false, false, false, false] rfl rfl (by kernel_rfl) (fun _ _ _ h => h) (Or.inl ⟨by rfl, ?_⟩) ?_ ?_
        rotate_left
        · intro w'
          go_simp
          with_reducible rfl
        rotate_left
        · simp only [Act.put, List.setIfInBounds_toArray, List.set_cons_zero, List.set_cons_succ, i64_w, i32_w]
          rfl
        refine pure_ (i := 6) (N := some 109) (v := ?_) (a' := ?_) #[true, false, true, false, true, true, true, false, false, false, false, false, false, false, false, false, false, false, false, false, false] rfl rfl (by kernel_rfl) (fun _ _ _ h => h) (Or.inl ⟨by rfl, ?_⟩) ?_ ?_
        rotate_left
        · intro w'
          go_simp
          with_reducible rfl
        rotate_left
        · simp only [Act.put, List.setIfInBounds_toArray, List.set_cons_zero, List.set_cons_succ, i64_w, i32_w]
          rfl
        refine take_ (i := 7) (N := some 110) (v := ?_) (a' := ?_) #[true, false, true, false, true, true, true, true, false, false, false, false, false, false, false, false, false, false, false, false, false] rfl rfl (by kernel_rfl) (fun _ _ _ h => h) (Or.inl ⟨by rfl, ?_⟩) hHeld ?_ ?_
        rotate_left
        · intro w' s0
          go_simp
          with_reducible rfl
        rotate_left
        · simp only [Act.put, List.setIfInBounds_toArray, List.set_cons_zero, List.set_cons_succ, i64_w, i32_w]
          rfl
        refine pure_ (i := 8) (N := some 111) (v := ?_) (a' := ?_) #[true, false, true, false, true, true, true, true, true, false, false, false, false, false, false, false, false, false, false, false, false] rfl rfl (by kernel_rfl) (fun _ _ _ h => h) (Or.inl ⟨by rfl, ?_⟩) ?_ ?_
        rotate_left
        · intro w'
          go_simp
          with_reducible rfl
        rotate_left
        · simp only [Act.put, List.setIfInBounds_toArray, List.set_cons_zero, List.set_cons_succ, i64_w, i32_w]
          rfl
        refine pure_ (i := 9) (N := some 112) (v := .int .i64 (qx : Int)) (a' := ?_) #[true, false, true, false, true, true, true, true, true, true, false, false, false, false, false, false, false, false, false, false, false] rfl rfl (by kernel_rfl) (fun _ _ _ h => h) (Or.inl ⟨by rfl, ?_⟩) ?_ ?_
        · intro w'
          go_simp
          first | done | assumption | rfl | exact hqx | (rw [hqx]; done) | (rw [hqx]; rfl) | simp [hqx]
        rotate_left
        · simp only [Act.put, List.setIfInBounds_toArray, List.set_cons_zero, List.set_cons_succ, i64_w, i32_w]
          rfl
        refine join_ (σ := Value × Value × Value × Value × Option Addr × Nat × Option Addr × Nat × Nat) 3 #[true, true, true, true, true, true, true, true, true, true, true, true, true, true, true, true, true, true, false, false, false] (fun s => [(104, s.1), (106, s.2.1), (113, s.2.2.1), (114, s.2.2.2.1), (115, .tuple #[.agg #[.slice s.2.2.2.2.1 h.length s.2.2.2.2.2.1], .slice s.2.2.2.2.2.2.1 m3.length s.2.2.2.2.2.2.2.1, .int .i64 0]), (102, .tuple #[.agg #[.slice s.2.2.2.2.1 h.length s.2.2.2.2.2.1], .slice s.2.2.2.2.2.2.1 m3.length s.2.2.2.2.2.2.2.1, .int .i64 0]), (116, .agg #[.slice s.2.2.2.2.1 h.length s.2.2.2.2.2.1]), (117, .slice s.2.2.2.2.2.2.1 m3.length s.2.2.2.2.2.2.2.1), (118, .int .i64 0), (20, .pointer (some ⟨s.2.2.2.2.2.2.2.2, 0, none⟩))]) (fun s w' => (Below w9.heap.size w9 w') ∧ (h.length ≤ s.2.2.2.2.2.1 ∧ m3.length ≤ s.2.2.2.2.2.2.2.1) ∧ (Foot (fun W => Kd.C k50 W s.2.2.2.2.1 h.length h ∧ Kd.C (Kd.int .i64) W s.2.2.2.2.2.2.1 m3.length m3) w' (fun k => w9.heap.size ≤ k)) ∧ (w'.heap[s.2.2.2.2.2.2.2.2]? = some (.cells #[.slice none 0 0] 24 (0, 0))) ∧ (w9.heap.size ≤ s.2.2.2.2.2.2.2.2)) ?_ ?_
        · rintro ⟨x104, x106, x113, x114, Ah, ch, Ai, ci, b20⟩ w' ⟨h_HB, h_LH, h_FH, h_BZ, h_GZ⟩
          have HB := Aside0.mk h_HB
          have LH := Aside0.mk h_LH
          have FH := Aside0.mk h_FH
          have BZ := Aside0.mk h_BZ
          have GZ := Aside0.mk h_GZ
          clear h_HB h_LH h_FH h_BZ h_GZ
          refine norm_ (a' := ?_) ?_ ?_
          rotate_left
          · simp only [putAll, Act.put, List.setIfInBounds_toArray, List.set_cons_zero, List.set_cons_succ, i64_w, i32_w]
            rfl
          refine one_ (i := 18) (N := none) #[true, true, true, true, true, true, true, true, true, true, true, true, true, true, true, true, true, true, true, false, false] rfl rfl (by kernel_rfl) (by decide) (fun K hK => ?_)
          have hs8 : w'.cell? ⟨b20, 0, none⟩ = some (.slice none 0 0) := (blk_cell BZ.out 0).trans rfl
          have hfs8 := blk_frozen BZ.out 0
          refine skip_ (w1 := w'.setCell ⟨b20, 0, none⟩ (.slice Ah h.length ch)) (by rfl) rfl ?_ ?_
          · go_simp
          have D10 := Aside0.mk (HB.out.setCell (p := ⟨b20, 0, none⟩) GZ.out (.slice Ah h.length ch))
          have b20' := blk_put (cs := #[.slice none 0 0]) BZ.out 0 (.slice Ah h.length ch) rfl
          obtain ⟨w10, hw10⟩ : ∃ w10, w10 = w'.setCell ⟨b20, 0, none⟩ (.slice Ah h.length ch) := ⟨_, rfl⟩
          rw [← hw10] at D10 b20'
          rw [← hw10]
          clear hw10 hs8 hfs8
          have c20 : w10.cell? ⟨b20, 0, none⟩ = some (.slice Ah h.length ch) := (blk_cell b20' 0).trans rfl
          have c10 : w10.cell? ⟨b10, 0, none⟩ = some (.slice Ad d.length cd) := (blk_cell ((D10.out.block b10 (blk_lt B109.out)).trans B109.out) 0).trans rfl
          have c17 : w10.cell? ⟨b17, 0, none⟩ = some (.slice Af d.length cf) := (blk_cell ((D10.out.block b17 (blk_lt B17.out)).trans B17.out) 0).trans rfl
          have hs1 := (D10.out.cell (World.block_lt_of_cell? _ _ Q9.out)).trans Q9.out
          have HSA := Aside0.mk hs1
          clear hs1 hHeld b20'
          refine hK.out _ _ HSA.out (fun hHeld => ?_)
          clear hK K
          refine pure_ (i := 19) (N := some 21) (v := ?_) (a' := ?_) #[true, true, true, true, true, true, true, true, true, true, true, true, true, true, true, true, true, true, true, true, false] rfl rfl (by kernel_rfl) (fun _ _ _ h => h) (Or.inl ⟨by rfl, ?_⟩) ?_ ?_
          rotate_left
          · intro w'
            go_simp
            with_reducible rfl
          rotate_left
          · simp only [Act.put, List.setIfInBounds_toArray, List.set_cons_zero, List.set_cons_succ, i64_w, i32_w]
            rfl
          refine pure_ (i := 20) (N := some 22) (v := ?_) (a' := ?_) #[true, true, true, true, true, true, true, true, true, true, true, true, true, true, true, true, true, true, true, true, true] rfl rfl (by kernel_rfl) (fun _ _ _ h => h) (Or.inl ⟨by rfl, ?_⟩) ?_ ?_
          rotate_left
          · intro w'
            go_simp
            with_reducible rfl
          rotate_left
          · simp only [Act.put, List.setIfInBounds_toArray, List.set_cons_zero, List.set_cons_succ, i64_w, i32_w]
            rfl
          refine done_ (by kernel_rfl) ?_
          go_wp2_with (first
            | (go_at_call 20; have hk_ := same_h (W := w10) d d.length rfl (Foot.below FA9.out D10.out).now.1 (Foot.below FB9.out D10.out).now.1 LA.out.1 LF.out.1 ks KS.out; (with_reducible refine hk_.mono ?_); rintro e w11 ⟨rfl, hb⟩; have L11 := Aside0.mk (L9.out.trans ((D10.out.trans (hb.mono D10.out.size)).mono L9.out.size)); have e20 := (hb.cell (World.block_lt_of_cell? _ _ c20)).trans c20; have e10 := (hb.cell (World.block_lt_of_cell? _ _ c10)).trans c10; clear hb hk_))
          go_ret
          exact ⟨rfl, L11.out⟩
        intro hJe1
        refine join_ (σ := Value × Value × Value × Value × Option Addr × Nat × Option Addr × Nat) 4 #[true, true, true, true, true, true, true, true, true, true, true, true, true, true, true, true, true, false, false, false, false] (fun s => [(104, s.1), (106, s.2.1), (113, s.2.2.1), (114, s.2.2.2.1), (115, .tuple #[.agg #[.slice s.2.2.2.2.1 h.length s.2.2.2.2.2.1], .slice s.2.2.2.2.2.2.1 m3.length s.2.2.2.2.2.2.2, .int .i64 0]), (102, .tuple #[.agg #[.slice s.2.2.2.2.1 h.length s.2.2.2.2.2.1], .slice s.2.2.2.2.2.2.1 m3.length s.2.2.2.2.2.2.2, .int .i64 0]), (116, .agg #[.slice s.2.2.2.2.1 h.length s.2.2.2.2.2.1]), (117, .slice s.2.2.2.2.2.2.1 m3.length s.2.2.2.2.2.2.2), (118, .int .i64 0)]) (fun s w' => (Below w9.heap.size w9 w') ∧ (h.length ≤ s.2.2.2.2.2.1 ∧ m3.length ≤ s.2.2.2.2.2.2.2) ∧ (Foot (fun W => Kd.C k50 W s.2.2.2.2.1 h.length h ∧ Kd.C (Kd.int .i64) W s.2.2.2.2.2.2.1 m3.length m3) w' (fun k => w9.heap.size ≤ k))) ?_ ?_
        · rintro ⟨x104, x106, x113, x114, Ah, ch, Ai, ci⟩ w' ⟨h_HB, h_LH, h_FH⟩
          have HB := Aside0.mk h_HB
          have LH := Aside0.mk h_LH
          have FH := Aside0.mk h_FH
          clear h_HB h_LH h_FH
          refine norm_ (a' := ?_) ?_ ?_
          rotate_left
          · simp only [putAll, Act.put, List.setIfInBounds_toArray, List.set_cons_zero, List.set_cons_succ, i64_w, i32_w]
            rfl
          refine one_ (i := 17) (N := some 20) #[true, true, true, true, true, true, true, true, true, true, true, true, true, true, true, true, true, true, false, false, false] rfl rfl (by kernel_rfl) (by decide) (fun K hK => ?_)
          refine value_ (w1 := w'.alloc (.cells #[.slice none 0 0] 24)) (v := .pointer (some ⟨w'.heap.size, 0, none⟩)) (by rfl) rfl ?_ ?_
          · first | (go_simp; done) | (go_simp; rfl)
          have hal := below_alloc (Below.refl w'.heap.size w') (.cells #[.slice none 0 0] 24)
          have BZ1 := Aside0.mk (heap_alloc_new w' (.cells #[.slice none 0 0] 24))
          have GZ := Aside0.mk HB.out.size
          have FHn := Aside0.mk (Foot.below FH.out hal)
          have HB1 := Aside0.mk (HB.out.trans (hal.mono HB.out.size))
          clear hal
          generalize w'.alloc (.cells #[.slice none 0 0] 24) = w1 at *
          generalize w'.heap.size = b20 at *
          have hs1 := (HB1.out.cell (World.block_lt_of_cell? _ _ Q9.out)).trans Q9.out
          have HSA := Aside0.mk hs1
          clear hs1 hHeld
          refine hK.out _ _ HSA.out (fun hHeld => ?_)
          clear hK K
          refine norm_ (a' := ?_) ?_ ?_
          rotate_left
          · show Act.put _ (some 20) _ = _
            simp only [Act.put, List.setIfInBounds_toArray, List.set_cons_zero, List.set_cons_succ, i64_w, i32_w]
            rfl
          exact norm_ (by first | (simp only [putAll, Act.put, List.setIfInBounds_toArray, List.set_cons_zero, List.set_cons_succ]; done) | (simp only [putAll, Act.put, List.setIfInBounds_toArray, List.set_cons_zero, List.set_cons_succ]; rfl)) (hJe1 ⟨x104, x106, x113, x114, Ah, ch, Ai, ci, b20⟩ w1 ⟨HB1.out, LH.out, FHn.out, BZ1.out, GZ.out⟩)
        intro hJe0
        refine join_ (σ := Value × Value × Value × Value × Nat) 8 #[true, true, true, true, true, true, true, true, true, true, true, true, false, false, false, false, false, true, false, false, false] (fun s => [(104, s.1), (106, s.2.1), (113, s.2.2.1), (114, s.2.2.2.1), (20, .pointer (some ⟨s.2.2.2.2, 0, none⟩))]) (fun s w' => (Below w9.heap.size w9 w') ∧ (NR w9.heap.size w' s.2.2.2.1 (rs ++ [(qx : Int)])) ∧ (w'.heap[s.2.2.2.2]? = some (.cells #[.slice none 0 0] 24 (0, 0))) ∧ (w9.heap.size ≤ s.2.2.2.2)) ?_ ?_
        · rintro ⟨x104, x106, x113, x114, b20⟩ w' ⟨h_HB, h_N114, h_BZ, h_GZ⟩
          have HB := Aside0.mk h_HB
          have N114 := Aside0.mk h_N114
          have BZ := Aside0.mk h_BZ
          have GZ := Aside0.mk h_GZ
          clear h_HB h_N114 h_BZ h_GZ
          obtain ⟨A114, c114, rfl⟩ := Kd.R_slice N114.out
          refine norm_ (a' := ?_) ?_ ?_
          rotate_left
          · simp only [putAll, Act.put, List.setIfInBounds_toArray, List.set_cons_zero, List.set_cons_succ, i64_w, i32_w]
            rfl
          refine one_ (i := 12) (N := some 115) #[true, true, true, true, true, true, true, true, true, true, true, true, true, false, false, false, false, true, false, false, false] rfl rfl (by kernel_rfl) (by decide) (fun K hK => ?_)
          refine call_ 16 #[.agg #[.slice (some ag) gs.length c0], .slice A114 (rs ++ [(qx : Int)]).length c114] ?hw rfl ?hr ?_
          case hw => rfl
          case hr => simp [execOp, resolve, Deferred.ofValue, invoke, Act.eval, eg16]
          refine (keep_f w' (some ag) c0 gs A114 c114 _ (rs ++ [(qx : Int)]) rfl (HT.out _ (L9.out.trans (HB.out.mono L9.out.size))) HW.out (HG.out _ (L9.out.trans (HB.out.mono L9.out.size))) HC0.out (Kd.R_reads' N114.out).2.2 (Kd.R_reads' N114.out).2.1 (by have := HRL.out; simp; omega) h m3 0 KE3.out).mono ?_
          rintro e w1 ⟨Ah, ch, Ai, ci, rfl, hl1_, hl2_, hf, hb⟩
          refine ⟨_, rfl, ?_⟩
          have HB1 := Aside0.mk (HB.out.trans (hb.mono HB.out.size))
          have LH := Aside0.mk (And.intro hl1_ hl2_)
          have FH := Aside0.mk (Go.Proofs.YtcafgpfecfocnaaDoorW.PrintWords.Foot.mono hf (fun k hk => Nat.le_trans HB.out.size hk))
          have BZ1 := Aside0.mk (blk_below (g := b20) BZ.out hb)
          clear hl1_ hl2_ hf hb
          have hs1 := (HB1.out.cell (World.block_lt_of_cell? _ _ Q9.out)).trans Q9.out
          have HSA := Aside0.mk hs1
          clear hs1 hHeld
          refine hK.out _ _ HSA.out (fun hHeld => ?_)
          clear hK K
          refine norm_ (a' := ?_) ?_ ?_
          rotate_left
          · show Act.put _ (some 115) _ = _
            simp only [Act.put, List.setIfInBounds_toArray, List.set_cons_zero, List.set_cons_succ, i64_w, i32_w]
            rfl
          refine pure_ (i := 13) (N := some 102) (v := ?_) (a' := ?_) #[true, true, true, true, true, true, true, true, true, true, true, true, true, true, false, false, false, true, false, false, false] rfl rfl (by kernel_rfl) (fun _ _ _ h => h) (Or.inl ⟨by rfl, ?_⟩) ?_ ?_
          rotate_left
          · intro w'
            go_simp
            with_reducible rfl
          rotate_left
          · simp only [Act.put, List.setIfInBounds_toArray, List.set_cons_zero, List.set_cons_succ, i64_w, i32_w]
            rfl
          refine pure_ (i := 14) (N := some 116) (v := ?_) (a' := ?_) #[true, true, true, true, true, true, true, true, true, true, true, true, true, true, true, false, false, true, false, false, false] rfl rfl (by kernel_rfl) (fun _ _ _ h => h) (Or.inl ⟨by rfl, ?_⟩) ?_ ?_
          rotate_left
          · intro w'
            go_simp
            with_reducible rfl
          rotate_left
          · simp only [Act.put, List.setIfInBounds_toArray, List.set_cons_zero, List.set_cons_succ, i64_w, i32_w]
            rfl
          refine pure_ (i := 15) (N := some 117) (v := ?_) (a' := ?_) #[true, true, true, true, true, true, true, true, true, true, true, true, true, true, true, true, false, true, false, false, false] rfl rfl (by kernel_rfl) (fun _ _ _ h => h) (Or.inl ⟨by rfl, ?_⟩) ?_ ?_
          rotate_left
          · intro w'
            go_simp
            with_reducible rfl
          rotate_left
          · simp only [Act.put, List.setIfInBounds_toArray, List.set_cons_zero, List.set_cons_succ, i64_w, i32_w]
            rfl
          refine pure_ (i := 16) (N := some 118) (v := ?_) (a' := ?_) #[true, true, true, true, true, true, true, true, true, true, true, true, true, true, true, true, true, true, false, false, false] rfl rfl (by kernel_rfl) (fun _ _ _ h => h) (Or.inl ⟨by rfl, ?_⟩) ?_ ?_
          rotate_left
          · intro w'
            go_simp
            with_reducible rfl
          rotate_left
          · simp only [Act.put, List.setIfInBounds_toArray, List.set_cons_zero, List.set_cons_succ, i64_w, i32_w]
            rfl
          exact norm_ (by first | (simp only [putAll, Act.put, List.setIfInBounds_toArray, List.set_cons_zero, List.set_cons_succ]; done) | (simp only [putAll, Act.put, List.setIfInBounds_toArray, List.set_cons_zero, List.set_cons_succ]; rfl)) (hJe1 ⟨x104, x106, x113, (.slice A114 (rs ++ [(qx : Int)]).length c114), Ah, ch, Ai, ci, b20⟩ w1 ⟨HB1.out, LH.out, FH.out, BZ1.out, GZ.out⟩)
        intro hJd1
        refine join_ (σ := Value × Value × Value × Value) 9 #[true, true, true, true, true, true, true, true, true, true, true, true, false, false, false, false, false, false, false, false, false] (fun s => [(104, s.1), (106, s.2.1), (113, s.2.2.1), (114, s.2.2.2)]) (fun s w' => (Below w9.heap.size w9 w') ∧ (NR w9.heap.size w' s.2.2.2 (rs ++ [(qx : Int)]))) ?_ ?_
        · rintro ⟨x104, x106, x113, x114⟩ w' ⟨h_HB, h_N114⟩
          have HB := Aside0.mk h_HB
          have N114 := Aside0.mk h_N114
          clear h_HB h_N114
          obtain ⟨A114, c114, rfl⟩ := Kd.R_slice N114.out
          refine norm_ (a' := ?_) ?_ ?_
          rotate_left
          · simp only [putAll, Act.put, List.setIfInBounds_toArray, List.set_cons_zero, List.set_cons_succ, i64_w, i32_w]
            rfl
          refine two_ (i := 12) (j := 17) (Ni := some 115) (Nj := some 20) #[true, true, true, true, true, true, true, true, true, true, true, true, true, false, false, false, false, false, false, false, false] #[true, true, true, true, true, true, true, true, true, true, true, true, false, false, false, false, false, true, false, false, false] rfl rfl rfl rfl (by kernel_rfl) (by decide) (by decide) (fun K hK => ?_) (fun K hK => ?_)
          · refine call_ 16 #[.agg #[.slice (some ag) gs.length c0], .slice A114 (rs ++ [(qx : Int)]).length c114] ?hw rfl ?hr ?_
            case hw => rfl
            case hr => simp [execOp, resolve, Deferred.ofValue, invoke, Act.eval, eg16]
            refine (keep_f w' (some ag) c0 gs A114 c114 _ (rs ++ [(qx : Int)]) rfl (HT.out _ (L9.out.trans (HB.out.mono L9.out.size))) HW.out (HG.out _ (L9.out.trans (HB.out.mono L9.out.size))) HC0.out (Kd.R_reads' N114.out).2.2 (Kd.R_reads' N114.out).2.1 (by have := HRL.out; simp; omega) h m3 0 KE3.out).mono ?_
            rintro e w1 ⟨Ah, ch, Ai, ci, rfl, hl1_, hl2_, hf, hb⟩
            refine ⟨_, rfl, ?_⟩
            have HB1 := Aside0.mk (HB.out.trans (hb.mono HB.out.size))
            have LH := Aside0.mk (And.intro hl1_ hl2_)
            have FH := Aside0.mk (Go.Proofs.YtcafgpfecfocnaaDoorW.PrintWords.Foot.mono hf (fun k hk => Nat.le_trans HB.out.size hk))
            clear hl1_ hl2_ hf hb
            have hs1 := (HB1.out.cell (World.block_lt_of_cell? _ _ Q9.out)).trans Q9.out
            have HSA := Aside0.mk hs1
            clear hs1 hHeld
            refine hK.out _ _ HSA.out (fun hHeld => ?_)
            clear hK K
            refine norm_ (a' := ?_) ?_ ?_
            rotate_left
            · show Act.put _ (some 115) _ = _
              simp only [Act.put, List.setIfInBounds_toArray, List.set_cons_zero, List.set_cons_succ, i64_w, i32_w]
              rfl
            refine pure_ (i := 13) (N := some 102) (v := ?_) (a' := ?_) #[true, true, true, true, true, true, true, true, true, true, true, true, true, true, false, false, false, false, false, false, false] rfl rfl (by kernel_rfl) (fun _ _ _ h => h) (Or.inl ⟨by rfl, ?_⟩) ?_ ?_
            rotate_left
            · intro w'
              go_simp
              with_reducible rfl
            rotate_left
            · simp only [Act.put, List.setIfInBounds_toArray, List.set_cons_zero, List.set_cons_succ, i64_w, i32_w]
              rfl
            refine pure_ (i := 14) (N := some 116) (v := ?_) (a' := ?_) #[true, true, true, true, true, true, true, true, true, true, true, true, true, true, true, false, false, false, false, false, false] rfl rfl (by kernel_rfl) (fun _ _ _ h => h) (Or.inl ⟨by rfl, ?_⟩) ?_ ?_
            rotate_left
            · intro w'
              go_simp
              with_reducible rfl
            rotate_left
            · simp only [Act.put, List.setIfInBounds_toArray, List.set_cons_zero, List.set_cons_succ, i64_w, i32_w]
              rfl
            refine pure_ (i := 15) (N := some 117) (v := ?_) (a' := ?_) #[true, true, true, true, true, true, true, true, true, true, true, true, true, true, true, true, false, false, false, false, false] rfl rfl (by kernel_rfl) (fun _ _ _ h => h) (Or.inl ⟨by rfl, ?_⟩) ?_ ?_
            rotate_left
            · intro w'
              go_simp
              with_reducible rfl
            rotate_left
            · simp only [Act.put, List.setIfInBounds_toArray, List.set_cons_zero, List.set_cons_succ, i64_w, i32_w]
              rfl
            refine pure_ (i := 16) (N := some 118) (v := ?_) (a' := ?_) #[true, true, true, true, true, true, true, true, true, true, true, true, true, true, true, true, true, false, false, false, false] rfl rfl (by kernel_rfl) (fun _ _ _ h => h) (Or.inl ⟨by rfl, ?_⟩) ?_ ?_
            rotate_left
            · intro w'
              go_simp
              with_reducible rfl
            rotate_left
            · simp only [Act.put, List.setIfInBounds_toArray, List.set_cons_zero, List.set_cons_succ, i64_w, i32_w]
              rfl
            exact norm_ (by first | (simp only [putAll, Act.put, List.setIfInBounds_toArray, List.set_cons_zero, List.set_cons_succ]; done) | (simp only [putAll, Act.put, List.setIfInBounds_toArray, List.set_cons_zero, List.set_cons_succ]; rfl)) (hJe0 ⟨x104, x106, x113, (.slice A114 (rs ++ [(qx : Int)]).length c114), Ah, ch, Ai, ci⟩ w1 ⟨HB1.out, LH.out, FH.out⟩)
          · refine value_ (w1 := w'.alloc (.cells #[.slice none 0 0] 24)) (v := .pointer (some ⟨w'.heap.size, 0, none⟩)) (by rfl) rfl ?_ ?_
            · first | (go_simp; done) | (go_simp; rfl)
            have hal := below_alloc (Below.refl w'.heap.size w') (.cells #[.slice none 0 0] 24)
            have BZ1 := Aside0.mk (heap_alloc_new w' (.cells #[.slice none 0 0] 24))
            have GZ := Aside0.mk HB.out.size
            have N114n := Aside0.mk (N114.out.below hal)
            have HB1 := Aside0.mk (HB.out.trans (hal.mono HB.out.size))
            clear hal
            generalize w'.alloc (.cells #[.slice none 0 0] 24) = w1 at *
            generalize w'.heap.size = b20 at *
            have hs1 := (HB1.out.cell (World.block_lt_of_cell? _ _ Q9.out)).trans Q9.out
            have HSA := Aside0.mk hs1
            clear hs1 hHeld
            refine hK.out _ _ HSA.out (fun hHeld => ?_)
            clear hK K
            refine norm_ (a' := ?_) ?_ ?_
            rotate_left
            · show Act.put _ (some 20) _ = _
              simp only [Act.put, List.setIfInBounds_toArray, List.set_cons_zero, List.set_cons_succ, i64_w, i32_w]
              rfl
            exact norm_ (by first | (simp only [putAll, Act.put, List.setIfInBounds_toArray, List.set_cons_zero, List.set_cons_succ]; done) | (simp only [putAll, Act.put, List.setIfInBounds_toArray, List.set_cons_zero, List.set_cons_succ]; rfl)) (hJd1 ⟨x104, x106, x113, (.slice A114 (rs ++ [(qx : Int)]).length c114), b20⟩ w1 ⟨HB1.out, N114n.out, BZ1.out, GZ.out⟩)
        intro hJd0
        refine join_ (σ := Value × Value × Value × Nat) 9 #[true, true, true, true, true, true, true, true, true, true, true, false, false, false, false, false, false, true, false, false, false] (fun s => [(104, s.1), (106, s.2.1), (113, s.2.2.1), (20, .pointer (some ⟨s.2.2.2, 0, none⟩))]) (fun s w' => (Below w9.heap.size w9 w') ∧ (NR w9.heap.size w' s.2.1 rs) ∧ (NR w9.heap.size w' s.2.2.1 [(qx : Int)]) ∧ (AP s.2.1 s.2.2.1) ∧ (w'.heap[s.2.2.2]? = some (.cells #[.slice none 0 0] 24 (0, 0))) ∧ (w9.heap.size ≤ s.2.2.2)) ?_ ?_
        · rintro ⟨x104, x106, x113, b20⟩ w' ⟨h_HB, h_N106, h_N113, h_APH, h_BZ, h_GZ⟩
          have HB := Aside0.mk h_HB
          have N106 := Aside0.mk h_N106
          have N113 := Aside0.mk h_N113
          have APH := Aside0.mk h_APH
          have BZ := Aside0.mk h_BZ
          have GZ := Aside0.mk h_GZ
          clear h_HB h_N106 h_N113 h_APH h_BZ h_GZ
          obtain ⟨A113, c113, rfl⟩ := Kd.R_slice N113.out
          refine norm_ (a' := ?_) ?_ ?_
          rotate_left
          · simp only [putAll, Act.put, List.setIfInBounds_toArray, List.set_cons_zero, List.set_cons_succ, i64_w, i32_w]
            rfl
          refine one_ (i := 11) (N := some 114) #[true, true, true, true, true, true, true, true, true, true, true, true, false, false, false, false, false, true, false, false, false] rfl rfl (by kernel_rfl) (by decide) (fun K hK => ?_)
          refine Kd.R_append_rows_step (Kd.int .i64) (w0 := w9) w9.heap.size (by rfl) (.tmp 106) (.tmp 113) 25 3 (.int .i64 0) 8 rfl Tryd.underlying25 info3q rfl (by decide) (by omega) x106 rs [(qx : Int)] A113 ([(qx : Int)] : List Int).length c113 (fun _ => True) (fun _ => False) rfl rfl (Kd.R_mono N106.out (fun _ _ => trivial)) (Kd.R_reads' N113.out).2.2 (fun _ _ h => h) (fun _ h => h.elim) (fun _ _ => trivial) HB.out HB.out.size (by have := HRL.out; simp; omega) ?_
          intro x114 w1 ho hb hg hat
          have HB1 := Aside0.mk hb
          have NN := Aside0.mk (NR.of ho)
          have AT := Aside0.mk hat
          have GR := Aside0.mk hg
          clear ho hb hg hat
          have BZ1 := Aside0.mk (blk_grown BZ.out GR.out (Kd.R_ne N106.out BZ.out (by decide)))
          have hs1 := (HB1.out.cell (World.block_lt_of_cell? _ _ Q9.out)).trans Q9.out
          have HSA := Aside0.mk hs1
          clear hs1 hHeld
          refine hK.out _ _ HSA.out (fun hHeld => ?_)
          clear hK K
          refine norm_ (a' := ?_) ?_ ?_
          rotate_left
          · show Act.put _ (some 114) _ = _
            simp only [Act.put, List.setIfInBounds_toArray, List.set_cons_zero, List.set_cons_succ, i64_w, i32_w]
            rfl
          exact norm_ (by first | (simp only [putAll, Act.put, List.setIfInBounds_toArray, List.set_cons_zero, List.set_cons_succ]; done) | (simp only [putAll, Act.put, List.setIfInBounds_toArray, List.set_cons_zero, List.set_cons_succ]; rfl)) (hJd1 ⟨x104, x106, (.slice A113 ([(qx : Int)] : List Int).length c113), x114, b20⟩ w1 ⟨HB1.out, NN.out, BZ1.out, GZ.out⟩)
        intro hJcb1
        refine join_ (σ := Value × Value × Value) 10 #[true, true, true, true, true, true, true, true, true, true, true, false, false, false, false, false, false, false, false, false, false] (fun s => [(104, s.1), (106, s.2.1), (113, s.2.2)]) (fun s w' => (Below w9.heap.size w9 w') ∧ (NR w9.heap.size w' s.2.1 rs) ∧ (NR w9.heap.size w' s.2.2 [(qx : Int)]) ∧ (AP s.2.1 s.2.2)) ?_ ?_
        · rintro ⟨x104, x106, x113⟩ w' ⟨h_HB, h_N106, h_N113, h_APH⟩
          have HB := Aside0.mk h_HB
          have N106 := Aside0.mk h_N106
          have N113 := Aside0.mk h_N113
          have APH := Aside0.mk h_APH
          clear h_HB h_N106 h_N113 h_APH
          obtain ⟨A113, c113, rfl⟩ := Kd.R_slice N113.out
          refine norm_ (a' := ?_) ?_ ?_
          rotate_left
          · simp only [putAll, Act.put, List.setIfInBounds_toArray, List.set_cons_zero, List.set_cons_succ, i64_w, i32_w]
            rfl
          refine two_ (i := 11) (j := 17) (Ni := some 114) (Nj := some 20) #[true, true, true, true, true, true, true, true, true, true, true, true, false, false, false, false, false, false, false, false, false] #[true, true, true, true, true, true, true, true, true, true, true, false, false, false, false, false, false, true, false, false, false] rfl rfl rfl rfl (by kernel_rfl) (by decide) (by decide) (fun K hK => ?_) (fun K hK => ?_)
          · refine Kd.R_append_rows_step (Kd.int .i64) (w0 := w9) w9.heap.size (by rfl) (.tmp 106) (.tmp 113) 25 3 (.int .i64 0) 8 rfl Tryd.underlying25 info3q rfl (by decide) (by omega) x106 rs [(qx : Int)] A113 ([(qx : Int)] : List Int).length c113 (fun _ => True) (fun _ => False) rfl rfl (Kd.R_mono N106.out (fun _ _ => trivial)) (Kd.R_reads' N113.out).2.2 (fun _ _ h => h) (fun _ h => h.elim) (fun _ _ => trivial) HB.out HB.out.size (by have := HRL.out; simp; omega) ?_
            intro x114 w1 ho hb hg hat
            have HB1 := Aside0.mk hb
            have NN := Aside0.mk (NR.of ho)
            have AT := Aside0.mk hat
            have GR := Aside0.mk hg
            clear ho hb hg hat
            have hs1 := (HB1.out.cell (World.block_lt_of_cell? _ _ Q9.out)).trans Q9.out
            have HSA := Aside0.mk hs1
            clear hs1 hHeld
            refine hK.out _ _ HSA.out (fun hHeld => ?_)
            clear hK K
            refine norm_ (a' := ?_) ?_ ?_
            rotate_left
            · show Act.put _ (some 114) _ = _
              simp only [Act.put, List.setIfInBounds_toArray, List.set_cons_zero, List.set_cons_succ, i64_w, i32_w]
              rfl
            exact norm_ (by first | (simp only [putAll, Act.put, List.setIfInBounds_toArray, List.set_cons_zero, List.set_cons_succ]; done) | (simp only [putAll, Act.put, List.setIfInBounds_toArray, List.set_cons_zero, List.set_cons_succ]; rfl)) (hJd0 ⟨x104, x106, (.slice A113 ([(qx : Int)] : List Int).length c113), x114⟩ w1 ⟨HB1.out, NN.out⟩)
          · refine value_ (w1 := w'.alloc (.cells #[.slice none 0 0] 24)) (v := .pointer (some ⟨w'.heap.size, 0, none⟩)) (by rfl) rfl ?_ ?_
            · first | (go_simp; done) | (go_simp; rfl)
            have hal := below_alloc (Below.refl w'.heap.size w') (.cells #[.slice none 0 0] 24)
            have BZ1 := Aside0.mk (heap_alloc_new w' (.cells #[.slice none 0 0] 24))
            have GZ := Aside0.mk HB.out.size
            have N106n := Aside0.mk (N106.out.below hal)
            have N113n := Aside0.mk (N113.out.below hal)
            have HB1 := Aside0.mk (HB.out.trans (hal.mono HB.out.size))
            clear hal
            generalize w'.alloc (.cells #[.slice none 0 0] 24) = w1 at *
            generalize w'.heap.size = b20 at *
            have hs1 := (HB1.out.cell (World.block_lt_of_cell? _ _ Q9.out)).trans Q9.out
            have HSA := Aside0.mk hs1
            clear hs1 hHeld
            refine hK.out _ _ HSA.out (fun hHeld => ?_)
            clear hK K
            refine norm_ (a' := ?_) ?_ ?_
            rotate_left
            · show Act.put _ (some 20) _ = _
              simp only [Act.put, List.setIfInBounds_toArray, List.set_cons_zero, List.set_cons_succ, i64_w, i32_w]
              rfl
            exact norm_ (by first | (simp only [putAll, Act.put, List.setIfInBounds_toArray, List.set_cons_zero, List.set_cons_succ]; done) | (simp only [putAll, Act.put, List.setIfInBounds_toArray, List.set_cons_zero, List.set_cons_succ]; rfl)) (hJcb1 ⟨x104, x106, (.slice A113 ([(qx : Int)] : List Int).length c113), b20⟩ w1 ⟨HB1.out, N106n.out, N113n.out, APH.out, BZ1.out, GZ.out⟩)
        intro hJcb0
        refine join_ (σ := Value × Value × Nat) 10 #[true, true, true, true, true, true, true, true, true, true, false, false, false, false, false, false, false, true, false, false, false] (fun s => [(104, s.1), (106, s.2.1), (20, .pointer (some ⟨s.2.2, 0, none⟩))]) (fun s w' => (Below w9.heap.size w9 w') ∧ (NR w9.heap.size w' s.2.1 rs) ∧ (w'.heap[s.2.2]? = some (.cells #[.slice none 0 0] 24 (0, 0))) ∧ (w9.heap.size ≤ s.2.2)) ?_ ?_
        · rintro ⟨x104, x106, b20⟩ w' ⟨h_HB, h_N106, h_BZ, h_GZ⟩
          have HB := Aside0.mk h_HB
          have N106 := Aside0.mk h_N106
          have BZ := Aside0.mk h_BZ
          have GZ := Aside0.mk h_GZ
          clear h_HB h_N106 h_BZ h_GZ
          refine norm_ (a' := ?_) ?_ ?_
          rotate_left
          · simp only [putAll, Act.put, List.setIfInBounds_toArray, List.set_cons_zero, List.set_cons_succ, i64_w, i32_w]
            rfl
          refine one_ (i := 10) (N := some 113) #[true, true, true, true, true, true, true, true, true, true, true, false, false, false, false, false, false, true, false, false, false] rfl rfl (by kernel_rfl) (by decide) (fun K hK => ?_)
          refine Kd.R_lit_step (Kd.int .i64) (w0 := w9) w9.heap.size 3 (by rfl) (N := 113) rfl (xs := ([(qx : Int)] : List Int)) (inner := [.int .i64 (qx : Int)]) (ok := fun _ => True) (okp := fun _ => True) ?lr (Reps.one (show Kd.M (Kd.int .i64) _ _ _ (qx : Int) [.int .i64 (qx : Int)] from rfl) (Reps.none _ _)) (fun _ hk => hk) trivial HB.out HB.out.size (by simp) ?_
          case lr => first | (go_simp; done) | (go_simp; rfl)
          intro x113 w1 ho hb hg hnew
          have HB1 := Aside0.mk hb
          have NN := Aside0.mk (NR.of ho)
          have NEW := Aside0.mk hnew
          have GR := Aside0.mk hg
          clear ho hb hg hnew
          have BZ1 := Aside0.mk (blk_grown BZ.out GR.out (by simp))
          have hs1 := (HB1.out.cell (World.block_lt_of_cell? _ _ Q9.out)).trans Q9.out
          have HSA := Aside0.mk hs1
          clear hs1 hHeld
          refine hK.out _ _ HSA.out (fun hHeld => ?_)
          clear hK K
          refine norm_ (a' := ?_) ?_ ?_
          rotate_left
          · show Act.put _ (some 113) _ = _
            simp only [Act.put, List.setIfInBounds_toArray, List.set_cons_zero, List.set_cons_succ, i64_w, i32_w]
            rfl
          exact norm_ (by first | (simp only [putAll, Act.put, List.setIfInBounds_toArray, List.set_cons_zero, List.set_cons_succ]; done) | (simp only [putAll, Act.put, List.setIfInBounds_toArray, List.set_cons_zero, List.set_cons_succ]; rfl)) (hJcb1 ⟨x104, x106, x113, b20⟩ w1 ⟨HB1.out, (N106.out.grown GR.out (fun k _ => by simp)), NN.out, (AP.symm (AP.new NEW.out N106.out)), BZ1.out, GZ.out⟩)
        intro hJc1
        refine join_ (σ := Value × Value) 11 #[true, true, true, true, true, true, true, true, true, true, false, false, false, false, false, false, false, false, false, false, false] (fun s => [(104, s.1), (106, s.2)]) (fun s w' => (Below w9.heap.size w9 w') ∧ (NR w9.heap.size w' s.2 rs)) ?_ ?_
        · rintro ⟨x104, x106⟩ w' ⟨h_HB, h_N106⟩
          have HB := Aside0.mk h_HB
          have N106 := Aside0.mk h_N106
          clear h_HB h_N106
          refine norm_ (a' := ?_) ?_ ?_
          rotate_left
          · simp only [putAll, Act.put, List.setIfInBounds_toArray, List.set_cons_zero, List.set_cons_succ, i64_w, i32_w]
            rfl
          refine two_ (i := 10) (j := 17) (Ni := some 113) (Nj := some 20) #[true, true, true, true, true, true, true, true, true, true, true, false, false, false, false, false, false, false, false, false, false] #[true, true, true, true, true, true, true, true, true, true, false, false, false, false, false, false, false, true, false, false, false] rfl rfl rfl rfl (by kernel_rfl) (by decide) (by decide) (fun K hK => ?_) (fun K hK => ?_)
          · refine Kd.R_lit_step (Kd.int .i64) (w0 := w9) w9.heap.size 3 (by rfl) (N := 113) rfl (xs := ([(qx : Int)] : List Int)) (inner := [.int .i64 (qx : Int)]) (ok := fun _ => True) (okp := fun _ => True) ?lr (Reps.one (show Kd.M (Kd.int .i64) _ _ _ (qx : Int) [.int .i64 (qx : Int)] from rfl) (Reps.none _ _)) (fun _ hk => hk) trivial HB.out HB.out.size (by simp) ?_
            case lr => first | (go_simp; done) | (go_simp; rfl)
            intro x113 w1 ho hb hg hnew
            have HB1 := Aside0.mk hb
            have NN := Aside0.mk (NR.of ho)
            have NEW := Aside0.mk hnew
            have GR := Aside0.mk hg
            clear ho hb hg hnew
            have hs1 := (HB1.out.cell (World.block_lt_of_cell? _ _ Q9.out)).trans Q9.out
            have HSA := Aside0.mk hs1
            clear hs1 hHeld
            refine hK.out _ _ HSA.out (fun hHeld => ?_)
            clear hK K
            refine norm_ (a' := ?_) ?_ ?_
            rotate_left
            · show Act.put _ (some 113) _ = _
              simp only [Act.put, List.setIfInBounds_toArray, List.set_cons_zero, List.set_cons_succ, i64_w, i32_w]
              rfl
            exact norm_ (by first | (simp only [putAll, Act.put, List.setIfInBounds_toArray, List.set_cons_zero, List.set_cons_succ]; done) | (simp only [putAll, Act.put, List.setIfInBounds_toArray, List.set_cons_zero, List.set_cons_succ]; rfl)) (hJcb0 ⟨x104, x106, x113⟩ w1 ⟨HB1.out, (N106.out.grown GR.out (fun k _ => by simp)), NN.out, (AP.symm (AP.new NEW.out N106.out))⟩)
          · refine value_ (w1 := w'.alloc (.cells #[.slice none 0 0] 24)) (v := .pointer (some ⟨w'.heap.size, 0, none⟩)) (by rfl) rfl ?_ ?_
            · first | (go_simp; done) | (go_simp; rfl)
            have hal := below_alloc (Below.refl w'.heap.size w') (.cells #[.slice none 0 0] 24)
            have BZ1 := Aside0.mk (heap_alloc_new w' (.cells #[.slice none 0 0] 24))
            have GZ := Aside0.mk HB.out.size
            have N106n := Aside0.mk (N106.out.below hal)
            have HB1 := Aside0.mk (HB.out.trans (hal.mono HB.out.size))
            clear hal
            generalize w'.alloc (.cells #[.slice none 0 0] 24) = w1 at *
            generalize w'.heap.size = b20 at *
            have hs1 := (HB1.out.cell (World.block_lt_of_cell? _ _ Q9.out)).trans Q9.out
            have HSA := Aside0.mk hs1
            clear hs1 hHeld
            refine hK.out _ _ HSA.out (fun hHeld => ?_)
            clear hK K
            refine norm_ (a' := ?_) ?_ ?_
            rotate_left
            · show Act.put _ (some 20) _ = _
              simp only [Act.put, List.setIfInBounds_toArray, List.set_cons_zero, List.set_cons_succ, i64_w, i32_w]
              rfl
            exact norm_ (by first | (simp only [putAll, Act.put, List.setIfInBounds_toArray, List.set_cons_zero, List.set_cons_succ]; done) | (simp only [putAll, Act.put, List.setIfInBounds_toArray, List.set_cons_zero, List.set_cons_succ]; rfl)) (hJc1 ⟨x104, x106, b20⟩ w1 ⟨HB1.out, N106n.out, BZ1.out, GZ.out⟩)
        intro hJc0
        refine join_ (σ := Value × Value × Nat) 10 #[true, true, true, false, true, true, true, true, true, true, true, false, false, false, false, false, false, true, false, false, false] (fun s => [(104, s.1), (113, s.2.1), (20, .pointer (some ⟨s.2.2, 0, none⟩))]) (fun s w' => (Below w9.heap.size w9 w') ∧ (NR w9.heap.size w' s.1 []) ∧ (NR w9.heap.size w' s.2.1 [(qx : Int)]) ∧ (AP s.1 s.2.1) ∧ (w'.heap[s.2.2]? = some (.cells #[.slice none 0 0] 24 (0, 0))) ∧ (w9.heap.size ≤ s.2.2)) ?_ ?_
        · rintro ⟨x104, x113, b20⟩ w' ⟨h_HB, h_N104, h_N113, h_APH, h_BZ, h_GZ⟩
          have HB := Aside0.mk h_HB
          have N104 := Aside0.mk h_N104
          have N113 := Aside0.mk h_N113
          have APH := Aside0.mk h_APH
          have BZ := Aside0.mk h_BZ
          have GZ := Aside0.mk h_GZ
          clear h_HB h_N104 h_N113 h_APH h_BZ h_GZ
          refine norm_ (a' := ?_) ?_ ?_
          rotate_left
          · simp only [putAll, Act.put, List.setIfInBounds_toArray, List.set_cons_zero, List.set_cons_succ, i64_w, i32_w]
            rfl
          refine one_ (i := 3) (N := some 106) #[true, true, true, true, true, true, true, true, true, true, true, false, false, false, false, false, false, true, false, false, false] rfl rfl (by kernel_rfl) (by decide) (fun K hK => ?_)
          refine Kd.R_append_rows_step (Kd.int .i64) (w0 := w9) w9.heap.size (by rfl) (.tmp 104) (.tmp 105) 25 3 (.int .i64 0) 8 rfl Tryd.underlying25 info3q rfl (by decide) (by omega) x104 [] rs (some ad) rs.length c1 (fun _ => True) (fun _ => False) rfl rfl (Kd.R_mono N104.out (fun _ _ => trivial)) (HR.out _ (L9.out.trans (HB.out.mono L9.out.size))) (fun _ _ h => h) (fun _ h => h.elim) (fun _ _ => trivial) HB.out HB.out.size (by have := HRL.out; simp; omega) ?_
          intro x106 w1 ho hb hg hat
          have HB1 := Aside0.mk hb
          have NN := Aside0.mk (NR.of ho)
          have AT := Aside0.mk hat
          have GR := Aside0.mk hg
          clear ho hb hg hat
          have BZ1 := Aside0.mk (blk_grown BZ.out GR.out (Kd.R_ne N104.out BZ.out (by decide)))
          have hs1 := (HB1.out.cell (World.block_lt_of_cell? _ _ Q9.out)).trans Q9.out
          have HSA := Aside0.mk hs1
          clear hs1 hHeld
          refine hK.out _ _ HSA.out (fun hHeld => ?_)
          clear hK K
          refine norm_ (a' := ?_) ?_ ?_
          rotate_left
          · show Act.put _ (some 106) _ = _
            simp only [Act.put, List.setIfInBounds_toArray, List.set_cons_zero, List.set_cons_succ, i64_w, i32_w]
            rfl
          exact norm_ (by first | (simp only [putAll, Act.put, List.setIfInBounds_toArray, List.set_cons_zero, List.set_cons_succ]; done) | (simp only [putAll, Act.put, List.setIfInBounds_toArray, List.set_cons_zero, List.set_cons_succ]; rfl)) (hJcb1 ⟨x104, x106, x113, b20⟩ w1 ⟨HB1.out, NN.out, (N113.out.grown GR.out (fun k hk he => APH.out k he.symm hk)), (AP.at_ APH.out AT.out N113.out), BZ1.out, GZ.out⟩)
        intro hJab1
        refine join_ (σ := Value × Value) 11 #[true, true, true, false, true, true, true, true, true, true, true, false, false, false, false, false, false, false, false, false, false] (fun s => [(104, s.1), (113, s.2)]) (fun s w' => (Below w9.heap.size w9 w') ∧ (NR w9.heap.size w' s.1 []) ∧ (NR w9.heap.size w' s.2 [(qx : Int)]) ∧ (AP s.1 s.2)) ?_ ?_
        · rintro ⟨x104, x113⟩ w' ⟨h_HB, h_N104, h_N113, h_APH⟩
          have HB := Aside0.mk h_HB
          have N104 := Aside0.mk h_N104
          have N113 := Aside0.mk h_N113
          have APH := Aside0.mk h_APH
          clear h_HB h_N104 h_N113 h_APH
          refine norm_ (a' := ?_) ?_ ?_
          rotate_left
          · simp only [putAll, Act.put, List.setIfInBounds_toArray, List.set_cons_zero, List.set_cons_succ, i64_w, i32_w]
            rfl
          refine two_ (i := 3) (j := 17) (Ni := some 106) (Nj := some 20) #[true, true, true, true, true, true, true, true, true, true, true, false, false, false, false, false, false, false, false, false, false] #[true, true, true, false, true, true, true, true, true, true, true, false, false, false, false, false, false, true, false, false, false] rfl rfl rfl rfl (by kernel_rfl) (by decide) (by decide) (fun K hK => ?_) (fun K hK => ?_)
          · refine Kd.R_append_rows_step (Kd.int .i64) (w0 := w9) w9.heap.size (by rfl) (.tmp 104) (.tmp 105) 25 3 (.int .i64 0) 8 rfl Tryd.underlying25 info3q rfl (by decide) (by omega) x104 [] rs (some ad) rs.length c1 (fun _ => True) (fun _ => False) rfl rfl (Kd.R_mono N104.out (fun _ _ => trivial)) (HR.out _ (L9.out.trans (HB.out.mono L9.out.size))) (fun _ _ h => h) (fun _ h => h.elim) (fun _ _ => trivial) HB.out HB.out.size (by have := HRL.out; simp; omega) ?_
            intro x106 w1 ho hb hg hat
            have HB1 := Aside0.mk hb
            have NN := Aside0.mk (NR.of ho)
            have AT := Aside0.mk hat
            have GR := Aside0.mk hg
            clear ho hb hg hat
            have hs1 := (HB1.out.cell (World.block_lt_of_cell? _ _ Q9.out)).trans Q9.out
            have HSA := Aside0.mk hs1
            clear hs1 hHeld
            refine hK.out _ _ HSA.out (fun hHeld => ?_)
            clear hK K
            refine norm_ (a' := ?_) ?_ ?_
            rotate_left
            · show Act.put _ (some 106) _ = _
              simp only [Act.put, List.setIfInBounds_toArray, List.set_cons_zero, List.set_cons_succ, i64_w, i32_w]
              rfl
            exact norm_ (by first | (simp only [putAll, Act.put, List.setIfInBounds_toArray, List.set_cons_zero, List.set_cons_succ]; done) | (simp only [putAll, Act.put, List.setIfInBounds_toArray, List.set_cons_zero, List.set_cons_succ]; rfl)) (hJcb0 ⟨x104, x106, x113⟩ w1 ⟨HB1.out, NN.out, (N113.out.grown GR.out (fun k hk he => APH.out k he.symm hk)), (AP.at_ APH.out AT.out N113.out)⟩)
          · refine value_ (w1 := w'.alloc (.cells #[.slice none 0 0] 24)) (v := .pointer (some ⟨w'.heap.size, 0, none⟩)) (by rfl) rfl ?_ ?_
            · first | (go_simp; done) | (go_simp; rfl)
            have hal := below_alloc (Below.refl w'.heap.size w') (.cells #[.slice none 0 0] 24)
            have BZ1 := Aside0.mk (heap_alloc_new w' (.cells #[.slice none 0 0] 24))
            have GZ := Aside0.mk HB.out.size
            have N104n := Aside0.mk (N104.out.below hal)
            have N113n := Aside0.mk (N113.out.below hal)
            have HB1 := Aside0.mk (HB.out.trans (hal.mono HB.out.size))
            clear hal
            generalize w'.alloc (.cells #[.slice none 0 0] 24) = w1 at *
            generalize w'.heap.size = b20 at *
            have hs1 := (HB1.out.cell (World.block_lt_of_cell? _ _ Q9.out)).trans Q9.out
            have HSA := Aside0.mk hs1
            clear hs1 hHeld
            refine hK.out _ _ HSA.out (fun hHeld => ?_)
            clear hK K
            refine norm_ (a' := ?_) ?_ ?_
            rotate_left
            · show Act.put _ (some 20) _ = _
              simp only [Act.put, List.setIfInBounds_toArray, List.set_cons_zero, List.set_cons_succ, i64_w, i32_w]
              rfl
            exact norm_ (by first | (simp only [putAll, Act.put, List.setIfInBounds_toArray, List.set_cons_zero, List.set_cons_succ]; done) | (simp only [putAll, Act.put, List.setIfInBounds_toArray, List.set_cons_zero, List.set_cons_succ]; rfl)) (hJab1 ⟨x104, x113, b20⟩ w1 ⟨HB1.out, N104n.out, N113n.out, APH.out, BZ1.out, GZ.out⟩)
        intro hJab0
        refine join_ (σ := Value × Nat) 11 #[true, false, true, false, true, true, true, true, true, true, true, false, false, false, false, false, false, true, false, false, false] (fun s => [(113, s.1), (20, .pointer (some ⟨s.2, 0, none⟩))]) (fun s w' => (Below w9.heap.size w9 w') ∧ (NR w9.heap.size w' s.1 [(qx : Int)]) ∧ (w'.heap[s.2]? = some (.cells #[.slice none 0 0] 24 (0, 0))) ∧ (w9.heap.size ≤ s.2)) ?_ ?_
        · rintro ⟨x113, b20⟩ w' ⟨h_HB, h_N113, h_BZ, h_GZ⟩
          have HB := Aside0.mk h_HB
          have N113 := Aside0.mk h_N113
          have BZ := Aside0.mk h_BZ
          have GZ := Aside0.mk h_GZ
          clear h_HB h_N113 h_BZ h_GZ
          refine norm_ (a' := ?_) ?_ ?_
          rotate_left
          · simp only [putAll, Act.put, List.setIfInBounds_toArray, List.set_cons_zero, List.set_cons_succ, i64_w, i32_w]
            rfl
          refine one_ (i := 1) (N := some 104) #[true, true, true, false, true, true, true, true, true, true, true, false, false, false, false, false, false, true, false, false, false] rfl rfl (by kernel_rfl) (by decide) (fun K hK => ?_)
          refine Kd.R_lit_step (Kd.int .i64) (w0 := w9) w9.heap.size 3 (by rfl) (N := 104) rfl (xs := ([] : List Int)) (inner := []) (ok := fun _ => True) (okp := fun _ => True) ?lr (Reps.none _ _) (fun _ hk => hk) trivial HB.out HB.out.size (by simp) ?_
          case lr => first | (go_simp; done) | (go_simp; rfl)
          intro x104 w1 ho hb hg hnew
          have HB1 := Aside0.mk hb
          have NN := Aside0.mk (NR.of ho)
          have NEW := Aside0.mk hnew
          have GR := Aside0.mk hg
          clear ho hb hg hnew
          have BZ1 := Aside0.mk (blk_grown BZ.out GR.out (by simp))
          have hs1 := (HB1.out.cell (World.block_lt_of_cell? _ _ Q9.out)).trans Q9.out
          have HSA := Aside0.mk hs1
          clear hs1 hHeld
          refine hK.out _ _ HSA.out (fun hHeld => ?_)
          clear hK K
          refine norm_ (a' := ?_) ?_ ?_
          rotate_left
          · show Act.put _ (some 104) _ = _
            simp only [Act.put, List.setIfInBounds_toArray, List.set_cons_zero, List.set_cons_succ, i64_w, i32_w]
            rfl
          exact norm_ (by first | (simp only [putAll, Act.put, List.setIfInBounds_toArray, List.set_cons_zero, List.set_cons_succ]; done) | (simp only [putAll, Act.put, List.setIfInBounds_toArray, List.set_cons_zero, List.set_cons_succ]; rfl)) (hJab1 ⟨x104, x113, b20⟩ w1 ⟨HB1.out, NN.out, (N113.out.grown GR.out (fun k _ => by simp)), (AP.new NEW.out N113.out), BZ1.out, GZ.out⟩)
        intro hJb1
        refine join_ (σ := Value) 12 #[true, false, true, false, true, true, true, true, true, true, true, false, false, false, false, false, false, false, false, false, false] (fun s => [(113, s)]) (fun s w' => (Below w9.heap.size w9 w') ∧ (NR w9.heap.size w' s [(qx : Int)])) ?_ ?_
        · rintro x113 w' ⟨h_HB, h_N113⟩
          have HB := Aside0.mk h_HB
          have N113 := Aside0.mk h_N113
          clear h_HB h_N113
          refine norm_ (a' := ?_) ?_ ?_
          rotate_left
          · simp only [putAll, Act.put, List.setIfInBounds_toArray, List.set_cons_zero, List.set_cons_succ, i64_w, i32_w]
            rfl
          refine two_ (i := 1) (j := 17) (Ni := some 104) (Nj := some 20) #[true, true, true, false, true, true, true, true, true, true, true, false, false, false, false, false, false, false, false, false, false] #[true, false, true, false, true, true, true, true, true, true, true, false, false, false, false, false, false, true, false, false, false] rfl rfl rfl rfl (by kernel_rfl) (by decide) (by decide) (fun K hK => ?_) (fun K hK => ?_)
          · refine Kd.R_lit_step (Kd.int .i64) (w0 := w9) w9.heap.size 3 (by rfl) (N := 104) rfl (xs := ([] : List Int)) (inner := []) (ok := fun _ => True) (okp := fun _ => True) ?lr (Reps.none _ _) (fun _ hk => hk) trivial HB.out HB.out.size (by simp) ?_
            case lr => first | (go_simp; done) | (go_simp; rfl)
            intro x104 w1 ho hb hg hnew
            have HB1 := Aside0.mk hb
            have NN := Aside0.mk (NR.of ho)
            have NEW := Aside0.mk hnew
            have GR := Aside0.mk hg
            clear ho hb hg hnew
            have hs1 := (HB1.out.cell (World.block_lt_of_cell? _ _ Q9.out)).trans Q9.out
            have HSA := Aside0.mk hs1
            clear hs1 hHeld
            refine hK.out _ _ HSA.out (fun hHeld => ?_)
            clear hK K
            refine norm_ (a' := ?_) ?_ ?_
            rotate_left
            · show Act.put _ (some 104) _ = _
              simp only [Act.put, List.setIfInBounds_toArray, List.set_cons_zero, List.set_cons_succ, i64_w, i32_w]
              rfl
            exact norm_ (by first | (simp only [putAll, Act.put, List.setIfInBounds_toArray, List.set_cons_zero, List.set_cons_succ]; done) | (simp only [putAll, Act.put, List.setIfInBounds_toArray, List.set_cons_zero, List.set_cons_succ]; rfl)) (hJab0 ⟨x104, x113⟩ w1 ⟨HB1.out, NN.out, (N113.out.grown GR.out (fun k _ => by simp)), (AP.new NEW.out N113.out)⟩)
          · refine value_ (w1 := w'.alloc (.cells #[.slice none 0 0] 24)) (v := .pointer (some ⟨w'.heap.size, 0, none⟩)) (by rfl) rfl ?_ ?_
            · first | (go_simp; done) | (go_simp; rfl)
            have hal := below_alloc (Below.refl w'.heap.size w') (.cells #[.slice none 0 0] 24)
            have BZ1 := Aside0.mk (heap_alloc_new w' (.cells #[.slice none 0 0] 24))
            have GZ := Aside0.mk HB.out.size
            have N113n := Aside0.mk (N113.out.below hal)
            have HB1 := Aside0.mk (HB.out.trans (hal.mono HB.out.size))
            clear hal
            generalize w'.alloc (.cells #[.slice none 0 0] 24) = w1 at *
            generalize w'.heap.size = b20 at *
            have hs1 := (HB1.out.cell (World.block_lt_of_cell? _ _ Q9.out)).trans Q9.out
            have HSA := Aside0.mk hs1
            clear hs1 hHeld
            refine hK.out _ _ HSA.out (fun hHeld => ?_)
            clear hK K
            refine norm_ (a' := ?_) ?_ ?_
            rotate_left
            · show Act.put _ (some 20) _ = _
              simp only [Act.put, List.setIfInBounds_toArray, List.set_cons_zero, List.set_cons_succ, i64_w, i32_w]
              rfl
            exact norm_ (by first | (simp only [putAll, Act.put, List.setIfInBounds_toArray, List.set_cons_zero, List.set_cons_succ]; done) | (simp only [putAll, Act.put, List.setIfInBounds_toArray, List.set_cons_zero, List.set_cons_succ]; rfl)) (hJb1 ⟨x113, b20⟩ w1 ⟨HB1.out, N113n.out, BZ1.out, GZ.out⟩)
        intro hJb0
        refine join_ (σ := Value × Nat) 11 #[true, true, true, false, true, true, true, true, true, true, false, false, false, false, false, false, false, true, false, false, false] (fun s => [(104, s.1), (20, .pointer (some ⟨s.2, 0, none⟩))]) (fun s w' => (Below w9.heap.size w9 w') ∧ (NR w9.heap.size w' s.1 []) ∧ (w'.heap[s.2]? = some (.cells #[.slice none 0 0] 24 (0, 0))) ∧ (w9.heap.size ≤ s.2)) ?_ ?_
        · rintro ⟨x104, b20⟩ w' ⟨h_HB, h_N104, h_BZ, h_GZ⟩
          have HB := Aside0.mk h_HB
          have N104 := Aside0.mk h_N104
          have BZ := Aside0.mk h_BZ
          have GZ := Aside0.mk h_GZ
          clear h_HB h_N104 h_BZ h_GZ
          refine norm_ (a' := ?_) ?_ ?_
          rotate_left
          · simp only [putAll, Act.put, List.setIfInBounds_toArray, List.set_cons_zero, List.set_cons_succ, i64_w, i32_w]
            rfl
          refine two_ (i := 3) (j := 10) (Ni := some 106) (Nj := some 113) #[true, true, true, true, true, true, true, true, true, true, false, false, false, false, false, false, false, true, false, false, false] #[true, true, true, false, true, true, true, true, true, true, true, false, false, false, false, false, false, true, false, false, false] rfl rfl rfl rfl (by kernel_rfl) (by decide) (by decide) (fun K hK => ?_) (fun K hK => ?_)
          · refine Kd.R_append_rows_step (Kd.int .i64) (w0 := w9) w9.heap.size (by rfl) (.tmp 104) (.tmp 105) 25 3 (.int .i64 0) 8 rfl Tryd.underlying25 info3q rfl (by decide) (by omega) x104 [] rs (some ad) rs.length c1 (fun _ => True) (fun _ => False) rfl rfl (Kd.R_mono N104.out (fun _ _ => trivial)) (HR.out _ (L9.out.trans (HB.out.mono L9.out.size))) (fun _ _ h => h) (fun _ h => h.elim) (fun _ _ => trivial) HB.out HB.out.size (by have := HRL.out; simp; omega) ?_
            intro x106 w1 ho hb hg hat
            have HB1 := Aside0.mk hb
            have NN := Aside0.mk (NR.of ho)
            have AT := Aside0.mk hat
            have GR := Aside0.mk hg
            clear ho hb hg hat
            have BZ1 := Aside0.mk (blk_grown BZ.out GR.out (Kd.R_ne N104.out BZ.out (by decide)))
            have hs1 := (HB1.out.cell (World.block_lt_of_cell? _ _ Q9.out)).trans Q9.out
            have HSA := Aside0.mk hs1
            clear hs1 hHeld
            refine hK.out _ _ HSA.out (fun hHeld => ?_)
            clear hK K
            refine norm_ (a' := ?_) ?_ ?_
            rotate_left
            · show Act.put _ (some 106) _ = _
              simp only [Act.put, List.setIfInBounds_toArray, List.set_cons_zero, List.set_cons_succ, i64_w, i32_w]
              rfl
            exact norm_ (by first | (simp only [putAll, Act.put, List.setIfInBounds_toArray, List.set_cons_zero, List.set_cons_succ]; done) | (simp only [putAll, Act.put, List.setIfInBounds_toArray, List.set_cons_zero, List.set_cons_succ]; rfl)) (hJc1 ⟨x104, x106, b20⟩ w1 ⟨HB1.out, NN.out, BZ1.out, GZ.out⟩)
          · refine Kd.R_lit_step (Kd.int .i64) (w0 := w9) w9.heap.size 3 (by rfl) (N := 113) rfl (xs := ([(qx : Int)] : List Int)) (inner := [.int .i64 (qx : Int)]) (ok := fun _ => True) (okp := fun _ => True) ?lr (Reps.one (show Kd.M (Kd.int .i64) _ _ _ (qx : Int) [.int .i64 (qx : Int)] from rfl) (Reps.none _ _)) (fun _ hk => hk) trivial HB.out HB.out.size (by simp) ?_
            case lr => first | (go_simp; done) | (go_simp; rfl)
            intro x113 w1 ho hb hg hnew
            have HB1 := Aside0.mk hb
            have NN := Aside0.mk (NR.of ho)
            have NEW := Aside0.mk hnew
            have GR := Aside0.mk hg
            clear ho hb hg hnew
            have BZ1 := Aside0.mk (blk_grown BZ.out GR.out (by simp))
            have hs1 := (HB1.out.cell (World.block_lt_of_cell? _ _ Q9.out)).trans Q9.out
            have HSA := Aside0.mk hs1
            clear hs1 hHeld
            refine hK.out _ _ HSA.out (fun hHeld => ?_)
            clear hK K
            refine norm_ (a' := ?_) ?_ ?_
            rotate_left
            · show Act.put _ (some 113) _ = _
              simp only [Act.put, List.setIfInBounds_toArray, List.set_cons_zero, List.set_cons_succ, i64_w, i32_w]
              rfl
            exact norm_ (by first | (simp only [putAll, Act.put, List.setIfInBounds_toArray, List.set_cons_zero, List.set_cons_succ]; done) | (simp only [putAll, Act.put, List.setIfInBounds_toArray, List.set_cons_zero, List.set_cons_succ]; rfl)) (hJab1 ⟨x104, x113, b20⟩ w1 ⟨HB1.out, (N104.out.grown GR.out (fun k _ => by simp)), NN.out, (AP.symm (AP.new NEW.out N104.out)), BZ1.out, GZ.out⟩)
        intro hJa1
        refine join_ (σ := Value) 12 #[true, true, true, false, true, true, true, true, true, true, false, false, false, false, false, false, false, false, false, false, false] (fun s => [(104, s)]) (fun s w' => (Below w9.heap.size w9 w') ∧ (NR w9.heap.size w' s [])) ?_ ?_
        · rintro x104 w' ⟨h_HB, h_N104⟩
          have HB := Aside0.mk h_HB
          have N104 := Aside0.mk h_N104
          clear h_HB h_N104
          refine norm_ (a' := ?_) ?_ ?_
          rotate_left
          · simp only [putAll, Act.put, List.setIfInBounds_toArray, List.set_cons_zero, List.set_cons_succ, i64_w, i32_w]
            rfl
          refine three_ (i := 3) (j := 10) (k := 17) (Ni := some 106) (Nj := some 113) (Nk := some 20) #[true, true, true, true, true, true, true, true, true, true, false, false, false, false, false, false, false, false, false, false, false] #[true, true, true, false, true, true, true, true, true, true, true, false, false, false, false, false, false, false, false, false, false] #[true, true, true, false, true, true, true, true, true, true, false, false, false, false, false, false, false, true, false, false, false] rfl rfl rfl rfl rfl rfl (by kernel_rfl) (by decide) (by decide) (by decide) (fun K hK => ?_) (fun K hK => ?_) (fun K hK => ?_)
          · refine Kd.R_append_rows_step (Kd.int .i64) (w0 := w9) w9.heap.size (by rfl) (.tmp 104) (.tmp 105) 25 3 (.int .i64 0) 8 rfl Tryd.underlying25 info3q rfl (by decide) (by omega) x104 [] rs (some ad) rs.length c1 (fun _ => True) (fun _ => False) rfl rfl (Kd.R_mono N104.out (fun _ _ => trivial)) (HR.out _ (L9.out.trans (HB.out.mono L9.out.size))) (fun _ _ h => h) (fun _ h => h.elim) (fun _ _ => trivial) HB.out HB.out.size (by have := HRL.out; simp; omega) ?_
            intro x106 w1 ho hb hg hat
            have HB1 := Aside0.mk hb
            have NN := Aside0.mk (NR.of ho)
            have AT := Aside0.mk hat
            have GR := Aside0.mk hg
            clear ho hb hg hat
            have hs1 := (HB1.out.cell (World.block_lt_of_cell? _ _ Q9.out)).trans Q9.out
            have HSA := Aside0.mk hs1
            clear hs1 hHeld
            refine hK.out _ _ HSA.out (fun hHeld => ?_)
            clear hK K
            refine norm_ (a' := ?_) ?_ ?_
            rotate_left
            · show Act.put _ (some 106) _ = _
              simp only [Act.put, List.setIfInBounds_toArray, List.set_cons_zero, List.set_cons_succ, i64_w, i32_w]
              rfl
            exact norm_ (by first | (simp only [putAll, Act.put, List.setIfInBounds_toArray, List.set_cons_zero, List.set_cons_succ]; done) | (simp only [putAll, Act.put, List.setIfInBounds_toArray, List.set_cons_zero, List.set_cons_succ]; rfl)) (hJc0 ⟨x104, x106⟩ w1 ⟨HB1.out, NN.out⟩)
          · refine Kd.R_lit_step (Kd.int .i64) (w0 := w9) w9.heap.size 3 (by rfl) (N := 113) rfl (xs := ([(qx : Int)] : List Int)) (inner := [.int .i64 (qx : Int)]) (ok := fun _ => True) (okp := fun _ => True) ?lr (Reps.one (show Kd.M (Kd.int .i64) _ _ _ (qx : Int) [.int .i64 (qx : Int)] from rfl) (Reps.none _ _)) (fun _ hk => hk) trivial HB.out HB.out.size (by simp) ?_
            case lr => first | (go_simp; done) | (go_simp; rfl)
            intro x113 w1 ho hb hg hnew
            have HB1 := Aside0.mk hb
            have NN := Aside0.mk (NR.of ho)
            have NEW := Aside0.mk hnew
            have GR := Aside0.mk hg
            clear ho hb hg hnew
            have hs1 := (HB1.out.cell (World.block_lt_of_cell? _ _ Q9.out)).trans Q9.out
            have HSA := Aside0.mk hs1
            clear hs1 hHeld
            refine hK.out _ _ HSA.out (fun hHeld => ?_)
            clear hK K
            refine norm_ (a' := ?_) ?_ ?_
            rotate_left
            · show Act.put _ (some 113) _ = _
              simp only [Act.put, List.setIfInBounds_toArray, List.set_cons_zero, List.set_cons_succ, i64_w, i32_w]
              rfl
            exact norm_ (by first | (simp only [putAll, Act.put, List.setIfInBounds_toArray, List.set_cons_zero, List.set_cons_succ]; done) | (simp only [putAll, Act.put, List.setIfInBounds_toArray, List.set_cons_zero, List.set_cons_succ]; rfl)) (hJab0 ⟨x104, x113⟩ w1 ⟨HB1.out, (N104.out.grown GR.out (fun k _ => by simp)), NN.out, (AP.symm (AP.new NEW.out N104.out))⟩)
          · refine value_ (w1 := w'.alloc (.cells #[.slice none 0 0] 24)) (v := .pointer (some ⟨w'.heap.size, 0, none⟩)) (by rfl) rfl ?_ ?_
            · first | (go_simp; done) | (go_simp; rfl)
            have hal := below_alloc (Below.refl w'.heap.size w') (.cells #[.slice none 0 0] 24)
            have BZ1 := Aside0.mk (heap_alloc_new w' (.cells #[.slice none 0 0] 24))
            have GZ := Aside0.mk HB.out.size
            have N104n := Aside0.mk (N104.out.below hal)
            have HB1 := Aside0.mk (HB.out.trans (hal.mono HB.out.size))
            clear hal
            generalize w'.alloc (.cells #[.slice none 0 0] 24) = w1 at *
            generalize w'.heap.size = b20 at *
            have hs1 := (HB1.out.cell (World.block_lt_of_cell? _ _ Q9.out)).trans Q9.out
            have HSA := Aside0.mk hs1
            clear hs1 hHeld
            refine hK.out _ _ HSA.out (fun hHeld => ?_)
            clear hK K
            refine norm_ (a' := ?_) ?_ ?_
            rotate_left
            · show Act.put _ (some 20) _ = _
              simp only [Act.put, List.setIfInBounds_toArray, List.set_cons_zero, List.set_cons_succ, i64_w, i32_w]
              rfl
            exact norm_ (by first | (simp only [putAll, Act.put, List.setIfInBounds_toArray, List.set_cons_zero, List.set_cons_succ]; done) | (simp only [putAll, Act.put, List.setIfInBounds_toArray, List.set_cons_zero, List.set_cons_succ]; rfl)) (hJa1 ⟨x104, b20⟩ w1 ⟨HB1.out, N104n.out, BZ1.out, GZ.out⟩)
        intro hJa0
        refine join_ (σ := Nat) 12 #[true, false, true, false, true, true, true, true, true, true, false, false, false, false, false, false, false, true, false, false, false] (fun s => [(20, .pointer (some ⟨s, 0, none⟩))]) (fun s w' => (Below w9.heap.size w9 w') ∧ (w'.heap[s]? = some (.cells #[.slice none 0 0] 24 (0, 0))) ∧ (w9.heap.size ≤ s)) ?_ ?_
        · rintro b20 w' ⟨h_HB, h_BZ, h_GZ⟩
          have HB := Aside0.mk h_HB
          have BZ := Aside0.mk h_BZ
          have GZ := Aside0.mk h_GZ
          clear h_HB h_BZ h_GZ
          refine norm_ (a' := ?_) ?_ ?_
          rotate_left
          · simp only [putAll, Act.put, List.setIfInBounds_toArray, List.set_cons_zero, List.set_cons_succ, i64_w, i32_w]
            rfl
          refine two_ (i := 1) (j := 10) (Ni := some 104) (Nj := some 113) #[true, true, true, false, true, true, true, true, true, true, false, false, false, false, false, false, false, true, false, false, false] #[true, false, true, false, true, true, true, true, true, true, true, false, false, false, false, false, false, true, false, false, false] rfl rfl rfl rfl (by kernel_rfl) (by decide) (by decide) (fun K hK => ?_) (fun K hK => ?_)
          · refine Kd.R_lit_step (Kd.int .i64) (w0 := w9) w9.heap.size 3 (by rfl) (N := 104) rfl (xs := ([] : List Int)) (inner := []) (ok := fun _ => True) (okp := fun _ => True) ?lr (Reps.none _ _) (fun _ hk => hk) trivial HB.out HB.out.size (by simp) ?_
            case lr => first | (go_simp; done) | (go_simp; rfl)
            intro x104 w1 ho hb hg hnew
            have HB1 := Aside0.mk hb
            have NN := Aside0.mk (NR.of ho)
            have NEW := Aside0.mk hnew
            have GR := Aside0.mk hg
            clear ho hb hg hnew
            have BZ1 := Aside0.mk (blk_grown BZ.out GR.out (by simp))
            have hs1 := (HB1.out.cell (World.block_lt_of_cell? _ _ Q9.out)).trans Q9.out
            have HSA := Aside0.mk hs1
            clear hs1 hHeld
            refine hK.out _ _ HSA.out (fun hHeld => ?_)
            clear hK K
            refine norm_ (a' := ?_) ?_ ?_
            rotate_left
            · show Act.put _ (some 104) _ = _
              simp only [Act.put, List.setIfInBounds_toArray, List.set_cons_zero, List.set_cons_succ, i64_w, i32_w]
              rfl
            exact norm_ (by first | (simp only [putAll, Act.put, List.setIfInBounds_toArray, List.set_cons_zero, List.set_cons_succ]; done) | (simp only [putAll, Act.put, List.setIfInBounds_toArray, List.set_cons_zero, List.set_cons_succ]; rfl)) (hJa1 ⟨x104, b20⟩ w1 ⟨HB1.out, NN.out, BZ1.out, GZ.out⟩)
          · refine Kd.R_lit_step (Kd.int .i64) (w0 := w9) w9.heap.size 3 (by rfl) (N := 113) rfl (xs := ([(qx : Int)] : List Int)) (inner := [.int .i64 (qx : Int)]) (ok := fun _ => True) (okp := fun _ => True) ?lr (Reps.one (show Kd.M (Kd.int .i64) _ _ _ (qx : Int) [.int .i64 (qx : Int)] from rfl) (Reps.none _ _)) (fun _ hk => hk) trivial HB.out HB.out.size (by simp) ?_
            case lr => first | (go_simp; done) | (go_simp; rfl)
            intro x113 w1 ho hb hg hnew
            have HB1 := Aside0.mk hb
            have NN := Aside0.mk (NR.of ho)
            have NEW := Aside0.mk hnew
            have GR := Aside0.mk hg
            clear ho hb hg hnew
            have BZ1 := Aside0.mk (blk_grown BZ.out GR.out (by simp))
            have hs1 := (HB1.out.cell (World.block_lt_of_cell? _ _ Q9.out)).trans Q9.out
            have HSA := Aside0.mk hs1
            clear hs1 hHeld
            refine hK.out _ _ HSA.out (fun hHeld => ?_)
            clear hK K
            refine norm_ (a' := ?_) ?_ ?_
            rotate_left
            · show Act.put _ (some 113) _ = _
              simp only [Act.put, List.setIfInBounds_toArray, List.set_cons_zero, List.set_cons_succ, i64_w, i32_w]
              rfl
            exact norm_ (by first | (simp only [putAll, Act.put, List.setIfInBounds_toArray, List.set_cons_zero, List.set_cons_succ]; done) | (simp only [putAll, Act.put, List.setIfInBounds_toArray, List.set_cons_zero, List.set_cons_succ]; rfl)) (hJb1 ⟨x113, b20⟩ w1 ⟨HB1.out, NN.out, BZ1.out, GZ.out⟩)
        intro hJo1
        refine three_ (i := 1) (j := 10) (k := 17) (Ni := some 104) (Nj := some 113) (Nk := some 20) #[true, true, true, false, true, true, true, true, true, true, false, false, false, false, false, false, false, false, false, false, false] #[true, false, true, false, true, true, true, true, true, true, true, false, false, false, false, false, false, false, false, false, false] #[true, false, true, false, true, true, true, true, true, true, false, false, false, false, false, false, false, true, false, false, false] rfl rfl rfl rfl rfl rfl (by kernel_rfl) (by decide) (by decide) (by decide) (fun K hK => ?_) (fun K hK => ?_) (fun K hK => ?_)
        · refine Kd.R_lit_step (Kd.int .i64) (w0 := w9) w9.heap.size 3 (by rfl) (N := 104) rfl (xs := ([] : List Int)) (inner := []) (ok := fun _ => True) (okp := fun _ => True) ?lr (Reps.none _ _) (fun _ hk => hk) trivial HB.out HB.out.size (by simp) ?_
          case lr => first | (go_simp; done) | (go_simp; rfl)
          intro x104 w1 ho hb hg hnew
          have HB1 := Aside0.mk hb
          have NN := Aside0.mk (NR.of ho)
          have NEW := Aside0.mk hnew
          have GR := Aside0.mk hg
          clear ho hb hg hnew
          have hs1 := (HB1.out.cell (World.block_lt_of_cell? _ _ Q9.out)).trans Q9.out
          have HSA := Aside0.mk hs1
          clear hs1 hHeld
          refine hK.out _ _ HSA.out (fun hHeld => ?_)
          clear hK K
          refine norm_ (a' := ?_) ?_ ?_
          rotate_left
          · show Act.put _ (some 104) _ = _
            simp only [Act.put, List.setIfInBounds_toArray, List.set_cons_zero, List.set_cons_succ, i64_w, i32_w]
            rfl
          exact norm_ (by first | (simp only [putAll, Act.put, List.setIfInBounds_toArray, List.set_cons_zero, List.set_cons_succ]; done) | (simp only [putAll, Act.put, List.setIfInBounds_toArray, List.set_cons_zero, List.set_cons_succ]; rfl)) (hJa0 x104 w1 ⟨HB1.out, NN.out⟩)
        · refine Kd.R_lit_step (Kd.int .i64) (w0 := w9) w9.heap.size 3 (by rfl) (N := 113) rfl (xs := ([(qx : Int)] : List Int)) (inner := [.int .i64 (qx : Int)]) (ok := fun _ => True) (okp := fun _ => True) ?lr (Reps.one (show Kd.M (Kd.int .i64) _ _ _ (qx : Int) [.int .i64 (qx : Int)] from rfl) (Reps.none _ _)) (fun _ hk => hk) trivial HB.out HB.out.size (by simp) ?_
          case lr => first | (go_simp; done) | (go_simp; rfl)
          intro x113 w1 ho hb hg hnew
          have HB1 := Aside0.mk hb
          have NN := Aside0.mk (NR.of ho)
          have NEW := Aside0.mk hnew
          have GR := Aside0.mk hg
          clear ho hb hg hnew
          have hs1 := (HB1.out.cell (World.block_lt_of_cell? _ _ Q9.out)).trans Q9.out
          have HSA := Aside0.mk hs1
          clear hs1 hHeld
          refine hK.out _ _ HSA.out (fun hHeld => ?_)
          clear hK K
          refine norm_ (a' := ?_) ?_ ?_
          rotate_left
          · show Act.put _ (some 113) _ = _
            simp only [Act.put, List.setIfInBounds_toArray, List.set_cons_zero, List.set_cons_succ, i64_w, i32_w]
            rfl
          exact norm_ (by first | (simp only [putAll, Act.put, List.setIfInBounds_toArray, List.set_cons_zero, List.set_cons_succ]; done) | (simp only [putAll, Act.put, List.setIfInBounds_toArray, List.set_cons_zero, List.set_cons_succ]; rfl)) (hJb0 x113 w1 ⟨HB1.out, NN.out⟩)
        · refine value_ (w1 := w9.drew.alloc (.cells #[.slice none 0 0] 24)) (v := .pointer (some ⟨w9.drew.heap.size, 0, none⟩)) (by rfl) rfl ?_ ?_
          · first | (go_simp; done) | (go_simp; rfl)
          have hal := below_alloc (Below.refl w9.drew.heap.size w9.drew) (.cells #[.slice none 0 0] 24)
          have BZ1 := Aside0.mk (heap_alloc_new w9.drew (.cells #[.slice none 0 0] 24))
          have GZ := Aside0.mk HB.out.size
          have HB1 := Aside0.mk (HB.out.trans (hal.mono HB.out.size))
          clear hal
          generalize w9.drew.alloc (.cells #[.slice none 0 0] 24) = w1 at *
          generalize w9.drew.heap.size = b20 at *
          have hs1 := (HB1.out.cell (World.block_lt_of_cell? _ _ Q9.out)).trans Q9.out
          have HSA := Aside0.mk hs1
          clear hs1 hHeld
          refine hK.out _ _ HSA.out (fun hHeld => ?_)
          clear hK K
          refine norm_ (a' := ?_) ?_ ?_
          rotate_left
          · show Act.put _ (some 20) _ = _
            simp only [Act.put, List.setIfInBounds_toArray, List.set_cons_zero, List.set_cons_succ, i64_w, i32_w]
            rfl
          exact norm_ (by first | (simp only [putAll, Act.put, List.setIfInBounds_toArray, List.set_cons_zero, List.set_cons_succ]; done) | (simp only [putAll, Act.put, List.setIfInBounds_toArray, List.set_cons_zero, List.set_cons_succ]; rfl)) (hJo1 b20 w1 ⟨HB1.out, BZ1.out, GZ.out⟩)
      · have hk1 : (0 : Int) < (kl.length : Int) := by omega
        have hk2 : ¬ (kl.length : Int) = 0 := by omega
        obtain ⟨q3, hq3, hqk⟩ := rem_at H3.out.1 H3.out.2 (show 0 < kl.length by omega)
        obtain ⟨ak, ek, y0⟩ := at_ints GK.out q3 hq3
        cases ek
        have KM := Aside0.mk (show Reach gs rs (rd kl (q3 : Int)) from .kid r _ (.root r RMEM.out) (by rw [← KLE.out]; exact rd_mem kl q3 hq3))
        have hq31 : (0 : Int) ≤ (q3 : Int) := by omega
        have hq32 : (q3 : Int) < (kl.length : Int) := by omega
        clear hk0 hq3
        go_upto_region 18 with (first
          | (at_builtin; refine wp_append_q rfl _ _ rfl (.slice Av nv cv) (rs.reverse.take rs.length) (rd kl (q3 : Int)) rfl rfl hTL.out.row (by have := HRL.out; rw [List.length_take]; omega) ?_; intro v1 wt hq hg2 hat; obtain ⟨At, nt, ct, e1, hn1, hc1⟩ := hq.form; subst e1; have NVt := Aside0.mk hn1; have CVt := Aside0.mk hc1; clear hn1 hc1; have TN := Aside0.mk (hTL.out.grow (Nat.le_refl _) hq hg2 hat); clear hq hg2 hat))
        have LWt := Aside0.mk (L6.out.trans (TN.out.below.mono L6.out.size))
        have FAt := Aside0.mk (Foot.below FA6.out TN.out.below)
        have B10t := Aside0.mk ((TN.out.below.block b10 (blk_lt B10.out)).trans B10.out)
        have BXt := Aside0.mk ((TN.out.below.block gb (blk_lt BX6.out)).trans BX6.out)
        clear q0 g2 x0 y0
        have TLQ := Aside0.mk TN.out.row
        obtain ⟨tl, htl⟩ : ∃ tl, tl = rs.reverse.take rs.length ++ [rd kl (q3 : Int)] := ⟨_, rfl⟩
        rw [← htl] at TLQ
        have NL := Aside0.mk (show nt = tl.length by rw [htl]; exact NVt.out)
        have TLL := Aside0.mk (show tl.length ≤ 61 by have := HRL.out; rw [htl]; simp; omega)
        have RS := Aside0.mk (roots_same HS.out (tl := tl) (by rw [htl]; intro r hr; rw [List.take_of_length_le (by simp)]; exact List.mem_append.2 (.inl (List.mem_reverse.2 hr))) (by rw [htl]; intro r hr; rw [List.take_of_length_le (by simp)] at hr; rcases List.mem_append.1 hr with h | h; exact .root r (List.mem_reverse.1 h); exact (List.mem_singleton.1 h) ▸ KM.out))
        clear htl
        obtain ⟨m2, hm2⟩ : ∃ m2, m2 = tl.map (plOf (marksS gs rs)) := ⟨_, rfl⟩
        have KE2 := Aside0.mk (show keepS gs tl = (d, m2, 0) by unfold keepS; rw [if_pos RS.out.1, RS.out.2, hm2, DE.out])
        clear hm2
        have q0 : wt.cell? ⟨gb, 0, none⟩ = some (.slice (some ag) gs.length c0) := (blk_cell BXt.out 0).trans rfl
        go_upto_region 19 with (first
          | (go_at_call 16; have hk_ := keep_f wt (some ag) c0 gs At ct nt tl NL.out.symm (HT.out _ LWt.out) HW.out (HG.out _ LWt.out) HC0.out TLQ.out.reads.2.2 (by have := NL.out; have := CVt.out; omega) (by have := TLL.out; omega) d m2 0 KE2.out; (with_reducible refine hk_.mono ?_); rintro e w7 ⟨Af, cf, Ag', cg', rfl, hc1_, hc2_, hf, hb⟩; have D7 := Aside0.mk hb; have FB7 := Aside0.mk hf; have LF := Aside0.mk (And.intro hc1_ hc2_); clear hf hb hc1_ hc2_ hk_)
          | ((with_reducible refine gate_dst (N := 17) rfl ?_); refine box_event ?bg17 (N := 17) ?bd17 (cs := #[.slice none 0 0]) (t := 24) ?br17 ?_; (case bd17 => rfl); (case bg17 => rfl); (case br17 => first | (go_simp; done) | (go_simp; rfl)); intro b17 hg w8 hbox hb; have ALb := Aside0.mk hb; have BXb := Aside0.mk hbox; have GBb := Aside0.mk hg; have zb := blk_frozen hbox 0; have qb : w8.cell? ⟨b17, 0, none⟩ = some (.slice none 0 0) := (blk_cell hbox 0).trans rfl; clear hg hbox hb)
          | ((with_reducible refine gate_store (t := 24) (p := 17) rfl ?_); refine store_event (t := 24) (p := 17) (w1 := w8.setCell ⟨b17, 0, none⟩ (.slice Af d.length cf)) rfl rfl rfl ?st17 ?_; (case st17 => first | (go_simp; done) | (go_simp; rfl)); intro w9 hwk; have hB : Below w7.heap.size w7 w9 := (by rw [hwk]; exact ALb.out.setCell (p := ⟨b17, 0, none⟩) (Nat.le_of_eq GBb.out.symm) _); have hbx : w9.heap[b17]? = some (.cells #[.slice Af d.length cf] 24 (0, 0)) := (by rw [hwk]; exact blk_put (cs := #[.slice none 0 0]) BXb.out 0 _ rfl); clear hwk; have D9 := Aside0.mk (D7.out.trans (hB.mono D7.out.size)); have FB9 := Aside0.mk (Foot.below FB7.out hB); have B17 := Aside0.mk hbx; clear hB hbx zb qb))
        have L9 := Aside0.mk (LWt.out.trans (D9.out.mono LWt.out.size))
        have FA9 := Aside0.mk (Foot.below FAt.out D9.out)
        have B109 := Aside0.mk ((D9.out.block b10 (blk_lt B10t.out)).trans B10t.out)
        have Q9 := Aside0.mk (show w9.cell? ⟨gb, 0, none⟩ = some (.slice (some ag) gs.length c0) from (blk_cell ((D9.out.block gb (blk_lt BXt.out)).trans BXt.out) 0).trans rfl)
        have HB := Aside0.mk (below_drew (Below.refl w9.heap.size w9))
        clear q0
        refine start_ (n := 21) (S := fun w' => w'.cell? ⟨gb, 0, none⟩ = some (.slice (some ag) gs.length c0)) (ds := []) #[false, false, false, false, false, false, false, false, false, false, false, false, false, false, false, false, false, false, false, false, false] (by kernel_rfl) rfl rfl Q9.out (fun hHeld => ?_)
        refine take_ (i := 0) (N := some 103) (v := ?_) (a' := ?_) #[true, false, false, false, false, false, false, false, false, false, false, false, false, false, false, false, false, false, false, false, false] rfl rfl (by kernel_rfl) (fun _ _ _ h => h) (Or.inl ⟨by rfl, ?_⟩) hHeld ?_ ?_
        rotate_left
        · intro w' s0
          go_simp
          with_reducible rfl
        rotate_left
        · simp only [Act.put, List.setIfInBounds_toArray, List.set_cons_zero, List.set_cons_succ, i64_w, i32_w]
          rfl
        refine pure_ (i := 2) (N := some 105) (v := ?_) (a' := ?_) #[true, false, true, false, false, false, false, false, false, false, false, false, false, false, false, false, false, false, false, false, false] rfl rfl (by kernel_rfl) (fun _ _ _ h => h) (Or.inl ⟨by rfl, ?_⟩) ?_ ?_
        rotate_left
        · intro w'
          go_simp
          with_reducible rfl
        rotate_left
        · simp only [Act.put, List.setIfInBounds_toArray, List.set_cons_zero, List.set_cons_succ, i64_w, i32_w]
          rfl
        refine pure_ (i := 4) (N := some 107) (v := ?_) (a' := ?_) #[true, false, true, false, true, false, false, false, false, false, false, false, false, false, false, false, false, false, false, false, false] rfl rfl (by kernel_rfl) (fun _ _ _ h => h) (Or.inl ⟨by rfl, ?_⟩) ?_ ?_
        rotate_left
        · intro w'
          go_simp
          with_reducible rfl
        rotate_left
        · simp only [Act.put, List.setIfInBounds_toArray, List.set_cons_zero, List.set_cons_succ, i64_w, i32_w]
          rfl
        refine pure_ (i := 5) (N := some 108) (v := ?_) (a' := ?_) #[true, false, true, false, true, true, false, false, false, false, false, false, false, false, false, false, false, false, false, false, false] rfl rfl (by kernel_rfl) (fun _ _ _ h => h) (Or.inl ⟨by rfl, ?_⟩) ?_ ?_
        rotate_left
        · intro w'
          go_simp
          with_reducible rfl
        rotate_left
        · simp only [Act.put, List.setIfInBounds_toArray, List.set_cons_zero, List.set_cons_succ, i64_w, i32_w]
          rfl
        refine pure_ (i := 6) (N := some 109) (v := ?_) (a' := ?_) #[true, false, true, false, true, true, true, false, false, false, false, false, false, false, false, false, false, false, false, false, false] rfl rfl (by kernel_rfl) (fun _ _ _ h => h) (Or.inl ⟨by rfl, ?_⟩) ?_ ?_
        rotate_left
        · intro w'
          go_simp
          with_reducible rfl
        rotate_left
        · simp only [Act.put, List.setIfInBounds_toArray, List.set_cons_zero, List.set_cons_succ, i64_w, i32_w]
          rfl
        refine take_ (i := 7) (N := some 110) (v := ?_) (a' := ?_) #[true, false, true, false, true, true, true, true, false, false, false, false, false, false, false, false, false, false, false, false, false] rfl rfl (by kernel_rfl) (fun _ _ _ h => h) (Or.inl ⟨by rfl, ?_⟩) hHeld ?_ ?_
        rotate_left
        · intro w' s0
          go_simp
          with_reducible rfl
        rotate_left
        · simp only [Act.put, List.setIfInBounds_toArray, List.set_cons_zero, List.set_cons_succ, i64_w, i32_w]
          rfl
        refine pure_ (i := 8) (N := some 111) (v := ?_) (a' := ?_) #[true, false, true, false, true, true, true, true, true, false, false, false, false, false, false, false, false, false, false, false, false] rfl rfl (by kernel_rfl) (fun _ _ _ h => h) (Or.inl ⟨by rfl, ?_⟩) ?_ ?_
        rotate_left
        · intro w'
          go_simp
          with_reducible rfl
        rotate_left
        · simp only [Act.put, List.setIfInBounds_toArray, List.set_cons_zero, List.set_cons_succ, i64_w, i32_w]
          rfl
        refine pure_ (i := 9) (N := some 112) (v := .int .i64 (qx : Int)) (a' := ?_) #[true, false, true, false, true, true, true, true, true, true, false, false, false, false, false, false, false, false, false, false, false] rfl rfl (by kernel_rfl) (fun _ _ _ h => h) (Or.inl ⟨by rfl, ?_⟩) ?_ ?_
        · intro w'
          go_simp
          first | done | assumption | rfl | exact hqx | (rw [hqx]; done) | (rw [hqx]; rfl) | simp [hqx]
        rotate_left
        · simp only [Act.put, List.setIfInBounds_toArray, List.set_cons_zero, List.set_cons_succ, i64_w, i32_w]
          rfl
        refine join_ (σ := Value × Value × Value × Value × Option Addr × Nat × Option Addr × Nat × Nat) 3 #[true, true, true, true, true, true, true, true, true, true, true, true, true, true, true, true, true, true, false, false, false] (fun s => [(104, s.1), (106, s.2.1), (113, s.2.2.1), (114, s.2.2.2.1), (115, .tuple #[.agg #[.slice s.2.2.2.2.1 h.length s.2.2.2.2.2.1], .slice s.2.2.2.2.2.2.1 m3.length s.2.2.2.2.2.2.2.1, .int .i64 0]), (102, .tuple #[.agg #[.slice s.2.2.2.2.1 h.length s.2.2.2.2.2.1], .slice s.2.2.2.2.2.2.1 m3.length s.2.2.2.2.2.2.2.1, .int .i64 0]), (116, .agg #[.slice s.2.2.2.2.1 h.length s.2.2.2.2.2.1]), (117, .slice s.2.2.2.2.2.2.1 m3.length s.2.2.2.2.2.2.2.1), (118, .int .i64 0), (20, .pointer (some ⟨s.2.2.2.2.2.2.2.2, 0, none⟩))]) (fun s w' => (Below w9.heap.size w9 w') ∧ (h.length ≤ s.2.2.2.2.2.1 ∧ m3.length ≤ s.2.2.2.2.2.2.2.1) ∧ (Foot (fun W => Kd.C k50 W s.2.2.2.2.1 h.length h ∧ Kd.C (Kd.int .i64) W s.2.2.2.2.2.2.1 m3.length m3) w' (fun k => w9.heap.size ≤ k)) ∧ (w'.heap[s.2.2.2.2.2.2.2.2]? = some (.cells #[.slice none 0 0] 24 (0, 0))) ∧ (w9.heap.size ≤ s.2.2.2.2.2.2.2.2)) ?_ ?_
        · rintro ⟨x104, x106, x113, x114, Ah, ch, Ai, ci, b20⟩ w' ⟨h_HB, h_LH, h_FH, h_BZ, h_GZ⟩
          have HB := Aside0.mk h_HB
          have LH := Aside0.mk h_LH
          have FH := Aside0.mk h_FH
          have BZ := Aside0.mk h_BZ
          have GZ := Aside0.mk h_GZ
          clear h_HB h_LH h_FH h_BZ h_GZ
          refine norm_ (a' := ?_) ?_ ?_
          rotate_left
          · simp only [putAll, Act.put, List.setIfInBounds_toArray, List.set_cons_zero, List.set_cons_succ, i64_w, i32_w]
            rfl
          refine one_ (i := 18) (N := none) #[true, true, true, true, true, true, true, true, true, true, true, true, true, true, true, true, true, true, true, false, false] rfl rfl (by kernel_rfl) (by decide) (fun K hK => ?_)
          have hs8 : w'.cell? ⟨b20, 0, none⟩ = some (.slice none 0 0) := (blk_cell BZ.out 0).trans rfl
          have hfs8 := blk_frozen BZ.out 0
          refine skip_ (w1 := w'.setCell ⟨b20, 0, none⟩ (.slice Ah h.length ch)) (by rfl) rfl ?_ ?_
          · go_simp
          have D10 := Aside0.mk (HB.out.setCell (p := ⟨b20, 0, none⟩) GZ.out (.slice Ah h.length ch))
          have b20' := blk_put (cs := #[.slice none 0 0]) BZ.out 0 (.slice Ah h.length ch) rfl
          obtain ⟨w10, hw10⟩ : ∃ w10, w10 = w'.setCell ⟨b20, 0, none⟩ (.slice Ah h.length ch) := ⟨_, rfl⟩
          rw [← hw10] at D10 b20'
          rw [← hw10]
          clear hw10 hs8 hfs8
          have c20 : w10.cell? ⟨b20, 0, none⟩ = some (.slice Ah h.length ch) := (blk_cell b20' 0).trans rfl
          have c10 : w10.cell? ⟨b10, 0, none⟩ = some (.slice Ad d.length cd) := (blk_cell ((D10.out.block b10 (blk_lt B109.out)).trans B109.out) 0).trans rfl
          have c17 : w10.cell? ⟨b17, 0, none⟩ = some (.slice Af d.length cf) := (blk_cell ((D10.out.block b17 (blk_lt B17.out)).trans B17.out) 0).trans rfl
          have hs1 := (D10.out.cell (World.block_lt_of_cell? _ _ Q9.out)).trans Q9.out
          have HSA := Aside0.mk hs1
          clear hs1 hHeld b20'
          refine hK.out _ _ HSA.out (fun hHeld => ?_)
          clear hK K
          refine pure_ (i := 19) (N := some 21) (v := ?_) (a' := ?_) #[true, true, true, true, true, true, true, true, true, true, true, true, true, true, true, true, true, true, true, true, false] rfl rfl (by kernel_rfl) (fun _ _ _ h => h) (Or.inl ⟨by rfl, ?_⟩) ?_ ?_
          rotate_left
          · intro w'
            go_simp
            with_reducible rfl
          rotate_left
          · simp only [Act.put, List.setIfInBounds_toArray, List.set_cons_zero, List.set_cons_succ, i64_w, i32_w]
            rfl
          refine pure_ (i := 20) (N := some 22) (v := ?_) (a' := ?_) #[true, true, true, true, true, true, true, true, true, true, true, true, true, true, true, true, true, true, true, true, true] rfl rfl (by kernel_rfl) (fun _ _ _ h => h) (Or.inl ⟨by rfl, ?_⟩) ?_ ?_
          rotate_left
          · intro w'
            go_simp
            with_reducible rfl
          rotate_left
          · simp only [Act.put, List.setIfInBounds_toArray, List.set_cons_zero, List.set_cons_succ, i64_w, i32_w]
            rfl
          refine done_ (by kernel_rfl) ?_
          go_wp2_with (first
            | (go_at_call 20; have hk_ := same_h (W := w10) d d.length rfl (Foot.below FA9.out D10.out).now.1 (Foot.below FB9.out D10.out).now.1 LA.out.1 LF.out.1 ks KS.out; (with_reducible refine hk_.mono ?_); rintro e w11 ⟨rfl, hb⟩; have L11 := Aside0.mk (L9.out.trans ((D10.out.trans (hb.mono D10.out.size)).mono L9.out.size)); have e20 := (hb.cell (World.block_lt_of_cell? _ _ c20)).trans c20; have e10 := (hb.cell (World.block_lt_of_cell? _ _ c10)).trans c10; clear hb hk_))
          go_ret
          exact ⟨rfl, L11.out⟩
        intro hJe1
        refine join_ (σ := Value × Value × Value × Value × Option Addr × Nat × Option Addr × Nat) 4 #[true, true, true, true, true, true, true, true, true, true, true, true, true, true, true, true, true, false, false, false, false] (fun s => [(104, s.1), (106, s.2.1), (113, s.2.2.1), (114, s.2.2.2.1), (115, .tuple #[.agg #[.slice s.2.2.2.2.1 h.length s.2.2.2.2.2.1], .slice s.2.2.2.2.2.2.1 m3.length s.2.2.2.2.2.2.2, .int .i64 0]), (102, .tuple #[.agg #[.slice s.2.2.2.2.1 h.length s.2.2.2.2.2.1], .slice s.2.2.2.2.2.2.1 m3.length s.2.2.2.2.2.2.2, .int .i64 0]), (116, .agg #[.slice s.2.2.2.2.1 h.length s.2.2.2.2.2.1]), (117, .slice s.2.2.2.2.2.2.1 m3.length s.2.2.2.2.2.2.2), (118, .int .i64 0)]) (fun s w' => (Below w9.heap.size w9 w') ∧ (h.length ≤ s.2.2.2.2.2.1 ∧ m3.length ≤ s.2.2.2.2.2.2.2) ∧ (Foot (fun W => Kd.C k50 W s.2.2.2.2.1 h.length h ∧ Kd.C (Kd.int .i64) W s.2.2.2.2.2.2.1 m3.length m3) w' (fun k => w9.heap.size ≤ k))) ?_ ?_
        · rintro ⟨x104, x106, x113, x114, Ah, ch, Ai, ci⟩ w' ⟨h_HB, h_LH, h_FH⟩
          have HB := Aside0.mk h_HB
          have LH := Aside0.mk h_LH
          have FH := Aside0.mk h_FH
          clear h_HB h_LH h_FH
          refine norm_ (a' := ?_) ?_ ?_
          rotate_left
          · simp only [putAll, Act.put, List.setIfInBounds_toArray, List.set_cons_zero, List.set_cons_succ, i64_w, i32_w]
            rfl
          refine one_ (i := 17) (N := some 20) #[true, true, true, true, true, true, true, true, true, true, true, true, true, true, true, true, true, true, false, false, false] rfl rfl (by kernel_rfl) (by decide) (fun K hK => ?_)
          refine value_ (w1 := w'.alloc (.cells #[.slice none 0 0] 24)) (v := .pointer (some ⟨w'.heap.size, 0, none⟩)) (by rfl) rfl ?_ ?_
          · first | (go_simp; done) | (go_simp; rfl)
          have hal := below_alloc (Below.refl w'.heap.size w') (.cells #[.slice none 0 0] 24)
          have BZ1 := Aside0.mk (heap_alloc_new w' (.cells #[.slice none 0 0] 24))
          have GZ := Aside0.mk HB.out.size
          have FHn := Aside0.mk (Foot.below FH.out hal)
          have HB1 := Aside0.mk (HB.out.trans (hal.mono HB.out.size))
          clear hal
          generalize w'.alloc (.cells #[.slice none 0 0] 24) = w1 at *
          generalize w'.heap.size = b20 at *
          have hs1 := (HB1.out.cell (World.block_lt_of_cell? _ _ Q9.out)).trans Q9.out
          have HSA := Aside0.mk hs1
          clear hs1 hHeld
          refine hK.out _ _ HSA.out (fun hHeld => ?_)
          clear hK K
          refine norm_ (a' := ?_) ?_ ?_
          rotate_left
          · show Act.put _ (some 20) _ = _
            simp only [Act.put, List.setIfInBounds_toArray, List.set_cons_zero, List.set_cons_succ, i64_w, i32_w]
            rfl
          exact norm_ (by first | (simp only [putAll, Act.put, List.setIfInBounds_toArray, List.set_cons_zero, List.set_cons_succ]; done) | (simp only [putAll, Act.put, List.setIfInBounds_toArray, List.set_cons_zero, List.set_cons_succ]; rfl)) (hJe1 ⟨x104, x106, x113, x114, Ah, ch, Ai, ci, b20⟩ w1 ⟨HB1.out, LH.out, FHn.out, BZ1.out, GZ.out⟩)
        intro hJe0
        refine join_ (σ := Value × Value × Value × Value × Nat) 8 #[true, true, true, true, true, true, true, true, true, true, true, true, false, false, false, false, false, true, false, false, false] (fun s => [(104, s.1), (106, s.2.1), (113, s.2.2.1), (114, s.2.2.2.1), (20, .pointer (some ⟨s.2.2.2.2, 0, none⟩))]) (fun s w' => (Below w9.heap.size w9 w') ∧ (NR w9.heap.size w' s.2.2.2.1 (rs ++ [(qx : Int)])) ∧ (w'.heap[s.2.2.2.2]? = some (.cells #[.slice none 0 0] 24 (0, 0))) ∧ (w9.heap.size ≤ s.2.2.2.2)) ?_ ?_
        · rintro ⟨x104, x106, x113, x114, b20⟩ w' ⟨h_HB, h_N114, h_BZ, h_GZ⟩
          have HB := Aside0.mk h_HB
          have N114 := Aside0.mk h_N114
          have BZ := Aside0.mk h_BZ
          have GZ := Aside0.mk h_GZ
          clear h_HB h_N114 h_BZ h_GZ
          obtain ⟨A114, c114, rfl⟩ := Kd.R_slice N114.out
          refine norm_ (a' := ?_) ?_ ?_
          rotate_left
          · simp only [putAll, Act.put, List.setIfInBounds_toArray, List.set_cons_zero, List.set_cons_succ, i64_w, i32_w]
            rfl
          refine one_ (i := 12) (N := some 115) #[true, true, true, true, true, true, true, true, true, true, true, true, true, false, false, false, false, true, false, false, false] rfl rfl (by kernel_rfl) (by decide) (fun K hK => ?_)
          refine call_ 16 #[.agg #[.slice (some ag) gs.length c0], .slice A114 (rs ++ [(qx : Int)]).length c114] ?hw rfl ?hr ?_
          case hw => rfl
          case hr => simp [execOp, resolve, Deferred.ofValue, invoke, Act.eval, eg16]
          refine (keep_f w' (some ag) c0 gs A114 c114 _ (rs ++ [(qx : Int)]) rfl (HT.out _ (L9.out.trans (HB.out.mono L9.out.size))) HW.out (HG.out _ (L9.out.trans (HB.out.mono L9.out.size))) HC0.out (Kd.R_reads' N114.out).2.2 (Kd.R_reads' N114.out).2.1 (by have := HRL.out; simp; omega) h m3 0 KE3.out).mono ?_
          rintro e w1 ⟨Ah, ch, Ai, ci, rfl, hl1_, hl2_, hf, hb⟩
          refine ⟨_, rfl, ?_⟩
          have HB1 := Aside0.mk (HB.out.trans (hb.mono HB.out.size))
          have LH := Aside0.mk (And.intro hl1_ hl2_)
          have FH := Aside0.mk (Go.Proofs.YtcafgpfecfocnaaDoorW.PrintWords.Foot.mono hf (fun k hk => Nat.le_trans HB.out.size hk))
          have BZ1 := Aside0.mk (blk_below (g := b20) BZ.out hb)
          clear hl1_ hl2_ hf hb
          have hs1 := (HB1.out.cell (World.block_lt_of_cell? _ _ Q9.out)).trans Q9.out
          have HSA := Aside0.mk hs1
          clear hs1 hHeld
          refine hK.out _ _ HSA.out (fun hHeld => ?_)
          clear hK K
          refine norm_ (a' := ?_) ?_ ?_
          rotate_left
          · show Act.put _ (some 115) _ = _
            simp only [Act.put, List.setIfInBounds_toArray, List.set_cons_zero, List.set_cons_succ, i64_w, i32_w]
            rfl
          refine pure_ (i := 13) (N := some 102) (v := ?_) (a' := ?_) #[true, true, true, true, true, true, true, true, true, true, true, true, true, true, false, false, false, true, false, false, false] rfl rfl (by kernel_rfl) (fun _ _ _ h => h) (Or.inl ⟨by rfl, ?_⟩) ?_ ?_
          rotate_left
          · intro w'
            go_simp
            with_reducible rfl
          rotate_left
          · simp only [Act.put, List.setIfInBounds_toArray, List.set_cons_zero, List.set_cons_succ, i64_w, i32_w]
            rfl
          refine pure_ (i := 14) (N := some 116) (v := ?_) (a' := ?_) #[true, true, true, true, true, true, true, true, true, true, true, true, true, true, true, false, false, true, false, false, false] rfl rfl (by kernel_rfl) (fun _ _ _ h => h) (Or.inl ⟨by rfl, ?_⟩) ?_ ?_
          rotate_left
          · intro w'
            go_simp
            with_reducible rfl
          rotate_left
          · simp only [Act.put, List.setIfInBounds_toArray, List.set_cons_zero, List.set_cons_succ, i64_w, i32_w]
            rfl
          refine pure_ (i := 15) (N := some 117) (v := ?_) (a' := ?_) #[true, true, true, true, true, true, true, true, true, true, true, true, true, true, true, true, false, true, false, false, false] rfl rfl (by kernel_rfl) (fun _ _ _ h => h) (Or.inl ⟨by rfl, ?_⟩) ?_ ?_
          rotate_left
          · intro w'
            go_simp
            with_reducible rfl
          rotate_left
          · simp only [Act.put, List.setIfInBounds_toArray, List.set_cons_zero, List.set_cons_succ, i64_w, i32_w]
            rfl
          refine pure_ (i := 16) (N := some 118) (v := ?_) (a' := ?_) #[true, true, true, true, true, true, true, true, true, true, true, true, true, true, true, true, true, true, false, false, false] rfl rfl (by kernel_rfl) (fun _ _ _ h => h) (Or.inl ⟨by rfl, ?_⟩) ?_ ?_
          rotate_left
          · intro w'
            go_simp
            with_reducible rfl
          rotate_left
          · simp only [Act.put, List.setIfInBounds_toArray, List.set_cons_zero, List.set_cons_succ, i64_w, i32_w]
            rfl
          exact norm_ (by first | (simp only [putAll, Act.put, List.setIfInBounds_toArray, List.set_cons_zero, List.set_cons_succ]; done) | (simp only [putAll, Act.put, List.setIfInBounds_toArray, List.set_cons_zero, List.set_cons_succ]; rfl)) (hJe1 ⟨x104, x106, x113, (.slice A114 (rs ++ [(qx : Int)]).length c114), Ah, ch, Ai, ci, b20⟩ w1 ⟨HB1.out, LH.out, FH.out, BZ1.out, GZ.out⟩)
        intro hJd1
        refine join_ (σ := Value × Value × Value × Value) 9 #[true, true, true, true, true, true, true, true, true, true, true, true, false, false, false, false, false, false, false, false, false] (fun s => [(104, s.1), (106, s.2.1), (113, s.2.2.1), (114, s.2.2.2)]) (fun s w' => (Below w9.heap.size w9 w') ∧ (NR w9.heap.size w' s.2.2.2 (rs ++ [(qx : Int)]))) ?_ ?_
        · rintro ⟨x104, x106, x113, x114⟩ w' ⟨h_HB, h_N114⟩
          have HB := Aside0.mk h_HB
          have N114 := Aside0.mk h_N114
          clear h_HB h_N114
          obtain ⟨A114, c114, rfl⟩ := Kd.R_slice N114.out
          refine norm_ (a' := ?_) ?_ ?_
          rotate_left
          · simp only [putAll, Act.put, List.setIfInBounds_toArray, List.set_cons_zero, List.set_cons_succ, i64_w, i32_w]
            rfl
          refine two_ (i := 12) (j := 17) (Ni := some 115) (Nj := some 20) #[true, true, true, true, true, true, true, true, true, true, true, true, true, false, false, false, false, false, false, false, false] #[true, true, true, true, true, true, true, true, true, true, true, true, false, false, false, false, false, true, false, false, false] rfl rfl rfl rfl (by kernel_rfl) (by decide) (by decide) (fun K hK => ?_) (fun K hK => ?_)
          · refine call_ 16 #[.agg #[.slice (some ag) gs.length c0], .slice A114 (rs ++ [(qx : Int)]).length c114] ?hw rfl ?hr ?_
            case hw => rfl
            case hr => simp [execOp, resolve, Deferred.ofValue, invoke, Act.eval, eg16]
            refine (keep_f w' (some ag) c0 gs A114 c114 _ (rs ++ [(qx : Int)]) rfl (HT.out _ (L9.out.trans (HB.out.mono L9.out.size))) HW.out (HG.out _ (L9.out.trans (HB.out.mono L9.out.size))) HC0.out (Kd.R_reads' N114.out).2.2 (Kd.R_reads' N114.out).2.1 (by have := HRL.out; simp; omega) h m3 0 KE3.out).mono ?_
            rintro e w1 ⟨Ah, ch, Ai, ci, rfl, hl1_, hl2_, hf, hb⟩
            refine ⟨_, rfl, ?_⟩
            have HB1 := Aside0.mk (HB.out.trans (hb.mono HB.out.size))
            have LH := Aside0.mk (And.intro hl1_ hl2_)
            have FH := Aside0.mk (Go.Proofs.YtcafgpfecfocnaaDoorW.PrintWords.Foot.mono hf (fun k hk => Nat.le_trans HB.out.size hk))
            clear hl1_ hl2_ hf hb
            have hs1 := (HB1.out.cell (World.block_lt_of_cell? _ _ Q9.out)).trans Q9.out
            have HSA := Aside0.mk hs1
            clear hs1 hHeld
            refine hK.out _ _ HSA.out (fun hHeld => ?_)
            clear hK K
            refine norm_ (a' := ?_) ?_ ?_
            rotate_left
            · show Act.put _ (some 115) _ = _
              simp only [Act.put, List.setIfInBounds_toArray, List.set_cons_zero, List.set_cons_succ, i64_w, i32_w]
              rfl
            refine pure_ (i := 13) (N := some 102) (v := ?_) (a' := ?_) #[true, true, true, true, true, true, true, true, true, true, true, true, true, true, false, false, false, false, false, false, false] rfl rfl (by kernel_rfl) (fun _ _ _ h => h) (Or.inl ⟨by rfl, ?_⟩) ?_ ?_
            rotate_left
            · intro w'
              go_simp
              with_reducible rfl
            rotate_left
            · simp only [Act.put, List.setIfInBounds_toArray, List.set_cons_zero, List.set_cons_succ, i64_w, i32_w]
              rfl
            refine pure_ (i := 14) (N := some 116) (v := ?_) (a' := ?_) #[true, true, true, true, true, true, true, true, true, true, true, true, true, true, true, false, false, false, false, false, false] rfl rfl (by kernel_rfl) (fun _ _ _ h => h) (Or.inl ⟨by rfl, ?_⟩) ?_ ?_
            rotate_left
            · intro w'
              go_simp
              with_reducible rfl
            rotate_left
            · simp only [Act.put, List.setIfInBounds_toArray, List.set_cons_zero, List.set_cons_succ, i64_w, i32_w]
              rfl
            refine pure_ (i := 15) (N := some 117) (v := ?_) (a' := ?_) #[true, true, true, true, true, true, true, true, true, true, true, true, true, true, true, true, false, false, false, false, false] rfl rfl (by kernel_rfl) (fun _ _ _ h => h) (Or.inl ⟨by rfl, ?_⟩) ?_ ?_
            rotate_left
            · intro w'
              go_simp
              with_reducible rfl
            rotate_left
            · simp only [Act.put, List.setIfInBounds_toArray, List.set_cons_zero, List.set_cons_succ, i64_w, i32_w]
              rfl
            refine pure_ (i := 16) (N := some 118) (v := ?_) (a' := ?_) #[true, true, true, true, true, true, true, true, true, true, true, true, true, true, true, true, true, false, false, false, false] rfl rfl (by kernel_rfl) (fun _ _ _ h => h) (Or.inl ⟨by rfl, ?_⟩) ?_ ?_
            rotate_left
            · intro w'
              go_simp
              with_reducible rfl
            rotate_left
            · simp only [Act.put, List.setIfInBounds_toArray, List.set_cons_zero, List.set_cons_succ, i64_w, i32_w]
              rfl
            exact norm_ (by first | (simp only [putAll, Act.put, List.setIfInBounds_toArray, List.set_cons_zero, List.set_cons_succ]; done) | (simp only [putAll, Act.put, List.setIfInBounds_toArray, List.set_cons_zero, List.set_cons_succ]; rfl)) (hJe0 ⟨x104, x106, x113, (.slice A114 (rs ++ [(qx : Int)]).length c114), Ah, ch, Ai, ci⟩ w1 ⟨HB1.out, LH.out, FH.out⟩)
          · refine value_ (w1 := w'.alloc (.cells #[.slice none 0 0] 24)) (v := .pointer (some ⟨w'.heap.size, 0, none⟩)) (by rfl) rfl ?_ ?_
            · first | (go_simp; done) | (go_simp; rfl)
            have hal := below_alloc (Below.refl w'.heap.size w') (.cells #[.slice none 0 0] 24)
            have BZ1 := Aside0.mk (heap_alloc_new w' (.cells #[.slice none 0 0] 24))
            have GZ := Aside0.mk HB.out.size
            have N114n := Aside0.mk (N114.out.below hal)
            have HB1 := Aside0.mk (HB.out.trans (hal.mono HB.out.size))
            clear hal
            generalize w'.alloc (.cells #[.slice none 0 0] 24) = w1 at *
            generalize w'.heap.size = b20 at *
            have hs1 := (HB1.out.cell (World.block_lt_of_cell? _ _ Q9.out)).trans Q9.out
            have HSA := Aside0.mk hs1
            clear hs1 hHeld
            refine hK.out _ _ HSA.out (fun hHeld => ?_)
            clear hK K
            refine norm_ (a' := ?_) ?_ ?_
            rotate_left
            · show Act.put _ (some 20) _ = _
              simp only [Act.put, List.setIfInBounds_toArray, List.set_cons_zero, List.set_cons_succ, i64_w, i32_w]
              rfl
            exact norm_ (by first | (simp only [putAll, Act.put, List.setIfInBounds_toArray, List.set_cons_zero, List.set_cons_succ]; done) | (simp only [putAll, Act.put, List.setIfInBounds_toArray, List.set_cons_zero, List.set_cons_succ]; rfl)) (hJd1 ⟨x104, x106, x113, (.slice A114 (rs ++ [(qx : Int)]).length c114), b20⟩ w1 ⟨HB1.out, N114n.out, BZ1.out, GZ.out⟩)
        intro hJd0
        refine join_ (σ := Value × Value × Value × Nat) 9 #[true, true, true, true, true, true, true, true, true, true, true, false, false, false, false, false, false, true, false, false, false] (fun s => [(104, s.1), (106, s.2.1), (113, s.2.2.1), (20, .pointer (some ⟨s.2.2.2, 0, none⟩))]) (fun s w' => (Below w9.heap.size w9 w') ∧ (NR w9.heap.size w' s.2.1 rs) ∧ (NR w9.heap.size w' s.2.2.1 [(qx : Int)]) ∧ (AP s.2.1 s.2.2.1) ∧ (w'.heap[s.2.2.2]? = some (.cells #[.slice none 0 0] 24 (0, 0))) ∧ (w9.heap.size ≤ s.2.2.2)) ?_ ?_
        · rintro ⟨x104, x106, x113, b20⟩ w' ⟨h_HB, h_N106, h_N113, h_APH, h_BZ, h_GZ⟩
          have HB := Aside0.mk h_HB
          have N106 := Aside0.mk h_N106
          have N113 := Aside0.mk h_N113
          have APH := Aside0.mk h_APH
          have BZ := Aside0.mk h_BZ
          have GZ := Aside0.mk h_GZ
          clear h_HB h_N106 h_N113 h_APH h_BZ h_GZ
          obtain ⟨A113, c113, rfl⟩ := Kd.R_slice N113.out
          refine norm_ (a' := ?_) ?_ ?_
          rotate_left
          · simp only [putAll, Act.put, List.setIfInBounds_toArray, List.set_cons_zero, List.set_cons_succ, i64_w, i32_w]
            rfl
          refine one_ (i := 11) (N := some 114) #[true, true, true, true, true, true, true, true, true, true, true, true, false, false, false, false, false, true, false, false, false] rfl rfl (by kernel_rfl) (by decide) (fun K hK => ?_)
          refine Kd.R_append_rows_step (Kd.int .i64) (w0 := w9) w9.heap.size (by rfl) (.tmp 106) (.tmp 113) 25 3 (.int .i64 0) 8 rfl Tryd.underlying25 info3q rfl (by decide) (by omega) x106 rs [(qx : Int)] A113 ([(qx : Int)] : List Int).length c113 (fun _ => True) (fun _ => False) rfl rfl (Kd.R_mono N106.out (fun _ _ => trivial)) (Kd.R_reads' N113.out).2.2 (fun _ _ h => h) (fun _ h => h.elim) (fun _ _ => trivial) HB.out HB.out.size (by have := HRL.out; simp; omega) ?_
          intro x114 w1 ho hb hg hat
          have HB1 := Aside0.mk hb
          have NN := Aside0.mk (NR.of ho)
          have AT := Aside0.mk hat
          have GR := Aside0.mk hg
          clear ho hb hg hat
          have BZ1 := Aside0.mk (blk_grown BZ.out GR.out (Kd.R_ne N106.out BZ.out (by decide)))
          have hs1 := (HB1.out.cell (World.block_lt_of_cell? _ _ Q9.out)).trans Q9.out
          have HSA := Aside0.mk hs1
          clear hs1 hHeld
          refine hK.out _ _ HSA.out (fun hHeld => ?_)
          clear hK K
          refine norm_ (a' := ?_) ?_ ?_
          rotate_left
          · show Act.put _ (some 114) _ = _
            simp only [Act.put, List.setIfInBounds_toArray, List.set_cons_zero, List.set_cons_succ, i64_w, i32_w]
            rfl
          exact norm_ (by first | (simp only [putAll, Act.put, List.setIfInBounds_toArray, List.set_cons_zero, List.set_cons_succ]; done) | (simp only [putAll, Act.put, List.setIfInBounds_toArray, List.set_cons_zero, List.set_cons_succ]; rfl)) (hJd1 ⟨x104, x106, (.slice A113 ([(qx : Int)] : List Int).length c113), x114, b20⟩ w1 ⟨HB1.out, NN.out, BZ1.out, GZ.out⟩)
        intro hJcb1
        refine join_ (σ := Value × Value × Value) 10 #[true, true, true, true, true, true, true, true, true, true, true, false, false, false, false, false, false, false, false, false, false] (fun s => [(104, s.1), (106, s.2.1), (113, s.2.2)]) (fun s w' => (Below w9.heap.size w9 w') ∧ (NR w9.heap.size w' s.2.1 rs) ∧ (NR w9.heap.size w' s.2.2 [(qx : Int)]) ∧ (AP s.2.1 s.2.2)) ?_ ?_
        · rintro ⟨x104, x106, x113⟩ w' ⟨h_HB, h_N106, h_N113, h_APH⟩
          have HB := Aside0.mk h_HB
          have N106 := Aside0.mk h_N106
          have N113 := Aside0.mk h_N113
          have APH := Aside0.mk h_APH
          clear h_HB h_N106 h_N113 h_APH
          obtain ⟨A113, c113, rfl⟩ := Kd.R_slice N113.out
          refine norm_ (a' := ?_) ?_ ?_
          rotate_left
          · simp only [putAll, Act.put, List.setIfInBounds_toArray, List.set_cons_zero, List.set_cons_succ, i64_w, i32_w]
            rfl
          refine two_ (i := 11) (j := 17) (Ni := some 114) (Nj := some 20) #[true, true, true, true, true, true, true, true, true, true, true, true, false, false, false, false, false, false, false, false, false] #[true, true, true, true, true, true, true, true, true, true, true, false, false, false, false, false, false, true, false, false, false] rfl rfl rfl rfl (by kernel_rfl) (by decide) (by decide) (fun K hK => ?_) (fun K hK => ?_)
          · refine Kd.R_append_rows_step (Kd.int .i64) (w0 := w9) w9.heap.size (by rfl) (.tmp 106) (.tmp 113) 25 3 (.int .i64 0) 8 rfl Tryd.underlying25 info3q rfl (by decide) (by omega) x106 rs [(qx : Int)] A113 ([(qx : Int)] : List Int).length c113 (fun _ => True) (fun _ => False) rfl rfl (Kd.R_mono N106.out (fun _ _ => trivial)) (Kd.R_reads' N113.out).2.2 (fun _ _ h => h) (fun _ h => h.elim) (fun _ _ => trivial) HB.out HB.out.size (by have := HRL.out; simp; omega) ?_
            intro x114 w1 ho hb hg hat
            have HB1 := Aside0.mk hb
            have NN := Aside0.mk (NR.of ho)
            have AT := Aside0.mk hat
            have GR := Aside0.mk hg
            clear ho hb hg hat
            have hs1 := (HB1.out.cell (World.block_lt_of_cell? _ _ Q9.out)).trans Q9.out
            have HSA := Aside0.mk hs1
            clear hs1 hHeld
            refine hK.out _ _ HSA.out (fun hHeld => ?_)
            clear hK K
            refine norm_ (a' := ?_) ?_ ?_
            rotate_left
            · show Act.put _ (some 114) _ = _
              simp only [Act.put, List.setIfInBounds_toArray, List.set_cons_zero, List.set_cons_succ, i64_w, i32_w]
              rfl
            exact norm_ (by first | (simp only [putAll, Act.put, List.setIfInBounds_toArray, List.set_cons_zero, List.set_cons_succ]; done) | (simp only [putAll, Act.put, List.setIfInBounds_toArray, List.set_cons_zero, List.set_cons_succ]; rfl)) (hJd0 ⟨x104, x106, (.slice A113 ([(qx : Int)] : List Int).length c113), x114⟩ w1 ⟨HB1.out, NN.out⟩)
          · refine value_ (w1 := w'.alloc (.cells #[.slice none 0 0] 24)) (v := .pointer (some ⟨w'.heap.size, 0, none⟩)) (by rfl) rfl ?_ ?_
            · first | (go_simp; done) | (go_simp; rfl)
            have hal := below_alloc (Below.refl w'.heap.size w') (.cells #[.slice none 0 0] 24)
            have BZ1 := Aside0.mk (heap_alloc_new w' (.cells #[.slice none 0 0] 24))
            have GZ := Aside0.mk HB.out.size
            have N106n := Aside0.mk (N106.out.below hal)
            have N113n := Aside0.mk (N113.out.below hal)
            have HB1 := Aside0.mk (HB.out.trans (hal.mono HB.out.size))
            clear hal
            generalize w'.alloc (.cells #[.slice none 0 0] 24) = w1 at *
            generalize w'.heap.size = b20 at *
            have hs1 := (HB1.out.cell (World.block_lt_of_cell? _ _ Q9.out)).trans Q9.out
            have HSA := Aside0.mk hs1
            clear hs1 hHeld
            refine hK.out _ _ HSA.out (fun hHeld => ?_)
            clear hK K
            refine norm_ (a' := ?_) ?_ ?_
            rotate_left
            · show Act.put _ (some 20) _ = _
              simp only [Act.put, List.setIfInBounds_toArray, List.set_cons_zero, List.set_cons_succ, i64_w, i32_w]
              rfl
            exact norm_ (by first | (simp only [putAll, Act.put, List.setIfInBounds_toArray, List.set_cons_zero, List.set_cons_succ]; done) | (simp only [putAll, Act.put, List.setIfInBounds_toArray, List.set_cons_zero, List.set_cons_succ]; rfl)) (hJcb1 ⟨x104, x106, (.slice A113 ([(qx : Int)] : List Int).length c113), b20⟩ w1 ⟨HB1.out, N106n.out, N113n.out, APH.out, BZ1.out, GZ.out⟩)
        intro hJcb0
        refine join_ (σ := Value × Value × Nat) 10 #[true, true, true, true, true, true, true, true, true, true, false, false, false, false, false, false, false, true, false, false, false] (fun s => [(104, s.1), (106, s.2.1), (20, .pointer (some ⟨s.2.2, 0, none⟩))]) (fun s w' => (Below w9.heap.size w9 w') ∧ (NR w9.heap.size w' s.2.1 rs) ∧ (w'.heap[s.2.2]? = some (.cells #[.slice none 0 0] 24 (0, 0))) ∧ (w9.heap.size ≤ s.2.2)) ?_ ?_
        · rintro ⟨x104, x106, b20⟩ w' ⟨h_HB, h_N106, h_BZ, h_GZ⟩
          have HB := Aside0.mk h_HB
          have N106 := Aside0.mk h_N106
          have BZ := Aside0.mk h_BZ
          have GZ := Aside0.mk h_GZ
          clear h_HB h_N106 h_BZ h_GZ
          refine norm_ (a' := ?_) ?_ ?_
          rotate_left
          · simp only [putAll, Act.put, List.setIfInBounds_toArray, List.set_cons_zero, List.set_cons_succ, i64_w, i32_w]
            rfl
          refine one_ (i := 10) (N := some 113) #[true, true, true, true, true, true, true, true, true, true, true, false, false, false, false, false, false, true, false, false, false] rfl rfl (by kernel_rfl) (by decide) (fun K hK => ?_)
          refine Kd.R_lit_step (Kd.int .i64) (w0 := w9) w9.heap.size 3 (by rfl) (N := 113) rfl (xs := ([(qx : Int)] : List Int)) (inner := [.int .i64 (qx : Int)]) (ok := fun _ => True) (okp := fun _ => True) ?lr (Reps.one (show Kd.M (Kd.int .i64) _ _ _ (qx : Int) [.int .i64 (qx : Int)] from rfl) (Reps.none _ _)) (fun _ hk => hk) trivial HB.out HB.out.size (by simp) ?_
          case lr => first | (go_simp; done) | (go_simp; rfl)
          intro x113 w1 ho hb hg hnew
          have HB1 := Aside0.mk hb
          have NN := Aside0.mk (NR.of ho)
          have NEW := Aside0.mk hnew
          have GR := Aside0.mk hg
          clear ho hb hg hnew
          have BZ1 := Aside0.mk (blk_grown BZ.out GR.out (by simp))
          have hs1 := (HB1.out.cell (World.block_lt_of_cell? _ _ Q9.out)).trans Q9.out
          have HSA := Aside0.mk hs1
          clear hs1 hHeld
          refine hK.out _ _ HSA.out (fun hHeld => ?_)
          clear hK K
          refine norm_ (a' := ?_) ?_ ?_
          rotate_left
          · show Act.put _ (some 113) _ = _
            simp only [Act.put, List.setIfInBounds_toArray, List.set_cons_zero, List.set_cons_succ, i64_w, i32_w]
            rfl
          exact norm_ (by first | (simp only [putAll, Act.put, List.setIfInBounds_toArray, List.set_cons_zero, List.set_cons_succ]; done) | (simp only [putAll, Act.put, List.setIfInBounds_toArray, List.set_cons_zero, List.set_cons_succ]; rfl)) (hJcb1 ⟨x104, x106, x113, b20⟩ w1 ⟨HB1.out, (N106.out.grown GR.out (fun k _ => by simp)), NN.out, (AP.symm (AP.new NEW.out N106.out)), BZ1.out, GZ.out⟩)
        intro hJc1
        refine join_ (σ := Value × Value) 11 #[true, true, true, true, true, true, true, true, true, true, false, false, false, false, false, false, false, false, false, false, false] (fun s => [(104, s.1), (106, s.2)]) (fun s w' => (Below w9.heap.size w9 w') ∧ (NR w9.heap.size w' s.2 rs)) ?_ ?_
        · rintro ⟨x104, x106⟩ w' ⟨h_HB, h_N106⟩
          have HB := Aside0.mk h_HB
          have N106 := Aside0.mk h_N106
          clear h_HB h_N106
          refine norm_ (a' := ?_) ?_ ?_
          rotate_left
          · simp only [putAll, Act.put, List.setIfInBounds_toArray, List.set_cons_zero, List.set_cons_succ, i64_w, i32_w]
            rfl
          refine two_ (i := 10) (j := 17) (Ni := some 113) (Nj := some 20) #[true, true, true, true, true, true, true, true, true, true, true, false, false, false, false, false, false, false, false, false, false] #[true, true, true, true, true, true, true, true, true, true, false, false, false, false, false, false, false, true, false, false, false] rfl rfl rfl rfl (by kernel_rfl) (by decide) (by decide) (fun K hK => ?_) (fun K hK => ?_)
          · refine Kd.R_lit_step (Kd.int .i64) (w0 := w9) w9.heap.size 3 (by rfl) (N := 113) rfl (xs := ([(qx : Int)] : List Int)) (inner := [.int .i64 (qx : Int)]) (ok := fun _ => True) (okp := fun _ => True) ?lr (Reps.one (show Kd.M (Kd.int .i64) _ _ _ (qx : Int) [.int .i64 (qx : Int)] from rfl) (Reps.none _ _)) (fun _ hk => hk) trivial HB.out HB.out.size (by simp) ?_
            case lr => first | (go_simp; done) | (go_simp; rfl)
            intro x113 w1 ho hb hg hnew
            have HB1 := Aside0.mk hb
            have NN := Aside0.mk (NR.of ho)
            have NEW := Aside0.mk hnew
            have GR := Aside0.mk hg
            clear ho hb hg hnew
            have hs1 := (HB1.out.cell (World.block_lt_of_cell? _ _ Q9.out)).trans Q9.out
            have HSA := Aside0.mk hs1
            clear hs1 hHeld
            refine hK.out _ _ HSA.out (fun hHeld => ?_)
            clear hK K
            refine norm_ (a' := ?_) ?_ ?_
            rotate_left
            · show Act.put _ (some 113) _ = _
              simp only [Act.put, List.setIfInBounds_toArray, List.set_cons_zero, List.set_cons_succ, i64_w, i32_w]
              rfl
            exact norm_ (by first | (simp only [putAll, Act.put, List.setIfInBounds_toArray, List.set_cons_zero, List.set_cons_succ]; done) | (simp only [putAll, Act.put, List.setIfInBounds_toArray, List.set_cons_zero, List.set_cons_succ]; rfl)) (hJcb0 ⟨x104, x106, x113⟩ w1 ⟨HB1.out, (N106.out.grown GR.out (fun k _ => by simp)), NN.out, (AP.symm (AP.new NEW.out N106.out))⟩)
          · refine value_ (w1 := w'.alloc (.cells #[.slice none 0 0] 24)) (v := .pointer (some ⟨w'.heap.size, 0, none⟩)) (by rfl) rfl ?_ ?_
            · first | (go_simp; done) | (go_simp; rfl)
            have hal := below_alloc (Below.refl w'.heap.size w') (.cells #[.slice none 0 0] 24)
            have BZ1 := Aside0.mk (heap_alloc_new w' (.cells #[.slice none 0 0] 24))
            have GZ := Aside0.mk HB.out.size
            have N106n := Aside0.mk (N106.out.below hal)
            have HB1 := Aside0.mk (HB.out.trans (hal.mono HB.out.size))
            clear hal
            generalize w'.alloc (.cells #[.slice none 0 0] 24) = w1 at *
            generalize w'.heap.size = b20 at *
            have hs1 := (HB1.out.cell (World.block_lt_of_cell? _ _ Q9.out)).trans Q9.out
            have HSA := Aside0.mk hs1
            clear hs1 hHeld
            refine hK.out _ _ HSA.out (fun hHeld => ?_)
            clear hK K
            refine norm_ (a' := ?_) ?_ ?_
            rotate_left
            · show Act.put _ (some 20) _ = _
              simp only [Act.put, List.setIfInBounds_toArray, List.set_cons_zero, List.set_cons_succ, i64_w, i32_w]
              rfl
            exact norm_ (by first | (simp only [putAll, Act.put, List.setIfInBounds_toArray, List.set_cons_zero, List.set_cons_succ]; done) | (simp only [putAll, Act.put, List.setIfInBounds_toArray, List.set_cons_zero, List.set_cons_succ]; rfl)) (hJc1 ⟨x104, x106, b20⟩ w1 ⟨HB1.out, N106n.out, BZ1.out, GZ.out⟩)
        intro hJc0
        refine join_ (σ := Value × Value × Nat) 10 #[true, true, true, false, true, true, true, true, true, true, true, false, false, false, false, false, false, true, false, false, false] (fun s => [(104, s.1), (113, s.2.1), (20, .pointer (some ⟨s.2.2, 0, none⟩))]) (fun s w' => (Below w9.heap.size w9 w') ∧ (NR w9.heap.size w' s.1 []) ∧ (NR w9.heap.size w' s.2.1 [(qx : Int)]) ∧ (AP s.1 s.2.1) ∧ (w'.heap[s.2.2]? = some (.cells #[.slice none 0 0] 24 (0, 0))) ∧ (w9.heap.size ≤ s.2.2)) ?_ ?_
        · rintro ⟨x104, x113, b20⟩ w' ⟨h_HB, h_N104, h_N113, h_APH, h_BZ, h_GZ⟩
          have HB := Aside0.mk h_HB
          have N104 := Aside0.mk h_N104
          have N113 := Aside0.mk h_N113
          have APH := Aside0.mk h_APH
          have BZ := Aside0.mk h_BZ
          have GZ := Aside0.mk h_GZ
          clear h_HB h_N104 h_N113 h_APH h_BZ h_GZ
          refine norm_ (a' := ?_) ?_ ?_
          rotate_left
          · simp only [putAll, Act.put, List.setIfInBounds_toArray, List.set_cons_zero, List.set_cons_succ, i64_w, i32_w]
            rfl
          refine one_ (i := 3) (N := some 106) #[true, true, true, true, true, true, true, true, true, true, true, false, false, false, false, false, false, true, false, false, false] rfl rfl (by kernel_rfl) (by decide) (fun K hK => ?_)
          refine Kd.R_append_rows_step (Kd.int .i64) (w0 := w9) w9.heap.size (by rfl) (.tmp 104) (.tmp 105) 25 3 (.int .i64 0) 8 rfl Tryd.underlying25 info3q rfl (by decide) (by omega) x104 [] rs (some ad) rs.length c1 (fun _ => True) (fun _ => False) rfl rfl (Kd.R_mono N104.out (fun _ _ => trivial)) (HR.out _ (L9.out.trans (HB.out.mono L9.out.size))) (fun _ _ h => h) (fun _ h => h.elim) (fun _ _ => trivial) HB.out HB.out.size (by have := HRL.out; simp; omega) ?_
          intro x106 w1 ho hb hg hat
          have HB1 := Aside0.mk hb
          have NN := Aside0.mk (NR.of ho)
          have AT := Aside0.mk hat
          have GR := Aside0.mk hg
          clear ho hb hg hat
          have BZ1 := Aside0.mk (blk_grown BZ.out GR.out (Kd.R_ne N104.out BZ.out (by decide)))
          have hs1 := (HB1.out.cell (World.block_lt_of_cell? _ _ Q9.out)).trans Q9.out
          have HSA := Aside0.mk hs1
          clear hs1 hHeld
          refine hK.out _ _ HSA.out (fun hHeld => ?_)
          clear hK K
          refine norm_ (a' := ?_) ?_ ?_
          rotate_left
          · show Act.put _ (some 106) _ = _
            simp only [Act.put, List.setIfInBounds_toArray, List.set_cons_zero, List.set_cons_succ, i64_w, i32_w]
            rfl
          exact norm_ (by first | (simp only [putAll, Act.put, List.setIfInBounds_toArray, List.set_cons_zero, List.set_cons_succ]; done) | (simp only [putAll, Act.put, List.setIfInBounds_toArray, List.set_cons_zero, List.set_cons_succ]; rfl)) (hJcb1 ⟨x104, x106, x113, b20⟩ w1 ⟨HB1.out, NN.out, (N113.out.grown GR.out (fun k hk he => APH.out k he.symm hk)), (AP.at_ APH.out AT.out N113.out), BZ1.out, GZ.out⟩)
        intro hJab1
        refine join_ (σ := Value × Value) 11 #[true, true, true, false, true, true, true, true, true, true, true, false, false, false, false, false, false, false, false, false, false] (fun s => [(104, s.1), (113, s.2)]) (fun s w' => (Below w9.heap.size w9 w') ∧ (NR w9.heap.size w' s.1 []) ∧ (NR w9.heap.size w' s.2 [(qx : Int)]) ∧ (AP s.1 s.2)) ?_ ?_
        · rintro ⟨x104, x113⟩ w' ⟨h_HB, h_N104, h_N113, h_APH⟩
          have HB := Aside0.mk h_HB
          have N104 := Aside0.mk h_N104
          have N113 := Aside0.mk h_N113
          have APH := Aside0.mk h_APH
          clear h_HB h_N104 h_N113 h_APH
          refine norm_ (a' := ?_) ?_ ?_
          rotate_left
          · simp only [putAll, Act.put, List.setIfInBounds_toArray, List.set_cons_zero, List.set_cons_succ, i64_w, i32_w]
            rfl
          refine two_ (i := 3) (j := 17) (Ni := some 106) (Nj := some 20) #[true, true, true, true, true, true, true, true, true, true, true, false, false, false, false, false, false, false, false, false, false] #[true, true, true, false, true, true, true, true, true, true, true, false, false, false, false, false, false, true, false, false, false] rfl rfl rfl rfl (by kernel_rfl) (by decide) (by decide) (fun K hK => ?_) (fun K hK => ?_)
          · refine Kd.R_append_rows_step (Kd.int .i64) (w0 := w9) w9.heap.size (by rfl) (.tmp 104) (.tmp 105) 25 3 (.int .i64 0) 8 rfl Tryd.underlying25 info3q rfl (by decide) (by omega) x104 [] rs (some ad) rs.length c1 (fun _ => True) (fun _ => False) rfl rfl (Kd.R_mono N104.out (fun _ _ => trivial)) (HR.out _ (L9.out.trans (HB.out.mono L9.out.size))) (fun _ _ h => h) (fun _ h => h.elim) (fun _ _ => trivial) HB.out HB.out.size (by have := HRL.out; simp; omega) ?_
            intro x106 w1 ho hb hg hat
            have HB1 := Aside0.mk hb
            have NN := Aside0.mk (NR.of ho)
            have AT := Aside0.mk hat
            have GR := Aside0.mk hg
            clear ho hb hg hat
            have hs1 := (HB1.out.cell (World.block_lt_of_cell? _ _ Q9.out)).trans Q9.out
            have HSA := Aside0.mk hs1
            clear hs1 hHeld
            refine hK.out _ _ HSA.out (fun hHeld => ?_)
            clear hK K
            refine norm_ (a' := ?_) ?_ ?_
            rotate_left
            · show Act.put _ (some 106) _ = _
              simp only [Act.put, List.setIfInBounds_toArray, List.set_cons_zero, List.set_cons_succ, i64_w, i32_w]
              rfl
            exact norm_ (by first | (simp only [putAll, Act.put, List.setIfInBounds_toArray, List.set_cons_zero, List.set_cons_succ]; done) | (simp only [putAll, Act.put, List.setIfInBounds_toArray, List.set_cons_zero, List.set_cons_succ]; rfl)) (hJcb0 ⟨x104, x106, x113⟩ w1 ⟨HB1.out, NN.out, (N113.out.grown GR.out (fun k hk he => APH.out k he.symm hk)), (AP.at_ APH.out AT.out N113.out)⟩)
          · refine value_ (w1 := w'.alloc (.cells #[.slice none 0 0] 24)) (v := .pointer (some ⟨w'.heap.size, 0, none⟩)) (by rfl) rfl ?_ ?_
            · first | (go_simp; done) | (go_simp; rfl)
            have hal := below_alloc (Below.refl w'.heap.size w') (.cells #[.slice none 0 0] 24)
            have BZ1 := Aside0.mk (heap_alloc_new w' (.cells #[.slice none 0 0] 24))
            have GZ := Aside0.mk HB.out.size
            have N104n := Aside0.mk (N104.out.below hal)
            have N113n := Aside0.mk (N113.out.below hal)
            have HB1 := Aside0.mk (HB.out.trans (hal.mono HB.out.size))
            clear hal
            generalize w'.alloc (.cells #[.slice none 0 0] 24) = w1 at *
            generalize w'.heap.size = b20 at *
            have hs1 := (HB1.out.cell (World.block_lt_of_cell? _ _ Q9.out)).trans Q9.out
            have HSA := Aside0.mk hs1
            clear hs1 hHeld
            refine hK.out _ _ HSA.out (fun hHeld => ?_)
            clear hK K
            refine norm_ (a' := ?_) ?_ ?_
            rotate_left
            · show Act.put _ (some 20) _ = _
              simp only [Act.put, List.setIfInBounds_toArray, List.set_cons_zero, List.set_cons_succ, i64_w, i32_w]
              rfl
            exact norm_ (by first | (simp only [putAll, Act.put, List.setIfInBounds_toArray, List.set_cons_zero, List.set_cons_succ]; done) | (simp only [putAll, Act.put, List.setIfInBounds_toArray, List.set_cons_zero, List.set_cons_succ]; rfl)) (hJab1 ⟨x104, x113, b20⟩ w1 ⟨HB1.out, N104n.out, N113n.out, APH.out, BZ1.out, GZ.out⟩)
        intro hJab0
        refine join_ (σ := Value × Nat) 11 #[true, false, true, false, true, true, true, true, true, true, true, false, false, false, false, false, false, true, false, false, false] (fun s => [(113, s.1), (20, .pointer (some ⟨s.2, 0, none⟩))]) (fun s w' => (Below w9.heap.size w9 w') ∧ (NR w9.heap.size w' s.1 [(qx : Int)]) ∧ (w'.heap[s.2]? = some (.cells #[.slice none 0 0] 24 (0, 0))) ∧ (w9.heap.size ≤ s.2)) ?_ ?_
        · rintro ⟨x113, b20⟩ w' ⟨h_HB, h_N113, h_BZ, h_GZ⟩
          have HB := Aside0.mk h_HB
          have N113 := Aside0.mk h_N113
          have BZ := Aside0.mk h_BZ
          have GZ := Aside0.mk h_GZ
          clear h_HB h_N113 h_BZ h_GZ
          refine norm_ (a' := ?_) ?_ ?_
          rotate_left
          · simp only [putAll, Act.put, List.setIfInBounds_toArray, List.set_cons_zero, List.set_cons_succ, i64_w, i32_w]
            rfl
          refine one_ (i := 1) (N := some 104) #[true, true, true, false, true, true, true, true, true, true, true, false, false, false, false, false, false, true, false, false, false] rfl rfl (by kernel_rfl) (by decide) (fun K hK => ?_)
          refine Kd.R_lit_step (Kd.int .i64) (w0 := w9) w9.heap.size 3 (by rfl) (N := 104) rfl (xs := ([] : List Int)) (inner := []) (ok := fun _ => True) (okp := fun _ => True) ?lr (Reps.none _ _) (fun _ hk => hk) trivial HB.out HB.out.size (by simp) ?_
          case lr => first | (go_simp; done) | (go_simp; rfl)
          intro x104 w1 ho hb hg hnew
          have HB1 := Aside0.mk hb
          have NN := Aside0.mk (NR.of ho)
          have NEW := Aside0.mk hnew
          have GR := Aside0.mk hg
          clear ho hb hg hnew
          have BZ1 := Aside0.mk (blk_grown BZ.out GR.out (by simp))
          have hs1 := (HB1.out.cell (World.block_lt_of_cell? _ _ Q9.out)).trans Q9.out
          have HSA := Aside0.mk hs1
          clear hs1 hHeld
          refine hK.out _ _ HSA.out (fun hHeld => ?_)
          clear hK K
          refine norm_ (a' := ?_) ?_ ?_
          rotate_left
          · show Act.put _ (some 104) _ = _
            simp only [Act.put, List.setIfInBounds_toArray, List.set_cons_zero, List.set_cons_succ, i64_w, i32_w]
            rfl
          exact norm_ (by first | (simp only [putAll, Act.put, List.setIfInBounds_toArray, List.set_cons_zero, List.set_cons_succ]; done) | (simp only [putAll, Act.put, List.setIfInBounds_toArray, List.set_cons_zero, List.set_cons_succ]; rfl)) (hJab1 ⟨x104, x113, b20⟩ w1 ⟨HB1.out, NN.out, (N113.out.grown GR.out (fun k _ => by simp)), (AP.new NEW.out N113.out), BZ1.out, GZ.out⟩)
        intro hJb1
        refine join_ (σ := Value) 12 #[true, false, true, false, true, true, true, true, true, true, true, false, false, false, false, false, false, false, false, false, false] (fun s => [(113, s)]) (fun s w' => (Below w9.heap.size w9 w') ∧ (NR w9.heap.size w' s [(qx : Int)])) ?_ ?_
        · rintro x113 w' ⟨h_HB, h_N113⟩
          have HB := Aside0.mk h_HB
          have N113 := Aside0.mk h_N113
          clear h_HB h_N113
          refine norm_ (a' := ?_) ?_ ?_
          rotate_left
          · simp only [putAll, Act.put, List.setIfInBounds_toArray, List.set_cons_zero, List.set_cons_succ, i64_w, i32_w]
            rfl
          refine two_ (i := 1) (j := 17) (Ni := some 104) (Nj := some 20) #[true, true, true, false, true, true, true, true, true, true, true, false, false, false, false, false, false, false, false, false, false] #[true, false, true, false, true, true, true, true, true, true, true, false, false, false, false, false, false, true, false, false, false] rfl rfl rfl rfl (by kernel_rfl) (by decide) (by decide) (fun K hK => ?_) (fun K hK => ?_)
          · refine Kd.R_lit_step (Kd.int .i64) (w0 := w9) w9.heap.size 3 (by rfl) (N := 104) rfl (xs := ([] : List Int)) (inner := []) (ok := fun _ => True) (okp := fun _ => True) ?lr (Reps.none _ _) (fun _ hk => hk) trivial HB.out HB.out.size (by simp) ?_
            case lr => first | (go_simp; done) | (go_simp; rfl)
            intro x104 w1 ho hb hg hnew
            have HB1 := Aside0.mk hb
            have NN := Aside0.mk (NR.of ho)
            have NEW := Aside0.mk hnew
            have GR := Aside0.mk hg
            clear ho hb hg hnew
            have hs1 := (HB1.out.cell (World.block_lt_of_cell? _ _ Q9.out)).trans Q9.out
            have HSA := Aside0.mk hs1
            clear hs1 hHeld
            refine hK.out _ _ HSA.out (fun hHeld => ?_)
            clear hK K
            refine norm_ (a' := ?_) ?_ ?_
            rotate_left
            · show Act.put _ (some 104) _ = _
              simp only [Act.put, List.setIfInBounds_toArray, List.set_cons_zero, List.set_cons_succ, i64_w, i32_w]
              rfl
            exact norm_ (by first | (simp only [putAll, Act.put, List.setIfInBounds_toArray, List.set_cons_zero, List.set_cons_succ]; done) | (simp only [putAll, Act.put, List.setIfInBounds_toArray, List.set_cons_zero, List.set_cons_succ]; rfl)) (hJab0 ⟨x104, x113⟩ w1 ⟨HB1.out, NN.out, (N113.out.grown GR.out (fun k _ => by simp)), (AP.new NEW.out N113.out)⟩)
          · refine value_ (w1 := w'.alloc (.cells #[.slice none 0 0] 24)) (v := .pointer (some ⟨w'.heap.size, 0, none⟩)) (by rfl) rfl ?_ ?_
            · first | (go_simp; done) | (go_simp; rfl)
            have hal := below_alloc (Below.refl w'.heap.size w') (.cells #[.slice none 0 0] 24)
            have BZ1 := Aside0.mk (heap_alloc_new w' (.cells #[.slice none 0 0] 24))
            have GZ := Aside0.mk HB.out.size
            have N113n := Aside0.mk (N113.out.below hal)
            have HB1 := Aside0.mk (HB.out.trans (hal.mono HB.out.size))
            clear hal
            generalize w'.alloc (.cells #[.slice none 0 0] 24) = w1 at *
            generalize w'.heap.size = b20 at *
            have hs1 := (HB1.out.cell (World.block_lt_of_cell? _ _ Q9.out)).trans Q9.out
            have HSA := Aside0.mk hs1
            clear hs1 hHeld
            refine hK.out _ _ HSA.out (fun hHeld => ?_)
            clear hK K
            refine norm_ (a' := ?_) ?_ ?_
            rotate_left
            · show Act.put _ (some 20) _ = _
              simp only [Act.put, List.setIfInBounds_toArray, List.set_cons_zero, List.set_cons_succ, i64_w, i32_w]
              rfl
            exact norm_ (by first | (simp only [putAll, Act.put, List.setIfInBounds_toArray, List.set_cons_zero, List.set_cons_succ]; done) | (simp only [putAll, Act.put, List.setIfInBounds_toArray, List.set_cons_zero, List.set_cons_succ]; rfl)) (hJb1 ⟨x113, b20⟩ w1 ⟨HB1.out, N113n.out, BZ1.out, GZ.out⟩)
        intro hJb0
        refine join_ (σ := Value × Nat) 11 #[true, true, true, false, true, true, true, true, true, true, false, false, false, false, false, false, false, true, false, false, false] (fun s => [(104, s.1), (20, .pointer (some ⟨s.2, 0, none⟩))]) (fun s w' => (Below w9.heap.size w9 w') ∧ (NR w9.heap.size w' s.1 []) ∧ (w'.heap[s.2]? = some (.cells #[.slice none 0 0] 24 (0, 0))) ∧ (w9.heap.size ≤ s.2)) ?_ ?_
        · rintro ⟨x104, b20⟩ w' ⟨h_HB, h_N104, h_BZ, h_GZ⟩
          have HB := Aside0.mk h_HB
          have N104 := Aside0.mk h_N104
          have BZ := Aside0.mk h_BZ
          have GZ := Aside0.mk h_GZ
          clear h_HB h_N104 h_BZ h_GZ
          refine norm_ (a' := ?_) ?_ ?_
          rotate_left
          · simp only [putAll, Act.put, List.setIfInBounds_toArray, List.set_cons_zero, List.set_cons_succ, i64_w, i32_w]
            rfl
          refine two_ (i := 3) (j := 10) (Ni := some 106) (Nj := some 113) #[true, true, true, true, true, true, true, true, true, true, false, false, false, false, false, false, false, true, false, false, false] #[true, true, true, false, true, true, true, true, true, true, true, false, false, false, false, false, false, true, false, false, false] rfl rfl rfl rfl (by kernel_rfl) (by decide) (by decide) (fun K hK => ?_) (fun K hK => ?_)
          · refine Kd.R_append_rows_step (Kd.int .i64) (w0 := w9) w9.heap.size (by rfl) (.tmp 104) (.tmp 105) 25 3 (.int .i64 0) 8 rfl Tryd.underlying25 info3q rfl (by decide) (by omega) x104 [] rs (some ad) rs.length c1 (fun _ => True) (fun _ => False) rfl rfl (Kd.R_mono N104.out (fun _ _ => trivial)) (HR.out _ (L9.out.trans (HB.out.mono L9.out.size))) (fun _ _ h => h) (fun _ h => h.elim) (fun _ _ => trivial) HB.out HB.out.size (by have := HRL.out; simp; omega) ?_
            intro x106 w1 ho hb hg hat
            have HB1 := Aside0.mk hb
            have NN := Aside0.mk (NR.of ho)
            have AT := Aside0.mk hat
            have GR := Aside0.mk hg
            clear ho hb hg hat
            have BZ1 := Aside0.mk (blk_grown BZ.out GR.out (Kd.R_ne N104.out BZ.out (by decide)))
            have hs1 := (HB1.out.cell (World.block_lt_of_cell? _ _ Q9.out)).trans Q9.out
            have HSA := Aside0.mk hs1
            clear hs1 hHeld
            refine hK.out _ _ HSA.out (fun hHeld => ?_)
            clear hK K
            refine norm_ (a' := ?_) ?_ ?_
            rotate_left
            · show Act.put _ (some 106) _ = _
              simp only [Act.put, List.setIfInBounds_toArray, List.set_cons_zero, List.set_cons_succ, i64_w, i32_w]
              rfl
            exact norm_ (by first | (simp only [putAll, Act.put, List.setIfInBounds_toArray, List.set_cons_zero, List.set_cons_succ]; done) | (simp only [putAll, Act.put, List.setIfInBounds_toArray, List.set_cons_zero, List.set_cons_succ]; rfl)) (hJc1 ⟨x104, x106, b20⟩ w1 ⟨HB1.out, NN.out, BZ1.out, GZ.out⟩)
          · refine Kd.R_lit_step (Kd.int .i64) (w0 := w9) w9.heap.size 3 (by rfl) (N := 113) rfl (xs := ([(qx : Int)] : List Int)) (inner := [.int .i64 (qx : Int)]) (ok := fun _ => True) (okp := fun _ => True) ?lr (Reps.one (show Kd.M (Kd.int .i64) _ _ _ (qx : Int) [.int .i64 (qx : Int)] from rfl) (Reps.none _ _)) (fun _ hk => hk) trivial HB.out HB.out.size (by simp) ?_
            case lr => first | (go_simp; done) | (go_simp; rfl)
            intro x113 w1 ho hb hg hnew
            have HB1 := Aside0.mk hb
            have NN := Aside0.mk (NR.of ho)
            have NEW := Aside0.mk hnew
            have GR := Aside0.mk hg
            clear ho hb hg hnew
            have BZ1 := Aside0.mk (blk_grown BZ.out GR.out (by simp))
            have hs1 := (HB1.out.cell (World.block_lt_of_cell? _ _ Q9.out)).trans Q9.out
            have HSA := Aside0.mk hs1
            clear hs1 hHeld
            refine hK.out _ _ HSA.out (fun hHeld => ?_)
            clear hK K
            refine norm_ (a' := ?_) ?_ ?_
            rotate_left
            · show Act.put _ (some 113) _ = _
              simp only [Act.put, List.setIfInBounds_toArray, List.set_cons_zero, List.set_cons_succ, i64_w, i32_w]
              rfl
            exact norm_ (by first | (simp only [putAll, Act.put, List.setIfInBounds_toArray, List.set_cons_zero, List.set_cons_succ]; done) | (simp only [putAll, Act.put, List.setIfInBounds_toArray, List.set_cons_zero, List.set_cons_succ]; rfl)) (hJab1 ⟨x104, x113, b20⟩ w1 ⟨HB1.out, (N104.out.grown GR.out (fun k _ => by simp)), NN.out, (AP.symm (AP.new NEW.out N104.out)), BZ1.out, GZ.out⟩)
        intro hJa1
        refine join_ (σ := Value) 12 #[true, true, true, false, true, true, true, true, true, true, false, false, false, false, false, false, false, false, false, false, false] (fun s => [(104, s)]) (fun s w' => (Below w9.heap.size w9 w') ∧ (NR w9.heap.size w' s [])) ?_ ?_
        · rintro x104 w' ⟨h_HB, h_N104⟩
          have HB := Aside0.mk h_HB
          have N104 := Aside0.mk h_N104
          clear h_HB h_N104
          refine norm_ (a' := ?_) ?_ ?_
          rotate_left
          · simp only [putAll, Act.put, List.setIfInBounds_toArray, List.set_cons_zero, List.set_cons_succ, i64_w, i32_w]
            rfl
          refine three_ (i := 3) (j := 10) (k := 17) (Ni := some 106) (Nj := some 113) (Nk := some 20) #[true, true, true, true, true, true, true, true, true, true, false, false, false, false, false, false, false, false, false, false, false] #[true, true, true, false, true, true, true, true, true, true, true, false, false, false, false, false, false, false, false, false, false] #[true, true, true, false, true, true, true, true, true, true, false, false, false, false, false, false, false, true, false, false, false] rfl rfl rfl rfl rfl rfl (by kernel_rfl) (by decide) (by decide) (by decide) (fun K hK => ?_) (fun K hK => ?_) (fun K hK => ?_)
          · refine Kd.R_append_rows_step (Kd.int .i64) (w0 := w9) w9.heap.size (by rfl) (.tmp 104) (.tmp 105) 25 3 (.int .i64 0) 8 rfl Tryd.underlying25 info3q rfl (by decide) (by omega) x104 [] rs (some ad) rs.length c1 (fun _ => True) (fun _ => False) rfl rfl (Kd.R_mono N104.out (fun _ _ => trivial)) (HR.out _ (L9.out.trans (HB.out.mono L9.out.size))) (fun _ _ h => h) (fun _ h => h.elim) (fun _ _ => trivial) HB.out HB.out.size (by have := HRL.out; simp; omega) ?_
            intro x106 w1 ho hb hg hat
            have HB1 := Aside0.mk hb
            have NN := Aside0.mk (NR.of ho)
            have AT := Aside0.mk hat
            have GR := Aside0.mk hg
            clear ho hb hg hat
            have hs1 := (HB1.out.cell (World.block_lt_of_cell? _ _ Q9.out)).trans Q9.out
            have HSA := Aside0.mk hs1
            clear hs1 hHeld
            refine hK.out _ _ HSA.out (fun hHeld => ?_)
            clear hK K
            refine norm_ (a' := ?_) ?_ ?_
            rotate_left
            · show Act.put _ (some 106) _ = _
              simp only [Act.put, List.setIfInBounds_toArray, List.set_cons_zero, List.set_cons_succ, i64_w, i32_w]
              rfl
            exact norm_ (by first | (simp only [putAll, Act.put, List.setIfInBounds_toArray, List.set_cons_zero, List.set_cons_succ]; done) | (simp only [putAll, Act.put, List.setIfInBounds_toArray, List.set_cons_zero, List.set_cons_succ]; rfl)) (hJc0 ⟨x104, x106⟩ w1 ⟨HB1.out, NN.out⟩)
          · refine Kd.R_lit_step (Kd.int .i64) (w0 := w9) w9.heap.size 3 (by rfl) (N := 113) rfl (xs := ([(qx : Int)] : List Int)) (inner := [.int .i64 (qx : Int)]) (ok := fun _ => True) (okp := fun _ => True) ?lr (Reps.one (show Kd.M (Kd.int .i64) _ _ _ (qx : Int) [.int .i64 (qx : Int)] from rfl) (Reps.none _ _)) (fun _ hk => hk) trivial HB.out HB.out.size (by simp) ?_
            case lr => first | (go_simp; done) | (go_simp; rfl)
            intro x113 w1 ho hb hg hnew
            have HB1 := Aside0.mk hb
            have NN := Aside0.mk (NR.of ho)
            have NEW := Aside0.mk hnew
            have GR := Aside0.mk hg
            clear ho hb hg hnew
            have hs1 := (HB1.out.cell (World.block_lt_of_cell? _ _ Q9.out)).trans Q9.out
            have HSA := Aside0.mk hs1
            clear hs1 hHeld
            refine hK.out _ _ HSA.out (fun hHeld => ?_)
            clear hK K
            refine norm_ (a' := ?_) ?_ ?_
            rotate_left
            · show Act.put _ (some 113) _ = _
              simp only [Act.put, List.setIfInBounds_toArray, List.set_cons_zero, List.set_cons_succ, i64_w, i32_w]
              rfl
            exact norm_ (by first | (simp only [putAll, Act.put, List.setIfInBounds_toArray, List.set_cons_zero, List.set_cons_succ]; done) | (simp only [putAll, Act.put, List.setIfInBounds_toArray, List.set_cons_zero, List.set_cons_succ]; rfl)) (hJab0 ⟨x104, x113⟩ w1 ⟨HB1.out, (N104.out.grown GR.out (fun k _ => by simp)), NN.out, (AP.symm (AP.new NEW.out N104.out))⟩)
          · refine value_ (w1 := w'.alloc (.cells #[.slice none 0 0] 24)) (v := .pointer (some ⟨w'.heap.size, 0, none⟩)) (by rfl) rfl ?_ ?_
            · first | (go_simp; done) | (go_simp; rfl)
            have hal := below_alloc (Below.refl w'.heap.size w') (.cells #[.slice none 0 0] 24)
            have BZ1 := Aside0.mk (heap_alloc_new w' (.cells #[.slice none 0 0] 24))
            have GZ := Aside0.mk HB.out.size
            have N104n := Aside0.mk (N104.out.below hal)
            have HB1 := Aside0.mk (HB.out.trans (hal.mono HB.out.size))
            clear hal
            generalize w'.alloc (.cells #[.slice none 0 0] 24) = w1 at *
            generalize w'.heap.size = b20 at *
            have hs1 := (HB1.out.cell (World.block_lt_of_cell? _ _ Q9.out)).trans Q9.out
            have HSA := Aside0.mk hs1
            clear hs1 hHeld
            refine hK.out _ _ HSA.out (fun hHeld => ?_)
            clear hK K
            refine norm_ (a' := ?_) ?_ ?_
            rotate_left
            · show Act.put _ (some 20) _ = _
              simp only [Act.put, List.setIfInBounds_toArray, List.set_cons_zero, List.set_cons_succ, i64_w, i32_w]
              rfl
            exact norm_ (by first | (simp only [putAll, Act.put, List.setIfInBounds_toArray, List.set_cons_zero, List.set_cons_succ]; done) | (simp only [putAll, Act.put, List.setIfInBounds_toArray, List.set_cons_zero, List.set_cons_succ]; rfl)) (hJa1 ⟨x104, b20⟩ w1 ⟨HB1.out, N104n.out, BZ1.out, GZ.out⟩)
        intro hJa0
        refine join_ (σ := Nat) 12 #[true, false, true, false, true, true, true, true, true, true, false, false, false, false, false, false, false, true, false, false, false] (fun s => [(20, .pointer (some ⟨s, 0, none⟩))]) (fun s w' => (Below w9.heap.size w9 w') ∧ (w'.heap[s]? = some (.cells #[.slice none 0 0] 24 (0, 0))) ∧ (w9.heap.size ≤ s)) ?_ ?_
        · rintro b20 w' ⟨h_HB, h_BZ, h_GZ⟩
          have HB := Aside0.mk h_HB
          have BZ := Aside0.mk h_BZ
          have GZ := Aside0.mk h_GZ
          clear h_HB h_BZ h_GZ
          refine norm_ (a' := ?_) ?_ ?_
          rotate_left
          · simp only [putAll, Act.put, List.setIfInBounds_toArray, List.set_cons_zero, List.set_cons_succ, i64_w, i32_w]
            rfl
          refine two_ (i := 1) (j := 10) (Ni := some 104) (Nj := some 113) #[true, true, true, false, true, true, true, true, true, true, false, false, false, false, false, false, false, true, false, false, false] #[true, false, true, false, true, true, true, true, true, true, true, false, false, false, false, false, false, true, false, false, false] rfl rfl rfl rfl (by kernel_rfl) (by decide) (by decide) (fun K hK => ?_) (fun K hK => ?_)
          · refine Kd.R_lit_step (Kd.int .i64) (w0 := w9) w9.heap.size 3 (by rfl) (N := 104) rfl (xs := ([] : List Int)) (inner := []) (ok := fun _ => True) (okp := fun _ => True) ?lr (Reps.none _ _) (fun _ hk => hk) trivial HB.out HB.out.size (by simp) ?_
            case lr => first | (go_simp; done) | (go_simp; rfl)
            intro x104 w1 ho hb hg hnew
            have HB1 := Aside0.mk hb
            have NN := Aside0.mk (NR.of ho)
            have NEW := Aside0.mk hnew
            have GR := Aside0.mk hg
            clear ho hb hg hnew
            have BZ1 := Aside0.mk (blk_grown BZ.out GR.out (by simp))
            have hs1 := (HB1.out.cell (World.block_lt_of_cell? _ _ Q9.out)).trans Q9.out
            have HSA := Aside0.mk hs1
            clear hs1 hHeld
            refine hK.out _ _ HSA.out (fun hHeld => ?_)
            clear hK K
            refine norm_ (a' := ?_) ?_ ?_
            rotate_left
            · show Act.put _ (some 104) _ = _
              simp only [Act.put, List.setIfInBounds_toArray, List.set_cons_zero, List.set_cons_succ, i64_w, i32_w]
              rfl
            exact norm_ (by first | (simp only [putAll, Act.put, List.setIfInBounds_toArray, List.set_cons_zero, List.set_cons_succ]; done) | (simp only [putAll, Act.put, List.setIfInBounds_toArray, List.set_cons_zero, List.set_cons_succ]; rfl)) (hJa1 ⟨x104, b20⟩ w1 ⟨HB1.out, NN.out, BZ1.out, GZ.out⟩)
          · refine Kd.R_lit_step (Kd.int .i64) (w0 := w9) w9.heap.size 3 (by rfl) (N := 113) rfl (xs := ([(qx : Int)] : List Int)) (inner := [.int .i64 (qx : Int)]) (ok := fun _ => True) (okp := fun _ => True) ?lr (Reps.one (show Kd.M (Kd.int .i64) _ _ _ (qx : Int) [.int .i64 (qx : Int)] from rfl) (Reps.none _ _)) (fun _ hk => hk) trivial HB.out HB.out.size (by simp) ?_
            case lr => first | (go_simp; done) | (go_simp; rfl)
            intro x113 w1 ho hb hg hnew
            have HB1 := Aside0.mk hb
            have NN := Aside0.mk (NR.of ho)
            have NEW := Aside0.mk hnew
            have GR := Aside0.mk hg
            clear ho hb hg hnew
            have BZ1 := Aside0.mk (blk_grown BZ.out GR.out (by simp))
            have hs1 := (HB1.out.cell (World.block_lt_of_cell? _ _ Q9.out)).trans Q9.out
            have HSA := Aside0.mk hs1
            clear hs1 hHeld
            refine hK.out _ _ HSA.out (fun hHeld => ?_)
            clear hK K
            refine norm_ (a' := ?_) ?_ ?_
            rotate_left
            · show Act.put _ (some 113) _ = _
              simp only [Act.put, List.setIfInBounds_toArray, List.set_cons_zero, List.set_cons_succ, i64_w, i32_w]
              rfl
            exact norm_ (by first | (simp only [putAll, Act.put, List.setIfInBounds_toArray, List.set_cons_zero, List.set_cons_succ]; done) | (simp only [putAll, Act.put, List.setIfInBounds_toArray, List.set_cons_zero, List.set_cons_succ]; rfl)) (hJb1 ⟨x113, b20⟩ w1 ⟨HB1.out, NN.out, BZ1.out, GZ.out⟩)
        intro hJo1
        refine three_ (i := 1) (j := 10) (k := 17) (Ni := some 104) (Nj := some 113) (Nk := some 20) #[true, true, true, false, true, true, true, true, true, true, false, false, false, false, false, false, false, false, false, false, false] #[true, false, true, false, true, true, true, true, true, true, true, false, false, false, false, false, false, false, false, false, false] #[true, false, true, false, true, true, true, true, true, true, false, false, false, false, false, false, false, true, false, false, false] rfl rfl rfl rfl rfl rfl (by kernel_rfl) (by decide) (by decide) (by decide) (fun K hK => ?_) (fun K hK => ?_) (fun K hK => ?_)
        · refine Kd.R_lit_step (Kd.int .i64) (w0 := w9) w9.heap.size 3 (by rfl) (N := 104) rfl (xs := ([] : List Int)) (inner := []) (ok := fun _ => True) (okp := fun _ => True) ?lr (Reps.none _ _) (fun _ hk => hk) trivial HB.out HB.out.size (by simp) ?_
          case lr => first | (go_simp; done) | (go_simp; rfl)
          intro x104 w1 ho hb hg hnew
          have HB1 := Aside0.mk hb
          have NN := Aside0.mk (NR.of ho)
          have NEW := Aside0.mk hnew
          have GR := Aside0.mk hg
          clear ho hb hg hnew
          have hs1 := (HB1.out.cell (World.block_lt_of_cell? _ _ Q9.out)).trans Q9.out
          have HSA := Aside0.mk hs1
          clear hs1 hHeld
          refine hK.out _ _ HSA.out (fun hHeld => ?_)
          clear hK K
          refine norm_ (a' := ?_) ?_ ?_
          rotate_left
          · show Act.put _ (some 104) _ = _
            simp only [Act.put, List.setIfInBounds_toArray, List.set_cons_zero, List.set_cons_succ, i64_w, i32_w]
            rfl
          exact norm_ (by first | (simp only [putAll, Act.put, List.setIfInBounds_toArray, List.set_cons_zero, List.set_cons_succ]; done) | (simp only [putAll, Act.put, List.setIfInBounds_toArray, List.set_cons_zero, List.set_cons_succ]; rfl)) (hJa0 x104 w1 ⟨HB1.out, NN.out⟩)
        · refine Kd.R_lit_step (Kd.int .i64) (w0 := w9) w9.heap.size 3 (by rfl) (N := 113) rfl (xs := ([(qx : Int)] : List Int)) (inner := [.int .i64 (qx : Int)]) (ok := fun _ => True) (okp := fun _ => True) ?lr (Reps.one (show Kd.M (Kd.int .i64) _ _ _ (qx : Int) [.int .i64 (qx : Int)] from rfl) (Reps.none _ _)) (fun _ hk => hk) trivial HB.out HB.out.size (by simp) ?_
          case lr => first | (go_simp; done) | (go_simp; rfl)
          intro x113 w1 ho hb hg hnew
          have HB1 := Aside0.mk hb
          have NN := Aside0.mk (NR.of ho)
          have NEW := Aside0.mk hnew
          have GR := Aside0.mk hg
          clear ho hb hg hnew
          have hs1 := (HB1.out.cell (World.block_lt_of_cell? _ _ Q9.out)).trans Q9.out
          have HSA := Aside0.mk hs1
          clear hs1 hHeld
          refine hK.out _ _ HSA.out (fun hHeld => ?_)
          clear hK K
          refine norm_ (a' := ?_) ?_ ?_
          rotate_left
          · show Act.put _ (some 113) _ = _
            simp only [Act.put, List.setIfInBounds_toArray, List.set_cons_zero, List.set_cons_succ, i64_w, i32_w]
            rfl
          exact norm_ (by first | (simp only [putAll, Act.put, List.setIfInBounds_toArray, List.set_cons_zero, List.set_cons_succ]; done) | (simp only [putAll, Act.put, List.setIfInBounds_toArray, List.set_cons_zero, List.set_cons_succ]; rfl)) (hJb0 x113 w1 ⟨HB1.out, NN.out⟩)
        · refine value_ (w1 := w9.drew.alloc (.cells #[.slice none 0 0] 24)) (v := .pointer (some ⟨w9.drew.heap.size, 0, none⟩)) (by rfl) rfl ?_ ?_
          · first | (go_simp; done) | (go_simp; rfl)
          have hal := below_alloc (Below.refl w9.drew.heap.size w9.drew) (.cells #[.slice none 0 0] 24)
          have BZ1 := Aside0.mk (heap_alloc_new w9.drew (.cells #[.slice none 0 0] 24))
          have GZ := Aside0.mk HB.out.size
          have HB1 := Aside0.mk (HB.out.trans (hal.mono HB.out.size))
          clear hal
          generalize w9.drew.alloc (.cells #[.slice none 0 0] 24) = w1 at *
          generalize w9.drew.heap.size = b20 at *
          have hs1 := (HB1.out.cell (World.block_lt_of_cell? _ _ Q9.out)).trans Q9.out
          have HSA := Aside0.mk hs1
          clear hs1 hHeld
          refine hK.out _ _ HSA.out (fun hHeld => ?_)
          clear hK K
          refine norm_ (a' := ?_) ?_ ?_
          rotate_left
          · show Act.put _ (some 20) _ = _
            simp only [Act.put, List.setIfInBounds_toArray, List.set_cons_zero, List.set_cons_succ, i64_w, i32_w]
            rfl
          exact norm_ (by first | (simp only [putAll, Act.put, List.setIfInBounds_toArray, List.set_cons_zero, List.set_cons_succ]; done) | (simp only [putAll, Act.put, List.setIfInBounds_toArray, List.set_cons_zero, List.set_cons_succ]; rfl)) (hJo1 b20 w1 ⟨HB1.out, BZ1.out, GZ.out⟩)
theorem roots_walk (A0 : Option Addr) (c0 : Nat) (gs : List S50) (A1 : Option Addr) (c1 : Nat) (rs : List Int) (a2 a3 : Int) (w : World) (hT : Tabs w) (h0 : Kd.C k50 w A0 gs.length gs) (hc0 : gs.length ≤ c0) (h1 : Kd.C (Kd.int .i64) w A1 rs.length rs) (hc1 : rs.length ≤ c1)
    (hg : ∀ g ∈ gs, goodG g) (h2 : 0 ≤ a2 ∧ a2 < 256) (h3 : 0 ≤ a3 ∧ a3 < 256) :
    Calls Tryd.prog 6 #[.agg #[.slice A0 gs.length c0], .slice A1 rs.length c1, .int .u8 a2, .int .u8 a3] w fun e w' => e = .returned (.bool true) ∧ Below w.heap.size w w' := by
  by_cases hr : rs = []
  · exact roots_many A0 c0 gs A1 c1 rs a2 a3 w hT h0 hc0 h1 hc1 hg h2 h3 (.inr hr)
  · cases hf : fewB gs rs 0 with
    | false => exact roots_many A0 c0 gs A1 c1 rs a2 a3 w hT h0 hc0 h1 hc1 hg h2 h3 (.inl hf)
    | true =>
      cases hs : startS gs rs with
      | false => exact roots_wrong A0 c0 gs A1 c1 rs a2 a3 w hT h0 hc0 h1 hc1 hg h2 h3 hf hr hs
      | true => exact roots_right A0 c0 gs A1 c1 rs a2 a3 w hT h0 hc0 h1 hc1 hg h2 h3 hf hr hs
theorem wf_u8 {n : Int} (h : (Lit.int .u8 n).wf = true) : 0 ≤ n ∧ n < 256 := by
  simp only [Lit.wf, Bool.and_eq_true, decide_eq_true_eq] at h
  have h1 : IntKind.min .u8 = 0 := rfl
  have h2 : IntKind.max .u8 = 255 := rfl
  rw [h1, h2] at h
  omega
end Go.Proofs.YtcafgpfecfocnaaDoor.P

/- What the rows of the laws about sweeps share: the table out of the row's list, a world that holds the listed tables, an argument laid open. -/
namespace Go.Proofs.YtcafgpfecfocnaaDoor.RowBits
open Go.ChangeShapes Go.WideShapes Go.ChangeAt Go.RowKit Go.Proofs.YtcafgpfecfocnaaDoor.P Go.Proofs.YtcafgpfecfocnaaDoorW.PrintWords
set_option linter.unusedVariables false
set_option linter.unusedSimpArgs false

theorem own : ownKnob Tryd.prog.godebug = none := by kernel_rfl
theorem laidOut : laidOutB Tryd.prog = true := by kernel_rfl
theorem gPow : Tryd.prog.globalNamed "internal/strconv.uint64pow10" = some 0 := by kernel_rfl
theorem gPowType : (Tryd.prog.globals[0]?).map (·.type) = some 165 := by kernel_rfl
theorem cells165 : Tryd.prog.cellsOf 165 = 20 := by kernel_rfl
theorem cellsU64 : Tryd.prog.cellsOf 148 = 1 := by kernel_rfl
theorem powData : (Rows.laid_internal_strconv_uint64pow10 : DataW Unit) = Lib.tabData .u64 Lib.pow10Tab := by kernel_rfl

/-- What the rows list. -/
abbrev laid : List (String × DataW Unit) := [("math/bits.deBruijn32tab", Rows.laid_math_bits_deBruijn32tab), ("math/bits.deBruijn64tab", Rows.laid_math_bits_deBruijn64tab), ("internal/strconv.uint64pow10", Rows.laid_internal_strconv_uint64pow10)]
theorem table {W : World} (h : laidMetH Tryd.prog laid W) : Tabs W := by
  have h1 : laidMet Tryd.prog laid W := h
  have h2 := laidMet.tail (laidMet.tail h1)
  rw [powData] at h2
  exact Lib.tabIs_of_head gPow gPowType Tryd.underlying165 Tryd.underlying148 cellsU64 cells165 h2

def put (cs : Array Value) : Obj → Obj
  | .cells _ t frozen => .cells cs t frozen
  | o => o
def litVal : DataW Unit → Value
  | .lit (.int k n) => .int k n
  | _ => .bool false
def cellsOfD : DataW Unit → Array Value
  | .agg l => (l.map litVal).toArray
  | _ => #[]
/-- A world for the witness: the settled one, the tables holding what their initialisers lay. -/
noncomputable def laidWorld (os : Os) : World :=
  { World.holding Tryd.prog os ⟨#[], #[], []⟩ with heap := (((World.holding Tryd.prog os ⟨#[], #[], []⟩).heap.modify 0 (put (cellsOfD Rows.laid_internal_strconv_uint64pow10))).modify 2 (put (cellsOfD Rows.laid_math_bits_deBruijn32tab))).modify 3 (put (cellsOfD Rows.laid_math_bits_deBruijn64tab)) }
theorem laid_met (os : Os) (args : Array Value) : laidMet Tryd.prog laid ((laidWorld os).forCall (fun _ _ => 0) ⟨#[], args, []⟩).memory :=
  laidMet_of_run' 8 (by kernel_rfl) (by kernel_rfl)

section
variable {H : Type} {enc : TypeId × Value → H} {W : World} {base : Nat}
set_option maxRecDepth 100000 in
/-- A circuit that came in. -/
theorem open_circuit {spare : Nat → Bool} {held : Bool} {v : Value} {d : DataW H} {p : List MemPlace} (hval : Value.okWide Tryd.prog W .any base 24 v) (h : DataW.Trod enc Tryd.prog W 0 spare held 24 v d p) :
    ∃ A c, ∃ gs : List S50, v = .agg #[.slice A gs.length c] ∧ gs.length ≤ c ∧ Kd.C k50 W A gs.length gs ∧ ∀ g ∈ gs, goodG g := by
  have c24 : Tryd.prog.cellsOf 24 = 1 := by kernel_rfl
  have c22 : Tryd.prog.cellsOf 22 = 1 := by kernel_rfl
  obtain ⟨cs, rfl, hs⟩ := okWide_struct Tryd.underlying24 hval
  obtain ⟨fuel, hf⟩ := h
  obtain ⟨y0, n, _, hl, h0⟩ := trod_struct1 Tryd.underlying24 hf
  rw [c24] at hl hs
  rw [c22] at h0
  obtain ⟨c0, rfl⟩ : ∃ c0, cs = #[c0] := by
    obtain ⟨l⟩ := cs
    match l, hs with
    | [c0], _ => exact ⟨c0, rfl⟩
  have e0 : DataW.trod enc Tryd.prog W 0 spare held n 22 [c0] = some y0 := h0
  have hs : ∃ a len cap, c0 = .slice a len cap := by
    rcases Go.Deep.open_slice Tryd.underlying22 e0 with ⟨hcs, _⟩ | ⟨ad, len', cap', m, n, D, Pl, hcs, _⟩
    · exact ⟨_, _, _, by simpa using hcs⟩
    · exact ⟨_, _, _, by simpa using hcs⟩
  obtain ⟨a, len, cap, rfl⟩ := hs
  obtain ⟨gs, hll, hlc, hC, hin⟩ := open_gates Tryd.underlying22 e0
  subst hll
  exact ⟨a, cap, gs, rfl, hlc, hC, hin⟩
set_option maxRecDepth 100000 in
/-- Numbers that came in. -/
theorem open_nums {spare : Nat → Bool} {held : Bool} {v : Value} {d : DataW H} {p : List MemPlace} (hval : Value.okWide Tryd.prog W .any base 25 v) (h : DataW.Trod enc Tryd.prog W 0 spare held 25 v d p) :
    ∃ A c, ∃ l : List Int, v = .slice A l.length c ∧ l.length ≤ c ∧ Kd.C (Kd.int .i64) W A l.length l ∧ ∀ k ∈ l, in64 k := by
  obtain ⟨a, len, cap, rfl⟩ := okWide_slice Tryd.underlying25 hval
  obtain ⟨fuel, hf⟩ := h
  obtain ⟨l, hll, hlc, hC, hin⟩ := open_list64 Tryd.underlying25 Tryd.underlying3 (by kernel_rfl) hf
  subst hll
  exact ⟨a, cap, l, rfl, hlc, hC, hin⟩
end
end Go.Proofs.YtcafgpfecfocnaaDoor.RowBits

namespace Go.Proofs.YtcafgpfecfocnaaDoor.reapRoots
open Go.ChangeShapes Go.WideShapes Go.ChangeAt Go.RowKit Go.Proofs.YtcafgpfecfocnaaDoor.P Go.Proofs.YtcafgpfecfocnaaDoorW.PrintWords Go.Proofs.YtcafgpfecfocnaaDoor.RowBits

set_option maxRecDepth 100000 in
theorem contract (H : Type) (enc : TypeId × Value → H) (W : World) (base : Nat) (args : Array Value) (ds gs : List (DataW H)) (before : List MemPlace)
    (hval : ∀ (j : Nat) t v, Tryd.f6.params[j]? = some t → args[j]? = some v → Value.okWide Tryd.prog W .any base t v)
    (hW : DataW.Whole enc Tryd.prog Tryd.f6.params.toList Rows.reapRootsSpec.vars false W args.toList ds gs before) (hL : laidMetH Tryd.prog Rows.reapRootsRow.laid W) :
    Calls Tryd.prog 6 args W fun e W' => ∃ v, e = .returned v ∧ Rows.reapRootsSpec.post enc Tryd.prog Tryd.f6 false true false false W args v W' := by
  have hW' := hW
  obtain ⟨p, q, hA0, hV, rfl, hfz, hnd⟩ := hW
  have hA : DataW.TrodAll enc Tryd.prog W 0 (fun _ => true) true Tryd.f6.params.toList args.toList ds p := hA0
  rw [Tryd.params6] at hA hval
  obtain ⟨v0, vs0, d0, ds0, p0, q0, hargs, rfl, rfl, h0, r0⟩ := trodAll_cons hA
  obtain ⟨v1, vs1, d1, ds1, p1, q1, rfl, rfl, rfl, h1, r1⟩ := trodAll_cons r0
  obtain ⟨v2, vs2, d2, ds2, p2, q2, rfl, rfl, rfl, h2, r2⟩ := trodAll_cons r1
  obtain ⟨v3, vs3, d3, ds3, p3, q3, rfl, rfl, rfl, h3, r3⟩ := trodAll_cons r2
  obtain ⟨rfl, rfl, rfl⟩ := trodAll_nil r3
  obtain rfl : args = #[v0, v1, v2, v3] := by cases args; simp_all
  obtain ⟨rfl, rfl⟩ := trodVars_none hV
  have k0 := h0
  have lt0 : ∀ x ∈ p0, x.block < W.heap.size := by obtain ⟨m, hm⟩ := k0; exact DataW.trod_lt m _ _ _ hm
  have k1 := h1
  have lt1 : ∀ x ∈ p1, x.block < W.heap.size := by obtain ⟨m, hm⟩ := k1; exact DataW.trod_lt m _ _ _ hm
  obtain ⟨A0, c0, l0, rfl, hc0, hC0, hg0⟩ := open_circuit (hval 0 24 v0 rfl rfl) h0
  obtain ⟨A1, c1, l1, rfl, hc1, hC1, hn1⟩ := open_nums (hval 1 25 v1 rfl rfl) h1
  obtain ⟨a2, rfl, rfl, rfl, w2⟩ := open_int Tryd.underlying5 (hval 2 5 v2 rfl rfl) h2
  obtain ⟨a3, rfl, rfl, rfl, w3⟩ := open_int Tryd.underlying5 (hval 3 5 v3 rfl rfl) h3
  clear hA0
  refine (roots_walk A0 c0 l0 A1 c1 l1 a2 a3 W (table hL) hC0 hc0 hC1 hc1 hg0 (wf_u8 w2) (wf_u8 w3)).mono fun e W' ⟨he, bel⟩ => ?_
  subst he
  exact ⟨_, rfl, _, _, _, [], _, [], hW', trodAll_mk1 (shut_bool Tryd.underlying4 _), (trodAll_cons_mk (Below.trod laidOut (by kernel_rfl) (of_decide_eq_true (by kernel_rfl)) k0 bel lt0) (trodAll_cons_mk (Below.trod laidOut (by kernel_rfl) (of_decide_eq_true (by kernel_rfl)) k1 bel lt1) (trodAll_cons_mk (shut_int Tryd.underlying5 w2) (trodAll_cons_mk (shut_int Tryd.underlying5 w3) trodAll_mk0)))), rfl, bel.frame _, fun h => by cases h⟩
theorem reads (os : Os) {H : Type} (enc : TypeId × Value → H) : ∃ places, DataW.whole enc Tryd.prog ((laidWorld os).forCall (fun _ _ => 0) ⟨#[], #[.agg #[.slice none 0 0], .slice none 0 0, .int .u8 0, .int .u8 0], []⟩).memory Tryd.f6.params.toList Rows.reapRootsSpec.vars false #[Value.agg #[.slice none 0 0], Value.slice none 0 0, Value.int .u8 0, Value.int .u8 0].toList 8 = some ([.agg [.nil], .nil, .lit (.int .u8 0), .lit (.int .u8 0)], [], places) :=
  ⟨[], by kernel_rfl⟩
set_option maxRecDepth 100000 in
theorem lifted (os : Os) (started : os.Started) (H : Type) (enc : TypeId × Value → H) (F : Stop.Interp) :
    ReturnsInHanded {} Tryd.checked os 6 .any ((OpenSpec.ofChange Rows.reapRootsSpec).preRow enc Tryd.prog Tryd.f6 Rows.reapRootsRow.domain false Rows.reapRootsRow.laid) (((OpenSpec.ofChange Rows.reapRootsSpec).at F).post enc Tryd.prog Tryd.f6 false true false false) := by
  obtain ⟨places, hx⟩ := reads os enc
  refine returnsInHanded_of_row (C := Tryd.checked) (s := OpenSpec.ofChange Rows.reapRootsSpec) own started (by kernel_rfl) Tryd.func6
    (witness_row_at (enc := enc) (C := Tryd.checked) false (laidWorld os) #[.agg #[.slice none 0 0], .slice none 0 0, .int .u8 0, .int .u8 0] rfl (by kernel_rfl) (by kernel_rfl) (by kernel_rfl)
      (OpenSpec.preRow_of_cond 8 hx (by kernel_rfl) (fun k hk => by cases hk) (by kernel_rfl) (laid_met os _))) ?_
  intro W base args ds gs before hval hW _ _ _ hL _ _
  exact contract H enc W base args ds gs before hval hW hL
theorem said : Rows.ReapRootsSaid :=
  OpenClaim.holds_of_cond 6 Tryd.f6 rfl rfl rfl rfl rfl rfl rfl ⟨rfl, rfl, rfl, rfl, rfl⟩ rfl rfl rfl rfl rfl (by kernel_rfl) Tryd.func6 (by kernel_rfl)
    (of_decide_eq_true (by kernel_rfl)) (by unfold Func.isWrapper; first | (rw [if_pos (by decide +kernel)]; kernel_rfl) | (rw [if_neg (by decide +kernel)]; exact ⟨rfl, rfl⟩))
    (fun os started H enc _ F => by rw [OpenClaim.pre_eq_preRow]; exact lifted os started H enc F)
theorem plain (f : FuncId) (fn : Func) (hf : Tryd.pinned.checked.prog.funcNamed "cleanse/cleanselaw18.ReapRoots" = some f) (hfn : Tryd.pinned.checked.prog.funcs[f]? = some fn) :
    false = Tryd.pinned.checked.prog.looks [] ∧ ∀ (j : Nat) t, fn.params[j]? = some t → Tryd.pinned.checked.prog.wantsStandIn t = false := by
  obtain rfl : f = 6 := Option.some.inj ((show Tryd.prog.funcNamed "cleanse/cleanselaw18.ReapRoots" = some 6 by kernel_rfl).symm.trans hf) |>.symm
  obtain rfl : fn = Tryd.f6 := (Option.some.inj (Tryd.func6.symm.trans hfn)).symm
  refine ⟨by kernel_rfl, fun j t ht => ?_⟩
  rw [Tryd.params6] at ht
  have hm := Array.mem_of_getElem? ht
  simp only [List.mem_toArray, List.mem_cons, List.not_mem_nil, or_false] at hm
  rcases hm with rfl | rfl | rfl | rfl
  · exact (show Tryd.prog.wantsStandIn 24 = false by kernel_rfl)
  · exact (show Tryd.prog.wantsStandIn 25 = false by kernel_rfl)
  · exact (show Tryd.prog.wantsStandIn 5 = false by kernel_rfl)
  · exact (show Tryd.prog.wantsStandIn 5 = false by kernel_rfl)
/-- The card. -/
theorem card : Rows.ReapRootsCardSaid :=
  Claim7.holds_tied_plain_at .later [] _ _ _ _ said (fun _ h => by cases h) (by kernel_rfl) (fun _ h => by cases h) reapRoots_row_tie rfl ⟨rfl, rfl⟩ (by kernel_rfl) rfl plain (by kernel_rfl)
end Go.Proofs.YtcafgpfecfocnaaDoor.reapRoots
namespace Go.Proofs.YtcafgpfecfocnaaDoor
theorem reapRoots_holds : Rows.ReapRootsCardSaid := reapRoots.card
end Go.Proofs.YtcafgpfecfocnaaDoor
