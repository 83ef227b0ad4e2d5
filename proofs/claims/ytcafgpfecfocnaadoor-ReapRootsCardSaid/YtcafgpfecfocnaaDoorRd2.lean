/- What the claim's proof needs: HeadK, HeadC, HeadW, HHeadA, Open, PureFew, PureMarks, PureName, PureRes, PureValid, PureRefV, PureKept, PureSame, PureSteps, StepsS, StepsW, PureRoots. -/
import Derived.Test.YtcafgpfecfocnaaDoorRd1
import Derived.Test.YtcafgpfecfocnaaDoorRdPx3
import Derived.Deep.RegionHeld3
import Derived.ChangeSlices
import Derived.Deep.Strs
import Derived.Test.YtcafgpfecfocnaaDoorRdPx2
import Derived.Test.YtcafgpfecfocnaaDoorRdPx5
import Derived.Test.YtcafgpfecfocnaaDoorRdPx6
/- What the law's head calls, at the example. -/
namespace Go.Proofs.YtcafgpfecfocnaaDoor.P
open Go.RowKit Go.Maps Go.Proofs.YtcafgpfecfocnaaDoorW.PrintWords Go.Proofs.YtcafgpfecfocnaaDoorW.PrintLast Go.Proofs.YtcafgpfecfocnaaDoorW.PrintMore
set_option linter.unusedVariables false
set_option linter.unusedSimpArgs false

section
variable {P Q : World → Prop} {W W1 : World} {F F' : Nat → Prop}
theorem Foot.and (h : Foot P W F) (k : Foot Q W F) : Foot (fun W => P W ∧ Q W) W F := fun W' hW => ⟨h W' hW, k W' hW⟩
theorem Foot.below {ok : Nat → Prop} (h : Foot P W ok) (hb : Below W.heap.size W W1) : Foot P W1 ok := h.step (fun k _ hlt => hb.block k hlt)
/-- What lies outside of F stays, where F is turned; new blocks may become F's. -/
theorem Foot.upd (h : Foot P W (fun k => ¬ F k)) (hu : Upd F W W1) (hF : ∀ k, F' k → F k ∨ W.heap.size ≤ k) : Foot P W1 (fun k => ¬ F' k) :=
  Foot.mono (Foot.step (Foot.bound h) (fun k hk hlt => hu.block k hlt hk.1)) (fun k hk hf => by
    rcases hF k hf with h1 | h1
    · exact hk.1 h1
    · have := hk.2; omega)
theorem Foot.blk {b : Nat} {o : Obj} {ok : Nat → Prop} (h : W.heap[b]? = some o) (hok : ok b) : Foot (fun W' => W'.heap[b]? = some o) W ok := fun W' hW => (hW b hok (blk_lt h)).trans h
theorem Foot.rows {α : Type} {d : Kd α} {e base n c : Nat} {ok : Nat → Prop} {A : Option Addr} {xs : List α} (h : d.R e W base ok (.slice A n c) xs) : Foot (fun W' => d.C W' A xs.length xs) W (fun k => base ≤ k) :=
  fun W' hW => (Kd.R_reads' (Kd.R_step (Kd.R_bound h) (fun k hk hlt => hW k hk.2.1 hlt))).2.2
end

theorem sample_wf : ∀ g ∈ sampleG, wfG g := by
  intro g hg
  simp only [sampleG, List.mem_cons, List.not_mem_nil, or_false] at hg
  rcases hg with rfl | rfl | rfl | rfl | rfl <;> refine ⟨by unfold in64; decide, by unfold in64; decide, ?_, by decide⟩ <;> intro k hk <;> simp at hk <;> first | (rcases hk with rfl | rfl <;> unfold in64 <;> decide) | skip

/-- reap.Keep at the example. -/
theorem keep_sample (W : World) (bs b : Nat) (rs : List Int) (n : Nat) (hn : rs.length = n) (hn5 : n ≤ 5) (hT : Tabs W) (hC : Kd.C k50 W (some ⟨bs, 0, none⟩) 5 sampleG) (hb : Kd.C (Kd.int .i64) W (some ⟨b, 0, none⟩) rs.length rs) (r1 : List S50) (r2 : List Int) (r3 : Int) (n1 n2 : Nat) (h1 : r1.length = n1) (h2 : r2.length = n2) (hk : keepS sampleG rs = (r1, r2, r3)) :
    Calls Tryd.prog 16 #[.agg #[.slice (some ⟨bs, 0, none⟩) 5 5], .slice (some ⟨b, 0, none⟩) n n] W fun e W' => ∃ A c A1 c1, e = .returned (.tuple #[.agg #[.slice A n1 c], .slice A1 n2 c1, .int .i64 r3]) ∧ n1 ≤ c ∧ n2 ≤ c1 ∧ Foot (fun W'' => Kd.C k50 W'' A r1.length r1 ∧ Kd.C (Kd.int .i64) W'' A1 r2.length r2) W' (fun k => W.heap.size ≤ k) ∧ Below W.heap.size W W' := by
  subst hn
  subst h1
  subst h2
  have h := keep_calls (some ⟨bs, 0, none⟩) 5 sampleG (some ⟨b, 0, none⟩) rs.length rs W hT sample_wf hC (by decide) hb (Nat.le_refl _) (by omega)
  rw [hk] at h
  refine h.mono ?_
  rintro e W' ⟨v0, v1, rfl, hS, hR, hB⟩
  obtain ⟨A, c, rfl⟩ := Kd.S_slice hS
  obtain ⟨A1, c1, rfl⟩ := Kd.R_slice hR
  exact ⟨A, c, A1, c1, rfl, (Kd.S_reads' hS).2.1, (Kd.R_reads' hR).2.1, Foot.and (Foot.rows (Kd.S_R hS)) (Foot.rows hR), hB⟩

theorem sample_low : kidsLow sampleG := valid_low (by kernel_rfl)
theorem sample_ks : ∀ g ∈ sampleG, g.f2.length ≤ 1099511627776 := fun g hg => (sample_wf g hg).2.2.2

/-- Result when nothing waits, at the example. -/
theorem result_sample {W : World} {F : Nat → Prop} {g : Nat} {roots : List Int} {mk : Int → Bool} {wait : List Int} {Ag : Option Addr} {cg : Nat} {vr : Value} {bm nm : Nat} {vw : Value} {f : Lit → Option (DataW Unit)}
    (h : SW W F g sampleG roots mk wait Ag cg vr bm nm vw f) (hw : wait = []) (hr : ∀ r ∈ roots, inRange 5 r) (hrl : roots.length ≤ 5) (r1 : List S50) (r2 : List Int) (n1 n2 : Nat) (h1 : r1.length = n1) (h2 : r2.length = n2) (hk1 : resG sampleG mk 5 = r1) (hk2 : roots.map (plOf mk) = r2) :
    Calls Tryd.prog 26 #[.pointer (some ⟨g, 0, none⟩)] W fun e W' => ∃ A c A1 c1, e = .returned (.tuple #[.agg #[.slice A n1 c], .slice A1 n2 c1, .int .i64 0]) ∧ n1 ≤ c ∧ n2 ≤ c1 ∧ Foot (fun W'' => Kd.C k50 W'' A r1.length r1 ∧ Kd.C (Kd.int .i64) W'' A1 r2.length r2) W' (fun k => W.heap.size ≤ k) ∧ Below W.heap.size W W' := by
  subst hw
  subst h1
  subst h2
  have hx := result_calls h sample_low sample_ks (by decide) hr (by omega)
  refine hx.mono ?_
  rintro e W' ⟨v0, v1, rfl, hS, hR, hB⟩
  have hk1' : resG sampleG mk sampleG.length = r1 := hk1
  rw [hk1'] at hS
  rw [hk2] at hR
  obtain ⟨A, c, rfl⟩ := Kd.S_slice hS
  obtain ⟨A1, c1, rfl⟩ := Kd.R_slice hR
  exact ⟨A, c, A1, c1, rfl, (Kd.S_reads' hS).2.1, (Kd.R_reads' hR).2.1, Foot.and (Foot.rows (Kd.S_R hS)) (Foot.rows hR), hB⟩

/-! The states of the example's sweep. -/
def hs0 : St := st0 [3]
def hs1 : St := hs0.steps sampleG 3
def hs2 : St := hs1.steps sampleG 1
def hs3 : St := hs2.push 4
def hs4 : St := hs3.steps sampleG 0
def hs5 : St := hs4.steps sampleG 1
theorem hs0_wait : hs0.wait = [3] := by kernel_rfl
theorem hs1_wait : hs1.wait = [1] := by kernel_rfl
theorem hs2_wait : hs2.wait = [] := by kernel_rfl
theorem hs4_wait : hs4.wait = [4] := by kernel_rfl
theorem hs5_wait : hs5.wait = [] := by kernel_rfl
theorem hs2_res : resG sampleG hs2.mark 5 = [⟨2, 0, []⟩, ⟨2, 1, []⟩, ⟨3, 0, [0, 1]⟩, ⟨4, 0, [0, 2]⟩] := by kernel_rfl
theorem hs2_pl : ([3] : List Int).map (plOf hs2.mark) = [3] := by kernel_rfl
theorem hs5_res : resG sampleG hs5.mark 5 = sampleG := by kernel_rfl
theorem hs5_pl : ([3, 4] : List Int).map (plOf hs5.mark) = [3, 4] := by kernel_rfl
theorem steps_good {gs : List S50} (hk : kidsIn gs) : ∀ (n : Nat) {s : St}, s.Good gs.length → (s.steps gs n).Good gs.length
  | 0, s, hs => hs
  | n + 1, s, hs => by
    simp only [St.steps]
    split
    · exact hs
    · exact steps_good hk n (hs.step hk)
theorem sample_in : kidsIn sampleG := low_in sample_low
theorem hs0_good : hs0.Good sampleG.length := st0_good (fun r hr => by simp only [List.mem_singleton] at hr; subst hr; unfold inRange; decide)
theorem hs1_good : hs1.Good sampleG.length := steps_good sample_in 3 hs0_good
theorem hs2_good : hs2.Good sampleG.length := steps_good sample_in 1 hs1_good
theorem hs3_good : hs3.Good sampleG.length := hs2_good.push (i := 4) (by unfold inRange; decide)
theorem hs4_good : hs4.Good sampleG.length := steps_good sample_in 0 hs3_good
theorem start_h : startS sampleG [3] = true := by kernel_rfl
theorem step_h {W : World} {F : Nat → Prop} {g : Nat} {roots : List Int} {s : St} {Ag : Option Addr} {cg : Nat} {vr : Value} {bm nm : Nat} {vw : Value} {f : Lit → Option (DataW Unit)}
    (h : SW W F g sampleG roots s.mark s.wait Ag cg vr bm nm vw f) (hs : s.Good sampleG.length) (n : Int) (hn : in64 n) (s' : St) (he : s.steps sampleG n.toNat = s') (l : List Int) (hl : s'.wait = l) (b : Bool) (hb : decide (l = []) = b) :
    Calls Tryd.prog 24 #[.pointer (some ⟨g, 0, none⟩), .int .i64 n] W fun e W' => e = .returned (.bool b) ∧ After W F g sampleG roots s'.mark s'.wait Ag cg vr bm W' := by
  have h1 := step_calls h hs sample_in sample_ks (by decide) n hn
  subst he
  subst hb
  subst hl
  exact h1
theorem add_h {W : World} {F : Nat → Prop} {g : Nat} {Ag : Option Addr} {cg : Nat} {vr : Value} {bm nm : Nat} {vw : Value} {f : Lit → Option (DataW Unit)}
    (h : SW W F g sampleG [3] hs2.mark hs2.wait Ag cg vr bm nm vw f) :
    Calls Tryd.prog 22 #[.pointer (some ⟨g, 0, none⟩), .int .i64 4] W fun e W' => e = .returned (.int .i64 0) ∧ ∃ F' vr' nm' vw' f', SW W' F' g sampleG [3, 4] hs3.mark hs3.wait Ag cg vr' bm nm' vw' f' ∧ (∀ k, F' k → F k ∨ W.heap.size ≤ k) ∧ Upd F W W' :=
  add_calls h 4 (by unfold inRange; decide) (by decide) (by rw [hs2_wait]; decide) (by decide)
theorem start_sample (W : World) (bs b : Nat) (hT : Tabs W) (hC : Kd.C k50 W (some ⟨bs, 0, none⟩) 5 sampleG) (hb : Kd.C (Kd.int .i64) W (some ⟨b, 0, none⟩) ([3] : List Int).length [3]) :
    Calls Tryd.prog 18 #[.agg #[.slice (some ⟨bs, 0, none⟩) 5 5], .slice (some ⟨b, 0, none⟩) 1 1] W fun e W' => Below W.heap.size W W' ∧ ∃ g F nm vw f Ag cg vr bm, e = .returned (.tuple #[.pointer (some ⟨g, 0, none⟩), .int .i64 0]) ∧ SW W' F g sampleG [3] hs0.mark hs0.wait Ag cg vr bm nm vw f ∧ ∀ k, F k → W.heap.size ≤ k := by
  have h := start_calls (some ⟨bs, 0, none⟩) 5 sampleG (some ⟨b, 0, none⟩) 1 [3] W hT sample_wf hC (by decide) hb (by decide) (by decide)
  refine h.mono ?_
  rintro e W' ⟨hB, _, ht⟩
  exact ⟨hB, ht start_h⟩
end Go.Proofs.YtcafgpfecfocnaaDoor.P

/- The comparisons of the law's head. -/
namespace Go.Proofs.YtcafgpfecfocnaaDoor.P
open Go.RowKit Go.Maps Go.Proofs.YtcafgpfecfocnaaDoorW.PrintWords Go.Proofs.YtcafgpfecfocnaaDoorW.PrintLast Go.Proofs.YtcafgpfecfocnaaDoorW.PrintMore
set_option linter.unusedVariables false
set_option linter.unusedSimpArgs false

theorem same_h {W : World} (l : List S50) (n : Nat) (hn : l.length = n) {A B : Option Addr} {ca cb : Nat} (hA : Kd.C k50 W A l.length l) (hB : Kd.C k50 W B l.length l) (h1 : n ≤ ca) (h2 : n ≤ cb) (k : Nat) (hf : cleanseref16_Same.f k l l = some true) :
    Calls Tryd.prog 20 #[.agg #[.slice A n ca], .agg #[.slice B n cb]] W fun e W' => e = .returned (.bool true) ∧ Below W.heap.size W W' := by
  subst hn
  exact cleanseref16_Same.calls k A ca l B cb l true W hA h1 hB h2 hf
theorem ints_h {W : World} (l : List Int) (n : Nat) (hn : l.length = n) {A B : Option Addr} {ca cb : Nat} (hA : Kd.C (Kd.int .i64) W A l.length l) (hB : Kd.C (Kd.int .i64) W B l.length l) (h1 : n ≤ ca) (h2 : n ≤ cb) (k : Nat) (hf : cleanseref06_Ints.f k l l = some true) :
    Calls Tryd.prog 21 #[.slice A n ca, .slice B n cb] W fun e W' => e = .returned (.bool true) ∧ Drawn0 W W' := by
  subst hn
  exact cleanseref06_Ints.calls k A ca l B cb l true W hA h1 hB h2 hf
theorem same3 : cleanseref16_Same.f 100 [⟨2, 0, []⟩, ⟨2, 1, []⟩, ⟨3, 0, [0, 1]⟩] [⟨2, 0, []⟩, ⟨2, 1, []⟩, ⟨3, 0, [0, 1]⟩] = some true := by kernel_rfl
theorem same2 : cleanseref16_Same.f 100 [⟨2, 0, []⟩, ⟨2, 2, []⟩] [⟨2, 0, []⟩, ⟨2, 2, []⟩] = some true := by kernel_rfl
theorem same4 : cleanseref16_Same.f 100 [⟨2, 0, []⟩, ⟨2, 1, []⟩, ⟨3, 0, [0, 1]⟩, ⟨4, 0, [0, 2]⟩] [⟨2, 0, []⟩, ⟨2, 1, []⟩, ⟨3, 0, [0, 1]⟩, ⟨4, 0, [0, 2]⟩] = some true := by kernel_rfl
theorem ints1 : cleanseref06_Ints.f 100 [2] [2] = some true := by kernel_rfl
theorem ints2 : cleanseref06_Ints.f 100 [1, 0] [1, 0] = some true := by kernel_rfl
theorem ints3 : cleanseref06_Ints.f 100 [3] [3] = some true := by kernel_rfl
theorem ints4 : cleanseref06_Ints.f 100 [3, 4] [3, 4] = some true := by kernel_rfl
/-- Two gates without kids in a row of their own. -/
theorem two_gates {W : World} {b : Nat} {A0 A4 : Option Addr} {c0 c4 : Nat} (h : W.heap[b]? = some (.cells #[.int .i64 2, .int .i64 0, .slice A0 0 c0, .int .i64 2, .int .i64 2, .slice A4 0 c4] 50 (0, 0))) : Kd.C k50 W (some ⟨b, 0, none⟩) 2 [⟨2, 0, []⟩, ⟨2, 2, []⟩] := by
  have nil : ∀ A, Kd.C (Kd.int .i64) W A ([] : List Int).length [] := fun A => ⟨rfl, by decide, fun h => absurd h (by decide)⟩
  have row : ∀ j p, ([⟨2, 0, []⟩, ⟨2, 2, []⟩] : List S50)[j]? = some p → ∃ c : List Value, c.length = 3 ∧ k50.K W p c ∧ ∀ i u, c[i]? = some u → W.cell? ⟨b, j * 3 + i, none⟩ = some u := by
    intro j p hj
    match j with
    | 0 => cases hj; exact ⟨_, rfl, k50_mk W ⟨2, 0, []⟩ (A2 := A0) (c2 := c0) (Nat.zero_le _) (nil _), fun i u hu => by rw [blk_cell h]; match i with | 0 => exact hu | 1 => exact hu | 2 => exact hu | i + 3 => simp at hu⟩
    | 1 => cases hj; exact ⟨_, rfl, k50_mk W ⟨2, 2, []⟩ (A2 := A4) (c2 := c4) (Nat.zero_le _) (nil _), fun i u hu => by rw [blk_cell h]; match i with | 0 => exact hu | 1 => exact hu | 2 => exact hu | i + 3 => simp at hu⟩
    | j + 2 => simp at hj
  refine ⟨rfl, by decide, fun _ => ⟨_, rfl, fun j p hj => ?_⟩⟩
  obtain ⟨c, h1, h2, h3⟩ := row j p hj
  refine ⟨c, h1, h2, fun i u hu => ?_⟩
  have e : (⟨b, 0, none⟩ : Addr).add (j * k50.sz + i) = ⟨b, j * 3 + i, none⟩ := by
    show (⟨b, 0, none⟩ : Addr).add (j * 3 + i) = _
    unfold Addr.add
    by_cases h0 : j * 3 + i = 0
    · rw [if_pos h0, h0]
    · rw [if_neg h0]; simp
  rw [e]
  exact h3 i u hu
/-- A sample's gate, cell by cell. -/
theorem sample_gate {W : World} {bs : Nat} (h : Kd.C k50 W (some ⟨bs, 0, none⟩) 5 sampleG) (i : Nat) (hi : i < 5) (g : S50) (hg : rd_T50 sampleG (i : Int) = g) : ∃ A c, W.cell? ⟨bs, i * 3, none⟩ = some (.int .i64 g.f0) ∧ W.cell? ⟨bs, i * 3 + 1, none⟩ = some (.int .i64 g.f1) ∧ W.cell? ⟨bs, i * 3 + 2, none⟩ = some (.slice A g.f2.length c) := by
  obtain ⟨ad, A2, c2, e, x0, x1, x2, _, _⟩ := at_T50 h (i : Int) (by omega) (by omega)
  cases e
  rw [Int.toNat_natCast] at x0 x1 x2
  rw [hg] at x0 x1 x2
  have ea : (⟨bs, 0, none⟩ : Addr).add (i * 3) = ⟨bs, i * 3, none⟩ := by
    unfold Addr.add
    by_cases h0 : i * 3 = 0
    · rw [if_pos h0, h0]
    · rw [if_neg h0]; simp
  rw [ea] at x0 x1 x2
  exact ⟨A2, c2, x0, x1, x2⟩
end Go.Proofs.YtcafgpfecfocnaaDoor.P

/- The walk of the law's head. Printed by gen_head.py. -/
namespace Go.Proofs.YtcafgpfecfocnaaDoor.P
open Go.RowKit Go.Maps Go.Proofs.YtcafgpfecfocnaaDoorW.PrintWords Go.Proofs.YtcafgpfecfocnaaDoorW.PrintLast Go.Proofs.YtcafgpfecfocnaaDoorW.PrintMore
set_option linter.unusedVariables false
set_option linter.unusedSimpArgs false

theorem Foot.ofC {α : Type} {d : Kd α} {W : World} {A : Option Addr} {n : Nat} {xs : List α} (hd : Kd.Heap d) (h : d.C W A n xs) : Foot (fun W' => d.C W' A n xs) W (fun _ => True) := fun W' hW =>
  ⟨h.1, h.2.1, fun hn => by
    obtain ⟨ad, e, hc⟩ := h.2.2 hn
    refine ⟨ad, e, fun j p hj => ?_⟩
    obtain ⟨c, hs, hr, hcell⟩ := hc j p hj
    exact ⟨c, hs, hd.K (fun k hk => hW k trivial hk) hr, fun i u hu => Kd.cell_heap (fun k hk => hW k trivial hk) (hcell i u hu)⟩⟩
theorem keep32_h : keepS sampleG [2] = ([⟨2, 0, []⟩, ⟨2, 1, []⟩, ⟨3, 0, [0, 1]⟩], [2], 0) := by kernel_rfl
theorem keep39_h : keepS sampleG [4, 0] = ([⟨2, 0, []⟩, ⟨2, 2, []⟩], [1, 0], 0) := by kernel_rfl
theorem keep46_h : keepS sampleG [5] = ([], [], 1) := by kernel_rfl

set_option maxRecDepth 100000 in
set_option maxHeartbeats 16000000 in
theorem head_walk (w : World) (hT : Tabs w) : Calls Tryd.prog 14 #[] w fun e w' => e = .returned (.bool true) ∧ Below w.heap.size w w' := by
  have HT := Aside0.mk (fun (W : World) (hb : Below w.heap.size w W) => hT.below hb)
  have IN3 := Aside0.mk (show ∀ r ∈ ([3] : List Int), inRange 5 r from fun r hr => by simp only [List.mem_singleton] at hr; subst hr; unfold inRange; decide)
  have IN34 := Aside0.mk (show ∀ r ∈ ([3, 4] : List Int), inRange 5 r from fun r hr => by simp only [List.mem_cons, List.not_mem_nil, or_false] at hr; rcases hr with rfl | rfl <;> unfold inRange <;> decide)
  clear hT
  go_enter Tryd.func14, Tryd.ntmps14
  go_wp2_with (first
    | (go_at_call 48; have hk_ := sample_calls w; (with_reducible refine hk_.mono ?_); rintro e w1 ⟨bs, rfl, hC, hb⟩; have D1 := Aside0.mk hb; have FT1 := Aside0.mk (Foot.ofC k50_heap hC); clear hC hb)
    | ((with_reducible refine gate_dst (N := 1) rfl ?_); refine box_event ?bg1 (N := 1) ?bd1 (cs := #[.slice none 0 0]) (t := 24) ?br1 ?_; (case bd1 => rfl); (case bg1 => rfl); (case br1 => first | (go_simp; done) | (go_simp; rfl)); intro b1 hg w2 hbox hb; have AL1 := Aside0.mk hb; have BX1 := Aside0.mk hbox; have G1 := Aside0.mk hg; have z1 := blk_frozen hbox 0; have q1 : w2.cell? ⟨b1, 0, none⟩ = some (.slice none 0 0) := (blk_cell hbox 0).trans rfl; clear hg hbox hb)
    | ((with_reducible refine gate_store (t := 24) (p := 1) rfl ?_); refine store_event (t := 24) (p := 1) (w1 := w2.setCell ⟨b1, 0, none⟩ (.slice (some ⟨bs, 0, none⟩) 5 5)) rfl rfl rfl ?st1 ?_; (case st1 => first | (go_simp; done) | (go_simp; rfl)); intro w3 hwk; have hB : Below w1.heap.size w1 w3 := (by rw [hwk]; exact AL1.out.setCell (p := ⟨b1, 0, none⟩) (Nat.le_of_eq G1.out.symm) _); have hbx : w3.heap[b1]? = some (.cells #[.slice (some ⟨bs, 0, none⟩) 5 5] 24 (0, 0)) := (by rw [hwk]; exact blk_put (cs := #[.slice none 0 0]) BX1.out 0 _ rfl); clear hwk; have D3 := Aside0.mk (D1.out.trans (hB.mono D1.out.size)); have FT3 := Aside0.mk (Foot.and (Foot.below FT1.out hB) (Foot.blk hbx trivial)); have c3 : w3.cell? ⟨b1, 0, none⟩ = some (.slice (some ⟨bs, 0, none⟩) 5 5) := (blk_cell hbx 0).trans rfl; clear hB hbx z1 q1)
    | (go_at_call 16; have hin := C_ints [2] (heap_alloc_new w3 (.cells #[.int .i64 2] 3)) (by decide); have hal := below_alloc (Below.refl w3.heap.size w3) (.cells #[.int .i64 2] 3); have hk_ := keep_sample (w3.alloc (.cells #[.int .i64 2] 3)) bs w3.heap.size [2] 1 rfl (by decide) (HT.out _ (D3.out.trans (hal.mono D3.out.size))) (Foot.below FT3.out hal).now.1 hin [⟨2, 0, []⟩, ⟨2, 1, []⟩, ⟨3, 0, [0, 1]⟩] [2] 0 3 1 rfl rfl keep32_h; (with_reducible refine hk_.mono ?_); rintro e w4 ⟨Aa, ca, Al, cl, rfl, hc1_, hc2_, hf, hb⟩; have hb2 : Below w3.heap.size w3 w4 := hal.trans (hb.mono hal.size); have D4 := Aside0.mk (D3.out.trans (hb2.mono D3.out.size)); have IT32 := Aside0.mk (Go.Proofs.YtcafgpfecfocnaaDoorW.PrintWords.Foot.mono hf (fun k hk => Nat.le_trans hal.size hk)); have LC32 := Aside0.mk (And.intro hc1_ hc2_); have FT4 := Aside0.mk (Foot.below FT3.out hb2); clear hin hal hf hb hb2 hc1_ hc2_)
    | ((with_reducible refine gate_dst (N := 2) rfl ?_); refine box_event ?bg2 (N := 2) ?bd2 (cs := #[.slice none 0 0]) (t := 24) ?br2 ?_; (case bd2 => rfl); (case bg2 => rfl); (case br2 => first | (go_simp; done) | (go_simp; rfl)); intro b2 hg w5 hbox hb; have AL2 := Aside0.mk hb; have BX2 := Aside0.mk hbox; have G2 := Aside0.mk hg; have z2 := blk_frozen hbox 0; have q2 : w5.cell? ⟨b2, 0, none⟩ = some (.slice none 0 0) := (blk_cell hbox 0).trans rfl; clear hg hbox hb)
    | ((with_reducible refine gate_store (t := 24) (p := 2) rfl ?_); refine store_event (t := 24) (p := 2) (w1 := w5.setCell ⟨b2, 0, none⟩ (.slice Aa 3 ca)) rfl rfl rfl ?st2 ?_; (case st2 => first | (go_simp; done) | (go_simp; rfl)); intro w6 hwk; have hB : Below w4.heap.size w4 w6 := (by rw [hwk]; exact AL2.out.setCell (p := ⟨b2, 0, none⟩) (Nat.le_of_eq G2.out.symm) _); have hbx : w6.heap[b2]? = some (.cells #[.slice Aa 3 ca] 24 (0, 0)) := (by rw [hwk]; exact blk_put (cs := #[.slice none 0 0]) BX2.out 0 _ rfl); clear hwk; have D6 := Aside0.mk (D4.out.trans (hB.mono D4.out.size)); have FT6 := Aside0.mk (Foot.and (Foot.below FT4.out hB) (Foot.and (Go.Proofs.YtcafgpfecfocnaaDoorW.PrintWords.Foot.mono (Foot.below (Go.Proofs.YtcafgpfecfocnaaDoorW.PrintWords.Foot.mono (ok' := fun _ => True) IT32.out (fun _ _ => trivial)) hB) (fun _ _ => trivial)) (Foot.blk hbx trivial))); have c6 : w6.cell? ⟨b1, 0, none⟩ = some (.slice (some ⟨bs, 0, none⟩) 5 5) := (blk_cell FT6.out.now.1.2 0).trans rfl; clear hB hbx z2 q2)
    | (go_at_call 16; have hin := C_ints [4, 0] (heap_alloc_new w6 (.cells #[.int .i64 4, .int .i64 0] 3)) (by decide); have hal := below_alloc (Below.refl w6.heap.size w6) (.cells #[.int .i64 4, .int .i64 0] 3); have hk_ := keep_sample (w6.alloc (.cells #[.int .i64 4, .int .i64 0] 3)) bs w6.heap.size [4, 0] 2 rfl (by decide) (HT.out _ (D6.out.trans (hal.mono D6.out.size))) (Foot.below FT6.out hal).now.1.1 hin [⟨2, 0, []⟩, ⟨2, 2, []⟩] [1, 0] 0 2 2 rfl rfl keep39_h; (with_reducible refine hk_.mono ?_); rintro e w7 ⟨Ab, cb, Am, cm, rfl, hc1_, hc2_, hf, hb⟩; have hb2 : Below w6.heap.size w6 w7 := hal.trans (hb.mono hal.size); have D7 := Aside0.mk (D6.out.trans (hb2.mono D6.out.size)); have IT39 := Aside0.mk (Go.Proofs.YtcafgpfecfocnaaDoorW.PrintWords.Foot.mono hf (fun k hk => Nat.le_trans hal.size hk)); have LC39 := Aside0.mk (And.intro hc1_ hc2_); have FT7 := Aside0.mk (Foot.below FT6.out hb2); clear hin hal hf hb hb2 hc1_ hc2_)
    | ((with_reducible refine gate_dst (N := 5) rfl ?_); refine box_event ?bg5 (N := 5) ?bd5 (cs := #[.slice none 0 0]) (t := 24) ?br5 ?_; (case bd5 => rfl); (case bg5 => rfl); (case br5 => first | (go_simp; done) | (go_simp; rfl)); intro b5 hg w8 hbox hb; have AL5 := Aside0.mk hb; have BX5 := Aside0.mk hbox; have G5 := Aside0.mk hg; have z5 := blk_frozen hbox 0; have q5 : w8.cell? ⟨b5, 0, none⟩ = some (.slice none 0 0) := (blk_cell hbox 0).trans rfl; clear hg hbox hb)
    | ((with_reducible refine gate_store (t := 24) (p := 5) rfl ?_); refine store_event (t := 24) (p := 5) (w1 := w8.setCell ⟨b5, 0, none⟩ (.slice Ab 2 cb)) rfl rfl rfl ?st5 ?_; (case st5 => first | (go_simp; done) | (go_simp; rfl)); intro w9 hwk; have hB : Below w7.heap.size w7 w9 := (by rw [hwk]; exact AL5.out.setCell (p := ⟨b5, 0, none⟩) (Nat.le_of_eq G5.out.symm) _); have hbx : w9.heap[b5]? = some (.cells #[.slice Ab 2 cb] 24 (0, 0)) := (by rw [hwk]; exact blk_put (cs := #[.slice none 0 0]) BX5.out 0 _ rfl); clear hwk; have D9 := Aside0.mk (D7.out.trans (hB.mono D7.out.size)); have FT9 := Aside0.mk (Foot.and (Foot.below FT7.out hB) (Foot.and (Go.Proofs.YtcafgpfecfocnaaDoorW.PrintWords.Foot.mono (Foot.below (Go.Proofs.YtcafgpfecfocnaaDoorW.PrintWords.Foot.mono (ok' := fun _ => True) IT39.out (fun _ _ => trivial)) hB) (fun _ _ => trivial)) (Foot.blk hbx trivial))); have c9 : w9.cell? ⟨b1, 0, none⟩ = some (.slice (some ⟨bs, 0, none⟩) 5 5) := (blk_cell FT9.out.now.1.1.2 0).trans rfl; clear hB hbx z5 q5)
    | (go_at_call 16; have hin := C_ints [5] (heap_alloc_new w9 (.cells #[.int .i64 5] 3)) (by decide); have hal := below_alloc (Below.refl w9.heap.size w9) (.cells #[.int .i64 5] 3); have hk_ := keep_sample (w9.alloc (.cells #[.int .i64 5] 3)) bs w9.heap.size [5] 1 rfl (by decide) (HT.out _ (D9.out.trans (hal.mono D9.out.size))) (Foot.below FT9.out hal).now.1.1.1 hin [] [] 1 0 0 rfl rfl keep46_h; (with_reducible refine hk_.mono ?_); rintro e w10 ⟨Ae, ce, Ak, ck, rfl, hc1_, hc2_, hf, hb⟩; have hb2 : Below w9.heap.size w9 w10 := hal.trans (hb.mono hal.size); have D10 := Aside0.mk (D9.out.trans (hb2.mono D9.out.size)); have IT46 := Aside0.mk (Go.Proofs.YtcafgpfecfocnaaDoorW.PrintWords.Foot.mono hf (fun k hk => Nat.le_trans hal.size hk)); have LC46 := Aside0.mk (And.intro hc1_ hc2_); have FT10 := Aside0.mk (Foot.below FT9.out hb2); clear hin hal hf hb hb2 hc1_ hc2_)
    | ((with_reducible refine gate_dst (N := 8) rfl ?_); refine box_event ?bg8 (N := 8) ?bd8 (cs := #[.slice none 0 0]) (t := 24) ?br8 ?_; (case bd8 => rfl); (case bg8 => rfl); (case br8 => first | (go_simp; done) | (go_simp; rfl)); intro b8 hg w11 hbox hb; have AL8 := Aside0.mk hb; have BX8 := Aside0.mk hbox; have G8 := Aside0.mk hg; have z8 := blk_frozen hbox 0; have q8 : w11.cell? ⟨b8, 0, none⟩ = some (.slice none 0 0) := (blk_cell hbox 0).trans rfl; clear hg hbox hb)
    | ((with_reducible refine gate_store (t := 24) (p := 8) rfl ?_); refine store_event (t := 24) (p := 8) (w1 := w11.setCell ⟨b8, 0, none⟩ (.slice Ae 0 ce)) rfl rfl rfl ?st8 ?_; (case st8 => first | (go_simp; done) | (go_simp; rfl)); intro w12 hwk; have hB : Below w10.heap.size w10 w12 := (by rw [hwk]; exact AL8.out.setCell (p := ⟨b8, 0, none⟩) (Nat.le_of_eq G8.out.symm) _); have hbx : w12.heap[b8]? = some (.cells #[.slice Ae 0 ce] 24 (0, 0)) := (by rw [hwk]; exact blk_put (cs := #[.slice none 0 0]) BX8.out 0 _ rfl); clear hwk; have D12 := Aside0.mk (D10.out.trans (hB.mono D10.out.size)); have FT12 := Aside0.mk (Foot.below FT10.out hB); have c12 : w12.cell? ⟨b1, 0, none⟩ = some (.slice (some ⟨bs, 0, none⟩) 5 5) := (blk_cell FT12.out.now.1.1.2 0).trans rfl; clear hB hbx z8 q8)
    | (go_at_call 18; have hin := C_ints [3] (heap_alloc_new w12 (.cells #[.int .i64 3] 3)) (by decide); have hal := below_alloc (Below.refl w12.heap.size w12) (.cells #[.int .i64 3] 3); have hk_ := start_sample (w12.alloc (.cells #[.int .i64 3] 3)) bs w12.heap.size (HT.out _ (D12.out.trans (hal.mono D12.out.size))) (Foot.below FT12.out hal).now.1.1.1 hin; (with_reducible refine hk_.mono ?_); rintro e w13 ⟨hb, g, F1, nm1, vw1, f1, Ag, cg, vr1, bm, rfl, hsw, hF⟩; have hb2 : Below w12.heap.size w12 w13 := hal.trans (hb.mono hal.size); have D13 := Aside0.mk (D12.out.trans (hb2.mono D12.out.size)); have SW13 := Aside0.mk hsw; have hft := Go.Proofs.YtcafgpfecfocnaaDoorW.PrintWords.Foot.bound (Foot.below FT12.out hal); have FT13 := Aside0.mk (Go.Proofs.YtcafgpfecfocnaaDoorW.PrintWords.Foot.mono (ok' := fun k => ¬ F1 k) (Foot.below hft hb) (fun k hk hf => by have := hF k hf; have := hk.2; omega)); have FD := Aside0.mk (show ∀ k, F1 k → w.heap.size ≤ k from fun k hk => Nat.le_trans (D12.out.trans (hal.mono D12.out.size)).size (hF k hk)); clear hin hal hb hb2 hsw hF hft hk_)
    | (go_at_call 26; have hk_ := result_waits SW13.out (by rw [hs0_wait]; decide); (with_reducible refine hk_.mono ?_); rintro e w14 ⟨rfl, hb⟩; have D14 := Aside0.mk (D13.out.trans (hb.mono D13.out.size)); have SW14 := Aside0.mk (SW13.out.below hb); have FT14 := Aside0.mk (Foot.below FT13.out hb); clear hb SW13 FT13)
    | ((with_reducible refine gate_dst (N := 13) rfl ?_); refine box_event ?bg13 (N := 13) ?bd13 (cs := #[.slice none 0 0]) (t := 24) ?br13 ?_; (case bd13 => rfl); (case bg13 => rfl); (case br13 => first | (go_simp; done) | (go_simp; rfl)); intro b13 hg w15 hbox hb; have AL13 := Aside0.mk hb; have BX13 := Aside0.mk hbox; have G13 := Aside0.mk hg; have z13 := blk_frozen hbox 0; have q13 : w15.cell? ⟨b13, 0, none⟩ = some (.slice none 0 0) := (blk_cell hbox 0).trans rfl; clear hg hbox hb)
    | ((with_reducible refine gate_store (t := 24) (p := 13) rfl ?_); refine store_event (t := 24) (p := 13) (w1 := w15.setCell ⟨b13, 0, none⟩ (.slice none 0 0)) rfl rfl rfl ?st13 ?_; (case st13 => first | (go_simp; done) | (go_simp; rfl)); intro w16 hwk; have hB : Below w14.heap.size w14 w16 := (by rw [hwk]; exact AL13.out.setCell (p := ⟨b13, 0, none⟩) (Nat.le_of_eq G13.out.symm) _); have hbx : w16.heap[b13]? = some (.cells #[.slice none 0 0] 24 (0, 0)) := (by rw [hwk]; exact blk_put (cs := #[.slice none 0 0]) BX13.out 0 _ rfl); clear hwk; have D16 := Aside0.mk (D14.out.trans (hB.mono D14.out.size)); have FT16 := Aside0.mk (Foot.below FT14.out hB); have SW16 := Aside0.mk (SW14.out.below hB); clear hB hbx z13 q13)
    | (go_at_call 24; have hk_ := step_h SW16.out hs0_good 3 (by unfold in64; decide) hs1 rfl [1] hs1_wait false rfl; (with_reducible refine hk_.mono ?_); rintro e w17 ⟨rfl, ha⟩; obtain ⟨F2, nm2, vw2, f2, hsw, hF, hu⟩ := ha; have SW17 := Aside0.mk hsw; have FT17 := Aside0.mk (Foot.upd FT16.out hu hF); have D17 := Aside0.mk (D16.out.trans (hu.below (B := w.heap.size) D16.out.size FD.out)); have FD2 := Aside0.mk (show ∀ k, F2 k → w.heap.size ≤ k from fun k hk => (hF k hk).elim (fun h => FD.out k h) (fun h => Nat.le_trans D16.out.size h)); clear hsw hF hu SW16 FT16 FD)
    | (go_at_call 24; have hk_ := step_h SW17.out hs1_good 1 (by unfold in64; decide) hs2 rfl [] hs2_wait true rfl; (with_reducible refine hk_.mono ?_); rintro e w18 ⟨rfl, ha⟩; obtain ⟨F3, nm3, vw3, f3, hsw, hF, hu⟩ := ha; have SW18 := Aside0.mk hsw; have FT18 := Aside0.mk (Foot.upd FT17.out hu hF); have D18 := Aside0.mk (D17.out.trans (hu.below (B := w.heap.size) D17.out.size FD2.out)); have FD3 := Aside0.mk (show ∀ k, F3 k → w.heap.size ≤ k from fun k hk => (hF k hk).elim (fun h => FD2.out k h) (fun h => Nat.le_trans D17.out.size h)); clear hsw hF hu SW17 FT17 FD2)
    | (go_at_call 26; have hk_ := result_sample SW18.out hs2_wait IN3.out (by decide) [⟨2, 0, []⟩, ⟨2, 1, []⟩, ⟨3, 0, [0, 1]⟩, ⟨4, 0, [0, 2]⟩] [3] 4 1 rfl rfl hs2_res hs2_pl; (with_reducible refine hk_.mono ?_); rintro e w19 ⟨Ad, cd, An, cn, rfl, hc1_, hc2_, hf, hb⟩; have D19 := Aside0.mk (D18.out.trans (hb.mono D18.out.size)); have hi : Foot (fun W'' => Kd.C k50 W'' Ad ([⟨2, 0, []⟩, ⟨2, 1, []⟩, ⟨3, 0, [0, 1]⟩, ⟨4, 0, [0, 2]⟩] : List S50).length [⟨2, 0, []⟩, ⟨2, 1, []⟩, ⟨3, 0, [0, 1]⟩, ⟨4, 0, [0, 2]⟩] ∧ Kd.C (Kd.int .i64) W'' An ([3] : List Int).length [3]) w19 (fun k => ¬ F3 k) := Go.Proofs.YtcafgpfecfocnaaDoorW.PrintWords.Foot.mono hf (fun k hk hf => by have := SW18.out.lt k hf; omega); have FT19 := Aside0.mk (Foot.and (Foot.below FT18.out hb) hi); have SW19 := Aside0.mk (SW18.out.below hb); have LC86 := Aside0.mk (And.intro hc1_ hc2_); clear hf hb hi SW18 FT18 hc1_ hc2_)
    | ((with_reducible refine gate_dst (N := 18) rfl ?_); refine box_event ?bg18 (N := 18) ?bd18 (cs := #[.slice none 0 0]) (t := 24) ?br18 ?_; (case bd18 => rfl); (case bg18 => rfl); (case br18 => first | (go_simp; done) | (go_simp; rfl)); intro b18 hg w20 hbox hb; have AL18 := Aside0.mk hb; have BX18 := Aside0.mk hbox; have G18 := Aside0.mk hg; have z18 := blk_frozen hbox 0; have q18 : w20.cell? ⟨b18, 0, none⟩ = some (.slice none 0 0) := (blk_cell hbox 0).trans rfl; clear hg hbox hb)
    | ((with_reducible refine gate_store (t := 24) (p := 18) rfl ?_); refine store_event (t := 24) (p := 18) (w1 := w20.setCell ⟨b18, 0, none⟩ (.slice Ad 4 cd)) rfl rfl rfl ?st18 ?_; (case st18 => first | (go_simp; done) | (go_simp; rfl)); intro w21 hwk; have hB : Below w19.heap.size w19 w21 := (by rw [hwk]; exact AL18.out.setCell (p := ⟨b18, 0, none⟩) (Nat.le_of_eq G18.out.symm) _); have hbx : w21.heap[b18]? = some (.cells #[.slice Ad 4 cd] 24 (0, 0)) := (by rw [hwk]; exact blk_put (cs := #[.slice none 0 0]) BX18.out 0 _ rfl); clear hwk; have D21 := Aside0.mk (D19.out.trans (hB.mono D19.out.size)); have hnf : ¬ F3 b18 := fun hf => (by have := SW19.out.lt _ hf; have := G18.out; omega); have FT21 := Aside0.mk (Foot.and (Foot.below FT19.out hB) (Foot.blk hbx hnf)); have SW21 := Aside0.mk (SW19.out.below hB); clear hnf; clear hB hbx z18 q18)
    | (go_at_call 22; have hk_ := add_h SW21.out; (with_reducible refine hk_.mono ?_); rintro e w22 ⟨rfl, ha⟩; obtain ⟨F4, vr4, nm4, vw4, f4, hsw, hF, hu⟩ := ha; have SW22 := Aside0.mk hsw; have FT22 := Aside0.mk (Foot.upd FT21.out hu hF); have D22 := Aside0.mk (D21.out.trans (hu.below (B := w.heap.size) D21.out.size FD3.out)); have FD4 := Aside0.mk (show ∀ k, F4 k → w.heap.size ≤ k from fun k hk => (hF k hk).elim (fun h => FD3.out k h) (fun h => Nat.le_trans D21.out.size h)); clear hsw hF hu SW21 FT21 FD3)
    | (go_at_call 24; have hk_ := step_h SW22.out hs3_good 0 (by unfold in64; decide) hs4 rfl [4] hs4_wait false rfl; (with_reducible refine hk_.mono ?_); rintro e w23 ⟨rfl, ha⟩; obtain ⟨F5, nm5, vw5, f5, hsw, hF, hu⟩ := ha; have SW23 := Aside0.mk hsw; have FT23 := Aside0.mk (Foot.upd FT22.out hu hF); have D23 := Aside0.mk (D22.out.trans (hu.below (B := w.heap.size) D22.out.size FD4.out)); have FD5 := Aside0.mk (show ∀ k, F5 k → w.heap.size ≤ k from fun k hk => (hF k hk).elim (fun h => FD4.out k h) (fun h => Nat.le_trans D22.out.size h)); clear hsw hF hu SW22 FT22 FD4)
    | (go_at_call 24; have hk_ := step_h SW23.out hs4_good 1 (by unfold in64; decide) hs5 rfl [] hs5_wait true rfl; (with_reducible refine hk_.mono ?_); rintro e w24 ⟨rfl, ha⟩; obtain ⟨F6, nm6, vw6, f6, hsw, hF, hu⟩ := ha; have SW24 := Aside0.mk hsw; have FT24 := Aside0.mk (Foot.upd FT23.out hu hF); have D24 := Aside0.mk (D23.out.trans (hu.below (B := w.heap.size) D23.out.size FD5.out)); clear hsw hF hu SW23 FT23 FD5)
    | (go_at_call 26; have hk_ := result_sample SW24.out hs5_wait IN34.out (by decide) sampleG [3, 4] 5 2 rfl rfl hs5_res hs5_pl; (with_reducible refine hk_.mono ?_); rintro e w25 ⟨Af, cf, Ao, co, rfl, hc1_, hc2_, hf, hb⟩; have D25 := Aside0.mk (D24.out.trans (hb.mono D24.out.size)); have hi := Go.Proofs.YtcafgpfecfocnaaDoorW.PrintWords.Foot.mono (ok' := fun k => ¬ F6 k) hf (fun k hk hf => by have := SW24.out.lt k hf; omega); have FT25 := Aside0.mk (Foot.and (Foot.below FT24.out hb) hi); have LC98 := Aside0.mk (And.intro hc1_ hc2_); clear hf hb hi SW24 FT24 hc1_ hc2_)
    | ((with_reducible refine gate_dst (N := 24) rfl ?_); refine box_event ?bg24 (N := 24) ?bd24 (cs := #[.slice none 0 0]) (t := 24) ?br24 ?_; (case bd24 => rfl); (case bg24 => rfl); (case br24 => first | (go_simp; done) | (go_simp; rfl)); intro b24 hg w26 hbox hb; have AL24 := Aside0.mk hb; have BX24 := Aside0.mk hbox; have G24 := Aside0.mk hg; have z24 := blk_frozen hbox 0; have q24 : w26.cell? ⟨b24, 0, none⟩ = some (.slice none 0 0) := (blk_cell hbox 0).trans rfl; clear hg hbox hb)
    | ((with_reducible refine gate_store (t := 24) (p := 24) rfl ?_); refine store_event (t := 24) (p := 24) (w1 := w26.setCell ⟨b24, 0, none⟩ (.slice Af 5 cf)) rfl rfl rfl ?st24 ?_; (case st24 => first | (go_simp; done) | (go_simp; rfl)); intro w27 hwk; have hB : Below w25.heap.size w25 w27 := (by rw [hwk]; exact AL24.out.setCell (p := ⟨b24, 0, none⟩) (Nat.le_of_eq G24.out.symm) _); have hbx : w27.heap[b24]? = some (.cells #[.slice Af 5 cf] 24 (0, 0)) := (by rw [hwk]; exact blk_put (cs := #[.slice none 0 0]) BX24.out 0 _ rfl); clear hwk; have D27 := Aside0.mk (D25.out.trans (hB.mono D25.out.size)); have FT27 := Aside0.mk (Foot.below FT25.out hB); clear hB hbx z24 q24))
  obtain ⟨⟨⟨⟨⟨⟨hC, k1⟩, ⟨hCa, hCl⟩, k2⟩, ⟨hCb, hCm⟩, k5⟩, hCd, hCn⟩, k18⟩, hCf, hCo⟩ := FT27.out.now
  obtain ⟨A0, c0, x0, x1, x2⟩ := sample_gate hC 0 (by decide) ⟨2, 0, []⟩ rfl
  obtain ⟨A4, c4, y0, y1, y2⟩ := sample_gate hC 4 (by decide) ⟨2, 2, []⟩ rfl
  have SC := Aside0.mk hC
  have SA := Aside0.mk hCa
  have SL := Aside0.mk hCl
  have SB := Aside0.mk hCb
  have SM := Aside0.mk hCm
  have SD := Aside0.mk hCd
  have SN := Aside0.mk hCn
  have SO := Aside0.mk hCo
  have K1 := Aside0.mk k1
  have K18 := Aside0.mk k18
  have j1 : w27.cell? ⟨b1, 0, none⟩ = some (.slice (some ⟨bs, 0, none⟩) 5 5) := (blk_cell k1 0).trans rfl
  have j2 : w27.cell? ⟨b2, 0, none⟩ = some (.slice Aa 3 ca) := (blk_cell k2 0).trans rfl
  have j5 : w27.cell? ⟨b5, 0, none⟩ = some (.slice Ab 2 cb) := (blk_cell k5 0).trans rfl
  have bz : Below w27.heap.size w27 w27 := Below.refl _ _
  clear hC hCa hCl hCb hCm hCd hCn hCf hCo k1 k2 k5 k18 c3 c6 c9 c12 hk_
  go_region_held3 (fun w' => w'.cell? ⟨b2, 0, none⟩ = some (.slice Aa 3 ca) ∧ w'.cell? ⟨b1, 0, none⟩ = some (.slice (some ⟨bs, 0, none⟩) 5 5) ∧ w'.cell? ⟨b5, 0, none⟩ = some (.slice Ab 2 cb) ∧ w'.cell? ⟨bs, 0, none⟩ = some (.int .i64 2) ∧ w'.cell? ⟨bs, 1, none⟩ = some (.int .i64 0) ∧ w'.cell? ⟨bs, 2, none⟩ = some (.slice A0 0 c0) ∧ w'.cell? ⟨bs, 12, none⟩ = some (.int .i64 2) ∧ w'.cell? ⟨bs, 13, none⟩ = some (.int .i64 2) ∧ w'.cell? ⟨bs, 14, none⟩ = some (.slice A4 0 c4) ∧ Below w27.heap.size w27 w')
    (first
      | exact ⟨j2, j1, j5, x0, x1, x2, y0, y1, y2, below_drew bz⟩
      | (go_split_ands; refine ⟨?_, ?_, ?_, ?_, ?_, ?_, ?_, ?_, ?_, ?_⟩ <;> first | exact (hb20.cell (World.block_lt_of_cell? _ _ (by assumption))).trans (by assumption) | exact Below.trans (by assumption) (hb20.mono (Below.size (by assumption))))
      | (go_split_ands; refine ⟨?_, ?_, ?_, ?_, ?_, ?_, ?_, ?_, ?_, ?_⟩ <;> first | exact (hb21.cell (World.block_lt_of_cell? _ _ (by assumption))).trans (by assumption) | exact Below.trans (by assumption) (hb21.mono (Below.size (by assumption))))
      | (go_split_ands; refine ⟨?_, ?_, ?_, ?_, ?_, ?_, ?_, ?_, ?_, ?_⟩ <;> first | exact (World.cell?_alloc_lt _ _ _ (World.block_lt_of_cell? _ _ (by assumption))).trans (by assumption) | exact below_alloc (by assumption) _)
      | go_keep)
    (first
      | (go_at_call 20; go_split_ands; (with_reducible refine (same_h [⟨2, 0, []⟩, ⟨2, 1, []⟩, ⟨3, 0, [0, 1]⟩] 3 ?n1 ?a1 ?b1 ?c1 ?d1 100 same3).mono ?_); (case n1 => rfl); (case a1 => exact Kd.C_below SA.out (by assumption)); (case b1 => exact Kd.C_below (Kd.C_take SC.out (m := 3) (by decide)) (by assumption)); (case c1 => exact LC32.out.1); (case d1 => decide); rintro e w28 ⟨rfl, hb20⟩)
      | (go_at_call 21; go_split_ands; (with_reducible refine (ints_h [2] 1 ?n2 ?a2 ?b2 ?c2 ?d2 100 ints1).mono ?_); (case n2 => rfl); (case a2 => exact Kd.C_below SL.out (by assumption)); (case b2 => exact C_ints [2] (heap_alloc_new _ _) (by decide)); (case c2 => exact LC32.out.2); (case d2 => decide); rintro e w29 ⟨rfl, hd21⟩; have hb21 := hd21.below)
      | (go_at_call 20; go_split_ands; (with_reducible refine (same_h [⟨2, 0, []⟩, ⟨2, 2, []⟩] 2 ?n3 ?a3 ?b3 ?c3 ?d3 100 same2).mono ?_); (case n3 => rfl); (case a3 => exact Kd.C_below SB.out (by assumption)); (case b3 => exact two_gates (heap_alloc_new _ _)); (case c3 => exact LC39.out.1); (case d3 => decide); rintro e w30 ⟨rfl, hb20⟩)
      | (go_at_call 21; go_split_ands; (with_reducible refine (ints_h [1, 0] 2 ?n4 ?a4 ?b4 ?c4 ?d4 100 ints2).mono ?_); (case n4 => rfl); (case a4 => exact Kd.C_below SM.out (by assumption)); (case b4 => exact C_ints [1, 0] (heap_alloc_new _ _) (by decide)); (case c4 => exact LC39.out.2); (case d4 => decide); rintro e w31 ⟨rfl, hd21⟩; have hb21 := hd21.below))
  rename_i hcc
  have b31 : Below w27.heap.size w27 w31 := hcc.2.2.2.2.2.2.2.2.2
  have i18 : w31.cell? ⟨b18, 0, none⟩ = some (.slice Ad 4 cd) := (b31.cell (blk_lt K18.out)).trans ((blk_cell K18.out 0).trans rfl)
  have i1 : w31.cell? ⟨b1, 0, none⟩ = some (.slice (some ⟨bs, 0, none⟩) 5 5) := (b31.cell (blk_lt K1.out)).trans ((blk_cell K1.out 0).trans rfl)
  clear hcc hb20 hb21
  go_wp2_with fail
  go_region_held3 (fun w' => w'.cell? ⟨b18, 0, none⟩ = some (.slice Ad 4 cd) ∧ w'.cell? ⟨b1, 0, none⟩ = some (.slice (some ⟨bs, 0, none⟩) 5 5) ∧ Below w27.heap.size w27 w')
    (first
      | exact ⟨i18, i1, below_drew b31⟩
      | (go_split_ands; refine ⟨?_, ?_, ?_⟩ <;> first | exact (hc20.cell (World.block_lt_of_cell? _ _ (by assumption))).trans (by assumption) | exact Below.trans (by assumption) (hc20.mono (Below.size (by assumption))))
      | (go_split_ands; refine ⟨?_, ?_, ?_⟩ <;> first | exact (hc21.cell (World.block_lt_of_cell? _ _ (by assumption))).trans (by assumption) | exact Below.trans (by assumption) (hc21.mono (Below.size (by assumption))))
      | (go_split_ands; refine ⟨?_, ?_, ?_⟩ <;> first | exact (World.cell?_alloc_lt _ _ _ (World.block_lt_of_cell? _ _ (by assumption))).trans (by assumption) | exact below_alloc (by assumption) _)
      | go_keep)
    (first
      | (go_at_call 20; go_split_ands; (with_reducible refine (same_h [⟨2, 0, []⟩, ⟨2, 1, []⟩, ⟨3, 0, [0, 1]⟩, ⟨4, 0, [0, 2]⟩] 4 ?n1 ?a1 ?b1 ?c1 ?d1 100 same4).mono ?_); (case n1 => rfl); (case a1 => exact Kd.C_below SD.out (by assumption)); (case b1 => exact Kd.C_below (Kd.C_take SC.out (m := 4) (by decide)) (by assumption)); (case c1 => exact LC86.out.1); (case d1 => decide); rintro e w32 ⟨rfl, hc20⟩)
      | (go_at_call 21; go_split_ands; (with_reducible refine (ints_h [3] 1 ?n2 ?a2 ?b2 ?c2 ?d2 100 ints3).mono ?_); (case n2 => rfl); (case a2 => exact Kd.C_below SN.out (by assumption)); (case b2 => exact C_ints [3] (heap_alloc_new _ _) (by decide)); (case c2 => exact LC86.out.2); (case d2 => decide); rintro e w33 ⟨rfl, hd21⟩; have hc21 := hd21.below)
      | (go_at_call 21; go_split_ands; (with_reducible refine (ints_h [3, 4] 2 ?n4 ?a4 ?b4 ?c4 ?d4 100 ints4).mono ?_); (case n4 => rfl); (case a4 => exact Kd.C_below SO.out (by assumption)); (case b4 => exact C_ints [3, 4] (heap_alloc_new _ _) (by decide)); (case c4 => exact LC98.out.2); (case d4 => decide); rintro e w34 ⟨rfl, hd21⟩; have hc21 := hd21.below))
  rename_i hcc
  have b34 : Below w27.heap.size w27 w34 := hcc.2.2
  go_wp2
  go_ret
  exact ⟨rfl, D27.out.trans (b34.mono D27.out.size)⟩
end Go.Proofs.YtcafgpfecfocnaaDoor.P

/- The head of layer 18's laws, in the words of printed contracts. -/
namespace Go.Proofs.YtcafgpfecfocnaaDoor.P
open Go.RowKit Go.Proofs.YtcafgpfecfocnaaDoorW.PrintWords
end Go.Proofs.YtcafgpfecfocnaaDoor.P

/- What comes in as an argument, laid open: lists of numbers, circuits. -/
namespace Go.Proofs.YtcafgpfecfocnaaDoor.P
open Go.RowKit Go.ChangeShapes Go.WideShapes Go.Deep Go.Proofs.YtcafgpfecfocnaaDoorW.PrintWords
set_option linter.unusedVariables false
set_option linter.unusedSimpArgs false

section
variable {H : Type} {enc : TypeId × Value → H} {w : World} {base : Nat} {spare : Nat → Bool} {held : Bool}
theorem wf_in64 {n : Int} (h : (Lit.int .i64 n).wf = true) : in64 n := by
  simp only [Lit.wf, Bool.and_eq_true, decide_eq_true_eq] at h
  have h1 : IntKind.min .i64 = -9223372036854775808 := rfl
  have h2 : IntKind.max .i64 = 9223372036854775807 := rfl
  rw [h1, h2] at h
  exact h
theorem maxLen_le {c : Nat} (h : c ≤ maxLen) : c ≤ 9223372036854775807 := h
theorem open_list64 {t e : TypeId} {fuel : Nat} {a : Option Addr} {len cap : Nat} {x : DataW H × List MemPlace} (ht : Tryd.prog.underlying t = some (.slice e)) (he : Tryd.prog.underlying e = some (.int .i64)) (hc : Tryd.prog.cellsOf e = 1)
    (h : DataW.trod enc Tryd.prog w base spare held fuel t [.slice a len cap] = some x) : ∃ l : List Int, l.length = len ∧ len ≤ cap ∧ Kd.C (Kd.int .i64) w a len l ∧ ∀ k ∈ l, in64 k := by
  rcases open_ints ht he hc h with ⟨hcs, _⟩ | ⟨ad, len', cap', zs, hcs, _, hl, hm, hz, _, hcell, hw⟩
  · simp at hcs
    obtain ⟨rfl, rfl, rfl⟩ := hcs
    exact ⟨[], rfl, Nat.le_refl _, ⟨rfl, by decide, fun h => absurd h (by decide)⟩, fun k hk => by simp at hk⟩
  · simp at hcs
    obtain ⟨rfl, rfl, rfl⟩ := hcs
    have hlz : len ≤ zs.length := by rw [hz]; split <;> omega
    have hlen : (zs.take len).length = len := by rw [List.length_take]; omega
    have hcap := maxLen_le hm
    refine ⟨zs.take len, hlen, hl, ⟨hlen, by omega, fun _ => ⟨ad, rfl, fun j p hj => ?_⟩⟩, fun k hk => wf_in64 (hw k (List.mem_of_mem_take hk))⟩
    obtain ⟨hjl, hjp⟩ := List.getElem?_eq_some_iff.1 hj
    rw [List.getElem_take] at hjp
    refine ⟨[.int .i64 p], rfl, rfl, fun i u hu => ?_⟩
    match i with
    | 0 =>
      have h2 := hcell j (by omega)
      rw [List.getD_eq_getElem?_getD, List.getElem?_eq_getElem (by omega), Option.getD_some, hjp] at h2
      show w.cell? (ad.add (j * 1 + 0)) = some u
      rw [Nat.mul_one, Nat.add_zero, h2]
      simpa using hu
    | i + 1 => simp at hu
/-- A gate's numbers. -/
def goodG (g : S50) : Prop := in64 g.f0 ∧ in64 g.f1 ∧ ∀ k ∈ g.f2, in64 k
theorem three {cs : List Value} (h : cs.length = 3) : ∃ c0 c1 c2, cs = [c0, c1, c2] := by
  match cs, h with
  | [c0, c1, c2], _ => exact ⟨_, _, _, rfl⟩
theorem open_gate {fuel : Nat} {cs : List Value} {x : DataW H × List MemPlace} (h : DataW.trod enc Tryd.prog w base spare held fuel 50 cs = some x) : ∃ g : S50, k50.K w g cs ∧ goodG g := by
  obtain ⟨y0, y1, y2, n, _, hl, h0, h1, h2⟩ := trod_struct3 Tryd.underlying50 h
  have c3 : Tryd.prog.cellsOf 50 = 3 := by kernel_rfl
  have d3 : Tryd.prog.cellsOf 3 = 1 := by kernel_rfl
  have d25 : Tryd.prog.cellsOf 25 = 1 := by kernel_rfl
  have hl3 : cs.length = 3 := hl.trans c3
  clear hl
  obtain ⟨c0, c1, c2, rfl⟩ := three hl3
  rw [d3] at h0 h1
  rw [d25] at h2
  have e0 : DataW.trod enc Tryd.prog w base spare held n 3 [c0] = some y0 := h0
  have e1 : DataW.trod enc Tryd.prog w base spare held n 3 [c1] = some y1 := h1
  have e2 : DataW.trod enc Tryd.prog w base spare held n 25 [c2] = some y2 := h2
  obtain ⟨n0, hn0, _, hw0⟩ := DataW.trod_int Tryd.underlying3 e0
  obtain ⟨n1, hn1, _, hw1⟩ := DataW.trod_int Tryd.underlying3 e1
  obtain rfl : c0 = .int .i64 n0 := by simpa using hn0
  obtain rfl : c1 = .int .i64 n1 := by simpa using hn1
  have hs : ∃ a len cap, c2 = .slice a len cap := by
    rcases open_ints Tryd.underlying25 Tryd.underlying3 (by kernel_rfl) e2 with ⟨hcs, _⟩ | ⟨ad, len', cap', zs, hcs, _⟩
    · exact ⟨_, _, _, by simpa using hcs⟩
    · exact ⟨_, _, _, by simpa using hcs⟩
  obtain ⟨a, len, cap, rfl⟩ := hs
  obtain ⟨l, hll, hlc, hC, hin⟩ := open_list64 Tryd.underlying25 Tryd.underlying3 (by kernel_rfl) e2
  subst hll
  exact ⟨⟨n0, n1, l⟩, k50_mk w ⟨n0, n1, l⟩ (A2 := a) (c2 := cap) hlc hC, wf_in64 hw0, wf_in64 hw1, hin⟩
theorem open_gates {t : TypeId} {fuel : Nat} {a : Option Addr} {len cap : Nat} {x : DataW H × List MemPlace} (ht : Tryd.prog.underlying t = some (.slice 50))
    (h : DataW.trod enc Tryd.prog w base spare held fuel t [.slice a len cap] = some x) : ∃ gs : List S50, gs.length = len ∧ len ≤ cap ∧ Kd.C k50 w a len gs ∧ ∀ g ∈ gs, goodG g := by
  rcases open_slice ht h with ⟨hcs, _⟩ | ⟨ad, len', cap', m, n, D, Pl, hcs, _, hl, hm, hmm, _, hx⟩
  · simp at hcs
    obtain ⟨rfl, rfl, rfl⟩ := hcs
    exact ⟨[], rfl, Nat.le_refl _, ⟨rfl, by decide, fun h => absurd h (by decide)⟩, fun k hk => by simp at hk⟩
  · simp at hcs
    obtain ⟨rfl, rfl, rfl⟩ := hcs
    have hlm : len ≤ m := by rw [hmm]; split <;> omega
    have hcap := maxLen_le hm
    have c3 : Tryd.prog.cellsOf 50 = 3 := by kernel_rfl
    letI : Inhabited S50 := ⟨z50⟩
    obtain ⟨G, hG⟩ := choose_lt (α := S50) (n := len) (p := fun j g => (∃ c : List Value, c.length = 3 ∧ k50.K w g c ∧ ∀ i u, c[i]? = some u → w.cell? (ad.add (j * 3 + i)) = some u) ∧ goodG g) (fun j hj => by
      obtain ⟨cs', h1, h2⟩ := hx j (by omega)
      rw [c3] at h1
      obtain ⟨_, hlen, hcell⟩ := World.cells?_some h1
      obtain ⟨g, hg1, hg2⟩ := open_gate h2
      refine ⟨g, ⟨cs', hlen, hg1, fun i u hu => ?_⟩, hg2⟩
      have hi : i < 3 := by
        have := (List.getElem?_eq_some_iff.1 hu).1
        omega
      have h3 := hcell i hi
      rw [Go.Deep.add_add] at h3
      rw [h3, hu])
    have hlen : ((List.range len).map G).length = len := by simp
    refine ⟨(List.range len).map G, hlen, hl, ⟨hlen, by omega, fun _ => ⟨ad, rfl, fun j p hj => ?_⟩⟩, fun g hg => ?_⟩
    · obtain ⟨hjl, hjp⟩ := List.getElem?_eq_some_iff.1 hj
      simp at hjp
      subst hjp
      exact (hG j (by omega)).1
    · obtain ⟨j, hj, rfl⟩ := List.mem_map.1 hg
      exact (hG j (by simpa using hj)).2
end
end Go.Proofs.YtcafgpfecfocnaaDoor.P

/- What the reference's small functions answer (the printed functions, plainly): Equal, Few. -/
namespace Go.Proofs.YtcafgpfecfocnaaDoor.P
open Go.RowKit Go.Proofs.YtcafgpfecfocnaaDoorW.PrintWords
set_option linter.unusedVariables false
set_option linter.unusedSimpArgs false

theorem wrap_nat {i : Nat} (h : i ≤ 4611686018427387904) : wrap64 ((i : Int) + 1) = ((i + 1 : Nat) : Int) := by unfold wrap64; omega
theorem rd_get (l : List Int) (j : Nat) (h : j < l.length) : rd l (j : Int) = l[j] := by
  unfold rd
  rw [Int.toNat_natCast, List.getD_eq_getElem?_getD, List.getElem?_eq_getElem h]
  rfl
theorem rd_ext {l m : List Int} (hl : l.length = m.length) (h : ∀ j : Nat, j < l.length → rd l (j : Int) = rd m (j : Int)) : l = m := by
  refine List.ext_getElem hl fun j h1 h2 => ?_
  have := h j h1
  rwa [rd_get l j h1, rd_get m j h2] at this
theorem equal_l0 (a b c e : Int) (l m : List Int) (hl : l.length = m.length) (hb : l.length ≤ 1099511627776) : ∀ (d i k : Nat), l.length = i + d → d < k → (∀ j : Nat, j < i → rd l (j : Int) = rd m (j : Int)) → cleanseref16_Equal.l0 k (i : Int) a b l c e m = some (decide (l = m))
  | 0, i, k, hi, hk, hall => by
    obtain ⟨k, rfl⟩ : ∃ k', k = k' + 1 := ⟨k - 1, by omega⟩
    unfold cleanseref16_Equal.l0
    rw [if_neg (by omega), decide_eq_true (rd_ext hl (fun j hj => hall j (by omega)))]
  | d + 1, i, k, hi, hk, hall => by
    obtain ⟨k, rfl⟩ : ∃ k', k = k' + 1 := ⟨k - 1, by omega⟩
    unfold cleanseref16_Equal.l0
    rw [if_pos (by omega), if_pos (by omega), if_pos (by omega)]
    by_cases he : rd l (i : Int) = rd m (i : Int)
    · rw [if_pos he, wrap_nat (by omega)]
      exact equal_l0 a b c e l m hl hb d (i + 1) k (by omega) (by omega) (fun j hj => by
        by_cases e : j = i
        · subst e; exact he
        · exact hall j (by omega))
    · rw [if_neg he, decide_eq_false (fun h => he (by rw [h]))]
/-- Equal: two gates are equal. -/
theorem equal_f (k : Nat) (a b c e : Int) (l m : List Int) (hb : l.length ≤ 1099511627776) (hk : l.length + 1 < k) : cleanseref16_Equal.f k a b l c e m = some (decide (a = c ∧ b = e ∧ l = m)) := by
  obtain ⟨k, rfl⟩ : ∃ k', k = k' + 1 := ⟨k - 1, by omega⟩
  have j0 : ∀ x : Bool, x = true → cleanseref16_Equal.j0 (k + 1) x a b l c e m = some false := fun x hx => by
    simp only [cleanseref16_Equal.j0]
    rw [if_pos hx]
  unfold cleanseref16_Equal.f
  by_cases h1 : a = c
  · by_cases h2 : b = e
    · rw [if_pos h1, if_pos h2]
      by_cases h3 : l.length = m.length
      · simp only [cleanseref16_Equal.j0]
        rw [if_neg (by simp [h3]), show (0 : Int) = ((0 : Nat) : Int) from rfl, equal_l0 a b c e l m h3 hb l.length 0 k (by omega) (by omega) (fun j hj => by omega)]
        simp [h1, h2]
      · rw [j0 _ (by simp; omega), decide_eq_false (fun h => h3 (by rw [h.2.2]))]
    · rw [if_pos h1, if_neg h2, j0 true rfl, decide_eq_false (fun h => h2 h.2.1)]
  · rw [if_neg h1, j0 true rfl, decide_eq_false (fun h => h1 h.1)]
/-- Few: how many gates, and each with at most 20 kids. -/
def fewS (gs : List S50) (n : Int) : Bool := !decide ((gs.length : Int) > n) && decide (∀ i : Nat, i < gs.length → (rd_T50 gs (i : Int)).f2.length ≤ 20)
theorem few_l0 (gs : List S50) (hb : gs.length ≤ 1099511627776) : ∀ (d i k : Nat), gs.length = i + d → d < k → (∀ j : Nat, j < i → (rd_T50 gs (j : Int)).f2.length ≤ 20) → cleanseref16_Few.l0 k (i : Int) gs = some (decide (∀ i : Nat, i < gs.length → (rd_T50 gs (i : Int)).f2.length ≤ 20))
  | 0, i, k, hi, hk, hall => by
    obtain ⟨k, rfl⟩ : ∃ k', k = k' + 1 := ⟨k - 1, by omega⟩
    unfold cleanseref16_Few.l0
    rw [if_neg (by omega), decide_eq_true (fun j hj => hall j (by omega))]
  | d + 1, i, k, hi, hk, hall => by
    obtain ⟨k, rfl⟩ : ∃ k', k = k' + 1 := ⟨k - 1, by omega⟩
    unfold cleanseref16_Few.l0
    rw [if_pos (by omega), if_pos (by omega)]
    by_cases he : ((rd_T50 gs (i : Int)).f2.length : Int) > 20
    · rw [if_pos he, decide_eq_false (fun h => by have := h i (by omega); omega)]
    · rw [if_neg he, wrap_nat (by omega)]
      exact few_l0 gs hb d (i + 1) k (by omega) (by omega) (fun j hj => by
        by_cases e : j = i
        · subst e; omega
        · exact hall j (by omega))
theorem few_f (k : Nat) (gs : List S50) (n : Int) (hn : n ≤ 1099511627776) (hk : gs.length < k) : cleanseref16_Few.f k gs n = some (fewS gs n) := by
  unfold cleanseref16_Few.f fewS
  by_cases h : (gs.length : Int) > n
  · rw [if_pos h]; simp [h]
  · rw [if_neg h, show (0 : Int) = ((0 : Nat) : Int) from rfl, few_l0 gs (by omega) gs.length 0 k (by omega) hk (fun j hj => by omega)]
    simp [h]
end Go.Proofs.YtcafgpfecfocnaaDoor.P

/- What a sweep marks: what the roots reach. -/
namespace Go.Proofs.YtcafgpfecfocnaaDoor.P
open Go.Proofs.YtcafgpfecfocnaaDoorW.PrintWords
set_option linter.unusedVariables false
set_option linter.unusedSimpArgs false

/-- What the roots reach. -/
inductive Reach (gs : List S50) (rs : List Int) : Int → Prop
  | root (r : Int) : r ∈ rs → Reach gs rs r
  | kid (i k : Int) : Reach gs rs i → k ∈ (rd_T50 gs i).f2 → Reach gs rs k

theorem mkPut_true {mk : Int → Bool} {i j : Int} : mkPut mk i j = true ↔ j = i ∨ mk j = true := by
  unfold mkPut
  by_cases e : j = i <;> simp [e]
theorem waitPut_mem {mk : Int → Bool} {w : List Int} {i j : Int} : j ∈ waitPut mk w i ↔ j ∈ w ∨ (j = i ∧ mk i = false) := by
  unfold waitPut
  by_cases h : mk i = true
  · simp [h]
  · simp [h]
theorem pushAll_mark (l : List Int) : ∀ (s : St) (j : Int), (s.pushAll l).mark j = true ↔ s.mark j = true ∨ j ∈ l := by
  induction l with
  | nil => intro s j; simp [St.pushAll]
  | cons i l ih =>
    intro s j
    show ((s.push i).pushAll l).mark j = true ↔ _
    rw [ih]
    show (mkPut s.mark i j = true ∨ j ∈ l) ↔ _
    rw [mkPut_true]
    simp only [List.mem_cons]
    constructor
    · rintro ((h | h) | h)
      · exact .inr (.inl h)
      · exact .inl h
      · exact .inr (.inr h)
    · rintro (h | h | h)
      · exact .inl (.inr h)
      · exact .inl (.inl h)
      · exact .inr h
/-- What waits behind pushes: what waited, and what was not marked. -/
theorem pushAll_wait (l : List Int) : ∀ (s : St) (j : Int), j ∈ (s.pushAll l).wait ↔ j ∈ s.wait ∨ (j ∈ l ∧ s.mark j = false) := by
  induction l with
  | nil => intro s j; simp [St.pushAll]
  | cons i l ih =>
    intro s j
    show j ∈ ((s.push i).pushAll l).wait ↔ _
    rw [ih]
    show (j ∈ waitPut s.mark s.wait i ∨ (j ∈ l ∧ mkPut s.mark i j = false)) ↔ _
    rw [waitPut_mem]
    have hm : mkPut s.mark i j = false ↔ j ≠ i ∧ s.mark j = false := by
      unfold mkPut
      by_cases e : j = i <;> simp [e]
    rw [hm]
    simp only [List.mem_cons]
    constructor
    · rintro ((h | ⟨h, h2⟩) | ⟨h, h2, h3⟩)
      · exact .inl h
      · subst h; exact .inr ⟨.inl rfl, h2⟩
      · exact .inr ⟨.inr h, h3⟩
    · rintro (h | ⟨h | h, h2⟩)
      · exact .inl (.inl h)
      · subst h; exact .inl (.inr ⟨rfl, h2⟩)
      · by_cases e : j = i
        · subst e; exact .inl (.inr ⟨rfl, h2⟩)
        · exact .inr ⟨h, e, h2⟩

/-- The invariant of a sweep. -/
structure Inv (gs : List S50) (rs : List Int) (s : St) : Prop where
  roots : ∀ r ∈ rs, s.mark r = true
  wait : ∀ i ∈ s.wait, s.mark i = true
  closed : ∀ i, s.mark i = true → i ∈ s.wait ∨ ∀ k ∈ (rd_T50 gs i).f2, s.mark k = true
  reach : ∀ i, s.mark i = true → Reach gs rs i
theorem Inv.start (gs : List S50) (rs : List Int) : Inv gs rs (St.pushAll ⟨fun _ => false, []⟩ rs) where
  roots := fun r hr => (pushAll_mark rs _ r).2 (.inr hr)
  wait := fun i hi => by
    rcases (pushAll_wait rs _ i).1 hi with h | ⟨h, _⟩
    · simp at h
    · exact (pushAll_mark rs _ i).2 (.inr h)
  closed := fun i hi => by
    rcases (pushAll_mark rs _ i).1 hi with h | h
    · simp at h
    · exact .inl ((pushAll_wait rs _ i).2 (.inr ⟨h, rfl⟩))
  reach := fun i hi => by
    rcases (pushAll_mark rs _ i).1 hi with h | h
    · simp at h
    · exact .root i h
theorem Inv.step {gs : List S50} {rs : List Int} {s : St} (h : Inv gs rs s) : Inv gs rs (s.step gs) := by
  unfold St.step
  cases hw : s.wait with
  | nil => exact h
  | cons i r =>
    have hi : s.mark i = true := h.wait i (by rw [hw]; simp)
    show Inv gs rs (St.pushAll ⟨s.mark, r⟩ (rd_T50 gs i).f2)
    exact
    { roots := fun x hx => (pushAll_mark _ _ x).2 (.inl (h.roots x hx))
      wait := fun x hx => by
        rcases (pushAll_wait _ _ x).1 hx with h1 | ⟨h1, _⟩
        · exact (pushAll_mark _ _ x).2 (.inl (h.wait x (by rw [hw]; simp [show x ∈ r from h1])))
        · exact (pushAll_mark _ _ x).2 (.inr h1)
      closed := fun x hx => by
        rcases (pushAll_mark _ _ x).1 hx with h1 | h1
        · rcases h.closed x h1 with h2 | h2
          · rw [hw] at h2
            rcases List.mem_cons.1 h2 with h3 | h3
            · subst h3
              exact .inr fun k hk => (pushAll_mark _ _ k).2 (.inr hk)
            · exact .inl ((pushAll_wait _ _ x).2 (.inl h3))
          · exact .inr fun k hk => (pushAll_mark _ _ k).2 (.inl (h2 k hk))
        · by_cases hm : s.mark x = true
          · rcases h.closed x hm with h2 | h2
            · rw [hw] at h2
              rcases List.mem_cons.1 h2 with h3 | h3
              · subst h3
                exact .inr fun k hk => (pushAll_mark _ _ k).2 (.inr hk)
              · exact .inl ((pushAll_wait _ _ x).2 (.inl h3))
            · exact .inr fun k hk => (pushAll_mark _ _ k).2 (.inl (h2 k hk))
          · exact .inl ((pushAll_wait _ _ x).2 (.inr ⟨h1, by simpa using hm⟩))
      reach := fun x hx => by
        rcases (pushAll_mark _ _ x).1 hx with h1 | h1
        · exact h.reach x h1
        · exact .kid i x (h.reach i hi) h1 }
theorem Inv.steps {gs : List S50} {rs : List Int} : ∀ (n : Nat) {s : St}, Inv gs rs s → Inv gs rs (s.steps gs n)
  | 0, s, h => h
  | n + 1, s, h => by
    simp only [St.steps]
    split
    · exact h
    · exact Inv.steps n h.step
/-- When nothing waits, what is marked is what the roots reach. -/
theorem Inv.done {gs : List S50} {rs : List Int} {s : St} (h : Inv gs rs s) (hw : s.wait = []) (i : Int) : s.mark i = true ↔ Reach gs rs i := by
  refine ⟨h.reach i, fun hr => ?_⟩
  induction hr with
  | root r hr => exact h.roots r hr
  | kid i k _ hk ih =>
    rcases h.closed i ih with h2 | h2
    · rw [hw] at h2; simp at h2
    · exact h2 k hk
end Go.Proofs.YtcafgpfecfocnaaDoor.P

/- Names of gates are names of one gate. -/
namespace Go.Proofs.YtcafgpfecfocnaaDoor.P
set_option linter.unusedVariables false
set_option linter.unusedSimpArgs false

end Go.Proofs.YtcafgpfecfocnaaDoor.P

/- The gates that are kept: where they stand. -/
namespace Go.Proofs.YtcafgpfecfocnaaDoor.P
open Go.Proofs.YtcafgpfecfocnaaDoorW.PrintWords
set_option linter.unusedVariables false
set_option linter.unusedSimpArgs false

end Go.Proofs.YtcafgpfecfocnaaDoor.P

/- The kept circuit is valid. -/
namespace Go.Proofs.YtcafgpfecfocnaaDoor.P
open Go.Proofs.YtcafgpfecfocnaaDoorW.PrintWords
set_option linter.unusedVariables false
set_option linter.unusedSimpArgs false

theorem marks_inv {gs : List S50} {rs : List Int} (h : startS gs rs = true) : Inv gs rs ((st0 rs).steps gs gs.length) := Inv.steps _ (Inv.start gs rs)
theorem marks_iff {gs : List S50} {rs : List Int} (h : startS gs rs = true) (i : Int) : marksS gs rs i = true ↔ Reach gs rs i := by
  obtain ⟨hv, hin⟩ := start_in h
  exact (marks_inv h).done (steps_done (low_in (valid_low hv)) gs.length (st0_good hin) (st0_mu hin)) i
/-- What the roots reach are gates. -/
theorem reach_in {gs : List S50} {rs : List Int} (h : startS gs rs = true) {i : Int} (hr : Reach gs rs i) : inRange gs.length i := by
  obtain ⟨hv, hin⟩ := start_in h
  induction hr with
  | root r hr => exact hin r hr
  | kid i k _ hk ih => exact low_in (valid_low hv) _ (rd_mem50 gs i ih) k hk
end Go.Proofs.YtcafgpfecfocnaaDoor.P

/- The reference's Valid answers true where circuit.Valid does (the printed functions, plainly). -/
namespace Go.Proofs.YtcafgpfecfocnaaDoor.P
open Go.RowKit Go.Proofs.YtcafgpfecfocnaaDoorW.PrintWords
set_option linter.unusedVariables false
set_option linter.unusedSimpArgs false

/-- From some fuel on the answer is r. -/
def Ev {α : Type} (f : Nat → Option α) (r : α) : Prop := ∃ K, ∀ k, K ≤ k → f k = some r
theorem Ev.succ {α : Type} {f : Nat → Option α} {r : α} (h : Ev (fun k => f (k + 1)) r) : Ev f r := by
  obtain ⟨K, hK⟩ := h
  refine ⟨K + 1, fun k hk => ?_⟩
  obtain ⟨k, rfl⟩ : ∃ k', k = k' + 1 := ⟨k - 1, by omega⟩
  exact hK k (by omega)
end Go.Proofs.YtcafgpfecfocnaaDoor.P

/- The reference's Right and Kept (the printed functions, plainly): what the roots reach. -/
namespace Go.Proofs.YtcafgpfecfocnaaDoor.P
open Go.RowKit Go.Proofs.YtcafgpfecfocnaaDoorW.PrintWords
set_option linter.unusedVariables false
set_option linter.unusedSimpArgs false

/-- The flags, when the gates from k on are done. -/
structure KF (gs : List S50) (rs : List Int) (k : Nat) (out : List Bool) : Prop where
  len : out.length = gs.length
  roots : ∀ r ∈ rs, rdOf false out r = true
  sound : ∀ j : Int, 0 ≤ j → rdOf false out j = true → Reach gs rs j
  closed : ∀ j : Nat, k ≤ j → j < gs.length → rdOf false out (j : Int) = true → ∀ x ∈ (rd_T50 gs (j : Int)).f2, rdOf false out x = true
end Go.Proofs.YtcafgpfecfocnaaDoor.P

/- Same and Ints of a thing and itself (the printed functions, plainly); what wf a kept circuit is. -/
namespace Go.Proofs.YtcafgpfecfocnaaDoor.P
open Go.RowKit Go.Proofs.YtcafgpfecfocnaaDoorW.PrintWords
set_option linter.unusedVariables false
set_option linter.unusedSimpArgs false

theorem same_l0 {gs : List S50} (hlen : gs.length ≤ 1099511627776) (hw : ∀ g ∈ gs, g.f2.length ≤ 1099511627776) : ∀ (d i : Nat), gs.length = i + d → Ev (fun k => cleanseref16_Same.l0 k (i : Int) gs gs) true
  | 0, i, hi => by
    refine Ev.succ ⟨0, fun k _ => ?_⟩
    show cleanseref16_Same.l0 (k + 1) _ _ _ = _
    simp only [cleanseref16_Same.l0]
    rw [if_neg (by omega)]
  | d + 1, i, hi => by
    obtain ⟨K, hK⟩ := same_l0 hlen hw d (i + 1) (by omega)
    have hg := hw _ (rd_mem50 gs (i : Int) ⟨by omega, by omega⟩)
    refine Ev.succ ⟨K + (rd_T50 gs (i : Int)).f2.length + 2, fun k hk => ?_⟩
    show cleanseref16_Same.l0 (k + 1) _ _ _ = _
    simp only [cleanseref16_Same.l0]
    rw [if_pos (by omega), if_pos (by omega), if_pos (by omega), equal_f k _ _ _ _ _ _ hg (by omega), Option.bind_some, if_pos (by simp), wrap_nat (by omega)]
    exact hK k (by omega)
theorem same_f {gs : List S50} (hlen : gs.length ≤ 1099511627776) (hw : ∀ g ∈ gs, g.f2.length ≤ 1099511627776) : Ev (fun k => cleanseref16_Same.f k gs gs) true := by
  obtain ⟨K, hK⟩ := same_l0 hlen hw gs.length 0 (Nat.zero_add _).symm
  refine ⟨K, fun k hk => ?_⟩
  show cleanseref16_Same.f k gs gs = _
  unfold cleanseref16_Same.f
  rw [if_pos rfl]
  exact hK k hk
/-- Few gates are wf. -/
theorem few_wf {gs : List S50} {n : Int} (hf : fewS gs n = true) (hg : ∀ g ∈ gs, goodG g) : ∀ g ∈ gs, wfG g := by
  intro g hm
  obtain ⟨i, hi, rfl⟩ := mem_rd hm
  simp only [fewS, Bool.and_eq_true, decide_eq_true_eq] at hf
  have h1 := hf.2 i hi
  obtain ⟨a, b, c⟩ := hg _ hm
  exact ⟨a, b, c, by omega⟩
theorem plOf_in {gs : List S50} {mk : Int → Bool} {k : Int} (hlen : gs.length ≤ 1099511627776) (h0 : 0 ≤ k) (hk : k < gs.length) : 0 ≤ plOf mk k ∧ plOf mk k ≤ 1099511627776 := by
  unfold plOf
  split
  · have := cnt_le mk k.toNat
    omega
  · omega
theorem mem_resG {gs : List S50} {mk : Int → Bool} {n : Nat} {g : S50} (h : g ∈ resG gs mk n) : ∃ i, i < n ∧ mk (i : Int) = true ∧ g = movedG gs mk i := by
  induction n with
  | zero => simp [resG] at h
  | succ n ih =>
    simp only [resG, List.mem_append] at h
    rcases h with h | h
    · obtain ⟨i, h1, h2⟩ := ih h
      exact ⟨i, by omega, h2⟩
    · by_cases hm : mk (n : Int) = true
      · rw [if_pos hm] at h
        exact ⟨n, by omega, hm, by simpa using h⟩
      · rw [if_neg hm] at h; simp at h
/-- The kept circuit's numbers. -/
theorem resG_wf {gs : List S50} {mk : Int → Bool} (hv : validS gs = true) (hw : ∀ g ∈ gs, wfG g) : ∀ g ∈ resG gs mk gs.length, wfG g := by
  intro g hg
  have hlen := valid_len hv
  obtain ⟨i, hi, _, rfl⟩ := mem_resG hg
  obtain ⟨a, b, c, d⟩ := hw _ (rd_mem50 gs (i : Int) ⟨by omega, by omega⟩)
  refine ⟨a, b, fun k hk => ?_, by show ((rd_T50 gs (i : Int)).f2.map _).length ≤ _; rw [List.length_map]; exact d⟩
  obtain ⟨x, hx, rfl⟩ := List.mem_map.1 hk
  have h2 := valid_low hv i hi x hx
  have h3 := plOf_in (gs := gs) (mk := mk) (k := x) (by omega) h2.1 (by omega)
  unfold in64
  omega
theorem wf_kids {gs : List S50} (hw : ∀ g ∈ gs, wfG g) : ∀ g ∈ gs, g.f2.length ≤ 1099511627776 := fun g hg => (hw g hg).2.2.2
end Go.Proofs.YtcafgpfecfocnaaDoor.P

/- How many steps a sweep takes: each takes one gate that waits; when nothing waits, the gates taken are what the roots reach. -/
namespace Go.Proofs.YtcafgpfecfocnaaDoor.P
open Go.Proofs.YtcafgpfecfocnaaDoorW.PrintWords
set_option linter.unusedVariables false
set_option linter.unusedSimpArgs false

theorem cnt_sub {mk mk' : Int → Bool} (h : ∀ i, mk i = true → mk' i = true) : ∀ n : Nat, cnt mk n ≤ cnt mk' n
  | 0 => Nat.le_refl _
  | n + 1 => by
    have ih := cnt_sub h n
    simp only [cnt]
    by_cases hm : mk (n : Int) = true
    · rw [if_pos hm, if_pos (h _ hm)]; omega
    · rw [if_neg hm]; omega
section
variable {gs : List S50} {al : List Int} {s : St}
theorem start_push (hs : startS gs al = true) {i : Int} (hi : inRange gs.length i) : startS gs (al ++ [i]) = true := by
  obtain ⟨hv, hin⟩ := start_in hs
  simp only [startS, Bool.and_eq_true, Bool.not_eq_true']
  refine ⟨hv, ?_⟩
  rw [List.any_eq_false]
  intro x hx
  have hx2 : inRange gs.length x := by
    rcases List.mem_append.1 hx with h1 | h1
    · exact hin x h1
    · obtain rfl : x = i := by simpa using h1
      exact hi
  unfold inRange at hx2
  unfold outside
  simp
  omega
end
end Go.Proofs.YtcafgpfecfocnaaDoor.P

/- The law on steps: what holds ahead of each operation. -/
namespace Go.Proofs.YtcafgpfecfocnaaDoor.P
open Go.RowKit Go.Maps Go.Proofs.YtcafgpfecfocnaaDoorW.PrintWords Go.Proofs.YtcafgpfecfocnaaDoorW.PrintLast Go.Proofs.YtcafgpfecfocnaaDoorW.PrintMore
set_option linter.unusedVariables false
set_option linter.unusedSimpArgs false

/-- reap.Keep, what came back told as a footprint. -/
theorem keep_f (W : World) (A0 : Option Addr) (c0 : Nat) (gs : List S50) (A1 : Option Addr) (c1 n : Nat) (rs : List Int) (hn : rs.length = n) (hT : Tabs W) (hwf : ∀ g ∈ gs, wfG g) (hC : Kd.C k50 W A0 gs.length gs) (hc0 : gs.length ≤ c0) (hb : Kd.C (Kd.int .i64) W A1 rs.length rs) (hc1 : rs.length ≤ c1) (hrl : rs.length ≤ 1099511627776) (r1 : List S50) (r2 : List Int) (r3 : Int) (hk : keepS gs rs = (r1, r2, r3)) :
    Calls Tryd.prog 16 #[.agg #[.slice A0 gs.length c0], .slice A1 n c1] W fun e W' => ∃ A c A1 c1, e = .returned (.tuple #[.agg #[.slice A r1.length c], .slice A1 r2.length c1, .int .i64 r3]) ∧ r1.length ≤ c ∧ r2.length ≤ c1 ∧ Foot (fun W'' => Kd.C k50 W'' A r1.length r1 ∧ Kd.C (Kd.int .i64) W'' A1 r2.length r2) W' (fun k => W.heap.size ≤ k) ∧ Below W.heap.size W W' := by
  subst hn
  have h := keep_calls A0 c0 gs A1 c1 rs W hT hwf hC hc0 hb hc1 hrl
  rw [hk] at h
  refine h.mono ?_
  rintro e W' ⟨v0, v1, rfl, hS, hR, hB⟩
  obtain ⟨A, c, rfl⟩ := Kd.S_slice hS
  obtain ⟨A1, c1, rfl⟩ := Kd.R_slice hR
  exact ⟨A, c, A1, c1, rfl, (Kd.S_reads' hS).2.1, (Kd.R_reads' hR).2.1, Foot.and (Foot.rows (Kd.S_R hS)) (Foot.rows hR), hB⟩
/-- What holds ahead of an operation of the law on steps: al are the roots so far, s the sweep. -/
structure SS (w W : World) (gb g : Nat) (A0 : Option Addr) (c0 : Nat) (gs : List S50) (al : List Int) (s : St) (v : Value) : Prop where
  below : Below w.heap.size w W
  box : W.heap[gb]? = some (.cells #[.slice A0 gs.length c0] 24 (0, 0))
  gbge : w.heap.size ≤ gb
  row : QInts W v al
  sw : ∃ F Ag cg vr bm nm vw f, SW W F g gs al s.mark s.wait Ag cg vr bm nm vw f ∧ ¬ F gb ∧ (∀ k, F k → w.heap.size ≤ k) ∧ (∀ k, v.ownBlock = some k → ¬ F k) ∧ Kd.F k50 W (fun k => ¬ F k ∧ v.ownBlock ≠ some k) Ag gs.length gs
  rge : ∀ k, v.ownBlock = some k → w.heap.size ≤ k
  inv : Inv gs al s
  good : s.Good gs.length
  start : startS gs al = true
section
variable {w W W' : World} {gb g : Nat} {A0 : Option Addr} {c0 : Nat} {gs : List S50} {al : List Int} {s : St} {v : Value}
end
end Go.Proofs.YtcafgpfecfocnaaDoor.P

/- The walk of the law on steps. -/
namespace Go.Proofs.YtcafgpfecfocnaaDoor.P
open Go.RowKit Go.Maps Go.Proofs.YtcafgpfecfocnaaDoorW.PrintWords Go.Proofs.YtcafgpfecfocnaaDoorW.PrintLast Go.Proofs.YtcafgpfecfocnaaDoorW.PrintMore

set_option linter.unusedVariables false
set_option linter.unusedSimpArgs false

def fewB (gs : List S50) (rs : List Int) (n : Nat) : Bool := fewS gs 60 && (decide (rs.length ≤ 60) && decide (n ≤ 40))
theorem few_all (A0 : Option Addr) (c0 : Nat) (gs : List S50) (A1 : Option Addr) (c1 : Nat) (rs : List Int) (A2 : Option Addr) (c2 : Nat) (ops : List S41) (W : World) (h0 : Kd.C k50 W A0 gs.length gs) (hc0 : gs.length ≤ c0) (h1 : Kd.C (Kd.int .i64) W A1 rs.length rs) (hc1 : rs.length ≤ c1) (h2 : Kd.C k41 W A2 ops.length ops) (hc2 : ops.length ≤ c2) :
    Calls Tryd.prog 15 #[.agg #[.slice A0 gs.length c0], .slice A1 rs.length c1, .slice A2 ops.length c2] W fun e W' => e = .returned (.bool (fewB gs rs ops.length)) ∧ Below W.heap.size W W' := by
  refine cleanselaw18_few.calls (gs.length + 1) A0 c0 gs A1 c1 rs A2 c2 ops _ W h0 hc0 h1 hc1 h2 hc2 ?_
  unfold cleanselaw18_few.f fewB
  rw [few_f _ gs 60 (by omega) (by omega), Option.bind_some]
  cases fewS gs 60 with
  | false => rfl
  | true =>
    rw [if_pos rfl]
    by_cases h : rs.length ≤ 60
    · rw [if_pos (by omega)]; simp [h]; omega
    · rw [if_neg (by omega)]; simp [h]

end Go.Proofs.YtcafgpfecfocnaaDoor.P

/- Roots in another order, and further roots (plainly). -/
namespace Go.Proofs.YtcafgpfecfocnaaDoor.P
open Go.RowKit Go.Proofs.YtcafgpfecfocnaaDoorW.PrintWords
set_option linter.unusedVariables false
set_option linter.unusedSimpArgs false

section
variable {gs : List S50} {rs tl : List Int}
theorem start_of (hv : validS gs = true) (h : ∀ r ∈ tl, inRange gs.length r) : startS gs tl = true := by
  simp only [startS, Bool.and_eq_true, Bool.not_eq_true']
  refine ⟨hv, ?_⟩
  rw [List.any_eq_false]
  intro x hx
  have h2 := h x hx
  unfold inRange at h2
  unfold outside
  simp
  omega
/-- The same gates are kept where the roots are the same, or reached. -/
theorem roots_same (hs : startS gs rs = true) (h1 : ∀ r ∈ rs, r ∈ tl) (h2 : ∀ r ∈ tl, Reach gs rs r) : startS gs tl = true ∧ marksS gs tl = marksS gs rs := by
  have hst : startS gs tl = true := start_of (start_in hs).1 (fun r hr => reach_in hs (h2 r hr))
  refine ⟨hst, ?_⟩
  funext i
  rw [Bool.eq_iff_iff, marks_iff hst, marks_iff hs]
  constructor
  · intro h
    induction h with
    | root r hr => exact h2 r hr
    | kid a b _ hk ih => exact .kid a b ih hk
  · intro h
    induction h with
    | root r hr => exact .root r (h1 r hr)
    | kid a b _ hk ih => exact .kid a b ih hk
/-- A further root keeps at least as many. -/
theorem roots_more (hs : startS gs rs = true) {x : Int} (hx : inRange gs.length x) : startS gs (rs ++ [x]) = true ∧ (resG gs (marksS gs rs) gs.length).length ≤ (resG gs (marksS gs (rs ++ [x])) gs.length).length := by
  have hst := start_push hs hx
  refine ⟨hst, ?_⟩
  rw [resG_length, resG_length]
  refine cnt_sub (fun i hm => ?_) _
  rw [marks_iff hst]
  rw [marks_iff hs] at hm
  induction hm with
  | root r hr => exact .root r (List.mem_append.2 (.inl hr))
  | kid a b _ hk ih => exact .kid a b ih hk
end
/-- The rest of a small number by a length. -/
theorem rem_at {a : Int} {n : Nat} (h0 : 0 ≤ a) (h1 : a < 256) (hn : 0 < n) : ∃ q : Nat, q < n ∧ Int.tmod (wrap64 a) (n : Int) = (q : Int) := by
  have e : wrap64 a = a := by unfold wrap64; omega
  obtain ⟨b, rfl⟩ : ∃ b : Nat, a = (b : Int) := ⟨a.toNat, by omega⟩
  refine ⟨b % n, Nat.mod_lt _ hn, ?_⟩
  rw [e]
  rfl
end Go.Proofs.YtcafgpfecfocnaaDoor.P
