/- What the claim's proof needs: Sample, HeadK, HeadC, HeadW, HHeadA, Open, PureFew, PureMarks, PureName, PureRes, PureValid, PureRefV, PureKept, PureRefG, PureRefK, PureSame, PureSteps, StepsS, RefSweep, NilSweep, MatchS, StepsW. -/
import Derived.Test.YtcafgpfecfocnaaDoorRc1
import Derived.Test.YtcafgpfecfocnaaDoorRcPx3
import Derived.Deep.RegionHeld3
import Derived.ChangeSlices
import Derived.Deep.Strs
import Derived.Test.YtcafgpfecfocnaaDoorRcPx2
import Derived.Test.YtcafgpfecfocnaaDoorRcPx5
import Derived.Test.YtcafgpfecfocnaaDoorRcPx6
import Derived.Test.YtcafgpfecfocnaaDoorRcPx21
/- The example circuit of the law's head. -/
namespace Go.Proofs.YtcafgpfecfocnaaDoor.P
open Go.RowKit Go.Maps Go.Proofs.YtcafgpfecfocnaaDoorW.PrintWords Go.Proofs.YtcafgpfecfocnaaDoorW.PrintLast Go.Proofs.YtcafgpfecfocnaaDoorW.PrintMore
set_option linter.unusedVariables false
set_option linter.unusedSimpArgs false

def sampleG : List S50 := [⟨2, 0, []⟩, ⟨2, 1, []⟩, ⟨3, 0, [0, 1]⟩, ⟨4, 0, [0, 2]⟩, ⟨2, 2, []⟩]
theorem C_ints {w : World} {b t : Nat} (xs : List Int) (h : w.heap[b]? = some (.cells (xs.map (Value.int .i64)).toArray t (0, 0))) (hl : xs.length ≤ 9223372036854775807) : Kd.C (Kd.int .i64) w (some ⟨b, 0, none⟩) xs.length xs := by
  refine ⟨rfl, hl, fun _ => ⟨_, rfl, fun j p hj => ⟨[.int .i64 p], rfl, rfl, fun i u hu => ?_⟩⟩⟩
  cases i with
  | succ i => simp at hu
  | zero =>
    simp only [List.getElem?_cons_zero, Option.some.injEq] at hu
    subst hu
    have e : (⟨b, 0, none⟩ : Addr).add (j * (Kd.int .i64).sz + 0) = ⟨b, j, none⟩ := by
      show (⟨b, 0, none⟩ : Addr).add (j * 1 + 0) = ⟨b, j, none⟩
      rw [Nat.mul_one, Nat.add_zero]
      unfold Addr.add
      by_cases h0 : j = 0
      · subst h0; rfl
      · rw [if_neg h0]; simp
    rw [e, blk_cell h j]
    simp [hj]
set_option maxRecDepth 100000 in
set_option maxHeartbeats 4000000 in
theorem sample_calls (w : World) : Calls Tryd.prog 48 #[] w fun e w' => ∃ bg, e = .returned (.agg #[.slice (some ⟨bg, 0, none⟩) 5 5]) ∧ Kd.C k50 w' (some ⟨bg, 0, none⟩) 5 sampleG ∧ Below w.heap.size w w' := by
  go_enter Tryd.func48, Tryd.ntmps48
  go_wp2_with (first
    | ((with_reducible refine gate_dst (N := 0) rfl ?_); refine box_event ?hg (N := 0) ?hd (cs := #[.slice none 0 0]) (t := 24) ?hr ?_; (case hd => rfl); (case hg => rfl); (case hr => first | (go_simp; done) | (go_simp; rfl)); intro gb hg w1 hbox hb; have HB := Aside0.mk hb; have BX := Aside0.mk hbox; have GG := Aside0.mk hg; have z3 : (((w1.alloc (Obj.cells #[.int .i64 0, .int .i64 1] 3)).alloc (Obj.cells #[.int .i64 0, .int .i64 2] 3)).alloc (Obj.cells #[.int .i64 2, .int .i64 0, .slice none 0 0, .int .i64 2, .int .i64 1, .slice none 0 0, .int .i64 3, .int .i64 0, .slice (some ⟨w1.heap.size, 0, none⟩) 2 2, .int .i64 4, .int .i64 0, .slice (some ⟨w1.heap.size + 1, 0, none⟩) 2 2, .int .i64 2, .int .i64 2, .slice none 0 0] 50)).frozen? ⟨gb, 0, none⟩ = false := blk_frozen (blk_alloc (blk_alloc (blk_alloc hbox _) _) _) 0; have q3 : (((w1.alloc (Obj.cells #[.int .i64 0, .int .i64 1] 3)).alloc (Obj.cells #[.int .i64 0, .int .i64 2] 3)).alloc (Obj.cells #[.int .i64 2, .int .i64 0, .slice none 0 0, .int .i64 2, .int .i64 1, .slice none 0 0, .int .i64 3, .int .i64 0, .slice (some ⟨w1.heap.size, 0, none⟩) 2 2, .int .i64 4, .int .i64 0, .slice (some ⟨w1.heap.size + 1, 0, none⟩) 2 2, .int .i64 2, .int .i64 2, .slice none 0 0] 50)).cell? ⟨gb, 0, none⟩ = some (.slice none 0 0) := (blk_cell (blk_alloc (blk_alloc (blk_alloc hbox _) _) _) 0).trans rfl; clear hg hbox hb))
  have n1 := heap_alloc_new w1 (Obj.cells #[.int .i64 0, .int .i64 1] 3)
  have n2 := heap_alloc_new (w1.alloc (Obj.cells #[.int .i64 0, .int .i64 1] 3)) (Obj.cells #[.int .i64 0, .int .i64 2] 3)
  have n3 := heap_alloc_new ((w1.alloc (Obj.cells #[.int .i64 0, .int .i64 1] 3)).alloc (Obj.cells #[.int .i64 0, .int .i64 2] 3)) (Obj.cells #[.int .i64 2, .int .i64 0, .slice none 0 0, .int .i64 2, .int .i64 1, .slice none 0 0, .int .i64 3, .int .i64 0, .slice (some ⟨w1.heap.size, 0, none⟩) 2 2, .int .i64 4, .int .i64 0, .slice (some ⟨w1.heap.size + 1, 0, none⟩) 2 2, .int .i64 2, .int .i64 2, .slice none 0 0] 50)
  have B3 : Below w.heap.size w (((w1.alloc (Obj.cells #[.int .i64 0, .int .i64 1] 3)).alloc (Obj.cells #[.int .i64 0, .int .i64 2] 3)).alloc (Obj.cells #[.int .i64 2, .int .i64 0, .slice none 0 0, .int .i64 2, .int .i64 1, .slice none 0 0, .int .i64 3, .int .i64 0, .slice (some ⟨w1.heap.size, 0, none⟩) 2 2, .int .i64 4, .int .i64 0, .slice (some ⟨w1.heap.size + 1, 0, none⟩) 2 2, .int .i64 2, .int .i64 2, .slice none 0 0] 50)) := below_alloc (below_alloc (below_alloc HB.out _) _) _
  have B3' := B3.setCell (p := ⟨gb, 0, none⟩) (by rw [GG.out]; exact Nat.le_refl _) (.slice (some ⟨w1.heap.size + 1 + 1, 0, none⟩) 5 5)
  have BX3 := blk_alloc (blk_alloc (blk_alloc BX.out (Obj.cells #[.int .i64 0, .int .i64 1] 3)) (Obj.cells #[.int .i64 0, .int .i64 2] 3)) (Obj.cells #[.int .i64 2, .int .i64 0, .slice none 0 0, .int .i64 2, .int .i64 1, .slice none 0 0, .int .i64 3, .int .i64 0, .slice (some ⟨w1.heap.size, 0, none⟩) 2 2, .int .i64 4, .int .i64 0, .slice (some ⟨w1.heap.size + 1, 0, none⟩) 2 2, .int .i64 2, .int .i64 2, .slice none 0 0] 50)
  have hgb : gb < w1.heap.size := blk_lt BX.out
  have m1 := blk_alloc (blk_alloc n1 (Obj.cells #[.int .i64 0, .int .i64 2] 3)) (Obj.cells #[.int .i64 2, .int .i64 0, .slice none 0 0, .int .i64 2, .int .i64 1, .slice none 0 0, .int .i64 3, .int .i64 0, .slice (some ⟨w1.heap.size, 0, none⟩) 2 2, .int .i64 4, .int .i64 0, .slice (some ⟨w1.heap.size + 1, 0, none⟩) 2 2, .int .i64 2, .int .i64 2, .slice none 0 0] 50)
  have m2 := blk_alloc n2 (Obj.cells #[.int .i64 2, .int .i64 0, .slice none 0 0, .int .i64 2, .int .i64 1, .slice none 0 0, .int .i64 3, .int .i64 0, .slice (some ⟨w1.heap.size, 0, none⟩) 2 2, .int .i64 4, .int .i64 0, .slice (some ⟨w1.heap.size + 1, 0, none⟩) 2 2, .int .i64 2, .int .i64 2, .slice none 0 0] 50)
  rw [World.size_alloc] at m2
  rw [World.size_alloc, World.size_alloc] at n3
  have s1 : ((((w1.alloc (Obj.cells #[.int .i64 0, .int .i64 1] 3)).alloc (Obj.cells #[.int .i64 0, .int .i64 2] 3)).alloc (Obj.cells #[.int .i64 2, .int .i64 0, .slice none 0 0, .int .i64 2, .int .i64 1, .slice none 0 0, .int .i64 3, .int .i64 0, .slice (some ⟨w1.heap.size, 0, none⟩) 2 2, .int .i64 4, .int .i64 0, .slice (some ⟨w1.heap.size + 1, 0, none⟩) 2 2, .int .i64 2, .int .i64 2, .slice none 0 0] 50)).setCell ⟨gb, 0, none⟩ (.slice (some ⟨w1.heap.size + 1 + 1, 0, none⟩) 5 5)).heap[w1.heap.size]? = some (.cells #[.int .i64 0, .int .i64 1] 3 (0, 0)) := (Below.heap_setCell _ ⟨gb, 0, none⟩ _ _ (by show w1.heap.size ≠ gb; omega)).trans m1
  have s2 : ((((w1.alloc (Obj.cells #[.int .i64 0, .int .i64 1] 3)).alloc (Obj.cells #[.int .i64 0, .int .i64 2] 3)).alloc (Obj.cells #[.int .i64 2, .int .i64 0, .slice none 0 0, .int .i64 2, .int .i64 1, .slice none 0 0, .int .i64 3, .int .i64 0, .slice (some ⟨w1.heap.size, 0, none⟩) 2 2, .int .i64 4, .int .i64 0, .slice (some ⟨w1.heap.size + 1, 0, none⟩) 2 2, .int .i64 2, .int .i64 2, .slice none 0 0] 50)).setCell ⟨gb, 0, none⟩ (.slice (some ⟨w1.heap.size + 1 + 1, 0, none⟩) 5 5)).heap[w1.heap.size + 1]? = some (.cells #[.int .i64 0, .int .i64 2] 3 (0, 0)) := (Below.heap_setCell _ ⟨gb, 0, none⟩ _ _ (by show w1.heap.size + 1 ≠ gb; omega)).trans m2
  have s3 : ((((w1.alloc (Obj.cells #[.int .i64 0, .int .i64 1] 3)).alloc (Obj.cells #[.int .i64 0, .int .i64 2] 3)).alloc (Obj.cells #[.int .i64 2, .int .i64 0, .slice none 0 0, .int .i64 2, .int .i64 1, .slice none 0 0, .int .i64 3, .int .i64 0, .slice (some ⟨w1.heap.size, 0, none⟩) 2 2, .int .i64 4, .int .i64 0, .slice (some ⟨w1.heap.size + 1, 0, none⟩) 2 2, .int .i64 2, .int .i64 2, .slice none 0 0] 50)).setCell ⟨gb, 0, none⟩ (.slice (some ⟨w1.heap.size + 1 + 1, 0, none⟩) 5 5)).heap[w1.heap.size + 1 + 1]? = some (.cells #[.int .i64 2, .int .i64 0, .slice none 0 0, .int .i64 2, .int .i64 1, .slice none 0 0, .int .i64 3, .int .i64 0, .slice (some ⟨w1.heap.size, 0, none⟩) 2 2, .int .i64 4, .int .i64 0, .slice (some ⟨w1.heap.size + 1, 0, none⟩) 2 2, .int .i64 2, .int .i64 2, .slice none 0 0] 50 (0, 0)) := (Below.heap_setCell _ ⟨gb, 0, none⟩ _ _ (by show w1.heap.size + 1 + 1 ≠ gb; omega)).trans n3
  refine bodyPost_ret (results_cell_row rfl _ _ gb 24 #[.slice (some ⟨w1.heap.size + 1 + 1, 0, none⟩) 5 5] (0, 0) _ rfl (blk_put (cs := #[.slice none 0 0]) BX3 0 _ rfl) Tryd.underlying24 rfl (by kernel_rfl)) rfl ?_
  generalize ((((w1.alloc (Obj.cells #[.int .i64 0, .int .i64 1] 3)).alloc (Obj.cells #[.int .i64 0, .int .i64 2] 3)).alloc (Obj.cells #[.int .i64 2, .int .i64 0, .slice none 0 0, .int .i64 2, .int .i64 1, .slice none 0 0, .int .i64 3, .int .i64 0, .slice (some ⟨w1.heap.size, 0, none⟩) 2 2, .int .i64 4, .int .i64 0, .slice (some ⟨w1.heap.size + 1, 0, none⟩) 2 2, .int .i64 2, .int .i64 2, .slice none 0 0] 50)).setCell ⟨gb, 0, none⟩ (.slice (some ⟨w1.heap.size + 1 + 1, 0, none⟩) 5 5)) = W9 at *
  refine ⟨_, rfl, ?_, B3'⟩
  have k1 := C_ints [0, 1] s1 (by decide)
  have k2 := C_ints [0, 2] s2 (by decide)
  have row : ∀ j p, sampleG[j]? = some p → ∃ c : List Value, c.length = 3 ∧ k50.K W9 p c ∧ ∀ i u, c[i]? = some u → W9.cell? ⟨w1.heap.size + 1 + 1, j * 3 + i, none⟩ = some u := by
    intro j p hj
    have nil : Kd.C (Kd.int .i64) W9 none ([] : List Int).length [] := Kd.C_nil _ _
    match j with
    | 0 => cases hj; exact ⟨_, rfl, k50_mk W9 ⟨2, 0, []⟩ (A2 := none) (c2 := 0) (Nat.zero_le _) nil, fun i u hu => by rw [blk_cell s3]; match i with | 0 => exact hu | 1 => exact hu | 2 => exact hu | i + 3 => simp at hu⟩
    | 1 => cases hj; exact ⟨_, rfl, k50_mk W9 ⟨2, 1, []⟩ (A2 := none) (c2 := 0) (Nat.zero_le _) nil, fun i u hu => by rw [blk_cell s3]; match i with | 0 => exact hu | 1 => exact hu | 2 => exact hu | i + 3 => simp at hu⟩
    | 2 => cases hj; exact ⟨_, rfl, k50_mk W9 ⟨3, 0, [0, 1]⟩ (c2 := 2) (Nat.le_refl _) k1, fun i u hu => by rw [blk_cell s3]; match i with | 0 => exact hu | 1 => exact hu | 2 => exact hu | i + 3 => simp at hu⟩
    | 3 => cases hj; exact ⟨_, rfl, k50_mk W9 ⟨4, 0, [0, 2]⟩ (c2 := 2) (Nat.le_refl _) k2, fun i u hu => by rw [blk_cell s3]; match i with | 0 => exact hu | 1 => exact hu | 2 => exact hu | i + 3 => simp at hu⟩
    | 4 => cases hj; exact ⟨_, rfl, k50_mk W9 ⟨2, 2, []⟩ (A2 := none) (c2 := 0) (Nat.zero_le _) nil, fun i u hu => by rw [blk_cell s3]; match i with | 0 => exact hu | 1 => exact hu | 2 => exact hu | i + 3 => simp at hu⟩
    | j + 5 => simp [sampleG] at hj
  refine ⟨rfl, by decide, fun _ => ⟨_, rfl, fun j p hj => ?_⟩⟩
  obtain ⟨c, h1, h2, h3⟩ := row j p hj
  refine ⟨c, h1, h2, fun i u hu => ?_⟩
  have e : (⟨w1.heap.size + 1 + 1, 0, none⟩ : Addr).add (j * k50.sz + i) = ⟨w1.heap.size + 1 + 1, j * 3 + i, none⟩ := by
    show (⟨w1.heap.size + 1 + 1, 0, none⟩ : Addr).add (j * 3 + i) = _
    unfold Addr.add
    by_cases h0 : j * 3 + i = 0
    · rw [if_pos h0, h0]
    · rw [if_neg h0]; simp
  rw [e]
  exact h3 i u hu
end Go.Proofs.YtcafgpfecfocnaaDoor.P

/- What the law's head calls, at the example. -/
namespace Go.Proofs.YtcafgpfecfocnaaDoor.P
open Go.RowKit Go.Maps Go.Proofs.YtcafgpfecfocnaaDoorW.PrintWords Go.Proofs.YtcafgpfecfocnaaDoorW.PrintLast Go.Proofs.YtcafgpfecfocnaaDoorW.PrintMore
set_option linter.unusedVariables false
set_option linter.unusedSimpArgs false

section
variable {P Q : World → Prop} {W W1 : World} {F F' : Nat → Prop}
theorem Foot.and (h : Foot P W F) (k : Foot Q W F) : Foot (fun W => P W ∧ Q W) W F := fun W' hW => ⟨h W' hW, k W' hW⟩
theorem Foot.below {ok : Nat → Prop} (h : Foot P W ok) (hb : Below W.heap.size W W1) : Foot P W1 ok := h.step (fun k _ hlt => hb.block k hlt)
/-- What lies outside of F stays, where F is turned; new blocks may become F's. -/
theorem Foot.upd (h : Foot P W (fun k => ¬ F k)) (hu : Upd F W W1) (hF : ∀ k, F' k → F k ∨ W.heap.size ≤ k) : Foot P W1 (fun k => ¬ F' k) :=
  Foot.mono (Foot.step (Foot.bound h) (fun k hk hlt => hu.block k hlt hk.1)) (fun k hk hf => by
    rcases hF k hf with h1 | h1
    · exact hk.1 h1
    · have := hk.2; omega)
theorem Foot.blk {b : Nat} {o : Obj} {ok : Nat → Prop} (h : W.heap[b]? = some o) (hok : ok b) : Foot (fun W' => W'.heap[b]? = some o) W ok := fun W' hW => (hW b hok (blk_lt h)).trans h
theorem Foot.rows {α : Type} {d : Kd α} {e base n c : Nat} {ok : Nat → Prop} {A : Option Addr} {xs : List α} (h : d.R e W base ok (.slice A n c) xs) : Foot (fun W' => d.C W' A xs.length xs) W (fun k => base ≤ k) :=
  fun W' hW => (Kd.R_reads' (Kd.R_step (Kd.R_bound h) (fun k hk hlt => hW k hk.2.1 hlt))).2.2
end

theorem sample_wf : ∀ g ∈ sampleG, wfG g := by
  intro g hg
  simp only [sampleG, List.mem_cons, List.not_mem_nil, or_false] at hg
  rcases hg with rfl | rfl | rfl | rfl | rfl <;> refine ⟨by unfold in64; decide, by unfold in64; decide, ?_, by decide⟩ <;> intro k hk <;> simp at hk <;> first | (rcases hk with rfl | rfl <;> unfold in64 <;> decide) | skip

/-- reap.Keep at the example. -/
theorem keep_sample (W : World) (bs b : Nat) (rs : List Int) (n : Nat) (hn : rs.length = n) (hn5 : n ≤ 5) (hT : Tabs W) (hC : Kd.C k50 W (some ⟨bs, 0, none⟩) 5 sampleG) (hb : Kd.C (Kd.int .i64) W (some ⟨b, 0, none⟩) rs.length rs) (r1 : List S50) (r2 : List Int) (r3 : Int) (n1 n2 : Nat) (h1 : r1.length = n1) (h2 : r2.length = n2) (hk : keepS sampleG rs = (r1, r2, r3)) :
    Calls Tryd.prog 16 #[.agg #[.slice (some ⟨bs, 0, none⟩) 5 5], .slice (some ⟨b, 0, none⟩) n n] W fun e W' => ∃ A c A1 c1, e = .returned (.tuple #[.agg #[.slice A n1 c], .slice A1 n2 c1, .int .i64 r3]) ∧ n1 ≤ c ∧ n2 ≤ c1 ∧ Foot (fun W'' => Kd.C k50 W'' A r1.length r1 ∧ Kd.C (Kd.int .i64) W'' A1 r2.length r2) W' (fun k => W.heap.size ≤ k) ∧ Below W.heap.size W W' := by
  subst hn
  subst h1
  subst h2
  have h := keep_calls (some ⟨bs, 0, none⟩) 5 sampleG (some ⟨b, 0, none⟩) rs.length rs W hT sample_wf hC (by decide) hb (Nat.le_refl _) (by omega)
  rw [hk] at h
  refine h.mono ?_
  rintro e W' ⟨v0, v1, rfl, hS, hR, hB⟩
  obtain ⟨A, c, rfl⟩ := Kd.S_slice hS
  obtain ⟨A1, c1, rfl⟩ := Kd.R_slice hR
  exact ⟨A, c, A1, c1, rfl, (Kd.S_reads' hS).2.1, (Kd.R_reads' hR).2.1, Foot.and (Foot.rows (Kd.S_R hS)) (Foot.rows hR), hB⟩

theorem sample_low : kidsLow sampleG := valid_low (by kernel_rfl)
theorem sample_ks : ∀ g ∈ sampleG, g.f2.length ≤ 1099511627776 := fun g hg => (sample_wf g hg).2.2.2

/-- Result when nothing waits, at the example. -/
theorem result_sample {W : World} {F : Nat → Prop} {g : Nat} {roots : List Int} {mk : Int → Bool} {wait : List Int} {Ag : Option Addr} {cg : Nat} {vr : Value} {bm nm : Nat} {vw : Value} {f : Lit → Option (DataW Unit)}
    (h : SW W F g sampleG roots mk wait Ag cg vr bm nm vw f) (hw : wait = []) (hr : ∀ r ∈ roots, inRange 5 r) (hrl : roots.length ≤ 5) (r1 : List S50) (r2 : List Int) (n1 n2 : Nat) (h1 : r1.length = n1) (h2 : r2.length = n2) (hk1 : resG sampleG mk 5 = r1) (hk2 : roots.map (plOf mk) = r2) :
    Calls Tryd.prog 26 #[.pointer (some ⟨g, 0, none⟩)] W fun e W' => ∃ A c A1 c1, e = .returned (.tuple #[.agg #[.slice A n1 c], .slice A1 n2 c1, .int .i64 0]) ∧ n1 ≤ c ∧ n2 ≤ c1 ∧ Foot (fun W'' => Kd.C k50 W'' A r1.length r1 ∧ Kd.C (Kd.int .i64) W'' A1 r2.length r2) W' (fun k => W.heap.size ≤ k) ∧ Below W.heap.size W W' := by
  subst hw
  subst h1
  subst h2
  have hx := result_calls h sample_low sample_ks (by decide) hr (by omega)
  refine hx.mono ?_
  rintro e W' ⟨v0, v1, rfl, hS, hR, hB⟩
  have hk1' : resG sampleG mk sampleG.length = r1 := hk1
  rw [hk1'] at hS
  rw [hk2] at hR
  obtain ⟨A, c, rfl⟩ := Kd.S_slice hS
  obtain ⟨A1, c1, rfl⟩ := Kd.R_slice hR
  exact ⟨A, c, A1, c1, rfl, (Kd.S_reads' hS).2.1, (Kd.R_reads' hR).2.1, Foot.and (Foot.rows (Kd.S_R hS)) (Foot.rows hR), hB⟩

/-! The states of the example's sweep. -/
def hs0 : St := st0 [3]
def hs1 : St := hs0.steps sampleG 3
def hs2 : St := hs1.steps sampleG 1
def hs3 : St := hs2.push 4
def hs4 : St := hs3.steps sampleG 0
def hs5 : St := hs4.steps sampleG 1
theorem hs0_wait : hs0.wait = [3] := by kernel_rfl
theorem hs1_wait : hs1.wait = [1] := by kernel_rfl
theorem hs2_wait : hs2.wait = [] := by kernel_rfl
theorem hs4_wait : hs4.wait = [4] := by kernel_rfl
theorem hs5_wait : hs5.wait = [] := by kernel_rfl
theorem hs2_res : resG sampleG hs2.mark 5 = [⟨2, 0, []⟩, ⟨2, 1, []⟩, ⟨3, 0, [0, 1]⟩, ⟨4, 0, [0, 2]⟩] := by kernel_rfl
theorem hs2_pl : ([3] : List Int).map (plOf hs2.mark) = [3] := by kernel_rfl
theorem hs5_res : resG sampleG hs5.mark 5 = sampleG := by kernel_rfl
theorem hs5_pl : ([3, 4] : List Int).map (plOf hs5.mark) = [3, 4] := by kernel_rfl
theorem steps_good {gs : List S50} (hk : kidsIn gs) : ∀ (n : Nat) {s : St}, s.Good gs.length → (s.steps gs n).Good gs.length
  | 0, s, hs => hs
  | n + 1, s, hs => by
    simp only [St.steps]
    split
    · exact hs
    · exact steps_good hk n (hs.step hk)
theorem sample_in : kidsIn sampleG := low_in sample_low
theorem hs0_good : hs0.Good sampleG.length := st0_good (fun r hr => by simp only [List.mem_singleton] at hr; subst hr; unfold inRange; decide)
theorem hs1_good : hs1.Good sampleG.length := steps_good sample_in 3 hs0_good
theorem hs2_good : hs2.Good sampleG.length := steps_good sample_in 1 hs1_good
theorem hs3_good : hs3.Good sampleG.length := hs2_good.push (i := 4) (by unfold inRange; decide)
theorem hs4_good : hs4.Good sampleG.length := steps_good sample_in 0 hs3_good
theorem start_h : startS sampleG [3] = true := by kernel_rfl
theorem step_h {W : World} {F : Nat → Prop} {g : Nat} {roots : List Int} {s : St} {Ag : Option Addr} {cg : Nat} {vr : Value} {bm nm : Nat} {vw : Value} {f : Lit → Option (DataW Unit)}
    (h : SW W F g sampleG roots s.mark s.wait Ag cg vr bm nm vw f) (hs : s.Good sampleG.length) (n : Int) (hn : in64 n) (s' : St) (he : s.steps sampleG n.toNat = s') (l : List Int) (hl : s'.wait = l) (b : Bool) (hb : decide (l = []) = b) :
    Calls Tryd.prog 24 #[.pointer (some ⟨g, 0, none⟩), .int .i64 n] W fun e W' => e = .returned (.bool b) ∧ After W F g sampleG roots s'.mark s'.wait Ag cg vr bm W' := by
  have h1 := step_calls h hs sample_in sample_ks (by decide) n hn
  subst he
  subst hb
  subst hl
  exact h1
theorem add_h {W : World} {F : Nat → Prop} {g : Nat} {Ag : Option Addr} {cg : Nat} {vr : Value} {bm nm : Nat} {vw : Value} {f : Lit → Option (DataW Unit)}
    (h : SW W F g sampleG [3] hs2.mark hs2.wait Ag cg vr bm nm vw f) :
    Calls Tryd.prog 22 #[.pointer (some ⟨g, 0, none⟩), .int .i64 4] W fun e W' => e = .returned (.int .i64 0) ∧ ∃ F' vr' nm' vw' f', SW W' F' g sampleG [3, 4] hs3.mark hs3.wait Ag cg vr' bm nm' vw' f' ∧ (∀ k, F' k → F k ∨ W.heap.size ≤ k) ∧ Upd F W W' :=
  add_calls h 4 (by unfold inRange; decide) (by decide) (by rw [hs2_wait]; decide) (by decide)
theorem start_sample (W : World) (bs b : Nat) (hT : Tabs W) (hC : Kd.C k50 W (some ⟨bs, 0, none⟩) 5 sampleG) (hb : Kd.C (Kd.int .i64) W (some ⟨b, 0, none⟩) ([3] : List Int).length [3]) :
    Calls Tryd.prog 18 #[.agg #[.slice (some ⟨bs, 0, none⟩) 5 5], .slice (some ⟨b, 0, none⟩) 1 1] W fun e W' => Below W.heap.size W W' ∧ ∃ g F nm vw f Ag cg vr bm, e = .returned (.tuple #[.pointer (some ⟨g, 0, none⟩), .int .i64 0]) ∧ SW W' F g sampleG [3] hs0.mark hs0.wait Ag cg vr bm nm vw f ∧ ∀ k, F k → W.heap.size ≤ k := by
  have h := start_calls (some ⟨bs, 0, none⟩) 5 sampleG (some ⟨b, 0, none⟩) 1 [3] W hT sample_wf hC (by decide) hb (by decide) (by decide)
  refine h.mono ?_
  rintro e W' ⟨hB, _, ht⟩
  exact ⟨hB, ht start_h⟩
end Go.Proofs.YtcafgpfecfocnaaDoor.P

/- The comparisons of the law's head. -/
namespace Go.Proofs.YtcafgpfecfocnaaDoor.P
open Go.RowKit Go.Maps Go.Proofs.YtcafgpfecfocnaaDoorW.PrintWords Go.Proofs.YtcafgpfecfocnaaDoorW.PrintLast Go.Proofs.YtcafgpfecfocnaaDoorW.PrintMore
set_option linter.unusedVariables false
set_option linter.unusedSimpArgs false

theorem same_h {W : World} (l : List S50) (n : Nat) (hn : l.length = n) {A B : Option Addr} {ca cb : Nat} (hA : Kd.C k50 W A l.length l) (hB : Kd.C k50 W B l.length l) (h1 : n ≤ ca) (h2 : n ≤ cb) (k : Nat) (hf : cleanseref16_Same.f k l l = some true) :
    Calls Tryd.prog 20 #[.agg #[.slice A n ca], .agg #[.slice B n cb]] W fun e W' => e = .returned (.bool true) ∧ Below W.heap.size W W' := by
  subst hn
  exact cleanseref16_Same.calls k A ca l B cb l true W hA h1 hB h2 hf
theorem ints_h {W : World} (l : List Int) (n : Nat) (hn : l.length = n) {A B : Option Addr} {ca cb : Nat} (hA : Kd.C (Kd.int .i64) W A l.length l) (hB : Kd.C (Kd.int .i64) W B l.length l) (h1 : n ≤ ca) (h2 : n ≤ cb) (k : Nat) (hf : cleanseref06_Ints.f k l l = some true) :
    Calls Tryd.prog 21 #[.slice A n ca, .slice B n cb] W fun e W' => e = .returned (.bool true) ∧ Drawn0 W W' := by
  subst hn
  exact cleanseref06_Ints.calls k A ca l B cb l true W hA h1 hB h2 hf
theorem same3 : cleanseref16_Same.f 100 [⟨2, 0, []⟩, ⟨2, 1, []⟩, ⟨3, 0, [0, 1]⟩] [⟨2, 0, []⟩, ⟨2, 1, []⟩, ⟨3, 0, [0, 1]⟩] = some true := by kernel_rfl
theorem same2 : cleanseref16_Same.f 100 [⟨2, 0, []⟩, ⟨2, 2, []⟩] [⟨2, 0, []⟩, ⟨2, 2, []⟩] = some true := by kernel_rfl
theorem same4 : cleanseref16_Same.f 100 [⟨2, 0, []⟩, ⟨2, 1, []⟩, ⟨3, 0, [0, 1]⟩, ⟨4, 0, [0, 2]⟩] [⟨2, 0, []⟩, ⟨2, 1, []⟩, ⟨3, 0, [0, 1]⟩, ⟨4, 0, [0, 2]⟩] = some true := by kernel_rfl
theorem ints1 : cleanseref06_Ints.f 100 [2] [2] = some true := by kernel_rfl
theorem ints2 : cleanseref06_Ints.f 100 [1, 0] [1, 0] = some true := by kernel_rfl
theorem ints3 : cleanseref06_Ints.f 100 [3] [3] = some true := by kernel_rfl
theorem ints4 : cleanseref06_Ints.f 100 [3, 4] [3, 4] = some true := by kernel_rfl
/-- Two gates without kids in a row of their own. -/
theorem two_gates {W : World} {b : Nat} {A0 A4 : Option Addr} {c0 c4 : Nat} (h : W.heap[b]? = some (.cells #[.int .i64 2, .int .i64 0, .slice A0 0 c0, .int .i64 2, .int .i64 2, .slice A4 0 c4] 50 (0, 0))) : Kd.C k50 W (some ⟨b, 0, none⟩) 2 [⟨2, 0, []⟩, ⟨2, 2, []⟩] := by
  have nil : ∀ A, Kd.C (Kd.int .i64) W A ([] : List Int).length [] := fun A => ⟨rfl, by decide, fun h => absurd h (by decide)⟩
  have row : ∀ j p, ([⟨2, 0, []⟩, ⟨2, 2, []⟩] : List S50)[j]? = some p → ∃ c : List Value, c.length = 3 ∧ k50.K W p c ∧ ∀ i u, c[i]? = some u → W.cell? ⟨b, j * 3 + i, none⟩ = some u := by
    intro j p hj
    match j with
    | 0 => cases hj; exact ⟨_, rfl, k50_mk W ⟨2, 0, []⟩ (A2 := A0) (c2 := c0) (Nat.zero_le _) (nil _), fun i u hu => by rw [blk_cell h]; match i with | 0 => exact hu | 1 => exact hu | 2 => exact hu | i + 3 => simp at hu⟩
    | 1 => cases hj; exact ⟨_, rfl, k50_mk W ⟨2, 2, []⟩ (A2 := A4) (c2 := c4) (Nat.zero_le _) (nil _), fun i u hu => by rw [blk_cell h]; match i with | 0 => exact hu | 1 => exact hu | 2 => exact hu | i + 3 => simp at hu⟩
    | j + 2 => simp at hj
  refine ⟨rfl, by decide, fun _ => ⟨_, rfl, fun j p hj => ?_⟩⟩
  obtain ⟨c, h1, h2, h3⟩ := row j p hj
  refine ⟨c, h1, h2, fun i u hu => ?_⟩
  have e : (⟨b, 0, none⟩ : Addr).add (j * k50.sz + i) = ⟨b, j * 3 + i, none⟩ := by
    show (⟨b, 0, none⟩ : Addr).add (j * 3 + i) = _
    unfold Addr.add
    by_cases h0 : j * 3 + i = 0
    · rw [if_pos h0, h0]
    · rw [if_neg h0]; simp
  rw [e]
  exact h3 i u hu
/-- A sample's gate, cell by cell. -/
theorem sample_gate {W : World} {bs : Nat} (h : Kd.C k50 W (some ⟨bs, 0, none⟩) 5 sampleG) (i : Nat) (hi : i < 5) (g : S50) (hg : rd_T50 sampleG (i : Int) = g) : ∃ A c, W.cell? ⟨bs, i * 3, none⟩ = some (.int .i64 g.f0) ∧ W.cell? ⟨bs, i * 3 + 1, none⟩ = some (.int .i64 g.f1) ∧ W.cell? ⟨bs, i * 3 + 2, none⟩ = some (.slice A g.f2.length c) := by
  obtain ⟨ad, A2, c2, e, x0, x1, x2, _, _⟩ := at_T50 h (i : Int) (by omega) (by omega)
  cases e
  rw [Int.toNat_natCast] at x0 x1 x2
  rw [hg] at x0 x1 x2
  have ea : (⟨bs, 0, none⟩ : Addr).add (i * 3) = ⟨bs, i * 3, none⟩ := by
    unfold Addr.add
    by_cases h0 : i * 3 = 0
    · rw [if_pos h0, h0]
    · rw [if_neg h0]; simp
  rw [ea] at x0 x1 x2
  exact ⟨A2, c2, x0, x1, x2⟩
end Go.Proofs.YtcafgpfecfocnaaDoor.P

/- The walk of the law's head. Printed by gen_head.py. -/
namespace Go.Proofs.YtcafgpfecfocnaaDoor.P
open Go.RowKit Go.Maps Go.Proofs.YtcafgpfecfocnaaDoorW.PrintWords Go.Proofs.YtcafgpfecfocnaaDoorW.PrintLast Go.Proofs.YtcafgpfecfocnaaDoorW.PrintMore
set_option linter.unusedVariables false
set_option linter.unusedSimpArgs false

theorem Foot.ofC {α : Type} {d : Kd α} {W : World} {A : Option Addr} {n : Nat} {xs : List α} (hd : Kd.Heap d) (h : d.C W A n xs) : Foot (fun W' => d.C W' A n xs) W (fun _ => True) := fun W' hW =>
  ⟨h.1, h.2.1, fun hn => by
    obtain ⟨ad, e, hc⟩ := h.2.2 hn
    refine ⟨ad, e, fun j p hj => ?_⟩
    obtain ⟨c, hs, hr, hcell⟩ := hc j p hj
    exact ⟨c, hs, hd.K (fun k hk => hW k trivial hk) hr, fun i u hu => Kd.cell_heap (fun k hk => hW k trivial hk) (hcell i u hu)⟩⟩
theorem keep32_h : keepS sampleG [2] = ([⟨2, 0, []⟩, ⟨2, 1, []⟩, ⟨3, 0, [0, 1]⟩], [2], 0) := by kernel_rfl
theorem keep39_h : keepS sampleG [4, 0] = ([⟨2, 0, []⟩, ⟨2, 2, []⟩], [1, 0], 0) := by kernel_rfl
theorem keep46_h : keepS sampleG [5] = ([], [], 1) := by kernel_rfl

set_option maxRecDepth 100000 in
set_option maxHeartbeats 16000000 in
theorem head_walk (w : World) (hT : Tabs w) : Calls Tryd.prog 14 #[] w fun e w' => e = .returned (.bool true) ∧ Below w.heap.size w w' := by
  have HT := Aside0.mk (fun (W : World) (hb : Below w.heap.size w W) => hT.below hb)
  have IN3 := Aside0.mk (show ∀ r ∈ ([3] : List Int), inRange 5 r from fun r hr => by simp only [List.mem_singleton] at hr; subst hr; unfold inRange; decide)
  have IN34 := Aside0.mk (show ∀ r ∈ ([3, 4] : List Int), inRange 5 r from fun r hr => by simp only [List.mem_cons, List.not_mem_nil, or_false] at hr; rcases hr with rfl | rfl <;> unfold inRange <;> decide)
  clear hT
  go_enter Tryd.func14, Tryd.ntmps14
  go_wp2_with (first
    | (go_at_call 48; have hk_ := sample_calls w; (with_reducible refine hk_.mono ?_); rintro e w1 ⟨bs, rfl, hC, hb⟩; have D1 := Aside0.mk hb; have FT1 := Aside0.mk (Foot.ofC k50_heap hC); clear hC hb)
    | ((with_reducible refine gate_dst (N := 1) rfl ?_); refine box_event ?bg1 (N := 1) ?bd1 (cs := #[.slice none 0 0]) (t := 24) ?br1 ?_; (case bd1 => rfl); (case bg1 => rfl); (case br1 => first | (go_simp; done) | (go_simp; rfl)); intro b1 hg w2 hbox hb; have AL1 := Aside0.mk hb; have BX1 := Aside0.mk hbox; have G1 := Aside0.mk hg; have z1 := blk_frozen hbox 0; have q1 : w2.cell? ⟨b1, 0, none⟩ = some (.slice none 0 0) := (blk_cell hbox 0).trans rfl; clear hg hbox hb)
    | ((with_reducible refine gate_store (t := 24) (p := 1) rfl ?_); refine store_event (t := 24) (p := 1) (w1 := w2.setCell ⟨b1, 0, none⟩ (.slice (some ⟨bs, 0, none⟩) 5 5)) rfl rfl rfl ?st1 ?_; (case st1 => first | (go_simp; done) | (go_simp; rfl)); intro w3 hwk; have hB : Below w1.heap.size w1 w3 := (by rw [hwk]; exact AL1.out.setCell (p := ⟨b1, 0, none⟩) (Nat.le_of_eq G1.out.symm) _); have hbx : w3.heap[b1]? = some (.cells #[.slice (some ⟨bs, 0, none⟩) 5 5] 24 (0, 0)) := (by rw [hwk]; exact blk_put (cs := #[.slice none 0 0]) BX1.out 0 _ rfl); clear hwk; have D3 := Aside0.mk (D1.out.trans (hB.mono D1.out.size)); have FT3 := Aside0.mk (Foot.and (Foot.below FT1.out hB) (Foot.blk hbx trivial)); have c3 : w3.cell? ⟨b1, 0, none⟩ = some (.slice (some ⟨bs, 0, none⟩) 5 5) := (blk_cell hbx 0).trans rfl; clear hB hbx z1 q1)
    | (go_at_call 16; have hin := C_ints [2] (heap_alloc_new w3 (.cells #[.int .i64 2] 3)) (by decide); have hal := below_alloc (Below.refl w3.heap.size w3) (.cells #[.int .i64 2] 3); have hk_ := keep_sample (w3.alloc (.cells #[.int .i64 2] 3)) bs w3.heap.size [2] 1 rfl (by decide) (HT.out _ (D3.out.trans (hal.mono D3.out.size))) (Foot.below FT3.out hal).now.1 hin [⟨2, 0, []⟩, ⟨2, 1, []⟩, ⟨3, 0, [0, 1]⟩] [2] 0 3 1 rfl rfl keep32_h; (with_reducible refine hk_.mono ?_); rintro e w4 ⟨Aa, ca, Al, cl, rfl, hc1_, hc2_, hf, hb⟩; have hb2 : Below w3.heap.size w3 w4 := hal.trans (hb.mono hal.size); have D4 := Aside0.mk (D3.out.trans (hb2.mono D3.out.size)); have IT32 := Aside0.mk (Go.Proofs.YtcafgpfecfocnaaDoorW.PrintWords.Foot.mono hf (fun k hk => Nat.le_trans hal.size hk)); have LC32 := Aside0.mk (And.intro hc1_ hc2_); have FT4 := Aside0.mk (Foot.below FT3.out hb2); clear hin hal hf hb hb2 hc1_ hc2_)
    | ((with_reducible refine gate_dst (N := 2) rfl ?_); refine box_event ?bg2 (N := 2) ?bd2 (cs := #[.slice none 0 0]) (t := 24) ?br2 ?_; (case bd2 => rfl); (case bg2 => rfl); (case br2 => first | (go_simp; done) | (go_simp; rfl)); intro b2 hg w5 hbox hb; have AL2 := Aside0.mk hb; have BX2 := Aside0.mk hbox; have G2 := Aside0.mk hg; have z2 := blk_frozen hbox 0; have q2 : w5.cell? ⟨b2, 0, none⟩ = some (.slice none 0 0) := (blk_cell hbox 0).trans rfl; clear hg hbox hb)
    | ((with_reducible refine gate_store (t := 24) (p := 2) rfl ?_); refine store_event (t := 24) (p := 2) (w1 := w5.setCell ⟨b2, 0, none⟩ (.slice Aa 3 ca)) rfl rfl rfl ?st2 ?_; (case st2 => first | (go_simp; done) | (go_simp; rfl)); intro w6 hwk; have hB : Below w4.heap.size w4 w6 := (by rw [hwk]; exact AL2.out.setCell (p := ⟨b2, 0, none⟩) (Nat.le_of_eq G2.out.symm) _); have hbx : w6.heap[b2]? = some (.cells #[.slice Aa 3 ca] 24 (0, 0)) := (by rw [hwk]; exact blk_put (cs := #[.slice none 0 0]) BX2.out 0 _ rfl); clear hwk; have D6 := Aside0.mk (D4.out.trans (hB.mono D4.out.size)); have FT6 := Aside0.mk (Foot.and (Foot.below FT4.out hB) (Foot.and (Go.Proofs.YtcafgpfecfocnaaDoorW.PrintWords.Foot.mono (Foot.below (Go.Proofs.YtcafgpfecfocnaaDoorW.PrintWords.Foot.mono (ok' := fun _ => True) IT32.out (fun _ _ => trivial)) hB) (fun _ _ => trivial)) (Foot.blk hbx trivial))); have c6 : w6.cell? ⟨b1, 0, none⟩ = some (.slice (some ⟨bs, 0, none⟩) 5 5) := (blk_cell FT6.out.now.1.2 0).trans rfl; clear hB hbx z2 q2)
    | (go_at_call 16; have hin := C_ints [4, 0] (heap_alloc_new w6 (.cells #[.int .i64 4, .int .i64 0] 3)) (by decide); have hal := below_alloc (Below.refl w6.heap.size w6) (.cells #[.int .i64 4, .int .i64 0] 3); have hk_ := keep_sample (w6.alloc (.cells #[.int .i64 4, .int .i64 0] 3)) bs w6.heap.size [4, 0] 2 rfl (by decide) (HT.out _ (D6.out.trans (hal.mono D6.out.size))) (Foot.below FT6.out hal).now.1.1 hin [⟨2, 0, []⟩, ⟨2, 2, []⟩] [1, 0] 0 2 2 rfl rfl keep39_h; (with_reducible refine hk_.mono ?_); rintro e w7 ⟨Ab, cb, Am, cm, rfl, hc1_, hc2_, hf, hb⟩; have hb2 : Below w6.heap.size w6 w7 := hal.trans (hb.mono hal.size); have D7 := Aside0.mk (D6.out.trans (hb2.mono D6.out.size)); have IT39 := Aside0.mk (Go.Proofs.YtcafgpfecfocnaaDoorW.PrintWords.Foot.mono hf (fun k hk => Nat.le_trans hal.size hk)); have LC39 := Aside0.mk (And.intro hc1_ hc2_); have FT7 := Aside0.mk (Foot.below FT6.out hb2); clear hin hal hf hb hb2 hc1_ hc2_)
    | ((with_reducible refine gate_dst (N := 5) rfl ?_); refine box_event ?bg5 (N := 5) ?bd5 (cs := #[.slice none 0 0]) (t := 24) ?br5 ?_; (case bd5 => rfl); (case bg5 => rfl); (case br5 => first | (go_simp; done) | (go_simp; rfl)); intro b5 hg w8 hbox hb; have AL5 := Aside0.mk hb; have BX5 := Aside0.mk hbox; have G5 := Aside0.mk hg; have z5 := blk_frozen hbox 0; have q5 : w8.cell? ⟨b5, 0, none⟩ = some (.slice none 0 0) := (blk_cell hbox 0).trans rfl; clear hg hbox hb)
    | ((with_reducible refine gate_store (t := 24) (p := 5) rfl ?_); refine store_event (t := 24) (p := 5) (w1 := w8.setCell ⟨b5, 0, none⟩ (.slice Ab 2 cb)) rfl rfl rfl ?st5 ?_; (case st5 => first | (go_simp; done) | (go_simp; rfl)); intro w9 hwk; have hB : Below w7.heap.size w7 w9 := (by rw [hwk]; exact AL5.out.setCell (p := ⟨b5, 0, none⟩) (Nat.le_of_eq G5.out.symm) _); have hbx : w9.heap[b5]? = some (.cells #[.slice Ab 2 cb] 24 (0, 0)) := (by rw [hwk]; exact blk_put (cs := #[.slice none 0 0]) BX5.out 0 _ rfl); clear hwk; have D9 := Aside0.mk (D7.out.trans (hB.mono D7.out.size)); have FT9 := Aside0.mk (Foot.and (Foot.below FT7.out hB) (Foot.and (Go.Proofs.YtcafgpfecfocnaaDoorW.PrintWords.Foot.mono (Foot.below (Go.Proofs.YtcafgpfecfocnaaDoorW.PrintWords.Foot.mono (ok' := fun _ => True) IT39.out (fun _ _ => trivial)) hB) (fun _ _ => trivial)) (Foot.blk hbx trivial))); have c9 : w9.cell? ⟨b1, 0, none⟩ = some (.slice (some ⟨bs, 0, none⟩) 5 5) := (blk_cell FT9.out.now.1.1.2 0).trans rfl; clear hB hbx z5 q5)
    | (go_at_call 16; have hin := C_ints [5] (heap_alloc_new w9 (.cells #[.int .i64 5] 3)) (by decide); have hal := below_alloc (Below.refl w9.heap.size w9) (.cells #[.int .i64 5] 3); have hk_ := keep_sample (w9.alloc (.cells #[.int .i64 5] 3)) bs w9.heap.size [5] 1 rfl (by decide) (HT.out _ (D9.out.trans (hal.mono D9.out.size))) (Foot.below FT9.out hal).now.1.1.1 hin [] [] 1 0 0 rfl rfl keep46_h; (with_reducible refine hk_.mono ?_); rintro e w10 ⟨Ae, ce, Ak, ck, rfl, hc1_, hc2_, hf, hb⟩; have hb2 : Below w9.heap.size w9 w10 := hal.trans (hb.mono hal.size); have D10 := Aside0.mk (D9.out.trans (hb2.mono D9.out.size)); have IT46 := Aside0.mk (Go.Proofs.YtcafgpfecfocnaaDoorW.PrintWords.Foot.mono hf (fun k hk => Nat.le_trans hal.size hk)); have LC46 := Aside0.mk (And.intro hc1_ hc2_); have FT10 := Aside0.mk (Foot.below FT9.out hb2); clear hin hal hf hb hb2 hc1_ hc2_)
    | ((with_reducible refine gate_dst (N := 8) rfl ?_); refine box_event ?bg8 (N := 8) ?bd8 (cs := #[.slice none 0 0]) (t := 24) ?br8 ?_; (case bd8 => rfl); (case bg8 => rfl); (case br8 => first | (go_simp; done) | (go_simp; rfl)); intro b8 hg w11 hbox hb; have AL8 := Aside0.mk hb; have BX8 := Aside0.mk hbox; have G8 := Aside0.mk hg; have z8 := blk_frozen hbox 0; have q8 : w11.cell? ⟨b8, 0, none⟩ = some (.slice none 0 0) := (blk_cell hbox 0).trans rfl; clear hg hbox hb)
    | ((with_reducible refine gate_store (t := 24) (p := 8) rfl ?_); refine store_event (t := 24) (p := 8) (w1 := w11.setCell ⟨b8, 0, none⟩ (.slice Ae 0 ce)) rfl rfl rfl ?st8 ?_; (case st8 => first | (go_simp; done) | (go_simp; rfl)); intro w12 hwk; have hB : Below w10.heap.size w10 w12 := (by rw [hwk]; exact AL8.out.setCell (p := ⟨b8, 0, none⟩) (Nat.le_of_eq G8.out.symm) _); have hbx : w12.heap[b8]? = some (.cells #[.slice Ae 0 ce] 24 (0, 0)) := (by rw [hwk]; exact blk_put (cs := #[.slice none 0 0]) BX8.out 0 _ rfl); clear hwk; have D12 := Aside0.mk (D10.out.trans (hB.mono D10.out.size)); have FT12 := Aside0.mk (Foot.below FT10.out hB); have c12 : w12.cell? ⟨b1, 0, none⟩ = some (.slice (some ⟨bs, 0, none⟩) 5 5) := (blk_cell FT12.out.now.1.1.2 0).trans rfl; clear hB hbx z8 q8)
    | (go_at_call 18; have hin := C_ints [3] (heap_alloc_new w12 (.cells #[.int .i64 3] 3)) (by decide); have hal := below_alloc (Below.refl w12.heap.size w12) (.cells #[.int .i64 3] 3); have hk_ := start_sample (w12.alloc (.cells #[.int .i64 3] 3)) bs w12.heap.size (HT.out _ (D12.out.trans (hal.mono D12.out.size))) (Foot.below FT12.out hal).now.1.1.1 hin; (with_reducible refine hk_.mono ?_); rintro e w13 ⟨hb, g, F1, nm1, vw1, f1, Ag, cg, vr1, bm, rfl, hsw, hF⟩; have hb2 : Below w12.heap.size w12 w13 := hal.trans (hb.mono hal.size); have D13 := Aside0.mk (D12.out.trans (hb2.mono D12.out.size)); have SW13 := Aside0.mk hsw; have hft := Go.Proofs.YtcafgpfecfocnaaDoorW.PrintWords.Foot.bound (Foot.below FT12.out hal); have FT13 := Aside0.mk (Go.Proofs.YtcafgpfecfocnaaDoorW.PrintWords.Foot.mono (ok' := fun k => ¬ F1 k) (Foot.below hft hb) (fun k hk hf => by have := hF k hf; have := hk.2; omega)); have FD := Aside0.mk (show ∀ k, F1 k → w.heap.size ≤ k from fun k hk => Nat.le_trans (D12.out.trans (hal.mono D12.out.size)).size (hF k hk)); clear hin hal hb hb2 hsw hF hft hk_)
    | (go_at_call 26; have hk_ := result_waits SW13.out (by rw [hs0_wait]; decide); (with_reducible refine hk_.mono ?_); rintro e w14 ⟨rfl, hb⟩; have D14 := Aside0.mk (D13.out.trans (hb.mono D13.out.size)); have SW14 := Aside0.mk (SW13.out.below hb); have FT14 := Aside0.mk (Foot.below FT13.out hb); clear hb SW13 FT13)
    | ((with_reducible refine gate_dst (N := 13) rfl ?_); refine box_event ?bg13 (N := 13) ?bd13 (cs := #[.slice none 0 0]) (t := 24) ?br13 ?_; (case bd13 => rfl); (case bg13 => rfl); (case br13 => first | (go_simp; done) | (go_simp; rfl)); intro b13 hg w15 hbox hb; have AL13 := Aside0.mk hb; have BX13 := Aside0.mk hbox; have G13 := Aside0.mk hg; have z13 := blk_frozen hbox 0; have q13 : w15.cell? ⟨b13, 0, none⟩ = some (.slice none 0 0) := (blk_cell hbox 0).trans rfl; clear hg hbox hb)
    | ((with_reducible refine gate_store (t := 24) (p := 13) rfl ?_); refine store_event (t := 24) (p := 13) (w1 := w15.setCell ⟨b13, 0, none⟩ (.slice none 0 0)) rfl rfl rfl ?st13 ?_; (case st13 => first | (go_simp; done) | (go_simp; rfl)); intro w16 hwk; have hB : Below w14.heap.size w14 w16 := (by rw [hwk]; exact AL13.out.setCell (p := ⟨b13, 0, none⟩) (Nat.le_of_eq G13.out.symm) _); have hbx : w16.heap[b13]? = some (.cells #[.slice none 0 0] 24 (0, 0)) := (by rw [hwk]; exact blk_put (cs := #[.slice none 0 0]) BX13.out 0 _ rfl); clear hwk; have D16 := Aside0.mk (D14.out.trans (hB.mono D14.out.size)); have FT16 := Aside0.mk (Foot.below FT14.out hB); have SW16 := Aside0.mk (SW14.out.below hB); clear hB hbx z13 q13)
    | (go_at_call 24; have hk_ := step_h SW16.out hs0_good 3 (by unfold in64; decide) hs1 rfl [1] hs1_wait false rfl; (with_reducible refine hk_.mono ?_); rintro e w17 ⟨rfl, ha⟩; obtain ⟨F2, nm2, vw2, f2, hsw, hF, hu⟩ := ha; have SW17 := Aside0.mk hsw; have FT17 := Aside0.mk (Foot.upd FT16.out hu hF); have D17 := Aside0.mk (D16.out.trans (hu.below (B := w.heap.size) D16.out.size FD.out)); have FD2 := Aside0.mk (show ∀ k, F2 k → w.heap.size ≤ k from fun k hk => (hF k hk).elim (fun h => FD.out k h) (fun h => Nat.le_trans D16.out.size h)); clear hsw hF hu SW16 FT16 FD)
    | (go_at_call 24; have hk_ := step_h SW17.out hs1_good 1 (by unfold in64; decide) hs2 rfl [] hs2_wait true rfl; (with_reducible refine hk_.mono ?_); rintro e w18 ⟨rfl, ha⟩; obtain ⟨F3, nm3, vw3, f3, hsw, hF, hu⟩ := ha; have SW18 := Aside0.mk hsw; have FT18 := Aside0.mk (Foot.upd FT17.out hu hF); have D18 := Aside0.mk (D17.out.trans (hu.below (B := w.heap.size) D17.out.size FD2.out)); have FD3 := Aside0.mk (show ∀ k, F3 k → w.heap.size ≤ k from fun k hk => (hF k hk).elim (fun h => FD2.out k h) (fun h => Nat.le_trans D17.out.size h)); clear hsw hF hu SW17 FT17 FD2)
    | (go_at_call 26; have hk_ := result_sample SW18.out hs2_wait IN3.out (by decide) [⟨2, 0, []⟩, ⟨2, 1, []⟩, ⟨3, 0, [0, 1]⟩, ⟨4, 0, [0, 2]⟩] [3] 4 1 rfl rfl hs2_res hs2_pl; (with_reducible refine hk_.mono ?_); rintro e w19 ⟨Ad, cd, An, cn, rfl, hc1_, hc2_, hf, hb⟩; have D19 := Aside0.mk (D18.out.trans (hb.mono D18.out.size)); have hi : Foot (fun W'' => Kd.C k50 W'' Ad ([⟨2, 0, []⟩, ⟨2, 1, []⟩, ⟨3, 0, [0, 1]⟩, ⟨4, 0, [0, 2]⟩] : List S50).length [⟨2, 0, []⟩, ⟨2, 1, []⟩, ⟨3, 0, [0, 1]⟩, ⟨4, 0, [0, 2]⟩] ∧ Kd.C (Kd.int .i64) W'' An ([3] : List Int).length [3]) w19 (fun k => ¬ F3 k) := Go.Proofs.YtcafgpfecfocnaaDoorW.PrintWords.Foot.mono hf (fun k hk hf => by have := SW18.out.lt k hf; omega); have FT19 := Aside0.mk (Foot.and (Foot.below FT18.out hb) hi); have SW19 := Aside0.mk (SW18.out.below hb); have LC86 := Aside0.mk (And.intro hc1_ hc2_); clear hf hb hi SW18 FT18 hc1_ hc2_)
    | ((with_reducible refine gate_dst (N := 18) rfl ?_); refine box_event ?bg18 (N := 18) ?bd18 (cs := #[.slice none 0 0]) (t := 24) ?br18 ?_; (case bd18 => rfl); (case bg18 => rfl); (case br18 => first | (go_simp; done) | (go_simp; rfl)); intro b18 hg w20 hbox hb; have AL18 := Aside0.mk hb; have BX18 := Aside0.mk hbox; have G18 := Aside0.mk hg; have z18 := blk_frozen hbox 0; have q18 : w20.cell? ⟨b18, 0, none⟩ = some (.slice none 0 0) := (blk_cell hbox 0).trans rfl; clear hg hbox hb)
    | ((with_reducible refine gate_store (t := 24) (p := 18) rfl ?_); refine store_event (t := 24) (p := 18) (w1 := w20.setCell ⟨b18, 0, none⟩ (.slice Ad 4 cd)) rfl rfl rfl ?st18 ?_; (case st18 => first | (go_simp; done) | (go_simp; rfl)); intro w21 hwk; have hB : Below w19.heap.size w19 w21 := (by rw [hwk]; exact AL18.out.setCell (p := ⟨b18, 0, none⟩) (Nat.le_of_eq G18.out.symm) _); have hbx : w21.heap[b18]? = some (.cells #[.slice Ad 4 cd] 24 (0, 0)) := (by rw [hwk]; exact blk_put (cs := #[.slice none 0 0]) BX18.out 0 _ rfl); clear hwk; have D21 := Aside0.mk (D19.out.trans (hB.mono D19.out.size)); have hnf : ¬ F3 b18 := fun hf => (by have := SW19.out.lt _ hf; have := G18.out; omega); have FT21 := Aside0.mk (Foot.and (Foot.below FT19.out hB) (Foot.blk hbx hnf)); have SW21 := Aside0.mk (SW19.out.below hB); clear hnf; clear hB hbx z18 q18)
    | (go_at_call 22; have hk_ := add_h SW21.out; (with_reducible refine hk_.mono ?_); rintro e w22 ⟨rfl, ha⟩; obtain ⟨F4, vr4, nm4, vw4, f4, hsw, hF, hu⟩ := ha; have SW22 := Aside0.mk hsw; have FT22 := Aside0.mk (Foot.upd FT21.out hu hF); have D22 := Aside0.mk (D21.out.trans (hu.below (B := w.heap.size) D21.out.size FD3.out)); have FD4 := Aside0.mk (show ∀ k, F4 k → w.heap.size ≤ k from fun k hk => (hF k hk).elim (fun h => FD3.out k h) (fun h => Nat.le_trans D21.out.size h)); clear hsw hF hu SW21 FT21 FD3)
    | (go_at_call 24; have hk_ := step_h SW22.out hs3_good 0 (by unfold in64; decide) hs4 rfl [4] hs4_wait false rfl; (with_reducible refine hk_.mono ?_); rintro e w23 ⟨rfl, ha⟩; obtain ⟨F5, nm5, vw5, f5, hsw, hF, hu⟩ := ha; have SW23 := Aside0.mk hsw; have FT23 := Aside0.mk (Foot.upd FT22.out hu hF); have D23 := Aside0.mk (D22.out.trans (hu.below (B := w.heap.size) D22.out.size FD4.out)); have FD5 := Aside0.mk (show ∀ k, F5 k → w.heap.size ≤ k from fun k hk => (hF k hk).elim (fun h => FD4.out k h) (fun h => Nat.le_trans D22.out.size h)); clear hsw hF hu SW22 FT22 FD4)
    | (go_at_call 24; have hk_ := step_h SW23.out hs4_good 1 (by unfold in64; decide) hs5 rfl [] hs5_wait true rfl; (with_reducible refine hk_.mono ?_); rintro e w24 ⟨rfl, ha⟩; obtain ⟨F6, nm6, vw6, f6, hsw, hF, hu⟩ := ha; have SW24 := Aside0.mk hsw; have FT24 := Aside0.mk (Foot.upd FT23.out hu hF); have D24 := Aside0.mk (D23.out.trans (hu.below (B := w.heap.size) D23.out.size FD5.out)); clear hsw hF hu SW23 FT23 FD5)
    | (go_at_call 26; have hk_ := result_sample SW24.out hs5_wait IN34.out (by decide) sampleG [3, 4] 5 2 rfl rfl hs5_res hs5_pl; (with_reducible refine hk_.mono ?_); rintro e w25 ⟨Af, cf, Ao, co, rfl, hc1_, hc2_, hf, hb⟩; have D25 := Aside0.mk (D24.out.trans (hb.mono D24.out.size)); have hi := Go.Proofs.YtcafgpfecfocnaaDoorW.PrintWords.Foot.mono (ok' := fun k => ¬ F6 k) hf (fun k hk hf => by have := SW24.out.lt k hf; omega); have FT25 := Aside0.mk (Foot.and (Foot.below FT24.out hb) hi); have LC98 := Aside0.mk (And.intro hc1_ hc2_); clear hf hb hi SW24 FT24 hc1_ hc2_)
    | ((with_reducible refine gate_dst (N := 24) rfl ?_); refine box_event ?bg24 (N := 24) ?bd24 (cs := #[.slice none 0 0]) (t := 24) ?br24 ?_; (case bd24 => rfl); (case bg24 => rfl); (case br24 => first | (go_simp; done) | (go_simp; rfl)); intro b24 hg w26 hbox hb; have AL24 := Aside0.mk hb; have BX24 := Aside0.mk hbox; have G24 := Aside0.mk hg; have z24 := blk_frozen hbox 0; have q24 : w26.cell? ⟨b24, 0, none⟩ = some (.slice none 0 0) := (blk_cell hbox 0).trans rfl; clear hg hbox hb)
    | ((with_reducible refine gate_store (t := 24) (p := 24) rfl ?_); refine store_event (t := 24) (p := 24) (w1 := w26.setCell ⟨b24, 0, none⟩ (.slice Af 5 cf)) rfl rfl rfl ?st24 ?_; (case st24 => first | (go_simp; done) | (go_simp; rfl)); intro w27 hwk; have hB : Below w25.heap.size w25 w27 := (by rw [hwk]; exact AL24.out.setCell (p := ⟨b24, 0, none⟩) (Nat.le_of_eq G24.out.symm) _); have hbx : w27.heap[b24]? = some (.cells #[.slice Af 5 cf] 24 (0, 0)) := (by rw [hwk]; exact blk_put (cs := #[.slice none 0 0]) BX24.out 0 _ rfl); clear hwk; have D27 := Aside0.mk (D25.out.trans (hB.mono D25.out.size)); have FT27 := Aside0.mk (Foot.below FT25.out hB); clear hB hbx z24 q24))
  obtain ⟨⟨⟨⟨⟨⟨hC, k1⟩, ⟨hCa, hCl⟩, k2⟩, ⟨hCb, hCm⟩, k5⟩, hCd, hCn⟩, k18⟩, hCf, hCo⟩ := FT27.out.now
  obtain ⟨A0, c0, x0, x1, x2⟩ := sample_gate hC 0 (by decide) ⟨2, 0, []⟩ rfl
  obtain ⟨A4, c4, y0, y1, y2⟩ := sample_gate hC 4 (by decide) ⟨2, 2, []⟩ rfl
  have SC := Aside0.mk hC
  have SA := Aside0.mk hCa
  have SL := Aside0.mk hCl
  have SB := Aside0.mk hCb
  have SM := Aside0.mk hCm
  have SD := Aside0.mk hCd
  have SN := Aside0.mk hCn
  have SO := Aside0.mk hCo
  have K1 := Aside0.mk k1
  have K18 := Aside0.mk k18
  have j1 : w27.cell? ⟨b1, 0, none⟩ = some (.slice (some ⟨bs, 0, none⟩) 5 5) := (blk_cell k1 0).trans rfl
  have j2 : w27.cell? ⟨b2, 0, none⟩ = some (.slice Aa 3 ca) := (blk_cell k2 0).trans rfl
  have j5 : w27.cell? ⟨b5, 0, none⟩ = some (.slice Ab 2 cb) := (blk_cell k5 0).trans rfl
  have bz : Below w27.heap.size w27 w27 := Below.refl _ _
  clear hC hCa hCl hCb hCm hCd hCn hCf hCo k1 k2 k5 k18 c3 c6 c9 c12 hk_
  go_region_held3 (fun w' => w'.cell? ⟨b2, 0, none⟩ = some (.slice Aa 3 ca) ∧ w'.cell? ⟨b1, 0, none⟩ = some (.slice (some ⟨bs, 0, none⟩) 5 5) ∧ w'.cell? ⟨b5, 0, none⟩ = some (.slice Ab 2 cb) ∧ w'.cell? ⟨bs, 0, none⟩ = some (.int .i64 2) ∧ w'.cell? ⟨bs, 1, none⟩ = some (.int .i64 0) ∧ w'.cell? ⟨bs, 2, none⟩ = some (.slice A0 0 c0) ∧ w'.cell? ⟨bs, 12, none⟩ = some (.int .i64 2) ∧ w'.cell? ⟨bs, 13, none⟩ = some (.int .i64 2) ∧ w'.cell? ⟨bs, 14, none⟩ = some (.slice A4 0 c4) ∧ Below w27.heap.size w27 w')
    (first
      | exact ⟨j2, j1, j5, x0, x1, x2, y0, y1, y2, below_drew bz⟩
      | (go_split_ands; refine ⟨?_, ?_, ?_, ?_, ?_, ?_, ?_, ?_, ?_, ?_⟩ <;> first | exact (hb20.cell (World.block_lt_of_cell? _ _ (by assumption))).trans (by assumption) | exact Below.trans (by assumption) (hb20.mono (Below.size (by assumption))))
      | (go_split_ands; refine ⟨?_, ?_, ?_, ?_, ?_, ?_, ?_, ?_, ?_, ?_⟩ <;> first | exact (hb21.cell (World.block_lt_of_cell? _ _ (by assumption))).trans (by assumption) | exact Below.trans (by assumption) (hb21.mono (Below.size (by assumption))))
      | (go_split_ands; refine ⟨?_, ?_, ?_, ?_, ?_, ?_, ?_, ?_, ?_, ?_⟩ <;> first | exact (World.cell?_alloc_lt _ _ _ (World.block_lt_of_cell? _ _ (by assumption))).trans (by assumption) | exact below_alloc (by assumption) _)
      | go_keep)
    (first
      | (go_at_call 20; go_split_ands; (with_reducible refine (same_h [⟨2, 0, []⟩, ⟨2, 1, []⟩, ⟨3, 0, [0, 1]⟩] 3 ?n1 ?a1 ?b1 ?c1 ?d1 100 same3).mono ?_); (case n1 => rfl); (case a1 => exact Kd.C_below SA.out (by assumption)); (case b1 => exact Kd.C_below (Kd.C_take SC.out (m := 3) (by decide)) (by assumption)); (case c1 => exact LC32.out.1); (case d1 => decide); rintro e w28 ⟨rfl, hb20⟩)
      | (go_at_call 21; go_split_ands; (with_reducible refine (ints_h [2] 1 ?n2 ?a2 ?b2 ?c2 ?d2 100 ints1).mono ?_); (case n2 => rfl); (case a2 => exact Kd.C_below SL.out (by assumption)); (case b2 => exact C_ints [2] (heap_alloc_new _ _) (by decide)); (case c2 => exact LC32.out.2); (case d2 => decide); rintro e w29 ⟨rfl, hd21⟩; have hb21 := hd21.below)
      | (go_at_call 20; go_split_ands; (with_reducible refine (same_h [⟨2, 0, []⟩, ⟨2, 2, []⟩] 2 ?n3 ?a3 ?b3 ?c3 ?d3 100 same2).mono ?_); (case n3 => rfl); (case a3 => exact Kd.C_below SB.out (by assumption)); (case b3 => exact two_gates (heap_alloc_new _ _)); (case c3 => exact LC39.out.1); (case d3 => decide); rintro e w30 ⟨rfl, hb20⟩)
      | (go_at_call 21; go_split_ands; (with_reducible refine (ints_h [1, 0] 2 ?n4 ?a4 ?b4 ?c4 ?d4 100 ints2).mono ?_); (case n4 => rfl); (case a4 => exact Kd.C_below SM.out (by assumption)); (case b4 => exact C_ints [1, 0] (heap_alloc_new _ _) (by decide)); (case c4 => exact LC39.out.2); (case d4 => decide); rintro e w31 ⟨rfl, hd21⟩; have hb21 := hd21.below))
  rename_i hcc
  have b31 : Below w27.heap.size w27 w31 := hcc.2.2.2.2.2.2.2.2.2
  have i18 : w31.cell? ⟨b18, 0, none⟩ = some (.slice Ad 4 cd) := (b31.cell (blk_lt K18.out)).trans ((blk_cell K18.out 0).trans rfl)
  have i1 : w31.cell? ⟨b1, 0, none⟩ = some (.slice (some ⟨bs, 0, none⟩) 5 5) := (b31.cell (blk_lt K1.out)).trans ((blk_cell K1.out 0).trans rfl)
  clear hcc hb20 hb21
  go_wp2_with fail
  go_region_held3 (fun w' => w'.cell? ⟨b18, 0, none⟩ = some (.slice Ad 4 cd) ∧ w'.cell? ⟨b1, 0, none⟩ = some (.slice (some ⟨bs, 0, none⟩) 5 5) ∧ Below w27.heap.size w27 w')
    (first
      | exact ⟨i18, i1, below_drew b31⟩
      | (go_split_ands; refine ⟨?_, ?_, ?_⟩ <;> first | exact (hc20.cell (World.block_lt_of_cell? _ _ (by assumption))).trans (by assumption) | exact Below.trans (by assumption) (hc20.mono (Below.size (by assumption))))
      | (go_split_ands; refine ⟨?_, ?_, ?_⟩ <;> first | exact (hc21.cell (World.block_lt_of_cell? _ _ (by assumption))).trans (by assumption) | exact Below.trans (by assumption) (hc21.mono (Below.size (by assumption))))
      | (go_split_ands; refine ⟨?_, ?_, ?_⟩ <;> first | exact (World.cell?_alloc_lt _ _ _ (World.block_lt_of_cell? _ _ (by assumption))).trans (by assumption) | exact below_alloc (by assumption) _)
      | go_keep)
    (first
      | (go_at_call 20; go_split_ands; (with_reducible refine (same_h [⟨2, 0, []⟩, ⟨2, 1, []⟩, ⟨3, 0, [0, 1]⟩, ⟨4, 0, [0, 2]⟩] 4 ?n1 ?a1 ?b1 ?c1 ?d1 100 same4).mono ?_); (case n1 => rfl); (case a1 => exact Kd.C_below SD.out (by assumption)); (case b1 => exact Kd.C_below (Kd.C_take SC.out (m := 4) (by decide)) (by assumption)); (case c1 => exact LC86.out.1); (case d1 => decide); rintro e w32 ⟨rfl, hc20⟩)
      | (go_at_call 21; go_split_ands; (with_reducible refine (ints_h [3] 1 ?n2 ?a2 ?b2 ?c2 ?d2 100 ints3).mono ?_); (case n2 => rfl); (case a2 => exact Kd.C_below SN.out (by assumption)); (case b2 => exact C_ints [3] (heap_alloc_new _ _) (by decide)); (case c2 => exact LC86.out.2); (case d2 => decide); rintro e w33 ⟨rfl, hd21⟩; have hc21 := hd21.below)
      | (go_at_call 21; go_split_ands; (with_reducible refine (ints_h [3, 4] 2 ?n4 ?a4 ?b4 ?c4 ?d4 100 ints4).mono ?_); (case n4 => rfl); (case a4 => exact Kd.C_below SO.out (by assumption)); (case b4 => exact C_ints [3, 4] (heap_alloc_new _ _) (by decide)); (case c4 => exact LC98.out.2); (case d4 => decide); rintro e w34 ⟨rfl, hd21⟩; have hc21 := hd21.below))
  rename_i hcc
  have b34 : Below w27.heap.size w27 w34 := hcc.2.2
  go_wp2
  go_ret
  exact ⟨rfl, D27.out.trans (b34.mono D27.out.size)⟩
end Go.Proofs.YtcafgpfecfocnaaDoor.P

/- The head of layer 18's laws, in the words of printed contracts. -/
namespace Go.Proofs.YtcafgpfecfocnaaDoor.P
open Go.RowKit Go.Proofs.YtcafgpfecfocnaaDoorW.PrintWords
end Go.Proofs.YtcafgpfecfocnaaDoor.P

/- What comes in as an argument, laid open: lists of numbers, circuits. -/
namespace Go.Proofs.YtcafgpfecfocnaaDoor.P
open Go.RowKit Go.ChangeShapes Go.WideShapes Go.Deep Go.Proofs.YtcafgpfecfocnaaDoorW.PrintWords
set_option linter.unusedVariables false
set_option linter.unusedSimpArgs false

section
variable {H : Type} {enc : TypeId × Value → H} {w : World} {base : Nat} {spare : Nat → Bool} {held : Bool}
theorem wf_in64 {n : Int} (h : (Lit.int .i64 n).wf = true) : in64 n := by
  simp only [Lit.wf, Bool.and_eq_true, decide_eq_true_eq] at h
  have h1 : IntKind.min .i64 = -9223372036854775808 := rfl
  have h2 : IntKind.max .i64 = 9223372036854775807 := rfl
  rw [h1, h2] at h
  exact h
theorem maxLen_le {c : Nat} (h : c ≤ maxLen) : c ≤ 9223372036854775807 := h
theorem open_list64 {t e : TypeId} {fuel : Nat} {a : Option Addr} {len cap : Nat} {x : DataW H × List MemPlace} (ht : Tryd.prog.underlying t = some (.slice e)) (he : Tryd.prog.underlying e = some (.int .i64)) (hc : Tryd.prog.cellsOf e = 1)
    (h : DataW.trod enc Tryd.prog w base spare held fuel t [.slice a len cap] = some x) : ∃ l : List Int, l.length = len ∧ len ≤ cap ∧ Kd.C (Kd.int .i64) w a len l ∧ ∀ k ∈ l, in64 k := by
  rcases open_ints ht he hc h with ⟨hcs, _⟩ | ⟨ad, len', cap', zs, hcs, _, hl, hm, hz, _, hcell, hw⟩
  · simp at hcs
    obtain ⟨rfl, rfl, rfl⟩ := hcs
    exact ⟨[], rfl, Nat.le_refl _, ⟨rfl, by decide, fun h => absurd h (by decide)⟩, fun k hk => by simp at hk⟩
  · simp at hcs
    obtain ⟨rfl, rfl, rfl⟩ := hcs
    have hlz : len ≤ zs.length := by rw [hz]; split <;> omega
    have hlen : (zs.take len).length = len := by rw [List.length_take]; omega
    have hcap := maxLen_le hm
    refine ⟨zs.take len, hlen, hl, ⟨hlen, by omega, fun _ => ⟨ad, rfl, fun j p hj => ?_⟩⟩, fun k hk => wf_in64 (hw k (List.mem_of_mem_take hk))⟩
    obtain ⟨hjl, hjp⟩ := List.getElem?_eq_some_iff.1 hj
    rw [List.getElem_take] at hjp
    refine ⟨[.int .i64 p], rfl, rfl, fun i u hu => ?_⟩
    match i with
    | 0 =>
      have h2 := hcell j (by omega)
      rw [List.getD_eq_getElem?_getD, List.getElem?_eq_getElem (by omega), Option.getD_some, hjp] at h2
      show w.cell? (ad.add (j * 1 + 0)) = some u
      rw [Nat.mul_one, Nat.add_zero, h2]
      simpa using hu
    | i + 1 => simp at hu
/-- A gate's numbers. -/
def goodG (g : S50) : Prop := in64 g.f0 ∧ in64 g.f1 ∧ ∀ k ∈ g.f2, in64 k
theorem three {cs : List Value} (h : cs.length = 3) : ∃ c0 c1 c2, cs = [c0, c1, c2] := by
  match cs, h with
  | [c0, c1, c2], _ => exact ⟨_, _, _, rfl⟩
theorem open_gate {fuel : Nat} {cs : List Value} {x : DataW H × List MemPlace} (h : DataW.trod enc Tryd.prog w base spare held fuel 50 cs = some x) : ∃ g : S50, k50.K w g cs ∧ goodG g := by
  obtain ⟨y0, y1, y2, n, _, hl, h0, h1, h2⟩ := trod_struct3 Tryd.underlying50 h
  have c3 : Tryd.prog.cellsOf 50 = 3 := by kernel_rfl
  have d3 : Tryd.prog.cellsOf 3 = 1 := by kernel_rfl
  have d25 : Tryd.prog.cellsOf 25 = 1 := by kernel_rfl
  have hl3 : cs.length = 3 := hl.trans c3
  clear hl
  obtain ⟨c0, c1, c2, rfl⟩ := three hl3
  rw [d3] at h0 h1
  rw [d25] at h2
  have e0 : DataW.trod enc Tryd.prog w base spare held n 3 [c0] = some y0 := h0
  have e1 : DataW.trod enc Tryd.prog w base spare held n 3 [c1] = some y1 := h1
  have e2 : DataW.trod enc Tryd.prog w base spare held n 25 [c2] = some y2 := h2
  obtain ⟨n0, hn0, _, hw0⟩ := DataW.trod_int Tryd.underlying3 e0
  obtain ⟨n1, hn1, _, hw1⟩ := DataW.trod_int Tryd.underlying3 e1
  obtain rfl : c0 = .int .i64 n0 := by simpa using hn0
  obtain rfl : c1 = .int .i64 n1 := by simpa using hn1
  have hs : ∃ a len cap, c2 = .slice a len cap := by
    rcases open_ints Tryd.underlying25 Tryd.underlying3 (by kernel_rfl) e2 with ⟨hcs, _⟩ | ⟨ad, len', cap', zs, hcs, _⟩
    · exact ⟨_, _, _, by simpa using hcs⟩
    · exact ⟨_, _, _, by simpa using hcs⟩
  obtain ⟨a, len, cap, rfl⟩ := hs
  obtain ⟨l, hll, hlc, hC, hin⟩ := open_list64 Tryd.underlying25 Tryd.underlying3 (by kernel_rfl) e2
  subst hll
  exact ⟨⟨n0, n1, l⟩, k50_mk w ⟨n0, n1, l⟩ (A2 := a) (c2 := cap) hlc hC, wf_in64 hw0, wf_in64 hw1, hin⟩
theorem open_gates {t : TypeId} {fuel : Nat} {a : Option Addr} {len cap : Nat} {x : DataW H × List MemPlace} (ht : Tryd.prog.underlying t = some (.slice 50))
    (h : DataW.trod enc Tryd.prog w base spare held fuel t [.slice a len cap] = some x) : ∃ gs : List S50, gs.length = len ∧ len ≤ cap ∧ Kd.C k50 w a len gs ∧ ∀ g ∈ gs, goodG g := by
  rcases open_slice ht h with ⟨hcs, _⟩ | ⟨ad, len', cap', m, n, D, Pl, hcs, _, hl, hm, hmm, _, hx⟩
  · simp at hcs
    obtain ⟨rfl, rfl, rfl⟩ := hcs
    exact ⟨[], rfl, Nat.le_refl _, ⟨rfl, by decide, fun h => absurd h (by decide)⟩, fun k hk => by simp at hk⟩
  · simp at hcs
    obtain ⟨rfl, rfl, rfl⟩ := hcs
    have hlm : len ≤ m := by rw [hmm]; split <;> omega
    have hcap := maxLen_le hm
    have c3 : Tryd.prog.cellsOf 50 = 3 := by kernel_rfl
    letI : Inhabited S50 := ⟨z50⟩
    obtain ⟨G, hG⟩ := choose_lt (α := S50) (n := len) (p := fun j g => (∃ c : List Value, c.length = 3 ∧ k50.K w g c ∧ ∀ i u, c[i]? = some u → w.cell? (ad.add (j * 3 + i)) = some u) ∧ goodG g) (fun j hj => by
      obtain ⟨cs', h1, h2⟩ := hx j (by omega)
      rw [c3] at h1
      obtain ⟨_, hlen, hcell⟩ := World.cells?_some h1
      obtain ⟨g, hg1, hg2⟩ := open_gate h2
      refine ⟨g, ⟨cs', hlen, hg1, fun i u hu => ?_⟩, hg2⟩
      have hi : i < 3 := by
        have := (List.getElem?_eq_some_iff.1 hu).1
        omega
      have h3 := hcell i hi
      rw [Go.Deep.add_add] at h3
      rw [h3, hu])
    have hlen : ((List.range len).map G).length = len := by simp
    refine ⟨(List.range len).map G, hlen, hl, ⟨hlen, by omega, fun _ => ⟨ad, rfl, fun j p hj => ?_⟩⟩, fun g hg => ?_⟩
    · obtain ⟨hjl, hjp⟩ := List.getElem?_eq_some_iff.1 hj
      simp at hjp
      subst hjp
      exact (hG j (by omega)).1
    · obtain ⟨j, hj, rfl⟩ := List.mem_map.1 hg
      exact (hG j (by simpa using hj)).2
end
end Go.Proofs.YtcafgpfecfocnaaDoor.P

/- What the reference's small functions answer (the printed functions, plainly): Equal, Few. -/
namespace Go.Proofs.YtcafgpfecfocnaaDoor.P
open Go.RowKit Go.Proofs.YtcafgpfecfocnaaDoorW.PrintWords
set_option linter.unusedVariables false
set_option linter.unusedSimpArgs false

theorem wrap_nat {i : Nat} (h : i ≤ 4611686018427387904) : wrap64 ((i : Int) + 1) = ((i + 1 : Nat) : Int) := by unfold wrap64; omega
theorem rd_get (l : List Int) (j : Nat) (h : j < l.length) : rd l (j : Int) = l[j] := by
  unfold rd
  rw [Int.toNat_natCast, List.getD_eq_getElem?_getD, List.getElem?_eq_getElem h]
  rfl
theorem rd_ext {l m : List Int} (hl : l.length = m.length) (h : ∀ j : Nat, j < l.length → rd l (j : Int) = rd m (j : Int)) : l = m := by
  refine List.ext_getElem hl fun j h1 h2 => ?_
  have := h j h1
  rwa [rd_get l j h1, rd_get m j h2] at this
theorem equal_l0 (a b c e : Int) (l m : List Int) (hl : l.length = m.length) (hb : l.length ≤ 1099511627776) : ∀ (d i k : Nat), l.length = i + d → d < k → (∀ j : Nat, j < i → rd l (j : Int) = rd m (j : Int)) → cleanseref16_Equal.l0 k (i : Int) a b l c e m = some (decide (l = m))
  | 0, i, k, hi, hk, hall => by
    obtain ⟨k, rfl⟩ : ∃ k', k = k' + 1 := ⟨k - 1, by omega⟩
    unfold cleanseref16_Equal.l0
    rw [if_neg (by omega), decide_eq_true (rd_ext hl (fun j hj => hall j (by omega)))]
  | d + 1, i, k, hi, hk, hall => by
    obtain ⟨k, rfl⟩ : ∃ k', k = k' + 1 := ⟨k - 1, by omega⟩
    unfold cleanseref16_Equal.l0
    rw [if_pos (by omega), if_pos (by omega), if_pos (by omega)]
    by_cases he : rd l (i : Int) = rd m (i : Int)
    · rw [if_pos he, wrap_nat (by omega)]
      exact equal_l0 a b c e l m hl hb d (i + 1) k (by omega) (by omega) (fun j hj => by
        by_cases e : j = i
        · subst e; exact he
        · exact hall j (by omega))
    · rw [if_neg he, decide_eq_false (fun h => he (by rw [h]))]
/-- Equal: two gates are equal. -/
theorem equal_f (k : Nat) (a b c e : Int) (l m : List Int) (hb : l.length ≤ 1099511627776) (hk : l.length + 1 < k) : cleanseref16_Equal.f k a b l c e m = some (decide (a = c ∧ b = e ∧ l = m)) := by
  obtain ⟨k, rfl⟩ : ∃ k', k = k' + 1 := ⟨k - 1, by omega⟩
  have j0 : ∀ x : Bool, x = true → cleanseref16_Equal.j0 (k + 1) x a b l c e m = some false := fun x hx => by
    simp only [cleanseref16_Equal.j0]
    rw [if_pos hx]
  unfold cleanseref16_Equal.f
  by_cases h1 : a = c
  · by_cases h2 : b = e
    · rw [if_pos h1, if_pos h2]
      by_cases h3 : l.length = m.length
      · simp only [cleanseref16_Equal.j0]
        rw [if_neg (by simp [h3]), show (0 : Int) = ((0 : Nat) : Int) from rfl, equal_l0 a b c e l m h3 hb l.length 0 k (by omega) (by omega) (fun j hj => by omega)]
        simp [h1, h2]
      · rw [j0 _ (by simp; omega), decide_eq_false (fun h => h3 (by rw [h.2.2]))]
    · rw [if_pos h1, if_neg h2, j0 true rfl, decide_eq_false (fun h => h2 h.2.1)]
  · rw [if_neg h1, j0 true rfl, decide_eq_false (fun h => h1 h.1)]
/-- Few: how many gates, and each with at most 20 kids. -/
def fewS (gs : List S50) (n : Int) : Bool := !decide ((gs.length : Int) > n) && decide (∀ i : Nat, i < gs.length → (rd_T50 gs (i : Int)).f2.length ≤ 20)
theorem few_l0 (gs : List S50) (hb : gs.length ≤ 1099511627776) : ∀ (d i k : Nat), gs.length = i + d → d < k → (∀ j : Nat, j < i → (rd_T50 gs (j : Int)).f2.length ≤ 20) → cleanseref16_Few.l0 k (i : Int) gs = some (decide (∀ i : Nat, i < gs.length → (rd_T50 gs (i : Int)).f2.length ≤ 20))
  | 0, i, k, hi, hk, hall => by
    obtain ⟨k, rfl⟩ : ∃ k', k = k' + 1 := ⟨k - 1, by omega⟩
    unfold cleanseref16_Few.l0
    rw [if_neg (by omega), decide_eq_true (fun j hj => hall j (by omega))]
  | d + 1, i, k, hi, hk, hall => by
    obtain ⟨k, rfl⟩ : ∃ k', k = k' + 1 := ⟨k - 1, by omega⟩
    unfold cleanseref16_Few.l0
    rw [if_pos (by omega), if_pos (by omega)]
    by_cases he : ((rd_T50 gs (i : Int)).f2.length : Int) > 20
    · rw [if_pos he, decide_eq_false (fun h => by have := h i (by omega); omega)]
    · rw [if_neg he, wrap_nat (by omega)]
      exact few_l0 gs hb d (i + 1) k (by omega) (by omega) (fun j hj => by
        by_cases e : j = i
        · subst e; omega
        · exact hall j (by omega))
theorem few_f (k : Nat) (gs : List S50) (n : Int) (hn : n ≤ 1099511627776) (hk : gs.length < k) : cleanseref16_Few.f k gs n = some (fewS gs n) := by
  unfold cleanseref16_Few.f fewS
  by_cases h : (gs.length : Int) > n
  · rw [if_pos h]; simp [h]
  · rw [if_neg h, show (0 : Int) = ((0 : Nat) : Int) from rfl, few_l0 gs (by omega) gs.length 0 k (by omega) hk (fun j hj => by omega)]
    simp [h]
end Go.Proofs.YtcafgpfecfocnaaDoor.P

/- What a sweep marks: what the roots reach. -/
namespace Go.Proofs.YtcafgpfecfocnaaDoor.P
open Go.Proofs.YtcafgpfecfocnaaDoorW.PrintWords
set_option linter.unusedVariables false
set_option linter.unusedSimpArgs false

/-- What the roots reach. -/
inductive Reach (gs : List S50) (rs : List Int) : Int → Prop
  | root (r : Int) : r ∈ rs → Reach gs rs r
  | kid (i k : Int) : Reach gs rs i → k ∈ (rd_T50 gs i).f2 → Reach gs rs k

theorem mkPut_true {mk : Int → Bool} {i j : Int} : mkPut mk i j = true ↔ j = i ∨ mk j = true := by
  unfold mkPut
  by_cases e : j = i <;> simp [e]
theorem waitPut_mem {mk : Int → Bool} {w : List Int} {i j : Int} : j ∈ waitPut mk w i ↔ j ∈ w ∨ (j = i ∧ mk i = false) := by
  unfold waitPut
  by_cases h : mk i = true
  · simp [h]
  · simp [h]
theorem pushAll_mark (l : List Int) : ∀ (s : St) (j : Int), (s.pushAll l).mark j = true ↔ s.mark j = true ∨ j ∈ l := by
  induction l with
  | nil => intro s j; simp [St.pushAll]
  | cons i l ih =>
    intro s j
    show ((s.push i).pushAll l).mark j = true ↔ _
    rw [ih]
    show (mkPut s.mark i j = true ∨ j ∈ l) ↔ _
    rw [mkPut_true]
    simp only [List.mem_cons]
    constructor
    · rintro ((h | h) | h)
      · exact .inr (.inl h)
      · exact .inl h
      · exact .inr (.inr h)
    · rintro (h | h | h)
      · exact .inl (.inr h)
      · exact .inl (.inl h)
      · exact .inr h
/-- What waits behind pushes: what waited, and what was not marked. -/
theorem pushAll_wait (l : List Int) : ∀ (s : St) (j : Int), j ∈ (s.pushAll l).wait ↔ j ∈ s.wait ∨ (j ∈ l ∧ s.mark j = false) := by
  induction l with
  | nil => intro s j; simp [St.pushAll]
  | cons i l ih =>
    intro s j
    show j ∈ ((s.push i).pushAll l).wait ↔ _
    rw [ih]
    show (j ∈ waitPut s.mark s.wait i ∨ (j ∈ l ∧ mkPut s.mark i j = false)) ↔ _
    rw [waitPut_mem]
    have hm : mkPut s.mark i j = false ↔ j ≠ i ∧ s.mark j = false := by
      unfold mkPut
      by_cases e : j = i <;> simp [e]
    rw [hm]
    simp only [List.mem_cons]
    constructor
    · rintro ((h | ⟨h, h2⟩) | ⟨h, h2, h3⟩)
      · exact .inl h
      · subst h; exact .inr ⟨.inl rfl, h2⟩
      · exact .inr ⟨.inr h, h3⟩
    · rintro (h | ⟨h | h, h2⟩)
      · exact .inl (.inl h)
      · subst h; exact .inl (.inr ⟨rfl, h2⟩)
      · by_cases e : j = i
        · subst e; exact .inl (.inr ⟨rfl, h2⟩)
        · exact .inr ⟨h, e, h2⟩

/-- The invariant of a sweep. -/
structure Inv (gs : List S50) (rs : List Int) (s : St) : Prop where
  roots : ∀ r ∈ rs, s.mark r = true
  wait : ∀ i ∈ s.wait, s.mark i = true
  closed : ∀ i, s.mark i = true → i ∈ s.wait ∨ ∀ k ∈ (rd_T50 gs i).f2, s.mark k = true
  reach : ∀ i, s.mark i = true → Reach gs rs i
theorem Inv.start (gs : List S50) (rs : List Int) : Inv gs rs (St.pushAll ⟨fun _ => false, []⟩ rs) where
  roots := fun r hr => (pushAll_mark rs _ r).2 (.inr hr)
  wait := fun i hi => by
    rcases (pushAll_wait rs _ i).1 hi with h | ⟨h, _⟩
    · simp at h
    · exact (pushAll_mark rs _ i).2 (.inr h)
  closed := fun i hi => by
    rcases (pushAll_mark rs _ i).1 hi with h | h
    · simp at h
    · exact .inl ((pushAll_wait rs _ i).2 (.inr ⟨h, rfl⟩))
  reach := fun i hi => by
    rcases (pushAll_mark rs _ i).1 hi with h | h
    · simp at h
    · exact .root i h
theorem Inv.step {gs : List S50} {rs : List Int} {s : St} (h : Inv gs rs s) : Inv gs rs (s.step gs) := by
  unfold St.step
  cases hw : s.wait with
  | nil => exact h
  | cons i r =>
    have hi : s.mark i = true := h.wait i (by rw [hw]; simp)
    show Inv gs rs (St.pushAll ⟨s.mark, r⟩ (rd_T50 gs i).f2)
    exact
    { roots := fun x hx => (pushAll_mark _ _ x).2 (.inl (h.roots x hx))
      wait := fun x hx => by
        rcases (pushAll_wait _ _ x).1 hx with h1 | ⟨h1, _⟩
        · exact (pushAll_mark _ _ x).2 (.inl (h.wait x (by rw [hw]; simp [show x ∈ r from h1])))
        · exact (pushAll_mark _ _ x).2 (.inr h1)
      closed := fun x hx => by
        rcases (pushAll_mark _ _ x).1 hx with h1 | h1
        · rcases h.closed x h1 with h2 | h2
          · rw [hw] at h2
            rcases List.mem_cons.1 h2 with h3 | h3
            · subst h3
              exact .inr fun k hk => (pushAll_mark _ _ k).2 (.inr hk)
            · exact .inl ((pushAll_wait _ _ x).2 (.inl h3))
          · exact .inr fun k hk => (pushAll_mark _ _ k).2 (.inl (h2 k hk))
        · by_cases hm : s.mark x = true
          · rcases h.closed x hm with h2 | h2
            · rw [hw] at h2
              rcases List.mem_cons.1 h2 with h3 | h3
              · subst h3
                exact .inr fun k hk => (pushAll_mark _ _ k).2 (.inr hk)
              · exact .inl ((pushAll_wait _ _ x).2 (.inl h3))
            · exact .inr fun k hk => (pushAll_mark _ _ k).2 (.inl (h2 k hk))
          · exact .inl ((pushAll_wait _ _ x).2 (.inr ⟨h1, by simpa using hm⟩))
      reach := fun x hx => by
        rcases (pushAll_mark _ _ x).1 hx with h1 | h1
        · exact h.reach x h1
        · exact .kid i x (h.reach i hi) h1 }
theorem Inv.steps {gs : List S50} {rs : List Int} : ∀ (n : Nat) {s : St}, Inv gs rs s → Inv gs rs (s.steps gs n)
  | 0, s, h => h
  | n + 1, s, h => by
    simp only [St.steps]
    split
    · exact h
    · exact Inv.steps n h.step
/-- When nothing waits, what is marked is what the roots reach. -/
theorem Inv.done {gs : List S50} {rs : List Int} {s : St} (h : Inv gs rs s) (hw : s.wait = []) (i : Int) : s.mark i = true ↔ Reach gs rs i := by
  refine ⟨h.reach i, fun hr => ?_⟩
  induction hr with
  | root r hr => exact h.roots r hr
  | kid i k _ hk ih =>
    rcases h.closed i ih with h2 | h2
    · rw [hw] at h2; simp at h2
    · exact h2 k hk
end Go.Proofs.YtcafgpfecfocnaaDoor.P

/- Names of gates are names of one gate. -/
namespace Go.Proofs.YtcafgpfecfocnaaDoor.P
set_option linter.unusedVariables false
set_option linter.unusedSimpArgs false

def decVal (l : List UInt8) : Nat := l.foldl (fun a c => a * 10 + (c.toNat - 48)) 0
theorem decVal_snoc (l : List UInt8) (c : UInt8) : decVal (l ++ [c]) = decVal l * 10 + (c.toNat - 48) := by
  unfold decVal
  rw [List.foldl_append]
  rfl
theorem digit_nat {d : Nat} (h : d < 10) : (UInt8.ofNat (48 + d)).toNat = 48 + d := by
  simp only [UInt8.toNat_ofNat']
  omega
theorem decVal_dec (u : Nat) : decVal (Lib.decDigits u) = u := by
  induction u using Nat.strongRecOn with
  | ind u ih =>
    rw [Lib.decDigits]
    by_cases h : u < 10
    · rw [dif_pos h]
      show 0 * 10 + ((UInt8.ofNat (48 + u)).toNat - 48) = u
      rw [digit_nat h]; omega
    · rw [dif_neg h, decVal_snoc, ih (u / 10) (by omega), digit_nat (by omega)]
      omega
theorem dec_chars (u : Nat) : ∀ c ∈ Lib.decDigits u, 48 ≤ c.toNat ∧ c.toNat ≤ 57 := by
  induction u using Nat.strongRecOn with
  | ind u ih =>
    rw [Lib.decDigits]
    by_cases h : u < 10
    · rw [dif_pos h]
      intro c hc
      rw [List.mem_singleton.1 hc, digit_nat h]; omega
    · rw [dif_neg h]
      intro c hc
      rcases List.mem_append.1 hc with hc | hc
      · exact ih (u / 10) (by omega) c hc
      · rw [List.mem_singleton.1 hc, digit_nat (by omega)]; omega
theorem itoa_chars (n : Int) : ∀ c ∈ Lib.itoa n, c.toNat = 45 ∨ (48 ≤ c.toNat ∧ c.toNat ≤ 57) := by
  unfold Lib.itoa
  split
  · intro c hc
    rcases List.mem_cons.1 hc with rfl | hc
    · exact .inl rfl
    · exact .inr (dec_chars _ c hc)
  · intro c hc
    exact .inr (dec_chars _ c hc)
theorem itoa_inj {a b : Int} (h : Lib.itoa a = Lib.itoa b) : a = b := by
  have key : ∀ (u v : Nat), Lib.decDigits u = Lib.decDigits v → u = v := fun u v h => by rw [← decVal_dec u, h, decVal_dec]
  have head : ∀ (u v : Nat), Lib.decDigits u = 45 :: Lib.decDigits v → False := fun u v h => by
    have := (dec_chars u 45 (by rw [h]; simp)).1
    simp at this
  unfold Lib.itoa at h
  by_cases ha : a < 0 <;> by_cases hb : b < 0
  · rw [if_pos ha, if_pos hb] at h
    have := key _ _ (List.cons.inj h).2
    omega
  · rw [if_pos ha, if_neg hb] at h
    exact (head _ _ h.symm).elim
  · rw [if_neg ha, if_pos hb] at h
    exact (head _ _ h).elim
  · rw [if_neg ha, if_neg hb] at h
    have := key _ _ h
    omega
/-- A list that is cut at its first s. -/
theorem cut_at {α : Type} {s : α} : ∀ {a b x y : List α}, s ∉ a → s ∉ b → a ++ s :: x = b ++ s :: y → a = b ∧ x = y
  | [], [], x, y, _, _, h => ⟨rfl, (List.cons.inj h).2⟩
  | [], c :: b, x, y, _, hb, h => by
    have := (List.cons.inj h).1
    exact absurd (by rw [this]; simp) hb
  | c :: a, [], x, y, ha, _, h => by
    have := (List.cons.inj h).1
    exact absurd (by rw [← this]; simp) ha
  | c :: a, d :: b, x, y, ha, hb, h => by
    obtain ⟨h1, h2⟩ := List.cons.inj h
    obtain ⟨h3, h4⟩ := cut_at (fun hm => ha (by simp [hm])) (fun hm => hb (by simp [hm])) h2
    exact ⟨by rw [h1, h3], h4⟩
theorem not_in_itoa (n : Int) {c : UInt8} (h : c = 44 ∨ c = 46) : c ∉ Lib.itoa n := by
  intro hm
  have := itoa_chars n c hm
  rcases h with rfl | rfl
  · simp at this
  · simp at this
/-- The end of a number: nothing, or a comma. -/
theorem num_tail {a b : Int} : ∀ {k l : List Int}, Lib.itoa a ++ nameK k = Lib.itoa b ++ nameK l → a = b ∧ nameK k = nameK l
  | [], [], h => by
    simp [nameK] at h
    exact ⟨itoa_inj h, rfl⟩
  | [], d :: l, h => by
    have e : nameK (d :: l) = 44 :: (Lib.itoa d ++ nameK l) := by simp [nameK]
    rw [e] at h
    have : (44 : UInt8) ∈ Lib.itoa a := by
      have e2 : nameK [] = [] := rfl
      rw [e2, List.append_nil] at h
      rw [h]; simp
    exact absurd this (not_in_itoa a (.inl rfl))
  | c :: k, [], h => by
    have e : nameK (c :: k) = 44 :: (Lib.itoa c ++ nameK k) := by simp [nameK]
    rw [e] at h
    have : (44 : UInt8) ∈ Lib.itoa b := by
      have e2 : nameK [] = [] := rfl
      rw [e2, List.append_nil] at h
      rw [← h]; simp
    exact absurd this (not_in_itoa b (.inl rfl))
  | c :: k, d :: l, h => by
    have e : ∀ (c : Int) k, nameK (c :: k) = 44 :: (Lib.itoa c ++ nameK k) := fun c k => by simp [nameK]
    rw [e, e] at h
    obtain ⟨h1, h2⟩ := cut_at (not_in_itoa a (.inl rfl)) (not_in_itoa b (.inl rfl)) h
    exact ⟨itoa_inj h1, by rw [e, e, h2]⟩
theorem nameK_inj : ∀ {k l : List Int}, nameK k = nameK l → k = l
  | [], [], _ => rfl
  | [], d :: l, h => by simp [nameK] at h
  | c :: k, [], h => by simp [nameK] at h
  | c :: k, d :: l, h => by
    have e : ∀ (c : Int) k, nameK (c :: k) = 44 :: (Lib.itoa c ++ nameK k) := fun c k => by simp [nameK]
    rw [e, e] at h
    obtain ⟨h1, h2⟩ := num_tail (List.cons.inj h).2
    rw [h1, nameK_inj h2]
theorem nameS_inj {a b x y : Int} {k l : List Int} (h : nameS a x k = nameS b y l) : a = b ∧ x = y ∧ k = l := by
  unfold nameS at h
  simp only [List.append_assoc, List.cons_append, List.nil_append] at h
  obtain ⟨h1, h2⟩ := cut_at (not_in_itoa a (.inr rfl)) (not_in_itoa b (.inr rfl)) h
  obtain ⟨h3, h4⟩ := num_tail h2
  exact ⟨itoa_inj h1, h3, nameK_inj h4⟩
end Go.Proofs.YtcafgpfecfocnaaDoor.P

/- The gates that are kept: where they stand. -/
namespace Go.Proofs.YtcafgpfecfocnaaDoor.P
open Go.Proofs.YtcafgpfecfocnaaDoorW.PrintWords
set_option linter.unusedVariables false
set_option linter.unusedSimpArgs false

end Go.Proofs.YtcafgpfecfocnaaDoor.P

/- The kept circuit is valid. -/
namespace Go.Proofs.YtcafgpfecfocnaaDoor.P
open Go.Proofs.YtcafgpfecfocnaaDoorW.PrintWords
set_option linter.unusedVariables false
set_option linter.unusedSimpArgs false

theorem marks_inv {gs : List S50} {rs : List Int} (h : startS gs rs = true) : Inv gs rs ((st0 rs).steps gs gs.length) := Inv.steps _ (Inv.start gs rs)
theorem marks_iff {gs : List S50} {rs : List Int} (h : startS gs rs = true) (i : Int) : marksS gs rs i = true ↔ Reach gs rs i := by
  obtain ⟨hv, hin⟩ := start_in h
  exact (marks_inv h).done (steps_done (low_in (valid_low hv)) gs.length (st0_good hin) (st0_mu hin)) i
/-- What the roots reach are gates. -/
theorem reach_in {gs : List S50} {rs : List Int} (h : startS gs rs = true) {i : Int} (hr : Reach gs rs i) : inRange gs.length i := by
  obtain ⟨hv, hin⟩ := start_in h
  induction hr with
  | root r hr => exact hin r hr
  | kid i k _ hk ih => exact low_in (valid_low hv) _ (rd_mem50 gs i ih) k hk
end Go.Proofs.YtcafgpfecfocnaaDoor.P

/- The reference's Valid answers true where circuit.Valid does (the printed functions, plainly). -/
namespace Go.Proofs.YtcafgpfecfocnaaDoor.P
open Go.RowKit Go.Proofs.YtcafgpfecfocnaaDoorW.PrintWords
set_option linter.unusedVariables false
set_option linter.unusedSimpArgs false

/-- From some fuel on the answer is r. -/
def Ev {α : Type} (f : Nat → Option α) (r : α) : Prop := ∃ K, ∀ k, K ≤ k → f k = some r
theorem Ev.succ {α : Type} {f : Nat → Option α} {r : α} (h : Ev (fun k => f (k + 1)) r) : Ev f r := by
  obtain ⟨K, hK⟩ := h
  refine ⟨K + 1, fun k hk => ?_⟩
  obtain ⟨k, rfl⟩ : ∃ k', k = k' + 1 := ⟨k - 1, by omega⟩
  exact hK k (by omega)
theorem inner_f (kind : Int) : cleanseref16_inner.f kind = some (innerS kind) := by
  unfold cleanseref16_inner.f innerS
  by_cases h : kind = 3
  · subst h; rfl
  · rw [if_neg h, beq_eq_false_iff_ne.2 h]; rfl
/-- Kids' order and kinds, gate by gate. -/
theorem sortedTo_le {l : List Int} : ∀ j : Nat, sortedTo l j = true → ∀ i : Nat, i < j → ¬ rd l ((i + 1 : Nat) : Int) < rd l (i : Int)
  | 0, _, i, hi => by omega
  | j + 1, h, i, hi => by
    simp only [sortedTo] at h
    by_cases hlt : rd l ((j + 1 : Nat) : Int) < rd l (j : Int)
    · rw [if_pos hlt] at h; cases h
    · rw [if_neg hlt] at h
      by_cases e : i = j
      · subst e; exact hlt
      · exact sortedTo_le j h i (by omega)
theorem wrap_pred {j : Nat} (h : 0 < j) (h2 : j ≤ 4611686018427387904) : wrap64 ((j : Int) - 1) = ((j - 1 : Nat) : Int) := by unfold wrap64; omega
/-- What a good gate's kids are. -/
theorem good_kids {gs : List S50} {i : Nat} (h : badGate gs i = false) (hi : i < gs.length) : (∀ x ∈ (rd_T50 gs (i : Int)).f2, 0 ≤ x ∧ x < i) ∧ (∀ j : Nat, j + 1 < (rd_T50 gs (i : Int)).f2.length → ¬ rd (rd_T50 gs (i : Int)).f2 ((j + 1 : Nat) : Int) < rd (rd_T50 gs (i : Int)).f2 (j : Int)) ∧ (∀ x ∈ (rd_T50 gs (i : Int)).f2, (rd_T50 gs x).f0 ≠ 0) ∧ ((rd_T50 gs (i : Int)).f0 = 4 → ∀ x ∈ (rd_T50 gs (i : Int)).f2, (rd_T50 gs x).f0 ≠ 1) ∧ (innerS (rd_T50 gs (i : Int)).f0 = true → 2 ≤ (rd_T50 gs (i : Int)).f2.length) := by
  simp only [badGate, Bool.or_eq_false_iff, Bool.not_eq_false', Bool.and_eq_false_imp, gateAt] at h
  obtain ⟨hf, hb⟩ := h
  have hlow := formed_kids hf (Int.le_refl _)
  by_cases hin : innerS (rd_T50 gs (i : Int)).f0 = true
  · have hbk := hb hin
    simp only [badKids, Bool.or_eq_false_iff, Bool.not_eq_false', decide_eq_false_iff_not] at hbk
    obtain ⟨h2, hs, hd⟩ := hbk
    have hd' : ∀ x ∈ (rd_T50 gs (i : Int)).f2, keptS (rd_T50 gs (i : Int)).f0 (rd_T50 gs x).f0 = true := fun x hx => by
      have := List.any_eq_false.1 hd x hx
      unfold dropsKid at this
      simpa using this
    refine ⟨hlow, fun j hj => sortedTo_le _ hs j (by omega), fun x hx => ?_, fun h4 x hx => ?_, fun _ => by omega⟩
    · have := hd' x hx
      simp only [keptS, Bool.and_eq_true, bne_iff_ne] at this
      exact this.1
    · have := hd' x hx
      rw [h4] at this
      simp [keptS] at this
      exact this.2
  · have hnil : (rd_T50 gs (i : Int)).f2 = [] := by
      have hl : (rd_T50 gs (i : Int)).f2.length = 0 := by
        unfold formedS at hf
        by_cases ha : (rd_T50 gs (i : Int)).f2.any (outside i) = true
        · rw [if_pos ha] at hf; cases hf
        · rw [if_neg ha] at hf
          by_cases h2 : (rd_T50 gs (i : Int)).f0 = 2
          · rw [if_pos h2] at hf
            simp only [Bool.and_eq_true, decide_eq_true_eq] at hf
            exact hf.1
          · rw [if_neg h2] at hf
            by_cases h0 : (rd_T50 gs (i : Int)).f0 = 0 ∨ (rd_T50 gs (i : Int)).f0 = 1
            · rw [if_pos h0] at hf
              simp only [Bool.and_eq_true, decide_eq_true_eq] at hf
              exact hf.1
            · rw [if_neg h0] at hf
              simp only [Bool.and_eq_true] at hf
              exact absurd hf.1 hin
      exact List.eq_nil_of_length_eq_zero hl
    refine ⟨hlow, fun j hj => ?_, fun x hx => ?_, fun _ x hx => ?_, fun h => absurd h hin⟩
    · rw [hnil] at hj; simp at hj
    · rw [hnil] at hx; simp at hx
    · rw [hnil] at hx; simp at hx
end Go.Proofs.YtcafgpfecfocnaaDoor.P

/- The reference's Right and Kept (the printed functions, plainly): what the roots reach. -/
namespace Go.Proofs.YtcafgpfecfocnaaDoor.P
open Go.RowKit Go.Proofs.YtcafgpfecfocnaaDoorW.PrintWords
set_option linter.unusedVariables false
set_option linter.unusedSimpArgs false

theorem flag_set {out : List Bool} {p j : Nat} (hp : p < out.length) : rdOf false (out.set p true) (j : Int) = true ↔ j = p ∨ rdOf false out (j : Int) = true := by
  unfold rdOf
  rw [Int.toNat_natCast, List.getD_eq_getElem?_getD, List.getD_eq_getElem?_getD, List.getElem?_set]
  by_cases e : p = j
  · subst e
    rw [if_pos rfl, if_pos hp]
    simp
  · rw [if_neg e]
    constructor
    · exact .inr
    · rintro (h | h)
      · exact absurd h.symm e
      · exact h
theorem flag_setI {out : List Bool} {p j : Int} (h0 : 0 ≤ p) (hp : p < out.length) (hj : 0 ≤ j) : rdOf false (out.set p.toNat true) j = true ↔ j = p ∨ rdOf false out j = true := by
  have h := flag_set (out := out) (p := p.toNat) (j := j.toNat) (by omega)
  rw [Int.toNat_of_nonneg hj] at h
  rw [h]
  constructor
  · rintro (h | h)
    · exact .inl (by omega)
    · exact .inr h
  · rintro (h | h)
    · exact .inl (by omega)
    · exact .inr h
theorem mem_at {l : List Int} {x : Int} (h : x ∈ l) : ∃ q : Nat, q < l.length ∧ rd l (q : Int) = x := by
  obtain ⟨q, hq, rfl⟩ := List.getElem_of_mem h
  exact ⟨q, hq, rd_get l q hq⟩
/-- The flags, when the gates from k on are done. -/
structure KF (gs : List S50) (rs : List Int) (k : Nat) (out : List Bool) : Prop where
  len : out.length = gs.length
  roots : ∀ r ∈ rs, rdOf false out r = true
  sound : ∀ j : Int, 0 ≤ j → rdOf false out j = true → Reach gs rs j
  closed : ∀ j : Nat, k ≤ j → j < gs.length → rdOf false out (j : Int) = true → ∀ x ∈ (rd_T50 gs (j : Int)).f2, rdOf false out x = true
theorem KF.iff {gs : List S50} {rs : List Int} {out : List Bool} (h : KF gs rs 0 out) (hin : ∀ i, Reach gs rs i → inRange gs.length i) (j : Int) (hj : 0 ≤ j) : rdOf false out j = true ↔ Reach gs rs j := by
  refine ⟨h.sound j hj, fun hr => ?_⟩
  clear hj
  induction hr with
  | root r hr => exact h.roots r hr
  | kid i k hi hk ih =>
    have hr := hin i hi
    unfold inRange at hr
    have e : ((i.toNat : Nat) : Int) = i := Int.toNat_of_nonneg hr.1
    exact h.closed i.toNat (Nat.zero_le _) (by omega) (by rw [e]; exact ih) k (by rw [e]; exact hk)
theorem kept_l2 {gs : List S50} {rs : List Int} (hlow : kidsLow gs) (hw : ∀ g ∈ gs, g.f2.length ≤ 1099511627776) (hlen : gs.length ≤ 1099511627776) (hin : ∀ r ∈ rs, inRange gs.length r) {k : Nat} (hk : k < gs.length)
    (next : ∀ out, KF gs rs k out → ∃ out', Ev (fun f => cleanseref18_Kept.l1 f out ((k : Int) - 1) gs) out' ∧ KF gs rs 0 out') :
    ∀ (d m : Nat) (out : List Bool), (rd_T50 gs (k : Int)).f2.length = m + d → KF gs rs (k + 1) out → (rdOf false out (k : Int) = true → ∀ q : Nat, q < m → rdOf false out (rd (rd_T50 gs (k : Int)).f2 (q : Int)) = true) → ∃ out', Ev (fun f => cleanseref18_Kept.l2 f out (k : Int) (m : Int) gs) out' ∧ KF gs rs 0 out'
  | 0, m, out, hm, h, hset => by
    obtain ⟨out', ⟨K, hK⟩, hf⟩ := next out ⟨h.len, h.roots, h.sound, fun j h1 h2 h3 x hx => by
      by_cases e : j = k
      · subst e
        obtain ⟨q, hq, rfl⟩ := mem_at hx
        exact hset h3 q (by omega)
      · exact h.closed j (by omega) h2 h3 x hx⟩
    refine ⟨out', Ev.succ ⟨K, fun f hf => ?_⟩, hf⟩
    show cleanseref18_Kept.l2 (f + 1) _ _ _ _ = _
    simp only [cleanseref18_Kept.l2]
    rw [if_pos (by omega), if_pos (by omega), if_neg (by omega), show wrap64 ((k : Int) - 1) = (k : Int) - 1 by unfold wrap64; omega]
    exact hK f hf
  | d + 1, m, out, hm, h, hset => by
    have hg := hw _ (rd_mem50 gs (k : Int) ⟨by omega, by omega⟩)
    by_cases hflag : rdOf false out (k : Int) = true
    · have hmem := rd_mem (rd_T50 gs (k : Int)).f2 m (by omega)
      have hx := hlow k hk _ hmem
      have hl := h.len
      obtain ⟨x, hxe⟩ : ∃ x, rd (rd_T50 gs (k : Int)).f2 (m : Int) = x := ⟨_, rfl⟩
      rw [hxe] at hmem hx
      have far : ∀ j : Int, 0 ≤ j → rdOf false out j = true → rdOf false (out.set x.toNat true) j = true := fun j hj hjt => (flag_setI hx.1 (by omega) hj).2 (.inr hjt)
      have h2 : KF gs rs (k + 1) (out.set x.toNat true) := by
        refine ⟨by rw [List.length_set]; exact hl, fun r hr => far r (hin r hr).1 (h.roots r hr), fun j hj hjt => ?_, fun j h1 h2 h3 y hy => ?_⟩
        · rcases (flag_setI hx.1 (by omega) hj).1 hjt with rfl | h4
          · exact .kid (k : Int) _ (h.sound _ (by omega) hflag) hmem
          · exact h.sound j hj h4
        · have h4 : rdOf false out (j : Int) = true := by
            rcases (flag_setI hx.1 (by omega) (by omega)).1 h3 with h5 | h5
            · omega
            · exact h5
          exact far y (hlow j h2 y hy).1 (h.closed j h1 h2 h4 y hy)
      obtain ⟨out', ⟨K, hK⟩, hf⟩ := kept_l2 hlow hw hlen hin hk next d (m + 1) _ (by omega) h2 (fun _ q hq => by
        have hqm := rd_mem (rd_T50 gs (k : Int)).f2 q (by omega)
        by_cases e : q = m
        · subst e
          rw [hxe]
          exact (flag_setI hx.1 (by omega) hx.1).2 (.inl rfl)
        · exact far _ (hlow k hk _ hqm).1 (hset hflag q (by omega)))
      refine ⟨out', Ev.succ ⟨K, fun f hf => ?_⟩, hf⟩
      show cleanseref18_Kept.l2 (f + 1) _ _ _ _ = _
      simp only [cleanseref18_Kept.l2]
      rw [hxe, if_pos (by omega), if_pos (by omega), if_pos (by omega), if_pos (by omega), if_pos hflag, if_pos (by omega), if_pos hx.1, if_pos (by omega), wrap_nat (by omega)]
      exact hK f hf
    · obtain ⟨out', ⟨K, hK⟩, hf⟩ := next out ⟨h.len, h.roots, h.sound, fun j h1 h2 h3 x hx => by
        by_cases e : j = k
        · subst e; exact absurd h3 hflag
        · exact h.closed j (by omega) h2 h3 x hx⟩
      have hl := h.len
      refine ⟨out', Ev.succ ⟨K, fun f hf => ?_⟩, hf⟩
      show cleanseref18_Kept.l2 (f + 1) _ _ _ _ = _
      simp only [cleanseref18_Kept.l2]
      rw [if_pos (by omega), if_pos (by omega), if_pos (by omega), if_pos (by omega), if_neg hflag, show wrap64 ((k : Int) - 1) = (k : Int) - 1 by unfold wrap64; omega]
      exact hK f hf
theorem kept_l1 {gs : List S50} {rs : List Int} (hlow : kidsLow gs) (hw : ∀ g ∈ gs, g.f2.length ≤ 1099511627776) (hlen : gs.length ≤ 1099511627776) (hin : ∀ r ∈ rs, inRange gs.length r) : ∀ (k : Nat) (out : List Bool), k ≤ gs.length → KF gs rs k out → ∃ out', Ev (fun f => cleanseref18_Kept.l1 f out ((k : Int) - 1) gs) out' ∧ KF gs rs 0 out'
  | 0, out, _, h => by
    refine ⟨out, Ev.succ ⟨0, fun f _ => ?_⟩, h⟩
    show cleanseref18_Kept.l1 (f + 1) _ _ _ = _
    simp only [cleanseref18_Kept.l1]
    rw [if_neg (by omega)]
  | k + 1, out, hk, h => by
    obtain ⟨out', ⟨K, hK⟩, hf⟩ := kept_l2 hlow hw hlen hin (show k < gs.length by omega) (fun o ho => kept_l1 hlow hw hlen hin k o (by omega) ho) _ 0 out (Nat.zero_add _).symm h (fun _ q hq => by omega)
    refine ⟨out', Ev.succ ⟨K, fun f hf => ?_⟩, hf⟩
    show cleanseref18_Kept.l1 (f + 1) _ _ _ = _
    simp only [cleanseref18_Kept.l1]
    rw [if_pos (by omega), show (((k + 1 : Nat) : Int) - 1) = (k : Int) by omega]
    exact hK f hf
theorem kept_l0 {gs : List S50} {rs : List Int} (hlow : kidsLow gs) (hw : ∀ g ∈ gs, g.f2.length ≤ 1099511627776) (hlen : gs.length ≤ 1099511627776) (hin : ∀ r ∈ rs, inRange gs.length r) (hl : rs.length ≤ 1099511627776) : ∀ (d i : Nat) (out : List Bool), rs.length = i + d → out.length = gs.length → (∀ q : Nat, q < i → rdOf false out (rd rs (q : Int)) = true) → (∀ j : Int, 0 ≤ j → rdOf false out j = true → Reach gs rs j) → ∃ out', Ev (fun f => cleanseref18_Kept.l0 f rs out (i : Int) gs) out' ∧ KF gs rs 0 out'
  | 0, i, out, hi, ho, hq, hs => by
    obtain ⟨out', ⟨K, hK⟩, hf⟩ := kept_l1 hlow hw hlen hin gs.length out (Nat.le_refl _) ⟨ho, fun r hr => by
      obtain ⟨q, hq2, rfl⟩ := mem_at hr
      exact hq q (by omega), hs, fun j h1 h2 => by omega⟩
    refine ⟨out', Ev.succ ⟨K, fun f hf => ?_⟩, hf⟩
    show cleanseref18_Kept.l0 (f + 1) _ _ _ _ = _
    simp only [cleanseref18_Kept.l0]
    rw [if_neg (by omega), ho, show wrap64 ((gs.length : Int) - 1) = (gs.length : Int) - 1 by unfold wrap64; omega]
    exact hK f hf
  | d + 1, i, out, hi, ho, hq, hs => by
    have hmem := rd_mem rs i (by omega)
    have hx := hin _ hmem
    unfold inRange at hx
    obtain ⟨x, hxe⟩ : ∃ x, rd rs (i : Int) = x := ⟨_, rfl⟩
    rw [hxe] at hmem hx
    obtain ⟨out', ⟨K, hK⟩, hf⟩ := kept_l0 hlow hw hlen hin hl d (i + 1) (out.set x.toNat true) (by omega) (by rw [List.length_set]; exact ho) (fun q hq2 => by
      have hqm := hin _ (rd_mem rs q (by omega))
      by_cases e : q = i
      · subst e
        rw [hxe]
        exact (flag_setI hx.1 (by omega) hx.1).2 (.inl rfl)
      · exact (flag_setI hx.1 (by omega) hqm.1).2 (.inr (hq q (by omega)))) (fun j hj hjt => by
      rcases (flag_setI hx.1 (by omega) hj).1 hjt with rfl | h4
      · exact .root _ hmem
      · exact hs j hj h4)
    refine ⟨out', Ev.succ ⟨K, fun f hf => ?_⟩, hf⟩
    show cleanseref18_Kept.l0 (f + 1) _ _ _ _ = _
    simp only [cleanseref18_Kept.l0]
    rw [hxe, if_pos (by omega), if_pos (by omega), if_pos hx.1, if_pos (by omega), wrap_nat (by omega)]
    exact hK f hf
/-- Kept: the marks. -/
theorem kept_f {gs : List S50} {rs : List Int} (h : startS gs rs = true) (hw : ∀ g ∈ gs, g.f2.length ≤ 1099511627776) (hl : rs.length ≤ 1099511627776) : ∃ out : List Bool, Ev (fun f => cleanseref18_Kept.f f gs rs) out ∧ out.length = gs.length ∧ ∀ j : Int, 0 ≤ j → rdOf false out j = marksS gs rs j := by
  obtain ⟨hv, hin⟩ := start_in h
  have hlen := valid_len hv
  have hrep : ∀ j : Int, rdOf false (List.replicate gs.length false) j = false := fun j => by
    unfold rdOf
    rw [List.getD_eq_getElem?_getD, List.getElem?_replicate]
    split <;> rfl
  obtain ⟨out', ⟨K, hK⟩, hf⟩ := kept_l0 (valid_low hv) hw (by omega) hin hl rs.length 0 (List.replicate gs.length false) (Nat.zero_add _).symm (by simp) (fun q hq => by omega) (fun j hj hjt => by rw [hrep] at hjt; cases hjt)
  refine ⟨out', ⟨K, fun f hf => ?_⟩, hf.len, fun j hj => ?_⟩
  · show cleanseref18_Kept.f f gs rs = _
    unfold cleanseref18_Kept.f
    rw [if_pos (by omega), Int.toNat_natCast, if_pos (by omega)]
    exact hK f hf
  · have h1 := hf.iff (fun i hi => reach_in h hi) j hj
    have h2 := marks_iff h j
    rw [Bool.eq_iff_iff, h1, h2]
end Go.Proofs.YtcafgpfecfocnaaDoor.P

/- The reference's Valid and Right answer as circuit.Valid and Start do, whatever the circuit (the printed functions, plainly). -/
namespace Go.Proofs.YtcafgpfecfocnaaDoor.P
open Go.RowKit Go.Proofs.YtcafgpfecfocnaaDoorW.PrintWords
set_option linter.unusedVariables false
set_option linter.unusedSimpArgs false

theorem formed_end_g {kind var n : Int} {kids : List Int} (ha : ¬ kids.any (outside n) = true) : (if kind = 2 then (if (kids.length : Int) = 0 then (if var ≥ 0 then (some (decide (var < 4000))) else (some false)) else (some false)) else (if var = 0 then ((cleanseref16_inner.f kind).bind fun t119 => (if t119 = true then (some true) else (if (kids.length : Int) = 0 then (if kind = 0 then (some true) else (some (kind == 1))) else (some false)))) else (some false))) = some (formedS kind var kids n) := by
  unfold formedS
  rw [if_neg ha]
  by_cases h2 : kind = 2
  · rw [if_pos h2, if_pos h2]
    by_cases hl : kids.length = 0
    · rw [if_pos (by omega)]
      by_cases hv : var ≥ 0
      · rw [if_pos hv, decide_eq_true hl, decide_eq_true (show 0 ≤ var from hv)]; simp
      · rw [if_neg hv, decide_eq_false (show ¬ 0 ≤ var by omega)]; simp
    · rw [if_neg (by omega), decide_eq_false hl]; simp
  · rw [if_neg h2, if_neg h2, inner_f, Option.bind_some]
    by_cases hv : var = 0
    · subst hv
      rw [if_pos rfl]
      by_cases h0 : kind = 0
      · subst h0; by_cases hl : kids.length = 0 <;> simp [innerS, hl]
      · by_cases h1 : kind = 1
        · subst h1; by_cases hl : kids.length = 0 <;> simp [innerS, hl]
        · rw [if_neg (show ¬ (kind = 0 ∨ kind = 1) from fun h => h.elim h0 h1)]
          cases hin : innerS kind with
          | true => simp
          | false => by_cases hl : kids.length = 0 <;> simp [hl, h0, h1]
    · rw [if_neg hv]
      have : (var == 0) = false := beq_eq_false_iff_ne.2 hv
      split <;> simp [this]
theorem formed_lg {kind var n : Int} {kids : List Int} (hb : kids.length ≤ 1099511627776) : ∀ (d i k : Nat), kids.length = i + d → d < k → (∀ q : Nat, q < i → outside n (rd kids (q : Int)) = false) → cleanseref16_formed.l0 k n (i : Int) kind var kids = some (formedS kind var kids n)
  | 0, i, k, hi, hk, hq => by
    obtain ⟨k, rfl⟩ : ∃ k', k = k' + 1 := ⟨k - 1, by omega⟩
    unfold cleanseref16_formed.l0
    rw [if_neg (by omega)]
    refine formed_end_g ?_
    rw [List.any_eq_true]
    rintro ⟨x, hx, hox⟩
    obtain ⟨q, hql, rfl⟩ := mem_at hx
    rw [hq q (by omega)] at hox
    cases hox
  | d + 1, i, k, hi, hk, hq => by
    obtain ⟨k, rfl⟩ : ∃ k', k = k' + 1 := ⟨k - 1, by omega⟩
    have hmem := rd_mem kids i (by omega)
    have out : outside n (rd kids (i : Int)) = true → some false = some (formedS kind var kids n) := fun h => by
      unfold formedS
      rw [if_pos (List.any_eq_true.2 ⟨_, hmem, h⟩)]
    unfold cleanseref16_formed.l0
    rw [if_pos (by omega), if_pos (by omega)]
    by_cases h0 : rd kids (i : Int) < 0
    · rw [if_pos h0]
      exact out (by unfold outside; simp [h0])
    · rw [if_neg h0]
      by_cases h1 : rd kids (i : Int) ≥ n
      · rw [if_pos h1]
        exact out (by unfold outside; simp; omega)
      · rw [if_neg h1, wrap_nat (by omega)]
        refine formed_lg hb d (i + 1) k (by omega) (by omega) fun q hql => ?_
        by_cases e : q = i
        · subst e; unfold outside; simp; omega
        · exact hq q (by omega)
theorem formed_g {kind var n : Int} {kids : List Int} (hb : kids.length ≤ 1099511627776) (k : Nat) (hk : kids.length < k) : cleanseref16_formed.f k kind var kids n = some (formedS kind var kids n) :=
  formed_lg hb kids.length 0 k (by omega) hk (fun q hq => by omega)
theorem same_gate {gs : List S50} {i j : Nat} (h : nameAt gs j = nameAt gs i) : (rd_T50 gs (j : Int)).f0 = (rd_T50 gs (i : Int)).f0 ∧ (rd_T50 gs (j : Int)).f1 = (rd_T50 gs (i : Int)).f1 ∧ (rd_T50 gs (j : Int)).f2 = (rd_T50 gs (i : Int)).f2 := nameS_inj h
section
variable {gs : List S50} {i : Nat}
/-- The comparisons with the gates ahead. -/
theorem refg_l2 (hlen : gs.length ≤ 100000) (hw : ∀ g ∈ gs, g.f2.length ≤ 1099511627776) (hi : i < gs.length) {r : Bool} (hn : nameAt gs i ∉ namesTo gs i → Ev (fun k => cleanseref16_Valid.l0 k ((i + 1 : Nat) : Int) gs) r) : ∀ (d j : Nat), i = j + d → (∀ q : Nat, q < j → nameAt gs q ≠ nameAt gs i) → Ev (fun k => cleanseref16_Valid.l2 k (i : Int) (j : Int) gs (rd_T50 gs (i : Int)).f0 (rd_T50 gs (i : Int)).f1 (rd_T50 gs (i : Int)).f2) (if nameAt gs i ∈ namesTo gs i then false else r)
  | 0, j, hj, hq => by
    have hno : nameAt gs i ∉ namesTo gs i := fun hm => by
      unfold namesTo at hm
      obtain ⟨q, hq1, hq2⟩ := List.mem_map.1 hm
      exact hq q (by have := List.mem_range.1 hq1; omega) hq2
    obtain ⟨K, hK⟩ := hn hno
    rw [if_neg hno]
    refine Ev.succ ⟨K, fun k hk => ?_⟩
    show cleanseref16_Valid.l2 (k + 1) _ _ _ _ _ _ = _
    simp only [cleanseref16_Valid.l2]
    rw [if_neg (by omega), wrap_nat (by omega)]
    exact hK k hk
  | d + 1, j, hj, hq => by
    have hj1 : j < gs.length := by omega
    have hg := hw _ (rd_mem50 gs (j : Int) ⟨by omega, by omega⟩)
    by_cases he : nameAt gs j = nameAt gs i
    · have hm : nameAt gs i ∈ namesTo gs i := List.mem_map.2 ⟨j, List.mem_range.2 (by omega), he⟩
      rw [if_pos hm]
      refine Ev.succ ⟨(rd_T50 gs (j : Int)).f2.length + 2, fun k hk => ?_⟩
      show cleanseref16_Valid.l2 (k + 1) _ _ _ _ _ _ = _
      simp only [cleanseref16_Valid.l2]
      rw [if_pos (by omega), if_pos (by omega), if_pos (by omega), equal_f k _ _ _ _ _ _ hg (by omega), decide_eq_true (same_gate he), Option.bind_some, if_pos rfl]
    · obtain ⟨K, hK⟩ := refg_l2 hlen hw hi hn d (j + 1) (by omega) (fun q hql => by
        by_cases e : q = j
        · subst e; exact he
        · exact hq q (by omega))
      refine Ev.succ ⟨K + (rd_T50 gs (j : Int)).f2.length + 2, fun k hk => ?_⟩
      show cleanseref16_Valid.l2 (k + 1) _ _ _ _ _ _ = _
      simp only [cleanseref16_Valid.l2]
      have hne : ¬ ((rd_T50 gs (j : Int)).f0 = (rd_T50 gs (i : Int)).f0 ∧ (rd_T50 gs (j : Int)).f1 = (rd_T50 gs (i : Int)).f1 ∧ (rd_T50 gs (j : Int)).f2 = (rd_T50 gs (i : Int)).f2) := by
        rintro ⟨h1, h2, h3⟩
        refine he ?_
        unfold nameAt gateAt
        rw [h1, h2, h3]
      rw [if_pos (by omega), if_pos (by omega), if_pos (by omega), equal_f k _ _ _ _ _ _ hg (by omega), decide_eq_false hne, Option.bind_some, if_neg (by decide), wrap_nat (by omega)]
      exact hK k (by omega)
/-- A kid that is out of order, or none that may stand there. -/
def badKid (gs : List S50) (f0 : Int) (l : List Int) (q : Nat) : Prop := (0 < q ∧ rd l (q : Int) < rd l ((q - 1 : Nat) : Int)) ∨ (rd_T50 gs (rd l (q : Int))).f0 = 0 ∨ (f0 = 4 ∧ (rd_T50 gs (rd l (q : Int))).f0 = 1)
theorem refg_j3 {j : Nat} {b : Bool} {f0 f1 : Int} {l : List Int} {r : Bool} (hb : b = false) (hj : j ≤ 1099511627776) {k : Nat} (h : cleanseref16_Valid.l1 k (i : Int) ((j + 1 : Nat) : Int) gs f0 f1 l = some r) : cleanseref16_Valid.j3 (k + 1) (i : Int) (j : Int) b gs f0 f1 l = some r := by
  subst hb
  simp only [cleanseref16_Valid.j3]
  rw [if_neg (by decide), wrap_nat (by omega)]
  exact h
theorem refg_j3t {j : Int} {f0 f1 : Int} {l : List Int} {k : Nat} : cleanseref16_Valid.j3 (k + 1) (i : Int) j true gs f0 f1 l = some false := by
  simp only [cleanseref16_Valid.j3]
  rw [if_pos trivial]
theorem refg_l1 {f0 f1 : Int} {l : List Int} (hlen : l.length ≤ 1099511627776) (hin : ∀ x ∈ l, 0 ≤ x ∧ x < gs.length) {r : Bool} : ∀ (d j : Nat), l.length = j + d → (Ev (fun k => cleanseref16_Valid.l2 k (i : Int) 0 gs f0 f1 l) r → (∀ q : Nat, j ≤ q → q < l.length → ¬ badKid gs f0 l q) → Ev (fun k => cleanseref16_Valid.l1 k (i : Int) (j : Int) gs f0 f1 l) r) ∧ ((∃ q : Nat, j ≤ q ∧ q < l.length ∧ badKid gs f0 l q) → Ev (fun k => cleanseref16_Valid.l1 k (i : Int) (j : Int) gs f0 f1 l) false)
  | 0, j, hj => by
    refine ⟨fun hn _ => ?_, fun ⟨q, h1, h2, _⟩ => by omega⟩
    obtain ⟨K, hK⟩ := hn
    refine Ev.succ ⟨K, fun k hk => ?_⟩
    show cleanseref16_Valid.l1 (k + 1) _ _ _ _ _ _ = _
    simp only [cleanseref16_Valid.l1]
    rw [if_neg (by omega)]
    exact hK k hk
  | d + 1, j, hj => by
    obtain ⟨ihA, ihB⟩ := refg_l1 hlen hin (r := r) d (j + 1) (by omega)
    have hmem := rd_mem l j (by omega)
    have h0 := hin _ hmem
    -- one round: where kid j is good, what comes next; where it is bad, false
    have round : ∀ r' : Bool, (¬ badKid gs f0 l j → Ev (fun k => cleanseref16_Valid.l1 k (i : Int) ((j + 1 : Nat) : Int) gs f0 f1 l) r') → (badKid gs f0 l j → r' = false) → Ev (fun k => cleanseref16_Valid.l1 k (i : Int) (j : Int) gs f0 f1 l) r' := fun r' hnext hbad => by
      by_cases hb : badKid gs f0 l j
      · have hr := hbad hb
        subst hr
        refine Ev.succ ⟨1, fun k hk => ?_⟩
        obtain ⟨k, rfl⟩ : ∃ k', k = k' + 1 := ⟨k - 1, by omega⟩
        show cleanseref16_Valid.l1 (k + 1 + 1) _ _ _ _ _ _ = _
        simp only [cleanseref16_Valid.l1]
        have ht : ¬ (0 < j ∧ rd l (j : Int) < rd l ((j - 1 : Nat) : Int)) → (if ((rd_T50 gs (rd l (j : Int))).f0) = 0 then (cleanseref16_Valid.j3 (k + 1) (i : Int) (j : Int) true gs f0 f1 l) else (if f0 = 4 then (cleanseref16_Valid.j3 (k + 1) (i : Int) (j : Int) (((rd_T50 gs (rd l (j : Int))).f0) == 1) gs f0 f1 l) else (cleanseref16_Valid.j3 (k + 1) (i : Int) (j : Int) false gs f0 f1 l))) = some false := fun hns => by
          rcases hb with h | h | h
          · exact absurd h hns
          · rw [if_pos h]; exact refg_j3t
          · by_cases hz : (rd_T50 gs (rd l (j : Int))).f0 = 0
            · rw [if_pos hz]; exact refg_j3t
            · rw [if_neg hz, if_pos h.1, show ((rd_T50 gs (rd l (j : Int))).f0 == 1) = true from beq_iff_eq.2 h.2]; exact refg_j3t
        rw [if_pos (by omega), if_pos (by omega), if_pos h0.1, if_pos h0.2]
        by_cases hz : j = 0
        · rw [if_neg (by omega)]
          exact ht (fun h => by omega)
        · rw [if_pos (by omega), wrap_pred (by omega) (by omega), if_pos (by omega), if_pos (by omega)]
          by_cases hs : rd l (j : Int) < rd l ((j - 1 : Nat) : Int)
          · rw [if_pos hs]; exact refg_j3t
          · rw [if_neg hs]; exact ht (fun h => hs h.2)
      · obtain ⟨K, hK⟩ := hnext hb
        unfold badKid at hb
        refine Ev.succ ⟨K + 1, fun k hk => ?_⟩
        obtain ⟨k, rfl⟩ : ∃ k', k = k' + 1 := ⟨k - 1, by omega⟩
        have hj3 : ∀ b : Bool, b = false → cleanseref16_Valid.j3 (k + 1) (i : Int) (j : Int) b gs f0 f1 l = some r' := fun b hb => refg_j3 hb (by omega) (hK k (by omega))
        have ht : (if ((rd_T50 gs (rd l (j : Int))).f0) = 0 then (cleanseref16_Valid.j3 (k + 1) (i : Int) (j : Int) true gs f0 f1 l) else (if f0 = 4 then (cleanseref16_Valid.j3 (k + 1) (i : Int) (j : Int) (((rd_T50 gs (rd l (j : Int))).f0) == 1) gs f0 f1 l) else (cleanseref16_Valid.j3 (k + 1) (i : Int) (j : Int) false gs f0 f1 l))) = some r' := by
          rw [if_neg (fun h => hb (.inr (.inl h)))]
          by_cases h4 : f0 = 4
          · rw [if_pos h4]
            exact hj3 _ (beq_eq_false_iff_ne.2 (fun h => hb (.inr (.inr ⟨h4, h⟩))))
          · rw [if_neg h4]
            exact hj3 _ rfl
        show cleanseref16_Valid.l1 (k + 1 + 1) _ _ _ _ _ _ = _
        simp only [cleanseref16_Valid.l1]
        rw [if_pos (by omega), if_pos (by omega), if_pos h0.1, if_pos h0.2]
        by_cases hz : j = 0
        · rw [if_neg (by omega)]
          exact ht
        · rw [if_pos (by omega), wrap_pred (by omega) (by omega), if_pos (by omega), if_pos (by omega), if_neg (fun h => hb (.inl ⟨by omega, h⟩))]
          exact ht
    refine ⟨fun hn hall => round r (fun _ => ihA hn (fun q h1 h2 => hall q (by omega) h2)) (fun hb => absurd hb (hall j (Nat.le_refl _) (by omega))), fun ⟨q, h1, h2, h3⟩ => round false (fun hnb => ihB ⟨q, by
      by_cases e : q = j
      · subst e; exact absurd h3 hnb
      · omega, h2, h3⟩) (fun _ => rfl)⟩
end
theorem sortedTo_ex {l : List Int} : ∀ j : Nat, sortedTo l j = false → ∃ i : Nat, i < j ∧ rd l ((i + 1 : Nat) : Int) < rd l (i : Int)
  | 0, h => by simp [sortedTo] at h
  | j + 1, h => by
    simp only [sortedTo] at h
    by_cases hlt : rd l ((j + 1 : Nat) : Int) < rd l (j : Int)
    · exact ⟨j, by omega, hlt⟩
    · rw [if_neg hlt] at h
      obtain ⟨i, h1, h2⟩ := sortedTo_ex j h
      exact ⟨i, by omega, h2⟩
theorem bad_kids {gs : List S50} {f0 : Int} {l : List Int} (h2 : 2 ≤ l.length) (h : badKids f0 l gs = true) (hin : innerS f0 = true) : ∃ q : Nat, 0 ≤ q ∧ q < l.length ∧ badKid gs f0 l q := by
  simp only [badKids, Bool.or_eq_true, Bool.not_eq_true', decide_eq_true_eq] at h
  rcases h with h | h | h
  · omega
  · obtain ⟨i, h3, h4⟩ := sortedTo_ex _ h
    exact ⟨i + 1, by omega, by omega, .inl ⟨by omega, h4⟩⟩
  · obtain ⟨x, hx, hd⟩ := List.any_eq_true.1 h
    obtain ⟨q, hq, rfl⟩ := mem_at hx
    refine ⟨q, by omega, hq, .inr ?_⟩
    simp only [dropsKid, keptS, Bool.not_eq_true', Bool.and_eq_false_iff, bne_eq_false_iff_eq, Bool.or_eq_false_iff, beq_eq_false_iff_ne] at hd
    rcases hd with hd | hd
    · exact .inl hd
    · refine .inr ⟨?_, hd.1⟩
      simp only [innerS, Bool.or_eq_true, beq_iff_eq] at hin
      rcases hin with h | h
      · exact absurd h hd.2
      · exact h
theorem good_kid {gs : List S50} {i : Nat} (h : badGate gs i = false) (hi : i < gs.length) (q : Nat) (hq : q < (rd_T50 gs (i : Int)).f2.length) : ¬ badKid gs (rd_T50 gs (i : Int)).f0 (rd_T50 gs (i : Int)).f2 q := by
  obtain ⟨_, hs, hk0, hk1, _⟩ := good_kids h hi
  have hmem := rd_mem (rd_T50 gs (i : Int)).f2 q hq
  rintro (⟨h1, h2⟩ | h1 | ⟨h1, h2⟩)
  · have := hs (q - 1) (by omega)
    rw [show q - 1 + 1 = q by omega] at this
    exact this h2
  · exact hk0 _ hmem h1
  · exact hk1 h1 _ hmem h2
theorem refg_l0 {gs : List S50} (hlen : gs.length ≤ 100000) (hw : ∀ g ∈ gs, g.f2.length ≤ 1099511627776) : ∀ (d i : Nat), gs.length = i + d → okTo gs i = true → Ev (fun k => cleanseref16_Valid.l0 k (i : Int) gs) (okTo gs gs.length)
  | 0, i, hi, hok => by
    obtain rfl : i = gs.length := by omega
    rw [hok]
    refine Ev.succ ⟨0, fun k hk => ?_⟩
    show cleanseref16_Valid.l0 (k + 1) _ _ = _
    simp only [cleanseref16_Valid.l0]
    rw [if_neg (by omega)]
  | d + 1, i, hi, hok => by
    have hlt : i < gs.length := by omega
    have hg := hw _ (rd_mem50 gs (i : Int) ⟨by omega, by omega⟩)
    obtain ⟨f0, hf0⟩ : ∃ f0, f0 = (rd_T50 gs (i : Int)).f0 := ⟨_, rfl⟩
    have hno : (badGate gs i = true ∨ nameAt gs i ∈ namesTo gs i) → okTo gs gs.length = false := fun h => by
      refine okTo_false (i := i + 1) ?_ (by omega)
      simp only [okTo, hok, Bool.true_and]
      rcases h with h | h
      · simp [h]
      · simp [h]
    have hform : ∀ k, (rd_T50 gs (i : Int)).f2.length < k → cleanseref16_formed.f k (rd_T50 gs (i : Int)).f0 (rd_T50 gs (i : Int)).f1 (rd_T50 gs (i : Int)).f2 i = some (formedS (rd_T50 gs (i : Int)).f0 (rd_T50 gs (i : Int)).f1 (rd_T50 gs (i : Int)).f2 i) := fun k hk => formed_g hg k hk
    have early : (formedS (rd_T50 gs (i : Int)).f0 (rd_T50 gs (i : Int)).f1 (rd_T50 gs (i : Int)).f2 i = false ∨ (innerS (rd_T50 gs (i : Int)).f0 = true ∧ (rd_T50 gs (i : Int)).f2.length < 2)) → Ev (fun k => cleanseref16_Valid.l0 k (i : Int) gs) false := fun h => by
      refine Ev.succ ⟨(rd_T50 gs (i : Int)).f2.length + 2, fun k hk => ?_⟩
      obtain ⟨k, rfl⟩ : ∃ k', k = k' + 1 := ⟨k - 1, by omega⟩
      have hj1 : cleanseref16_Valid.j1 (k + 1) (i : Int) true gs (rd_T50 gs (i : Int)).f0 (rd_T50 gs (i : Int)).f1 (rd_T50 gs (i : Int)).f2 = some false := by
        simp only [cleanseref16_Valid.j1]
        rw [if_pos trivial]
      show cleanseref16_Valid.l0 (k + 1 + 1) _ _ = _
      simp only [cleanseref16_Valid.l0]
      rw [if_pos (by omega), if_pos (by omega), hform (k + 1) (by omega), Option.bind_some]
      cases hfm : formedS (rd_T50 gs (i : Int)).f0 (rd_T50 gs (i : Int)).f1 (rd_T50 gs (i : Int)).f2 i with
      | false => rw [if_neg (by decide)]; exact hj1
      | true =>
        rcases h with h | ⟨h1, h2⟩
        · rw [hfm] at h; cases h
        · rw [if_pos rfl, inner_f, Option.bind_some, if_pos h1, decide_eq_true (show ((rd_T50 gs (i : Int)).f2.length : Int) < 2 by omega)]
          exact hj1
    have late : ∀ r : Bool, formedS (rd_T50 gs (i : Int)).f0 (rd_T50 gs (i : Int)).f1 (rd_T50 gs (i : Int)).f2 i = true → (innerS (rd_T50 gs (i : Int)).f0 = true → 2 ≤ (rd_T50 gs (i : Int)).f2.length) → Ev (fun k => cleanseref16_Valid.l1 k (i : Int) 0 gs (rd_T50 gs (i : Int)).f0 (rd_T50 gs (i : Int)).f1 (rd_T50 gs (i : Int)).f2) r → Ev (fun k => cleanseref16_Valid.l0 k (i : Int) gs) r := fun r hfm h2 hl1 => by
      obtain ⟨K, hK⟩ := hl1
      refine Ev.succ ⟨K + (rd_T50 gs (i : Int)).f2.length + 2, fun k hk => ?_⟩
      obtain ⟨k, rfl⟩ : ∃ k', k = k' + 1 := ⟨k - 1, by omega⟩
      have hj1 : ∀ b : Bool, b = false → cleanseref16_Valid.j1 (k + 1) (i : Int) b gs (rd_T50 gs (i : Int)).f0 (rd_T50 gs (i : Int)).f1 (rd_T50 gs (i : Int)).f2 = some r := fun b hb => by
        subst hb
        simp only [cleanseref16_Valid.j1]
        rw [if_neg (by decide)]
        exact hK k (by omega)
      show cleanseref16_Valid.l0 (k + 1 + 1) _ _ = _
      simp only [cleanseref16_Valid.l0]
      rw [if_pos (by omega), if_pos (by omega), hform (k + 1) (by omega), Option.bind_some, hfm, if_pos rfl, inner_f, Option.bind_some]
      by_cases hin : innerS (rd_T50 gs (i : Int)).f0 = true
      · rw [if_pos hin]
        exact hj1 _ (decide_eq_false (by have := h2 hin; omega))
      · rw [if_neg hin]
        exact hj1 _ rfl
    by_cases hfm : formedS (rd_T50 gs (i : Int)).f0 (rd_T50 gs (i : Int)).f1 (rd_T50 gs (i : Int)).f2 i = true
    · by_cases h2 : innerS (rd_T50 gs (i : Int)).f0 = true ∧ (rd_T50 gs (i : Int)).f2.length < 2
      · rw [hno (.inl (by simp only [badGate, badKids, gateAt, Bool.or_eq_true, Bool.and_eq_true]; exact .inr ⟨h2.1, .inl (decide_eq_true h2.2)⟩))]
        exact early (.inr h2)
      · have h2' : innerS (rd_T50 gs (i : Int)).f0 = true → 2 ≤ (rd_T50 gs (i : Int)).f2.length := fun h => by
          rcases Nat.lt_or_ge (rd_T50 gs (i : Int)).f2.length 2 with h3 | h3
          · exact absurd ⟨h, h3⟩ h2
          · exact h3
        have hlow := formed_kids hfm (Int.le_refl _)
        have hin : ∀ x ∈ (rd_T50 gs (i : Int)).f2, 0 ≤ x ∧ x < gs.length := fun x hx => ⟨(hlow x hx).1, by have := (hlow x hx).2; omega⟩
        refine late _ hfm h2' ?_
        by_cases hbg : badGate gs i = true
        · rw [hno (.inl hbg)]
          have hb2 : innerS (rd_T50 gs (i : Int)).f0 = true ∧ badKids (rd_T50 gs (i : Int)).f0 (rd_T50 gs (i : Int)).f2 gs = true := by
            simp only [badGate, gateAt, hfm, Bool.not_true, Bool.false_or, Bool.and_eq_true] at hbg
            exact hbg
          exact (refg_l1 (r := false) hg hin _ 0 (Nat.zero_add _).symm).2 (bad_kids (h2' hb2.1) hb2.2 hb2.1)
        · have hbf : badGate gs i = false := by simpa using hbg
          refine (refg_l1 hg hin _ 0 (Nat.zero_add _).symm).1 ?_ (fun q _ hq => good_kid hbf hlt q hq)
          have h3 := refg_l2 (r := okTo gs gs.length) hlen hw hlt (fun hnm => refg_l0 hlen hw d (i + 1) (by omega) (by simp only [okTo, hok, hbf, Bool.not_false, Bool.true_and, Bool.not_eq_true', decide_eq_false_iff_not]; exact hnm)) i 0 (by omega) (fun q hq => by omega)
          by_cases hnm : nameAt gs i ∈ namesTo gs i
          · rw [if_pos hnm] at h3
            rw [hno (.inr hnm)]
            exact h3
          · rw [if_neg hnm] at h3
            exact h3
    · rw [hno (.inl (by
        have hfm' : formedS (rd_T50 gs (i : Int)).f0 (rd_T50 gs (i : Int)).f1 (rd_T50 gs (i : Int)).f2 i = false := by simpa using hfm
        simp only [badGate, gateAt, hfm', Bool.not_false, Bool.true_or]))]
      exact early (.inl (by simpa using hfm))
/-- The reference's Valid. -/
theorem refg_f {gs : List S50} (hw : ∀ g ∈ gs, g.f2.length ≤ 1099511627776) : Ev (fun k => cleanseref16_Valid.f k gs) (validS gs) := by
  by_cases hlen : gs.length ≤ 100000
  · obtain ⟨K, hK⟩ := refg_l0 hlen hw gs.length 0 (Nat.zero_add _).symm rfl
    refine ⟨K, fun k hk => ?_⟩
    show cleanseref16_Valid.f k gs = _
    unfold cleanseref16_Valid.f validS
    rw [if_neg (by omega), decide_eq_true hlen, Bool.true_and]
    exact hK k hk
  · refine ⟨0, fun k hk => ?_⟩
    show cleanseref16_Valid.f k gs = _
    unfold cleanseref16_Valid.f validS
    rw [if_pos (by omega), decide_eq_false hlen, Bool.false_and]
theorem rightg_l0 {gs : List S50} {rs : List Int} (hl : rs.length ≤ 1099511627776) (hv : Ev (fun k => cleanseref16_Valid.f k gs) (validS gs)) : ∀ (d i : Nat), rs.length = i + d → (∀ q : Nat, q < i → outside gs.length (rd rs (q : Int)) = false) → Ev (fun k => cleanseref18_Right.l0 k rs (i : Int) gs) (startS gs rs)
  | 0, i, hi, hq => by
    obtain ⟨K, hK⟩ := hv
    have hno : rs.any (outside gs.length) = false := by
      rw [List.any_eq_false]
      intro x hx
      obtain ⟨q, hql, rfl⟩ := mem_at hx
      rw [hq q (by omega)]; decide
    refine Ev.succ ⟨K, fun k hk => ?_⟩
    show cleanseref18_Right.l0 (k + 1) _ _ _ = _
    simp only [cleanseref18_Right.l0]
    have h := hK k hk
    rw [if_neg (by omega), show cleanseref16_Valid.f k gs = some (validS gs) from h]
    simp [startS, hno]
  | d + 1, i, hi, hq => by
    have hmem := rd_mem rs i (by omega)
    have out : outside gs.length (rd rs (i : Int)) = true → startS gs rs = false := fun h => by
      have : rs.any (outside gs.length) = true := List.any_eq_true.2 ⟨_, hmem, h⟩
      simp [startS, this]
    by_cases ho : outside gs.length (rd rs (i : Int)) = true
    · rw [out ho]
      refine Ev.succ ⟨0, fun k hk => ?_⟩
      show cleanseref18_Right.l0 (k + 1) _ _ _ = _
      simp only [cleanseref18_Right.l0]
      rw [if_pos (by omega), if_pos (by omega)]
      simp only [outside, Bool.or_eq_true, decide_eq_true_eq] at ho
      by_cases h0 : rd rs (i : Int) < 0
      · rw [if_pos h0]
      · rw [if_neg h0, if_pos (by omega)]
    · obtain ⟨K, hK⟩ := rightg_l0 hl hv d (i + 1) (by omega) (fun q hql => by
        by_cases e : q = i
        · subst e; simpa using ho
        · exact hq q (by omega))
      simp only [outside, Bool.or_eq_true, decide_eq_true_eq] at ho
      refine Ev.succ ⟨K, fun k hk => ?_⟩
      show cleanseref18_Right.l0 (k + 1) _ _ _ = _
      simp only [cleanseref18_Right.l0]
      rw [if_pos (by omega), if_pos (by omega), if_neg (by omega), if_neg (by omega), wrap_nat (by omega)]
      exact hK k hk
/-- Right. -/
theorem rightg_f {gs : List S50} {rs : List Int} (hw : ∀ g ∈ gs, g.f2.length ≤ 1099511627776) (hl : rs.length ≤ 1099511627776) : Ev (fun k => cleanseref18_Right.f k gs rs) (startS gs rs) :=
  rightg_l0 hl (refg_f hw) rs.length 0 (Nat.zero_add _).symm (fun q hq => by omega)
end Go.Proofs.YtcafgpfecfocnaaDoor.P

/- The reference's Keep answers as reap.Keep does (the printed function, plainly). -/
namespace Go.Proofs.YtcafgpfecfocnaaDoor.P
open Go.RowKit Go.Proofs.YtcafgpfecfocnaaDoorW.PrintWords
set_option linter.unusedVariables false
set_option linter.unusedSimpArgs false

theorem rd_set {l : List Int} {p : Nat} {v : Int} (hp : p < l.length) (j : Nat) : rd (l.set p v) (j : Int) = if j = p then v else rd l (j : Int) := by
  unfold rd
  rw [Int.toNat_natCast, List.getD_eq_getElem?_getD, List.getD_eq_getElem?_getD, List.getElem?_set]
  by_cases e : p = j
  · subst e
    rw [if_pos rfl, if_pos hp, if_pos rfl]
    rfl
  · rw [if_neg e, if_neg (fun h => e h.symm)]
/-- The places, when the gates ahead of i are done. -/
def placesTo (gs : List S50) (mk : Int → Bool) (i : Nat) (p : List Int) : Prop := p.length = gs.length ∧ ∀ j : Nat, j < gs.length → rd p (j : Int) = if j < i then plOf mk (j : Int) else 0
section
variable {gs : List S50} {mk : Int → Bool} {out : List Bool} {rs : List Int}
theorem rk_l2 {p : List Int} {og : List S50} (hp : placesTo gs mk gs.length p) (hin : ∀ r ∈ rs, inRange gs.length r) (hl : rs.length ≤ 1099511627776) : ∀ (d m : Nat), rs.length = m + d → Ev (fun k => cleanseref18_Keep.l2 k rs p ((rs.take m).map (plOf mk)) (m : Int) og) (og, rs.map (plOf mk), 0)
  | 0, m, hm => by
    refine Ev.succ ⟨0, fun k _ => ?_⟩
    show cleanseref18_Keep.l2 (k + 1) _ _ _ _ _ = _
    simp only [cleanseref18_Keep.l2]
    rw [if_neg (by omega), List.take_of_length_le (by omega)]
  | d + 1, m, hm => by
    obtain ⟨K, hK⟩ := rk_l2 (og := og) hp hin hl d (m + 1) (by omega)
    have hmem := rd_mem rs m (by omega)
    have hr := hin _ hmem
    unfold inRange at hr
    have e : rd p (rd rs (m : Int)) = plOf mk (rd rs (m : Int)) := by
      have h := hp.2 (rd rs (m : Int)).toNat (by omega)
      rw [Int.toNat_of_nonneg hr.1, if_pos (by omega)] at h
      exact h
    have e2 : (rs.take (m + 1)).map (plOf mk) = (rs.take m).map (plOf mk) ++ [plOf mk (rd rs (m : Int))] := by
      rw [List.take_succ_eq_append_getElem (show m < rs.length by omega), List.map_append, rd_get rs m (by omega)]
      rfl
    refine Ev.succ ⟨K, fun k hk => ?_⟩
    show cleanseref18_Keep.l2 (k + 1) _ _ _ _ _ = _
    simp only [cleanseref18_Keep.l2]
    rw [if_pos (by omega), if_pos (by omega), if_pos hr.1, if_pos (by rw [hp.1]; exact hr.2), if_pos (by rw [List.length_map, List.length_take]; omega), e, ← e2, wrap_nat (by omega)]
    exact hK k hk
theorem rk_l1 {i : Nat} {p : List Int} {og : List S50} {r : List S50 × List Int × Int} (hi : i < gs.length) (hlow : kidsLow gs) (hw : (rd_T50 gs (i : Int)).f2.length ≤ 1099511627776) (hog : og.length ≤ 1099511627776) (hlen : gs.length ≤ 100000) (hpl : p.length = gs.length) (hp : ∀ j : Nat, j < i → rd p (j : Int) = plOf mk (j : Int)) {f0 f1 : Int}
    (next : Ev (fun k => cleanseref18_Keep.l0 k rs out p ((i + 1 : Nat) : Int) gs (og ++ [(⟨f0, f1, (rd_T50 gs (i : Int)).f2.map (plOf mk)⟩ : S50)])) r) : ∀ (d m : Nat), (rd_T50 gs (i : Int)).f2.length = m + d → Ev (fun k => cleanseref18_Keep.l1 k rs out p (i : Int) (m : Int) gs og f0 f1 (((rd_T50 gs (i : Int)).f2.take m).map (plOf mk))) r
  | 0, m, hm => by
    obtain ⟨K, hK⟩ := next
    refine Ev.succ ⟨K, fun k hk => ?_⟩
    show cleanseref18_Keep.l1 (k + 1) _ _ _ _ _ _ _ _ _ _ = _
    simp only [cleanseref18_Keep.l1]
    rw [if_pos (by omega), if_pos (by omega), if_neg (by omega), if_pos (by omega), List.take_of_length_le (by omega), wrap_nat (by omega)]
    exact hK k hk
  | d + 1, m, hm => by
    obtain ⟨K, hK⟩ := rk_l1 (r := r) hi hlow hw hog hlen hpl hp next d (m + 1) (by omega)
    have hmem := rd_mem (rd_T50 gs (i : Int)).f2 m (by omega)
    have hr := hlow i hi _ hmem
    have e : rd p (rd (rd_T50 gs (i : Int)).f2 (m : Int)) = plOf mk (rd (rd_T50 gs (i : Int)).f2 (m : Int)) := by
      have h := hp (rd (rd_T50 gs (i : Int)).f2 (m : Int)).toNat (by omega)
      rw [Int.toNat_of_nonneg hr.1] at h
      exact h
    have e2 : ((rd_T50 gs (i : Int)).f2.take (m + 1)).map (plOf mk) = ((rd_T50 gs (i : Int)).f2.take m).map (plOf mk) ++ [plOf mk (rd (rd_T50 gs (i : Int)).f2 (m : Int))] := by
      rw [List.take_succ_eq_append_getElem (show m < (rd_T50 gs (i : Int)).f2.length by omega), List.map_append, rd_get _ m (by omega)]
      rfl
    refine Ev.succ ⟨K, fun k hk => ?_⟩
    show cleanseref18_Keep.l1 (k + 1) _ _ _ _ _ _ _ _ _ _ = _
    simp only [cleanseref18_Keep.l1]
    rw [if_pos (by omega), if_pos (by omega), if_pos (by omega), if_pos (by omega), if_pos hr.1, if_pos (by omega), if_pos (by rw [List.length_map, List.length_take]; omega), e, ← e2, wrap_nat (by omega)]
    exact hK k hk
theorem rk_l0 (hlow : kidsLow gs) (hw : ∀ g ∈ gs, g.f2.length ≤ 1099511627776) (hlen : gs.length ≤ 100000) (hin : ∀ r ∈ rs, inRange gs.length r) (hl : rs.length ≤ 1099511627776) (hout : out.length = gs.length) (hflag : ∀ j : Int, 0 ≤ j → rdOf false out j = mk j) : ∀ (d i : Nat) (p : List Int), gs.length = i + d → placesTo gs mk i p → Ev (fun k => cleanseref18_Keep.l0 k rs out p (i : Int) gs (resG gs mk i)) (resG gs mk gs.length, rs.map (plOf mk), 0)
  | 0, i, p, hi, hp => by
    obtain rfl : i = gs.length := by omega
    obtain ⟨K, hK⟩ := rk_l2 (og := resG gs mk gs.length) hp hin hl rs.length 0 (Nat.zero_add _).symm
    refine Ev.succ ⟨K, fun k hk => ?_⟩
    show cleanseref18_Keep.l0 (k + 1) _ _ _ _ _ _ = _
    simp only [cleanseref18_Keep.l0]
    rw [if_neg (by omega)]
    exact hK k hk
  | d + 1, i, p, hi, hp => by
    have hlt : i < gs.length := by omega
    have hg := hw _ (rd_mem50 gs (i : Int) ⟨by omega, by omega⟩)
    have hrl := resG_length gs mk i
    have hcl := cnt_le mk i
    by_cases hm : mk (i : Int) = true
    · have hp' : placesTo gs mk (i + 1) (p.set i ((resG gs mk i).length : Int)) := by
        refine ⟨by rw [List.length_set]; exact hp.1, fun j hj => ?_⟩
        rw [rd_set (by rw [hp.1]; exact hlt)]
        by_cases e : j = i
        · subst e
          rw [if_pos rfl, if_pos (by omega), hrl]
          unfold plOf
          rw [if_pos hm, Int.toNat_natCast]
        · rw [if_neg e, hp.2 j hj]
          by_cases h2 : j < i
          · rw [if_pos h2, if_pos (by omega)]
          · rw [if_neg h2, if_neg (by omega)]
      have e3 : resG gs mk (i + 1) = resG gs mk i ++ [(⟨(rd_T50 gs (i : Int)).f0, (rd_T50 gs (i : Int)).f1, (rd_T50 gs (i : Int)).f2.map (plOf mk)⟩ : S50)] := by
        simp only [resG]
        rw [if_pos hm]
        rfl
      have hnext := rk_l0 hlow hw hlen hin hl hout hflag d (i + 1) _ (by omega) hp'
      rw [e3] at hnext
      obtain ⟨K, hK⟩ := rk_l1 (rs := rs) (out := out) hlt hlow hg (by omega) hlen hp'.1 (fun j hj => by have := hp'.2 j (by omega); rw [if_pos (by omega)] at this; exact this) hnext _ 0 (Nat.zero_add _).symm
      refine Ev.succ ⟨K, fun k hk => ?_⟩
      show cleanseref18_Keep.l0 (k + 1) _ _ _ _ _ _ = _
      simp only [cleanseref18_Keep.l0]
      rw [if_pos (by omega), if_pos (by omega), if_pos (by rw [hflag _ (by omega)]; exact hm), if_pos (by rw [hp.1]; omega), if_pos (by omega), Int.toNat_natCast]
      exact hK k hk
    · have hp' : placesTo gs mk (i + 1) p := by
        refine ⟨hp.1, fun j hj => ?_⟩
        rw [hp.2 j hj]
        by_cases e : j = i
        · subst e
          rw [if_neg (by omega), if_pos (by omega)]
          unfold plOf
          rw [if_neg hm]
        · by_cases h2 : j < i
          · rw [if_pos h2, if_pos (by omega)]
          · rw [if_neg h2, if_neg (by omega)]
      have e3 : resG gs mk (i + 1) = resG gs mk i := by
        simp only [resG]
        rw [if_neg hm, List.append_nil]
      have hnext := rk_l0 hlow hw hlen hin hl hout hflag d (i + 1) _ (by omega) hp'
      rw [e3] at hnext
      obtain ⟨K, hK⟩ := hnext
      refine Ev.succ ⟨K, fun k hk => ?_⟩
      show cleanseref18_Keep.l0 (k + 1) _ _ _ _ _ _ = _
      simp only [cleanseref18_Keep.l0]
      rw [if_pos (by omega), if_pos (by omega), if_neg (by rw [hflag _ (by omega)]; exact hm), wrap_nat (by omega)]
      exact hK k hk
end
/-- The reference's Keep. -/
theorem refkeep_f {gs : List S50} {rs : List Int} (hw : ∀ g ∈ gs, g.f2.length ≤ 1099511627776) (hl : rs.length ≤ 1099511627776) : Ev (fun k => cleanseref18_Keep.f k gs rs) (keepS gs rs) := by
  obtain ⟨K1, hK1⟩ := rightg_f hw hl
  cases hs : startS gs rs with
  | false =>
    rw [hs] at hK1
    refine ⟨K1, fun k hk => ?_⟩
    have h1 : cleanseref18_Right.f k gs rs = some false := hK1 k hk
    show cleanseref18_Keep.f k gs rs = _
    unfold cleanseref18_Keep.f keepS
    rw [h1, Option.bind_some, if_neg (by decide), if_neg (by rw [hs]; decide)]
  | true =>
    rw [hs] at hK1
    obtain ⟨hv, hin⟩ := start_in hs
    have hlen := valid_len hv
    obtain ⟨out, ⟨K2, hK2⟩, hout, hflag⟩ := kept_f hs hw hl
    obtain ⟨K3, hK3⟩ := rk_l0 (valid_low hv) hw hlen hin hl hout hflag gs.length 0 (List.replicate gs.length 0) (Nat.zero_add _).symm ⟨by simp, fun j hj => by
      rw [if_neg (by omega)]
      unfold rd
      rw [List.getD_eq_getElem?_getD, List.getElem?_replicate]
      split <;> rfl⟩
    refine ⟨K1 + K2 + K3, fun k hk => ?_⟩
    have h1 : cleanseref18_Right.f k gs rs = some true := hK1 k (by omega)
    have h2 : cleanseref18_Kept.f k gs rs = some out := hK2 k (by omega)
    show cleanseref18_Keep.f k gs rs = _
    unfold cleanseref18_Keep.f keepS
    rw [h1, Option.bind_some, if_pos rfl, h2, Option.bind_some, if_pos (by omega), Int.toNat_natCast, if_pos (by omega), if_pos hs, hout]
    exact hK3 k (by omega)
end Go.Proofs.YtcafgpfecfocnaaDoor.P

/- Same and Ints of a thing and itself (the printed functions, plainly); what wf a kept circuit is. -/
namespace Go.Proofs.YtcafgpfecfocnaaDoor.P
open Go.RowKit Go.Proofs.YtcafgpfecfocnaaDoorW.PrintWords
set_option linter.unusedVariables false
set_option linter.unusedSimpArgs false

theorem ints_l0 {l : List Int} (hb : l.length ≤ 1099511627776) : ∀ (d i : Nat), l.length = i + d → Ev (fun k => cleanseref06_Ints.l0 k l l (i : Int)) true
  | 0, i, hi => by
    refine Ev.succ ⟨0, fun k _ => ?_⟩
    show cleanseref06_Ints.l0 (k + 1) _ _ _ = _
    simp only [cleanseref06_Ints.l0]
    rw [if_neg (by omega)]
  | d + 1, i, hi => by
    obtain ⟨K, hK⟩ := ints_l0 hb d (i + 1) (by omega)
    refine Ev.succ ⟨K, fun k hk => ?_⟩
    show cleanseref06_Ints.l0 (k + 1) _ _ _ = _
    simp only [cleanseref06_Ints.l0]
    rw [if_pos (by omega), if_pos (by omega), if_pos (by omega), if_pos trivial, wrap_nat (by omega)]
    exact hK k hk
theorem ints_f {l : List Int} (hb : l.length ≤ 1099511627776) : Ev (fun k => cleanseref06_Ints.f k l l) true := by
  obtain ⟨K, hK⟩ := ints_l0 hb l.length 0 (Nat.zero_add _).symm
  refine ⟨K, fun k hk => ?_⟩
  show cleanseref06_Ints.f k l l = _
  unfold cleanseref06_Ints.f
  rw [if_pos rfl]
  exact hK k hk
theorem same_l0 {gs : List S50} (hlen : gs.length ≤ 1099511627776) (hw : ∀ g ∈ gs, g.f2.length ≤ 1099511627776) : ∀ (d i : Nat), gs.length = i + d → Ev (fun k => cleanseref16_Same.l0 k (i : Int) gs gs) true
  | 0, i, hi => by
    refine Ev.succ ⟨0, fun k _ => ?_⟩
    show cleanseref16_Same.l0 (k + 1) _ _ _ = _
    simp only [cleanseref16_Same.l0]
    rw [if_neg (by omega)]
  | d + 1, i, hi => by
    obtain ⟨K, hK⟩ := same_l0 hlen hw d (i + 1) (by omega)
    have hg := hw _ (rd_mem50 gs (i : Int) ⟨by omega, by omega⟩)
    refine Ev.succ ⟨K + (rd_T50 gs (i : Int)).f2.length + 2, fun k hk => ?_⟩
    show cleanseref16_Same.l0 (k + 1) _ _ _ = _
    simp only [cleanseref16_Same.l0]
    rw [if_pos (by omega), if_pos (by omega), if_pos (by omega), equal_f k _ _ _ _ _ _ hg (by omega), Option.bind_some, if_pos (by simp), wrap_nat (by omega)]
    exact hK k (by omega)
theorem same_f {gs : List S50} (hlen : gs.length ≤ 1099511627776) (hw : ∀ g ∈ gs, g.f2.length ≤ 1099511627776) : Ev (fun k => cleanseref16_Same.f k gs gs) true := by
  obtain ⟨K, hK⟩ := same_l0 hlen hw gs.length 0 (Nat.zero_add _).symm
  refine ⟨K, fun k hk => ?_⟩
  show cleanseref16_Same.f k gs gs = _
  unfold cleanseref16_Same.f
  rw [if_pos rfl]
  exact hK k hk
/-- Few gates are wf. -/
theorem few_wf {gs : List S50} {n : Int} (hf : fewS gs n = true) (hg : ∀ g ∈ gs, goodG g) : ∀ g ∈ gs, wfG g := by
  intro g hm
  obtain ⟨i, hi, rfl⟩ := mem_rd hm
  simp only [fewS, Bool.and_eq_true, decide_eq_true_eq] at hf
  have h1 := hf.2 i hi
  obtain ⟨a, b, c⟩ := hg _ hm
  exact ⟨a, b, c, by omega⟩
theorem plOf_in {gs : List S50} {mk : Int → Bool} {k : Int} (hlen : gs.length ≤ 1099511627776) (h0 : 0 ≤ k) (hk : k < gs.length) : 0 ≤ plOf mk k ∧ plOf mk k ≤ 1099511627776 := by
  unfold plOf
  split
  · have := cnt_le mk k.toNat
    omega
  · omega
theorem mem_resG {gs : List S50} {mk : Int → Bool} {n : Nat} {g : S50} (h : g ∈ resG gs mk n) : ∃ i, i < n ∧ mk (i : Int) = true ∧ g = movedG gs mk i := by
  induction n with
  | zero => simp [resG] at h
  | succ n ih =>
    simp only [resG, List.mem_append] at h
    rcases h with h | h
    · obtain ⟨i, h1, h2⟩ := ih h
      exact ⟨i, by omega, h2⟩
    · by_cases hm : mk (n : Int) = true
      · rw [if_pos hm] at h
        exact ⟨n, by omega, hm, by simpa using h⟩
      · rw [if_neg hm] at h; simp at h
/-- The kept circuit's numbers. -/
theorem resG_wf {gs : List S50} {mk : Int → Bool} (hv : validS gs = true) (hw : ∀ g ∈ gs, wfG g) : ∀ g ∈ resG gs mk gs.length, wfG g := by
  intro g hg
  have hlen := valid_len hv
  obtain ⟨i, hi, _, rfl⟩ := mem_resG hg
  obtain ⟨a, b, c, d⟩ := hw _ (rd_mem50 gs (i : Int) ⟨by omega, by omega⟩)
  refine ⟨a, b, fun k hk => ?_, by show ((rd_T50 gs (i : Int)).f2.map _).length ≤ _; rw [List.length_map]; exact d⟩
  obtain ⟨x, hx, rfl⟩ := List.mem_map.1 hk
  have h2 := valid_low hv i hi x hx
  have h3 := plOf_in (gs := gs) (mk := mk) (k := x) (by omega) h2.1 (by omega)
  unfold in64
  omega
theorem wf_kids {gs : List S50} (hw : ∀ g ∈ gs, wfG g) : ∀ g ∈ gs, g.f2.length ≤ 1099511627776 := fun g hg => (hw g hg).2.2.2
end Go.Proofs.YtcafgpfecfocnaaDoor.P

/- How many steps a sweep takes: each takes one gate that waits; when nothing waits, the gates taken are what the roots reach. -/
namespace Go.Proofs.YtcafgpfecfocnaaDoor.P
open Go.Proofs.YtcafgpfecfocnaaDoorW.PrintWords
set_option linter.unusedVariables false
set_option linter.unusedSimpArgs false

/-- How many gates have been taken. -/
def St.pops (n : Nat) (s : St) : Nat := n - s.mu n
/-- How many gates the roots reach. -/
def reachN (gs : List S50) (al : List Int) : Nat := cnt (marksS gs al) gs.length
theorem cnt_sub {mk mk' : Int → Bool} (h : ∀ i, mk i = true → mk' i = true) : ∀ n : Nat, cnt mk n ≤ cnt mk' n
  | 0 => Nat.le_refl _
  | n + 1 => by
    have ih := cnt_sub h n
    simp only [cnt]
    by_cases hm : mk (n : Int) = true
    · rw [if_pos hm, if_pos (h _ hm)]; omega
    · rw [if_neg hm]; omega
section
variable {gs : List S50} {al : List Int} {s : St}
theorem mark_sub (hs : startS gs al = true) (h : Inv gs al s) (i : Int) (hm : s.mark i = true) : marksS gs al i = true := (marks_iff hs i).2 (h.reach i hm)
theorem mark_done (hs : startS gs al = true) (h : Inv gs al s) (hw : s.wait = []) : s.mark = marksS gs al := by
  funext i
  rw [Bool.eq_iff_iff, h.done hw i, marks_iff hs i]
theorem St.Good.mu_le (hg : s.Good gs.length) : s.mu gs.length ≤ gs.length := by
  unfold St.mu
  have h1 := hg.few
  have h2 := cnt_le s.mark gs.length
  omega
theorem pops_eq (hg : s.Good gs.length) : s.pops gs.length + s.wait.length = cnt s.mark gs.length := by
  unfold St.pops St.mu
  have h1 := hg.few
  have h2 := cnt_le s.mark gs.length
  omega
theorem pops_le (hs : startS gs al = true) (h : Inv gs al s) (hg : s.Good gs.length) : s.pops gs.length ≤ reachN gs al := by
  have h1 := pops_eq hg
  have h2 := cnt_sub (mark_sub hs h) gs.length
  unfold reachN
  omega
theorem pops_done (hs : startS gs al = true) (h : Inv gs al s) (hg : s.Good gs.length) : s.pops gs.length = reachN gs al ↔ s.wait = [] := by
  have h1 := pops_eq hg
  have h2 := cnt_sub (mark_sub hs h) gs.length
  constructor
  · intro he
    unfold reachN at he
    exact List.eq_nil_of_length_eq_zero (by omega)
  · intro hw
    have h3 := mark_done hs h hw
    unfold reachN
    rw [hw, h3] at h1
    simpa using h1
theorem pops_step (hg : s.Good gs.length) (hk : kidsIn gs) (hw : s.wait ≠ []) : (s.step gs).pops gs.length = s.pops gs.length + 1 := by
  have h1 := St.mu_step hg hk hw
  have h2 := hg.mu_le
  unfold St.pops
  omega
theorem pops_steps (hs : startS gs al = true) (hk : kidsIn gs) : ∀ (k : Nat) {s : St}, Inv gs al s → s.Good gs.length → (s.steps gs k).pops gs.length = s.pops gs.length + min k (reachN gs al - s.pops gs.length)
  | 0, s, h, hg => by simp [St.steps]
  | k + 1, s, h, hg => by
    simp only [St.steps]
    by_cases hw : s.wait = []
    · rw [if_pos hw]
      have := (pops_done hs h hg).2 hw
      omega
    · rw [if_neg hw, pops_steps hs hk k h.step (hg.step hk), pops_step hg hk hw]
      have h1 := pops_le hs h hg
      have h2 : s.pops gs.length ≠ reachN gs al := fun he => hw ((pops_done hs h hg).1 he)
      omega
theorem Inv.push {i : Int} (h : Inv gs al s) : Inv gs (al ++ [i]) (s.push i) where
  roots := fun r hr => by
    show mkPut s.mark i r = true
    rw [mkPut_true]
    rcases List.mem_append.1 hr with h1 | h1
    · exact .inr (h.roots r h1)
    · exact .inl (by simpa using h1)
  wait := fun j hj => by
    show mkPut s.mark i j = true
    rw [mkPut_true]
    rcases waitPut_mem.1 hj with h1 | ⟨h1, _⟩
    · exact .inr (h.wait j h1)
    · exact .inl h1
  closed := fun j hj => by
    have hj2 : mkPut s.mark i j = true := hj
    rw [mkPut_true] at hj2
    have mono : ∀ k, s.mark k = true → (s.push i).mark k = true := fun k hk => by
      show mkPut s.mark i k = true
      rw [mkPut_true]; exact .inr hk
    have old : s.mark j = true → j ∈ (s.push i).wait ∨ ∀ k ∈ (rd_T50 gs j).f2, (s.push i).mark k = true := fun hm => by
      rcases h.closed j hm with h1 | h1
      · exact .inl (waitPut_mem.2 (.inl h1))
      · exact .inr fun k hk => mono k (h1 k hk)
    by_cases hm : s.mark j = true
    · exact old hm
    · rcases hj2 with h1 | h1
      · subst h1; exact .inl (waitPut_mem.2 (.inr ⟨rfl, by simpa using hm⟩))
      · exact absurd h1 hm
  reach := fun j hj => by
    have hj2 : mkPut s.mark i j = true := hj
    rw [mkPut_true] at hj2
    have mono : ∀ k, Reach gs al k → Reach gs (al ++ [i]) k := fun k hr => by
      induction hr with
      | root r hr => exact .root r (List.mem_append.2 (.inl hr))
      | kid a b _ hk ih => exact .kid a b ih hk
    rcases hj2 with h1 | h1
    · subst h1; exact .root _ (List.mem_append.2 (.inr (by simp)))
    · exact mono j (h.reach j h1)
theorem pops_push {i : Int} (hi : inRange gs.length i) : (s.push i).pops gs.length = s.pops gs.length := by
  unfold St.pops
  rw [St.mu_push hi]
theorem start_push (hs : startS gs al = true) {i : Int} (hi : inRange gs.length i) : startS gs (al ++ [i]) = true := by
  obtain ⟨hv, hin⟩ := start_in hs
  simp only [startS, Bool.and_eq_true, Bool.not_eq_true']
  refine ⟨hv, ?_⟩
  rw [List.any_eq_false]
  intro x hx
  have hx2 : inRange gs.length x := by
    rcases List.mem_append.1 hx with h1 | h1
    · exact hin x h1
    · obtain rfl : x = i := by simpa using h1
      exact hi
  unfold inRange at hx2
  unfold outside
  simp
  omega
theorem pops_start (hs : startS gs al = true) : (st0 al).pops gs.length = 0 := by
  obtain ⟨hv, hin⟩ := start_in hs
  unfold St.pops st0
  rw [St.mu_pushAll al hin]
  unfold St.mu
  have : cnt (fun _ => false) gs.length = 0 := by
    generalize gs.length = n
    induction n with
    | zero => rfl
    | succ n ih => simp only [cnt]; rw [ih]; simp
  simp [this]
end
end Go.Proofs.YtcafgpfecfocnaaDoor.P

/- The law on steps: what holds ahead of each operation. -/
namespace Go.Proofs.YtcafgpfecfocnaaDoor.P
open Go.RowKit Go.Maps Go.Proofs.YtcafgpfecfocnaaDoorW.PrintWords Go.Proofs.YtcafgpfecfocnaaDoorW.PrintLast Go.Proofs.YtcafgpfecfocnaaDoorW.PrintMore
set_option linter.unusedVariables false
set_option linter.unusedSimpArgs false

theorem QInts.of_R {W : World} {base : Nat} {ok : Nat → Prop} {v : Value} {xs : List Int} (h : (Kd.int .i64).R 3 W base ok v xs) : QInts W v xs := by
  obtain ⟨_, inner, hown, hl, hr⟩ := h
  have e : inner = nums .i64 xs := by
    have hl2 : inner.length = xs.length * 1 := hl
    refine List.ext_getElem? fun j => ?_
    by_cases hj : j < xs.length
    · have hK := hr j _ (List.getElem?_eq_getElem hj)
      have hK2 : (inner.drop (j * 1)).take 1 = [.int .i64 xs[j]] := hK
      have h0 := congrArg (fun l => l[0]?) hK2
      simp only [List.getElem?_take, List.getElem?_drop, List.getElem?_cons_zero] at h0
      rw [if_pos (by decide), Nat.mul_one, Nat.add_zero] at h0
      rw [h0]
      simp [nums, hj]
    · rw [List.getElem?_eq_none (by omega), List.getElem?_eq_none (by simp [nums]; omega)]
  subst e
  exact QInts.of_own hown
/-- reap.Keep, what came back told as a footprint. -/
theorem keep_f (W : World) (A0 : Option Addr) (c0 : Nat) (gs : List S50) (A1 : Option Addr) (c1 n : Nat) (rs : List Int) (hn : rs.length = n) (hT : Tabs W) (hwf : ∀ g ∈ gs, wfG g) (hC : Kd.C k50 W A0 gs.length gs) (hc0 : gs.length ≤ c0) (hb : Kd.C (Kd.int .i64) W A1 rs.length rs) (hc1 : rs.length ≤ c1) (hrl : rs.length ≤ 1099511627776) (r1 : List S50) (r2 : List Int) (r3 : Int) (hk : keepS gs rs = (r1, r2, r3)) :
    Calls Tryd.prog 16 #[.agg #[.slice A0 gs.length c0], .slice A1 n c1] W fun e W' => ∃ A c A1 c1, e = .returned (.tuple #[.agg #[.slice A r1.length c], .slice A1 r2.length c1, .int .i64 r3]) ∧ r1.length ≤ c ∧ r2.length ≤ c1 ∧ Foot (fun W'' => Kd.C k50 W'' A r1.length r1 ∧ Kd.C (Kd.int .i64) W'' A1 r2.length r2) W' (fun k => W.heap.size ≤ k) ∧ Below W.heap.size W W' := by
  subst hn
  have h := keep_calls A0 c0 gs A1 c1 rs W hT hwf hC hc0 hb hc1 hrl
  rw [hk] at h
  refine h.mono ?_
  rintro e W' ⟨v0, v1, rfl, hS, hR, hB⟩
  obtain ⟨A, c, rfl⟩ := Kd.S_slice hS
  obtain ⟨A1, c1, rfl⟩ := Kd.R_slice hR
  exact ⟨A, c, A1, c1, rfl, (Kd.S_reads' hS).2.1, (Kd.R_reads' hR).2.1, Foot.and (Foot.rows (Kd.S_R hS)) (Foot.rows hR), hB⟩
theorem steps_add {P D Q : Nat} {n : Int} (hP : P ≤ D) (hD : D ≤ 100000) (hQ : Q = P + min n.toNat (D - P)) : wrap64 ((P : Int) + if 0 < (if wrap64 ((D : Int) - (P : Int)) < n then wrap64 ((D : Int) - (P : Int)) else n) then (if wrap64 ((D : Int) - (P : Int)) < n then wrap64 ((D : Int) - (P : Int)) else n) else 0) = (Q : Int) := by
  have e : wrap64 ((D : Int) - (P : Int)) = (D : Int) - (P : Int) := by unfold wrap64; omega
  rw [e]
  have h2 : ((P : Int) + if 0 < (if (D : Int) - (P : Int) < n then (D : Int) - (P : Int) else n) then (if (D : Int) - (P : Int) < n then (D : Int) - (P : Int) else n) else 0) = (Q : Int) := by
    by_cases h : (D : Int) - (P : Int) < n
    · rw [if_pos h]; split <;> omega
    · rw [if_neg h]; split <;> omega
  rw [h2]
  unfold wrap64
  omega
/-- Result of a sweep that is done, told as a footprint. -/
theorem result_f {W : World} {F : Nat → Prop} {g : Nat} {gs : List S50} {roots : List Int} {mk : Int → Bool} {wait : List Int} {Ag : Option Addr} {cg : Nat} {vr : Value} {bm nm : Nat} {vw : Value} {f : Lit → Option (DataW Unit)}
    (h : SW W F g gs roots mk wait Ag cg vr bm nm vw f) (hw : wait = []) (hv : validS gs = true) (hwf : ∀ g ∈ gs, wfG g) (hr : ∀ r ∈ roots, inRange gs.length r) (hrl : roots.length ≤ 1099511627776) (d : List S50) (m : List Int) (hd : d = resG gs mk gs.length) (hm : m = roots.map (plOf mk)) :
    Calls Tryd.prog 26 #[.pointer (some ⟨g, 0, none⟩)] W fun e W' => ∃ A c A1 c1, e = .returned (.tuple #[.agg #[.slice A d.length c], .slice A1 m.length c1, .int .i64 0]) ∧ d.length ≤ c ∧ m.length ≤ c1 ∧ Foot (fun W'' => Kd.C k50 W'' A d.length d ∧ Kd.C (Kd.int .i64) W'' A1 m.length m) W' (fun k => W.heap.size ≤ k) ∧ Below W.heap.size W W' := by
  subst hw
  have hlen := valid_len hv
  have hc := result_calls h (valid_low hv) (wf_kids hwf) hlen hr hrl
  subst hd
  subst hm
  refine hc.mono ?_
  rintro e W' ⟨v0, v1, rfl, hS, hR, hB⟩
  obtain ⟨A, c, rfl⟩ := Kd.S_slice hS
  obtain ⟨A1, c1, rfl⟩ := Kd.R_slice hR
  exact ⟨A, c, A1, c1, rfl, (Kd.S_reads' hS).2.1, (Kd.R_reads' hR).2.1, Foot.and (Foot.rows (Kd.S_R hS)) (Foot.rows hR), hB⟩
/-- What holds ahead of an operation of the law on steps: al are the roots so far, s the sweep. -/
structure SS (w W : World) (gb g : Nat) (A0 : Option Addr) (c0 : Nat) (gs : List S50) (al : List Int) (s : St) (v : Value) : Prop where
  below : Below w.heap.size w W
  box : W.heap[gb]? = some (.cells #[.slice A0 gs.length c0] 24 (0, 0))
  gbge : w.heap.size ≤ gb
  row : QInts W v al
  sw : ∃ F Ag cg vr bm nm vw f, SW W F g gs al s.mark s.wait Ag cg vr bm nm vw f ∧ ¬ F gb ∧ (∀ k, F k → w.heap.size ≤ k) ∧ (∀ k, v.ownBlock = some k → ¬ F k) ∧ Kd.F k50 W (fun k => ¬ F k ∧ v.ownBlock ≠ some k) Ag gs.length gs
  rge : ∀ k, v.ownBlock = some k → w.heap.size ≤ k
  inv : Inv gs al s
  good : s.Good gs.length
  start : startS gs al = true
section
variable {w W W' : World} {gb g : Nat} {A0 : Option Addr} {c0 : Nat} {gs : List S50} {al : List Int} {s : St} {v : Value}
end
end Go.Proofs.YtcafgpfecfocnaaDoor.P

/- The reference's sweep in memory, and its methods. Written by gen_refs.py. -/
namespace Go.Proofs.YtcafgpfecfocnaaDoor.P
open Go.RowKit Go.Maps Go.Proofs.YtcafgpfecfocnaaDoorW.PrintWords Go.Proofs.YtcafgpfecfocnaaDoorW.PrintLast Go.Proofs.YtcafgpfecfocnaaDoorW.PrintMore
attribute [local go_sem] max2_int min2_int max_two min_two
set_option linter.unusedVariables false
set_option linter.unusedSimpArgs false

/-- A sweep of the reference lies at block g; its rows are new since B. -/
structure RW (B : Nat) (W : World) (g : Nat) (A0 : Option Addr) (c0 : Nat) (gs : List S50) (vr : Value) (al : List Int) (P : Int) : Prop where
 cells : W.heap[g]? = some (.cells #[.slice A0 gs.length c0, vr, .int .i64 P] 82 (0, 0))
 row : QInts W vr al
 ge : B ≤ g
 rge : ∀ k, vr.ownBlock = some k → B ≤ k
section
variable {B : Nat} {W W' : World} {g : Nat} {A0 : Option Addr} {c0 : Nat} {gs : List S50} {vr : Value} {al : List Int} {P : Int}
theorem RW.below (h : RW B W g A0 c0 gs vr al P) (hb : Below W.heap.size W W') : RW B W' g A0 c0 gs vr al P where
 cells := (hb.block g (blk_lt h.cells)).trans h.cells
 row := h.row.move fun k hk => hb.block k (h.row.lt k hk)
 ge := h.ge
 rge := h.rge
theorem RW.upd {F : Nat → Prop} (h : RW B W g A0 c0 gs vr al P) (hu : Upd F W W') (hg : ¬ F g) (hr : ∀ k, vr.ownBlock = some k → ¬ F k) : RW B W' g A0 c0 gs vr al P where
 cells := hu.blk h.cells hg
 row := h.row.upd hu hr
 ge := h.ge
 rge := h.rge
theorem RW.r_ne_g (h : RW B W g A0 c0 gs vr al P) : vr.ownBlock ≠ some g := h.row.ne_type h.cells (by decide)
end
theorem at_bools {W : World} {A : Option Addr} {n : Nat} {l : List Bool} (h : Kd.C Kd.bool W A n l) (i : Nat) (hi : i < n) : ∃ ad, A = some ad ∧ W.cell? (ad.add i) = some (.bool (rdOf false l (i : Int))) := by
 obtain ⟨ad, c, e, _, hK, hc⟩ := Kd.C_get h false (i : Int) (by omega) (by omega)
 have hK2 : c = [.bool (l.getD (i : Int).toNat false)] := hK
 subst hK2
 have h0 := hc 0 _ rfl
 have h1 : W.cell? (ad.add (i * 1 + 0)) = some (.bool (l.getD (i : Int).toNat false)) := h0
 rw [Nat.mul_one, Nat.add_zero] at h1
 exact ⟨ad, e, h1⟩
theorem eg30 : ∀ args w, (callFunc 30 args).run Tryd.prog w = .ok (.enter 30 args) w := enters_of Tryd.func30 (by kernel_rfl) rfl
theorem eg56 : ∀ args w, (callFunc 56 args).run Tryd.prog w = .ok (.enter 56 args) w := enters_of Tryd.func56 (by kernel_rfl) rfl
theorem eg17 : ∀ args w, (callFunc 17 args).run Tryd.prog w = .ok (.enter 17 args) w := enters_of Tryd.func17 (by kernel_rfl) rfl
theorem cnt_ext {mk mk' : Int → Bool} : ∀ n : Nat, (∀ j : Nat, j < n → mk (j : Int) = mk' (j : Int)) → cnt mk n = cnt mk' n
 | 0, _ => rfl
 | n + 1, h => by
  simp only [cnt]
  rw [cnt_ext n (fun j hj => h j (by omega)), h n (by omega)]

set_option maxRecDepth 100000 in
set_option maxHeartbeats 8000000 in
/-- count: how many gates the roots reach. -/
theorem count_calls {B : Nat} {W : World} {g : Nat} {A0 : Option Addr} {c0 : Nat} {gs : List S50} {vr : Value} {al : List Int} {P : Int} (h : RW B W g A0 c0 gs vr al P) (hC : Kd.C k50 W A0 gs.length gs) (hc0 : gs.length ≤ c0) (hs : startS gs al = true) (hw : ∀ g ∈ gs, g.f2.length ≤ 1099511627776) (hl : al.length ≤ 1099511627776) :
  Calls Tryd.prog 56 #[.pointer (some ⟨g, 0, none⟩)] W fun e W' => e = .returned (.int .i64 (reachN gs al : Int)) ∧ Below W.heap.size W W' := by
 obtain ⟨A1, n1, c1, rfl, hn1, hc1⟩ := h.row.form
 have N1 := Aside0.mk hn1
 obtain ⟨out, ⟨kk, hkk⟩, hout, hflag⟩ := kept_f hs hw hl
 have KK := Aside0.mk (hkk kk (Nat.le_refl _))
 have q0 : W.cell? ⟨g, 0, none⟩ = some (.slice A0 gs.length c0) := (blk_cell h.cells 0).trans rfl
 have q1 : W.cell? ⟨g, 1, none⟩ = some (.slice A1 n1 c1) := (blk_cell h.cells 1).trans rfl
 have H := Aside0.mk h
 have HC := Aside0.mk hC
 have HC0 := Aside0.mk hc0
 have HC1 := Aside0.mk hc1
 have HLEN := Aside0.mk (valid_len (start_in hs).1)
 have HOUT := Aside0.mk hout
 have HFL := Aside0.mk hflag
 have HELD := Aside0.mk (show W.drew.cell? ⟨g, 0, none⟩ = some (.slice A0 gs.length c0) ∧ W.drew.cell? ⟨g, 1, none⟩ = some (.slice A1 n1 c1) from ⟨q0, q1⟩)
 clear h hC hc0 hc1 hs hw hl hkk hout hflag hn1 q0 q1
 go_enter Tryd.func56, Tryd.ntmps56
 go_upto_region 2 with fail
 refine start_ (n := 10) (S := fun w' => w'.cell? ⟨g, 0, none⟩ = some (.slice A0 gs.length c0) ∧ w'.cell? ⟨g, 1, none⟩ = some (.slice A1 n1 c1)) (ds := []) #[false, false, false, false, false, false, false, false, false, false] (by kernel_rfl) rfl rfl HELD.out (fun hHeld => ?_)
 refine pure_ (i := 0) (N := some 6) (v := ?_) (a' := ?_) #[true, false, false, false, false, false, false, false, false, false] rfl rfl (by kernel_rfl) (fun _ _ _ h => h) (Or.inl ⟨by rfl, ?_⟩) ?_ ?_
 rotate_left
 ·intro w'
  go_simp
  with_reducible rfl
 rotate_left
 ·simp only [Act.put, List.setIfInBounds_toArray, List.set_cons_zero, List.set_cons_succ, i64_w, i32_w]
  rfl
 refine pure_ (i := 1) (N := some 7) (v := ?_) (a' := ?_) #[true, true, false, false, false, false, false, false, false, false] rfl rfl (by kernel_rfl) (fun _ _ _ h => h) (Or.inl ⟨by rfl, ?_⟩) ?_ ?_
 rotate_left
 ·intro w'
  go_simp
  with_reducible rfl
 rotate_left
 ·simp only [Act.put, List.setIfInBounds_toArray, List.set_cons_zero, List.set_cons_succ, i64_w, i32_w]
  rfl
 refine pure_ (i := 2) (N := some 8) (v := ?_) (a' := ?_) #[true, true, true, false, false, false, false, false, false, false] rfl rfl (by kernel_rfl) (fun _ _ _ h => h) (Or.inl ⟨by rfl, ?_⟩) ?_ ?_
 rotate_left
 ·intro w'
  go_simp
  with_reducible rfl
 rotate_left
 ·simp only [Act.put, List.setIfInBounds_toArray, List.set_cons_zero, List.set_cons_succ, i64_w, i32_w]
  rfl
 refine pure_ (i := 4) (N := some 10) (v := ?_) (a' := ?_) #[true, true, true, false, true, false, false, false, false, false] rfl rfl (by kernel_rfl) (fun _ _ _ h => h) (Or.inl ⟨by rfl, ?_⟩) ?_ ?_
 rotate_left
 ·intro w'
  go_simp
  with_reducible rfl
 rotate_left
 ·simp only [Act.put, List.setIfInBounds_toArray, List.set_cons_zero, List.set_cons_succ, i64_w, i32_w]
  rfl
 refine pure_ (i := 5) (N := some 11) (v := ?_) (a' := ?_) #[true, true, true, false, true, true, false, false, false, false] rfl rfl (by kernel_rfl) (fun _ _ _ h => h) (Or.inl ⟨by rfl, ?_⟩) ?_ ?_
 rotate_left
 ·intro w'
  go_simp
  with_reducible rfl
 rotate_left
 ·simp only [Act.put, List.setIfInBounds_toArray, List.set_cons_zero, List.set_cons_succ, i64_w, i32_w]
  rfl
 refine pure_ (i := 6) (N := some 12) (v := ?_) (a' := ?_) #[true, true, true, false, true, true, true, false, false, false] rfl rfl (by kernel_rfl) (fun _ _ _ h => h) (Or.inl ⟨by rfl, ?_⟩) ?_ ?_
 rotate_left
 ·intro w'
  go_simp
  with_reducible rfl
 rotate_left
 ·simp only [Act.put, List.setIfInBounds_toArray, List.set_cons_zero, List.set_cons_succ, i64_w, i32_w]
  rfl
 refine take_ (i := 3) (N := some 9) (v := ?_) (a' := ?_) #[true, true, true, true, true, true, true, false, false, false] rfl rfl (by kernel_rfl) (fun _ _ _ h => h) (Or.inl ⟨by rfl, ?_⟩) hHeld ?_ ?_
 rotate_left
 ·rintro w' ⟨s0, s1⟩
  go_simp
  with_reducible rfl
 rotate_left
 ·simp only [Act.put, List.setIfInBounds_toArray, List.set_cons_zero, List.set_cons_succ, i64_w, i32_w]
  rfl
 refine take_ (i := 7) (N := some 13) (v := ?_) (a' := ?_) #[true, true, true, true, true, true, true, true, false, false] rfl rfl (by kernel_rfl) (fun _ _ _ h => h) (Or.inl ⟨by rfl, ?_⟩) hHeld ?_ ?_
 rotate_left
 ·rintro w' ⟨s0, s1⟩
  go_simp
  with_reducible rfl
 rotate_left
 ·simp only [Act.put, List.setIfInBounds_toArray, List.set_cons_zero, List.set_cons_succ, i64_w, i32_w]
  rfl
 refine one_ (i := 8) (N := some 14) #[true, true, true, true, true, true, true, true, true, false] rfl rfl (by kernel_rfl) (by decide) (fun K hK => ?_)
 refine call_ 30 #[.agg #[.slice A0 gs.length c0], .slice A1 n1 c1] ?hw rfl ?hr ?_
 case hw => rfl
 case hr => simp [execOp, resolve, Deferred.ofValue, invoke, Act.eval, eg30]
 obtain rfl : n1 = al.length := N1.out
 refine (cleanseref18_Kept.calls kk A0 c0 gs A1 c1 al out W.drew HC.out HC0.out H.out.row.reads.2.2 HC1.out KK.out).mono ?_
 rintro e w1 ⟨v4, rfl, hR, hb⟩
 refine ⟨_, rfl, ?_⟩
 obtain ⟨A4, c4, rfl, _, hC4⟩ := Kd.R_reads hR
 have HB1 := Aside0.mk (show Below W.heap.size W w1 from Below.trans (below_drew (Below.refl W.heap.size W)) hb)
 have OC1 := Aside0.mk hC4
 have HELD1 := Aside0.mk (show w1.cell? ⟨g, 0, none⟩ = some (.slice A0 gs.length c0) ∧ w1.cell? ⟨g, 1, none⟩ = some (.slice A1 al.length c1) from ⟨(hb.cell (World.block_lt_of_cell? _ _ hHeld.1)).trans hHeld.1, (hb.cell (World.block_lt_of_cell? _ _ hHeld.2)).trans hHeld.2⟩)
 clear hR hC4 hb hHeld
 refine hK.out _ _ HELD1.out (fun hHeld => ?_)
 clear hK K
 refine norm_ (a' := ?_) ?_ ?_
 rotate_left
 ·show Act.put _ (some 14) _ = _
  simp only [Act.put, List.setIfInBounds_toArray, List.set_cons_zero, List.set_cons_succ, i64_w, i32_w]
  rfl
 refine pure_ (i := 9) (N := some 4) (v := ?_) (a' := ?_) #[true, true, true, true, true, true, true, true, true, true] rfl rfl (by kernel_rfl) (fun _ _ _ h => h) (Or.inl ⟨by rfl, ?_⟩) ?_ ?_
 rotate_left
 ·intro w'
  go_simp
  with_reducible rfl
 rotate_left
 ·simp only [Act.put, List.setIfInBounds_toArray, List.set_cons_zero, List.set_cons_succ, i64_w, i32_w]
  rfl
 refine done_ (by kernel_rfl) ?_
 go_wp2
 go_loopg [3, 5] out.length (fun gg s3 s5 wr => ∃ i : Nat, i ≤ out.length ∧ out.length - i ≤ gg ∧ s3 = .int .i64 (cnt (rdOf false out) i : Int) ∧ s5 = .int .i64 i ∧ Aside0 (Below W.heap.size W wr) ∧ Aside0 (Kd.C Kd.bool wr A4 out.length out))
 case atStart => exact ⟨0, Nat.zero_le _, by omega, rfl, rfl, HB1, OC1⟩
 case round =>
  clear HB1 OC1
  obtain ⟨i, hi, hgg, rfl, rfl, HB, OC⟩ := hrel
  by_cases hlt : i < out.length
  ·have hlt' : (i : Int) < (out.length : Int) := by omega
   obtain ⟨ad, e, x0⟩ := at_bools OC.out i hlt
   cases e
   have CL := Aside0.mk (cnt_le (rdOf false out) i)
   cases hb : rdOf false out (i : Int) with
   | true =>
    rw [hb] at x0
    have CS := Aside0.mk (show cnt (rdOf false out) (i + 1) = cnt (rdOf false out) i + 1 by simp only [cnt]; rw [if_pos hb])
    clear hb
    go_wp2
    go_roundg (out.length - (i + 1))
    case measure => omega
    case rel => exact ⟨i + 1, by omega, by omega, by rw [CS.out, wrap_nat (by have := CL.out; have := HOUT.out; have := HLEN.out; omega)], by rw [wrap_nat (by have := HOUT.out; have := HLEN.out; omega)], HB, OC⟩
   | false =>
    rw [hb] at x0
    have CS := Aside0.mk (show cnt (rdOf false out) (i + 1) = cnt (rdOf false out) i by simp [cnt, hb])
    clear hb
    go_wp2
    go_roundg (out.length - (i + 1))
    case measure => omega
    case rel => exact ⟨i + 1, by omega, by omega, by rw [CS.out], by rw [wrap_nat (by have := HOUT.out; have := HLEN.out; omega)], HB, OC⟩
  ·obtain rfl : i = out.length := by omega
   have e : cnt (rdOf false out) out.length = reachN gs al := by
    rw [HOUT.out]
    exact cnt_ext _ (fun j hj => HFL.out _ (by omega))
   rw [e]
   go_wp2
   go_ret
   exact ⟨rfl, HB.out⟩

set_option maxRecDepth 100000 in
set_option maxHeartbeats 8000000 in
theorem radd_refused {B : Nat} {W : World} {g : Nat} {A0 : Option Addr} {c0 : Nat} {gs : List S50} {vr : Value} {al : List Int} {P : Int} (h : RW B W g A0 c0 gs vr al P) (i : Int) (hir : ¬ inRange gs.length i) :
  Calls Tryd.prog 23 #[.pointer (some ⟨g, 0, none⟩), .int .i64 i] W fun e W' => e = .returned (.int .i64 1) ∧ W' = W := by
 have q0 : W.cell? ⟨g, 0, none⟩ = some (.slice A0 gs.length c0) := (blk_cell h.cells 0).trans rfl
 clear h
 by_cases h0 : i < 0
 ·have h0b : decide (i < 0) = true := decide_eq_true h0
  clear hir
  go_enter Tryd.func23, Tryd.ntmps23
  go_wp2
  go_ret
  exact ⟨rfl, rfl⟩
 ·have h0b : decide (i < 0) = false := decide_eq_false h0
  have h1b : decide ((gs.length : Int) ≤ i) = true := decide_eq_true (by unfold inRange at hir; omega)
  clear hir
  go_enter Tryd.func23, Tryd.ntmps23
  go_wp2
  go_ret
  exact ⟨rfl, rfl⟩
set_option maxRecDepth 100000 in
set_option maxHeartbeats 8000000 in
theorem radd_calls {B : Nat} {W : World} {g : Nat} {A0 : Option Addr} {c0 : Nat} {gs : List S50} {vr : Value} {al : List Int} {P : Int} (h : RW B W g A0 c0 gs vr al P) (i : Int) (hir : inRange gs.length i) (hl : al.length < 8796093022208) (hB : B ≤ W.heap.size) :
  Calls Tryd.prog 23 #[.pointer (some ⟨g, 0, none⟩), .int .i64 i] W fun e W' => e = .returned (.int .i64 0) ∧ ∃ vr', RW B W' g A0 c0 gs vr' (al ++ [i]) P ∧ Upd (fun k => k = g ∨ vr.ownBlock = some k) W W' ∧ ∀ k, vr'.ownBlock = some k → vr.ownBlock = some k ∨ W.heap.size ≤ k := by
 obtain ⟨A2, n2, c2, rfl, hn2, _⟩ := h.row.form
 have q0 : W.cell? ⟨g, 0, none⟩ = some (.slice A0 gs.length c0) := (blk_cell h.cells 0).trans rfl
 have q1 : W.cell? ⟨g, 1, none⟩ = some (.slice A2 n2 c2) := (blk_cell h.cells 1).trans rfl
 have h0b : decide (i < 0) = false := decide_eq_false (by unfold inRange at hir; omega)
 have h1b : decide ((gs.length : Int) ≤ i) = false := decide_eq_false (by unfold inRange at hir; omega)
 have H := Aside0.mk h
 have HL := Aside0.mk hl
 have HBS := Aside0.mk hB
 clear h hir hl hn2 hB
 go_enter Tryd.func23, Tryd.ntmps23
 go_wp2_with (first
  | (at_builtin; refine wp_append_q rfl _ _ rfl (.slice A2 n2 c2) al i rfl rfl H.out.row HL.out ?_; intro v1 W2 hq hg2 hat; obtain ⟨A1, n1, k1, e1, hn1, _⟩ := hq.form; subst e1; clear hn1; have HQ := Aside0.mk hq; have HG2 := Aside0.mk hg2; have HAT := Aside0.mk hat; have cg2 := Aside0.mk ((hg2.block g (blk_lt H.out.cells) (fun e => H.out.r_ne_g e.symm)).trans H.out.cells); have q12 : W2.cell? ⟨g, 1, none⟩ = some (.slice A2 n2 c2) := (blk_cell cg2.out 1).trans rfl; have z12 := blk_frozen cg2.out 1; clear hq hg2 hat))
 go_ret
 have hng : (Value.slice A1 n1 k1).ownBlock ≠ some g := HQ.out.ne_type cg2.out (by decide)
 have hatB : ∀ k, (Value.slice A1 n1 k1).ownBlock = some k → (Value.slice A2 n2 c2).ownBlock = some k ∨ W.heap.size ≤ k := fun k hk => by
  rcases HAT.out with h1 | ⟨b, h1, h2⟩
  ·rw [h1] at hk; exact .inl hk
  ·rw [h1] at hk
   obtain rfl := Option.some.inj hk
   exact .inr h2
 refine ⟨rfl, .slice A1 n1 k1, ⟨by simpa using blk_set cg2.out 1 (.slice A1 n1 k1), HQ.out.move fun k hk => Below.heap_setCell _ _ _ k (fun e => hng (by rw [hk]; exact congrArg some e)), H.out.ge, fun k hk => ?_⟩, ?_, hatB⟩
 ·rcases hatB k hk with h1 | h1
  ·exact H.out.rge k h1
  ·have := HBS.out; omega
 ·exact ((Upd.of_grown (F := fun k => (Value.slice A2 n2 c2).ownBlock = some k) HG2.out (fun k hk => hk)).mono (fun k hk => .inr hk)).setCell (.inl (.inl rfl)) _
set_option maxRecDepth 100000 in
set_option maxHeartbeats 8000000 in
/-- Step: the marked ones grow by the steps that are left, n at most. -/
theorem rstep_calls {B : Nat} {W : World} {g : Nat} {A0 : Option Addr} {c0 : Nat} {gs : List S50} {vr : Value} {al : List Int} {p q : Nat} (h : RW B W g A0 c0 gs vr al (p : Int)) (hC : Kd.C k50 W A0 gs.length gs) (hc0 : gs.length ≤ c0) (hs : startS gs al = true) (hw : ∀ g ∈ gs, g.f2.length ≤ 1099511627776) (hl : al.length ≤ 1099511627776) (n : Int) (hp : p ≤ reachN gs al) (hq : q = p + min n.toNat (reachN gs al - p)) (hB : B ≤ W.heap.size) :
  Calls Tryd.prog 25 #[.pointer (some ⟨g, 0, none⟩), .int .i64 n] W fun e W' => e = .returned (.bool (decide ((q : Int) = (reachN gs al : Int)))) ∧ RW B W' g A0 c0 gs vr al (q : Int) ∧ Upd (fun k => k = g) W W' := by
 have H56 := Aside0.mk (count_calls h hC hc0 hs hw hl)
 have H := Aside0.mk h
 have HLEN := Aside0.mk (show reachN gs al ≤ 100000 by have h1 := cnt_le (marksS gs al) gs.length; have h2 := valid_len (start_in hs).1; unfold reachN; omega)
 have HP := Aside0.mk hp
 have HQ := Aside0.mk hq
 clear h hC hc0 hs hw hl hp hq
 obtain ⟨D, hD⟩ : ∃ D, D = reachN gs al := ⟨_, rfl⟩
 rw [← hD] at H56 HLEN HP HQ
 rw [← hD]
 clear hD
 go_enter Tryd.func25, Tryd.ntmps25
 go_upto_region 4 with (first
  | (go_at_call 56; (with_reducible refine H56.out.mono ?_); rintro e w1 ⟨rfl, hb⟩; have HB1 := Aside0.mk hb; have H1 := Aside0.mk (H.out.below hb); clear hb))
 have HELD := Aside0.mk (show w1.drew.cell? ⟨g, 2, none⟩ = some (.int .i64 (p : Int)) from (blk_cell H1.out.cells 2).trans rfl)
 refine start_ (n := 18) (S := fun w' => w'.cell? ⟨g, 2, none⟩ = some (.int .i64 (p : Int))) (ds := [17]) #[false, false, false, false, false, false, false, false, false, false, false, false, false, false, false, false, false, false] (by kernel_rfl) rfl rfl HELD.out (fun hHeld => ?_)
 refine pure_ (i := 0) (N := some 10) (v := ?_) (a' := ?_) #[true, false, false, false, false, false, false, false, false, false, false, false, false, false, false, false, false, false] rfl rfl (by kernel_rfl) (fun _ _ _ h => h) (Or.inl ⟨by rfl, ?_⟩) ?_ ?_
 rotate_left
 ·intro w'
  go_simp
  with_reducible rfl
 rotate_left
 ·simp only [Act.put, List.setIfInBounds_toArray, List.set_cons_zero, List.set_cons_succ, i64_w, i32_w]
  rfl
 refine pure_ (i := 1) (N := some 11) (v := ?_) (a' := ?_) #[true, true, false, false, false, false, false, false, false, false, false, false, false, false, false, false, false, false] rfl rfl (by kernel_rfl) (fun _ _ _ h => h) (Or.inl ⟨by rfl, ?_⟩) ?_ ?_
 rotate_left
 ·intro w'
  go_simp
  with_reducible rfl
 rotate_left
 ·simp only [Act.put, List.setIfInBounds_toArray, List.set_cons_zero, List.set_cons_succ, i64_w, i32_w]
  rfl
 refine pure_ (i := 2) (N := some 12) (v := ?_) (a' := ?_) #[true, true, true, false, false, false, false, false, false, false, false, false, false, false, false, false, false, false] rfl rfl (by kernel_rfl) (fun _ _ _ h => h) (Or.inl ⟨by rfl, ?_⟩) ?_ ?_
 rotate_left
 ·intro w'
  go_simp
  with_reducible rfl
 rotate_left
 ·simp only [Act.put, List.setIfInBounds_toArray, List.set_cons_zero, List.set_cons_succ, i64_w, i32_w]
  rfl
 refine pure_ (i := 3) (N := some 13) (v := ?_) (a' := ?_) #[true, true, true, true, false, false, false, false, false, false, false, false, false, false, false, false, false, false] rfl rfl (by kernel_rfl) (fun _ _ _ h => h) (Or.inl ⟨by rfl, ?_⟩) ?_ ?_
 rotate_left
 ·intro w'
  go_simp
  with_reducible rfl
 rotate_left
 ·simp only [Act.put, List.setIfInBounds_toArray, List.set_cons_zero, List.set_cons_succ, i64_w, i32_w]
  rfl
 refine pure_ (i := 5) (N := some 15) (v := ?_) (a' := ?_) #[true, true, true, true, false, true, false, false, false, false, false, false, false, false, false, false, false, false] rfl rfl (by kernel_rfl) (fun _ _ _ h => h) (Or.inl ⟨by rfl, ?_⟩) ?_ ?_
 rotate_left
 ·intro w'
  go_simp
  with_reducible rfl
 rotate_left
 ·simp only [Act.put, List.setIfInBounds_toArray, List.set_cons_zero, List.set_cons_succ, i64_w, i32_w]
  rfl
 refine pure_ (i := 6) (N := some 16) (v := ?_) (a' := ?_) #[true, true, true, true, false, true, true, false, false, false, false, false, false, false, false, false, false, false] rfl rfl (by kernel_rfl) (fun _ _ _ h => h) (Or.inl ⟨by rfl, ?_⟩) ?_ ?_
 rotate_left
 ·intro w'
  go_simp
  with_reducible rfl
 rotate_left
 ·simp only [Act.put, List.setIfInBounds_toArray, List.set_cons_zero, List.set_cons_succ, i64_w, i32_w]
  rfl
 refine pure_ (i := 7) (N := some 17) (v := ?_) (a' := ?_) #[true, true, true, true, false, true, true, true, false, false, false, false, false, false, false, false, false, false] rfl rfl (by kernel_rfl) (fun _ _ _ h => h) (Or.inl ⟨by rfl, ?_⟩) ?_ ?_
 rotate_left
 ·intro w'
  go_simp
  with_reducible rfl
 rotate_left
 ·simp only [Act.put, List.setIfInBounds_toArray, List.set_cons_zero, List.set_cons_succ, i64_w, i32_w]
  rfl
 refine pure_ (i := 8) (N := some 18) (v := ?_) (a' := ?_) #[true, true, true, true, false, true, true, true, true, false, false, false, false, false, false, false, false, false] rfl rfl (by kernel_rfl) (fun _ _ _ h => h) (Or.inl ⟨by rfl, ?_⟩) ?_ ?_
 rotate_left
 ·intro w'
  go_simp
  with_reducible rfl
 rotate_left
 ·simp only [Act.put, List.setIfInBounds_toArray, List.set_cons_zero, List.set_cons_succ, i64_w, i32_w]
  rfl
 refine pure_ (i := 9) (N := some 19) (v := ?_) (a' := ?_) #[true, true, true, true, false, true, true, true, true, true, false, false, false, false, false, false, false, false] rfl rfl (by kernel_rfl) (fun _ _ _ h => h) (Or.inl ⟨by rfl, ?_⟩) ?_ ?_
 rotate_left
 ·intro w'
  go_simp
  with_reducible rfl
 rotate_left
 ·simp only [Act.put, List.setIfInBounds_toArray, List.set_cons_zero, List.set_cons_succ, i64_w, i32_w]
  rfl
 refine take_ (i := 4) (N := some 14) (v := ?_) (a' := ?_) #[true, true, true, true, true, true, true, true, true, true, false, false, false, false, false, false, false, false] rfl rfl (by kernel_rfl) (fun _ _ _ h => h) (Or.inl ⟨by rfl, ?_⟩) hHeld ?_ ?_
 rotate_left
 ·intro w' s0
  go_simp
  with_reducible rfl
 rotate_left
 ·simp only [Act.put, List.setIfInBounds_toArray, List.set_cons_zero, List.set_cons_succ, i64_w, i32_w]
  rfl
 refine take_ (i := 10) (N := some 20) (v := ?_) (a' := ?_) #[true, true, true, true, true, true, true, true, true, true, true, false, false, false, false, false, false, false] rfl rfl (by kernel_rfl) (fun _ _ _ h => h) (Or.inl ⟨by rfl, ?_⟩) hHeld ?_ ?_
 rotate_left
 ·intro w' s0
  go_simp
  with_reducible rfl
 rotate_left
 ·simp only [Act.put, List.setIfInBounds_toArray, List.set_cons_zero, List.set_cons_succ, i64_w, i32_w]
  rfl
 refine pure_ (i := 11) (N := some 21) (v := ?_) (a' := ?_) #[true, true, true, true, true, true, true, true, true, true, true, true, false, false, false, false, false, false] rfl rfl (by kernel_rfl) (fun _ _ _ h => h) (Or.inl ⟨by rfl, ?_⟩) ?_ ?_
 rotate_left
 ·intro w'
  go_simp
  with_reducible rfl
 rotate_left
 ·simp only [Act.put, List.setIfInBounds_toArray, List.set_cons_zero, List.set_cons_succ, i64_w, i32_w]
  rfl
 refine pure_ (i := 12) (N := some 22) (v := ?_) (a' := ?_) #[true, true, true, true, true, true, true, true, true, true, true, true, true, false, false, false, false, false] rfl rfl (by kernel_rfl) (fun _ _ _ h => h) (Or.inl ⟨by rfl, ?_⟩) ?_ ?_
 rotate_left
 ·intro w'
  go_simp
  with_reducible rfl
 rotate_left
 ·simp only [Act.put, List.setIfInBounds_toArray, List.set_cons_zero, List.set_cons_succ, i64_w, i32_w]
  rfl
 refine pure_ (i := 13) (N := some 23) (v := ?_) (a' := ?_) #[true, true, true, true, true, true, true, true, true, true, true, true, true, true, false, false, false, false] rfl rfl (by kernel_rfl) (fun _ _ _ h => h) (Or.inl ⟨by rfl, ?_⟩) ?_ ?_
 rotate_left
 ·intro w'
  go_simp
  with_reducible rfl
 rotate_left
 ·simp only [Act.put, List.setIfInBounds_toArray, List.set_cons_zero, List.set_cons_succ, i64_w, i32_w]
  rfl
 refine pure_ (i := 14) (N := some 24) (v := ?_) (a' := ?_) #[true, true, true, true, true, true, true, true, true, true, true, true, true, true, true, false, false, false] rfl rfl (by kernel_rfl) (fun _ _ _ h => h) (Or.inl ⟨by rfl, ?_⟩) ?_ ?_
 rotate_left
 ·intro w'
  go_simp
  with_reducible rfl
 rotate_left
 ·simp only [Act.put, List.setIfInBounds_toArray, List.set_cons_zero, List.set_cons_succ, i64_w, i32_w]
  rfl
 refine pure_ (i := 15) (N := some 25) (v := ?_) (a' := ?_) #[true, true, true, true, true, true, true, true, true, true, true, true, true, true, true, true, false, false] rfl rfl (by kernel_rfl) (fun _ _ _ h => h) (Or.inl ⟨by rfl, ?_⟩) ?_ ?_
 rotate_left
 ·intro w'
  go_simp
  with_reducible rfl
 rotate_left
 ·simp only [Act.put, List.setIfInBounds_toArray, List.set_cons_zero, List.set_cons_succ, i64_w, i32_w]
  rfl
 refine pure_ (i := 16) (N := some 26) (v := ?_) (a' := ?_) #[true, true, true, true, true, true, true, true, true, true, true, true, true, true, true, true, true, false] rfl rfl (by kernel_rfl) (fun _ _ _ h => h) (Or.inl ⟨by rfl, ?_⟩) ?_ ?_
 rotate_left
 ·intro w'
  go_simp
  with_reducible rfl
 rotate_left
 ·simp only [Act.put, List.setIfInBounds_toArray, List.set_cons_zero, List.set_cons_succ, i64_w, i32_w]
  rfl
 refine last_ (i := 17) (N := none) #[true, true, true, true, true, true, true, true, true, true, true, true, true, true, true, true, true, true] rfl rfl (by kernel_rfl) (by decide) (fun K hK => ?_)
 have hs1 : w1.drew.cell? ⟨g, 2, none⟩ = some (.int .i64 (p : Int)) := hHeld
 have hf1 : w1.drew.frozen? ⟨g, 2, none⟩ = false := blk_frozen (w := w1) H1.out.cells 2
 rw [steps_add HP.out HLEN.out HQ.out]
 generalize (if wrap64 ((D : Int) - (p : Int)) < n then wrap64 ((D : Int) - (p : Int)) else n) = q16
 generalize (if 0 < q16 then q16 else 0) = q17
 refine skip_ (w1 := w1.drew.setCell ⟨g, 2, none⟩ (.int .i64 (q : Int))) (by rfl) rfl ?_ ?_
 ·go_simp
 obtain ⟨w2, hw2⟩ : ∃ w2, w2 = w1.drew.setCell ⟨g, 2, none⟩ (.int .i64 (q : Int)) := ⟨_, rfl⟩
 rw [← hw2]
 have b2 : w2.heap[g]? = some (.cells #[.slice A0 gs.length c0, vr, .int .i64 (q : Int)] 82 (0, 0)) := by rw [hw2]; simpa using blk_set (w := w1.drew) H1.out.cells 2 (.int .i64 (q : Int))
 have H2 := Aside0.mk (show RW B w2 g A0 c0 gs vr al (q : Int) from ⟨b2, H1.out.row.move fun k hk => by rw [hw2]; exact Below.heap_setCell w1.drew _ _ k (fun e => H1.out.r_ne_g (by rw [hk]; exact congrArg some e)), H1.out.ge, H1.out.rge⟩)
 have U2 := Aside0.mk (show Upd (fun k => k = g) W w2 from by rw [hw2]; exact ((Upd.of_below (fun k => k = g) HB1.out).drew).setCell (.inl rfl) _)
 have q2 : w2.cell? ⟨g, 2, none⟩ = some (.int .i64 (q : Int)) := (blk_cell b2 2).trans rfl
 clear b2 hw2 hs1 hf1 hHeld
 refine hK.out _ _ ?_
 clear hK K
 refine done_ (by kernel_rfl) ?_
 go_wp2
 go_ret
 exact ⟨rfl, H2.out, U2.out⟩

set_option maxRecDepth 100000 in
set_option maxHeartbeats 8000000 in
theorem rstart_calls (A0 : Option Addr) (c0 : Nat) (gs : List S50) (A1 : Option Addr) (c1 : Nat) (rs : List Int) (W : World) (hC : Kd.C k50 W A0 gs.length gs) (hc0 : gs.length ≤ c0) (h1 : Kd.C (Kd.int .i64) W A1 rs.length rs) (hc1 : rs.length ≤ c1) (hw : ∀ g ∈ gs, g.f2.length ≤ 1099511627776) (hl : rs.length ≤ 1099511627776) :
  Calls Tryd.prog 19 #[.agg #[.slice A0 gs.length c0], .slice A1 rs.length c1] W fun e W' => Below W.heap.size W W' ∧ (startS gs rs = false → e = .returned (.tuple #[.pointer none, .int .i64 1])) ∧ (startS gs rs = true → ∃ g vr, e = .returned (.tuple #[.pointer (some ⟨g, 0, none⟩), .int .i64 0]) ∧ RW W.heap.size W' g A0 c0 gs vr rs 0) := by
 obtain ⟨kk, hkk⟩ := rightg_f (gs := gs) (rs := rs) hw hl
 have KK := Aside0.mk (hkk kk (Nat.le_refl _))
 have HC := Aside0.mk (fun (W' : World) (hb : Below W.heap.size W W') => Kd.C_below hC hb)
 have H1 := Aside0.mk (fun (W' : World) (hb : Below W.heap.size W W') => Kd.C_below h1 hb)
 have HC0 := Aside0.mk hc0
 have HC1 := Aside0.mk hc1
 have HL := Aside0.mk hl
 clear hC h1 hc0 hc1 hw hl hkk
 cases hs : startS gs rs with
 | false =>
  rw [hs] at KK
  clear hs
  go_enter Tryd.func19, Tryd.ntmps19
  go_wp2_with (first
   | ((with_reducible refine gate_dst (N := 2) rfl ?_); refine box_event ?hg (N := 2) ?hd (cs := #[.slice A0 gs.length c0]) (t := 24) ?hr ?_; (case hd => rfl); (case hg => rfl); (case hr => first | (go_simp; done) | (go_simp; rfl)); intro gb hg w1 hbox hb; have HB := Aside0.mk hb; have q0 : w1.cell? ⟨gb, 0, none⟩ = some (.slice A0 gs.length c0) := (blk_cell hbox 0).trans rfl; clear hg hbox hb)
   | (go_at_call 29; have hk_ := cleanseref18_Right.calls kk A0 c0 gs A1 c1 rs false w1 (HC.out _ HB.out) HC0.out (H1.out _ HB.out) HC1.out KK.out; (with_reducible refine hk_.mono ?_); rintro e w2 ⟨rfl, hb⟩; have HB2 := Aside0.mk (HB.out.trans (hb.mono HB.out.size)); clear hb hk_))
  go_ret2
  exact ⟨HB2.out, fun _ => rfl, fun h => by cases h⟩
 | true =>
  rw [hs] at KK
  clear hs
  go_enter Tryd.func19, Tryd.ntmps19
  go_upto_region 3 with (first
   | ((with_reducible refine gate_dst (N := 2) rfl ?_); refine box_event ?hg (N := 2) ?hd (cs := #[.slice A0 gs.length c0]) (t := 24) ?hr ?_; (case hd => rfl); (case hg => rfl); (case hr => first | (go_simp; done) | (go_simp; rfl)); intro gb hg w1 hbox hb; have HB := Aside0.mk hb; have q0 : w1.cell? ⟨gb, 0, none⟩ = some (.slice A0 gs.length c0) := (blk_cell hbox 0).trans rfl; clear hg hbox hb)
   | (go_at_call 29; have hk_ := cleanseref18_Right.calls kk A0 c0 gs A1 c1 rs true w1 (HC.out _ HB.out) HC0.out (H1.out _ HB.out) HC1.out KK.out; (with_reducible refine hk_.mono ?_); rintro e w2 ⟨rfl, hb⟩; have HB2 := Aside0.mk (HB.out.trans (hb.mono HB.out.size)); have q2 := (hb.cell (World.block_lt_of_cell? _ _ q0)).trans q0; clear hb hk_))
  have HELD := Aside0.mk (show w2.drew.cell? ⟨gb, 0, none⟩ = some (.slice A0 gs.length c0) from q2)
  clear q0 q2
  refine start_ (n := 8) (S := fun w' => w'.cell? ⟨gb, 0, none⟩ = some (.slice A0 gs.length c0)) (ds := []) #[false, false, false, false, false, false, false, false] (by kernel_rfl) rfl rfl HELD.out (fun hHeld => ?_)
  refine pure_ (i := 2) (N := some 12) (v := ?_) (a' := ?_) #[false, false, true, false, false, false, false, false] rfl rfl (by kernel_rfl) (fun _ _ _ h => h) (Or.inl ⟨by rfl, ?_⟩) ?_ ?_
  rotate_left
  ·intro w'
   go_simp
   with_reducible rfl
  rotate_left
  ·simp only [Act.put, List.setIfInBounds_toArray, List.set_cons_zero, List.set_cons_succ, i64_w, i32_w]
   rfl
  refine take_ (i := 0) (N := some 10) (v := ?_) (a' := ?_) #[true, false, true, false, false, false, false, false] rfl rfl (by kernel_rfl) (fun _ _ _ h => h) (Or.inl ⟨by rfl, ?_⟩) hHeld ?_ ?_
  rotate_left
  ·intro w' s0
   go_simp
   with_reducible rfl
  rotate_left
  ·simp only [Act.put, List.setIfInBounds_toArray, List.set_cons_zero, List.set_cons_succ, i64_w, i32_w]
   rfl
  refine one_ (i := 1) (N := some 11) #[true, true, true, false, false, false, false, false] rfl rfl (by kernel_rfl) (by decide) (fun K hK => ?_)
  refine Kd.R_lit_step (Kd.int .i64) (w0 := w2) w2.heap.size 3 (by rfl) (N := 11) rfl (xs := ([] : List Int)) (inner := []) (ok := fun _ => True) (okp := fun _ => True) ?lr (Reps.none _ _) (fun _ hk => hk) trivial (below_drew (Below.refl _ _)) (Nat.le_refl _) (by simp) ?_
  case lr => first | (go_simp; done) | (go_simp; rfl)
  intro v11 w3 ho hb _ _
  have R11 := Aside0.mk ho
  have HB3 := Aside0.mk hb
  have HELD3 := Aside0.mk (show w3.cell? ⟨gb, 0, none⟩ = some (.slice A0 gs.length c0) from (hb.cell (World.block_lt_of_cell? w2 _ hHeld)).trans hHeld)
  clear ho hb hHeld
  refine hK.out _ _ HELD3.out (fun hHeld => ?_)
  clear hK K
  refine norm_ (a' := ?_) ?_ ?_
  rotate_left
  ·show Act.put _ (some 11) _ = _
   simp only [Act.put, List.setIfInBounds_toArray, List.set_cons_zero, List.set_cons_succ, i64_w, i32_w]
   rfl
  refine one_ (i := 3) (N := some 13) #[true, true, true, true, false, false, false, false] rfl rfl (by kernel_rfl) (by decide) (fun K hK => ?_)
  refine Kd.R_append_rows_step (Kd.int .i64) (w0 := w2) w2.heap.size (by rfl) (.tmp 11) (.tmp 12) 25 3 (.int .i64 0) 8 rfl Tryd.underlying25 info3q rfl (by decide) (by omega) v11 [] rs A1 rs.length c1 (fun _ => True) (fun _ => False) rfl rfl R11.out (H1.out _ (HB2.out.trans (HB3.out.mono HB2.out.size))) (fun _ _ h => h) (fun _ h => h.elim) (fun _ _ => trivial) HB3.out HB3.out.size (by have := HL.out; simp; omega) ?_
  intro v13 w4 ho hb _ _
  have R13 := Aside0.mk ho
  have HB4 := Aside0.mk hb
  have HELD4 := Aside0.mk (show w4.cell? ⟨gb, 0, none⟩ = some (.slice A0 gs.length c0) from (hb.cell (World.block_lt_of_cell? w2 _ HELD.out)).trans HELD.out)
  obtain ⟨A13, n13, c13, rfl, _, _⟩ := (QInts.of_R R13.out).form
  clear ho hb hHeld
  refine hK.out _ _ HELD4.out (fun hHeld => ?_)
  clear hK K
  refine norm_ (a' := ?_) ?_ ?_
  rotate_left
  ·show Act.put _ (some 13) _ = _
   simp only [Act.put, List.setIfInBounds_toArray, List.set_cons_zero, List.set_cons_succ, i64_w, i32_w]
   rfl
  refine pure_ (i := 4) (N := some 14) (v := ?_) (a' := ?_) #[true, true, true, true, true, false, false, false] rfl rfl (by kernel_rfl) (fun _ _ _ h => h) (Or.inl ⟨by rfl, ?_⟩) ?_ ?_
  rotate_left
  ·intro w'
   go_simp
   with_reducible rfl
  rotate_left
  ·simp only [Act.put, List.setIfInBounds_toArray, List.set_cons_zero, List.set_cons_succ, i64_w, i32_w]
   rfl
  refine one_ (i := 5) (N := some 15) #[true, true, true, true, true, true, false, false] rfl rfl (by kernel_rfl) (by decide) (fun K hK => ?_)
  refine value_ (w1 := w4.alloc (.cells #[.slice A0 gs.length c0, .slice A13 n13 c13, .int .i64 0] 82)) (v := .pointer (some ⟨w4.heap.size, 0, none⟩)) (by rfl) rfl ?_ ?_
  ·first | (go_simp; done) | (go_simp; rfl)
  have hal := below_alloc (Below.refl w4.heap.size w4) (.cells #[.slice A0 gs.length c0, .slice A13 n13 c13, .int .i64 0] 82)
  have hb24 := HB4.out.trans (hal.mono HB4.out.size)
  have HB5 := Aside0.mk (HB2.out.trans (hb24.mono HB2.out.size))
  have RW5 := Aside0.mk (show RW W.heap.size (w4.alloc (.cells #[.slice A0 gs.length c0, .slice A13 n13 c13, .int .i64 0] 82)) w4.heap.size A0 c0 gs (.slice A13 n13 c13) rs 0 from ⟨heap_alloc_new w4 _, (show QInts w4 _ ([] ++ rs) from QInts.of_R R13.out).move fun k hk => hal.block k ((QInts.of_R R13.out).lt k hk), Nat.le_trans HB2.out.size HB4.out.size, fun k hk => Nat.le_trans HB2.out.size (Kd.R_base R13.out k hk)⟩)
  refine hK.out _ _ ((hal.cell (World.block_lt_of_cell? _ _ hHeld)).trans hHeld) (fun hHeld => ?_)
  clear hal hb24
  clear hK K
  refine norm_ (a' := ?_) ?_ ?_
  rotate_left
  ·show Act.put _ (some 15) _ = _
   simp only [Act.put, List.setIfInBounds_toArray, List.set_cons_zero, List.set_cons_succ, i64_w, i32_w]
   rfl
  refine pure_ (i := 6) (N := some 4) (v := ?_) (a' := ?_) #[true, true, true, true, true, true, true, false] rfl rfl (by kernel_rfl) (fun _ _ _ h => h) (Or.inl ⟨by rfl, ?_⟩) ?_ ?_
  rotate_left
  ·intro w'
   go_simp
   with_reducible rfl
  rotate_left
  ·simp only [Act.put, List.setIfInBounds_toArray, List.set_cons_zero, List.set_cons_succ, i64_w, i32_w]
   rfl
  refine pure_ (i := 7) (N := some 5) (v := ?_) (a' := ?_) #[true, true, true, true, true, true, true, true] rfl rfl (by kernel_rfl) (fun _ _ _ h => h) (Or.inl ⟨by rfl, ?_⟩) ?_ ?_
  rotate_left
  ·intro w'
   go_simp
   with_reducible rfl
  rotate_left
  ·simp only [Act.put, List.setIfInBounds_toArray, List.set_cons_zero, List.set_cons_succ, i64_w, i32_w]
   rfl
  refine done_ (by kernel_rfl) ?_
  go_wp2
  go_ret2
  exact ⟨HB5.out, (fun h => by cases h), fun _ => ⟨_, _, rfl, RW5.out⟩⟩
set_option maxRecDepth 100000 in
set_option maxHeartbeats 8000000 in
theorem rresult_waits {B : Nat} {W : World} {g : Nat} {A0 : Option Addr} {c0 : Nat} {gs : List S50} {vr : Value} {al : List Int} {p : Nat} (h : RW B W g A0 c0 gs vr al (p : Int)) (hC : Kd.C k50 W A0 gs.length gs) (hc0 : gs.length ≤ c0) (hs : startS gs al = true) (hw : ∀ g ∈ gs, g.f2.length ≤ 1099511627776) (hl : al.length ≤ 1099511627776) (hp : p < reachN gs al) :
  Calls Tryd.prog 27 #[.pointer (some ⟨g, 0, none⟩)] W fun e W' => e = .returned (.tuple #[.agg #[.slice none 0 0], .slice none 0 0, .int .i64 12]) ∧ Below W.heap.size W W' := by
 have H56 := Aside0.mk (fun (W' : World) (hb : Below W.heap.size W W') => count_calls (h.below hb) (Kd.C_below hC hb) hc0 hs hw hl)
 have H := Aside0.mk h
 obtain ⟨D, hD⟩ : ∃ D, D = reachN gs al := ⟨_, rfl⟩
 rw [← hD] at H56 hp
 clear hD h hC hc0 hs hw hl
 have hlt : (p : Int) < (D : Int) := by omega
 clear hp
 go_enter Tryd.func27, Tryd.ntmps27
 go_upto_region 3 with (first
  | ((with_reducible refine gate_dst (N := 2) rfl ?_); refine box_event ?hg (N := 2) ?hd (cs := #[.slice none 0 0]) (t := 24) ?hr ?_; (case hd => rfl); (case hg => rfl); (case hr => first | (go_simp; done) | (go_simp; rfl)); intro gr hg w1 hbox hb; have HB := Aside0.mk hb; have BX := Aside0.mk hbox; have GR := Aside0.mk hg; clear hg hbox hb))
 have H1 := Aside0.mk (H.out.below HB.out)
 have HELD := Aside0.mk (show w1.drew.cell? ⟨g, 2, none⟩ = some (.int .i64 (p : Int)) from (blk_cell H1.out.cells 2).trans rfl)
 refine start_ (n := 7) (S := fun w' => w'.cell? ⟨g, 2, none⟩ = some (.int .i64 (p : Int))) (ds := []) #[false, false, false, false, false, false, false] (by kernel_rfl) rfl rfl HELD.out (fun hHeld => ?_)
 refine pure_ (i := 0) (N := some 8) (v := ?_) (a' := ?_) #[true, false, false, false, false, false, false] rfl rfl (by kernel_rfl) (fun _ _ _ h => h) (Or.inl ⟨by rfl, ?_⟩) ?_ ?_
 rotate_left
 ·intro w'
  go_simp
  with_reducible rfl
 rotate_left
 ·simp only [Act.put, List.setIfInBounds_toArray, List.set_cons_zero, List.set_cons_succ, i64_w, i32_w]
  rfl
 refine pure_ (i := 1) (N := some 9) (v := ?_) (a' := ?_) #[true, true, false, false, false, false, false] rfl rfl (by kernel_rfl) (fun _ _ _ h => h) (Or.inl ⟨by rfl, ?_⟩) ?_ ?_
 rotate_left
 ·intro w'
  go_simp
  with_reducible rfl
 rotate_left
 ·simp only [Act.put, List.setIfInBounds_toArray, List.set_cons_zero, List.set_cons_succ, i64_w, i32_w]
  rfl
 refine pure_ (i := 2) (N := some 10) (v := ?_) (a' := ?_) #[true, true, true, false, false, false, false] rfl rfl (by kernel_rfl) (fun _ _ _ h => h) (Or.inl ⟨by rfl, ?_⟩) ?_ ?_
 rotate_left
 ·intro w'
  go_simp
  with_reducible rfl
 rotate_left
 ·simp only [Act.put, List.setIfInBounds_toArray, List.set_cons_zero, List.set_cons_succ, i64_w, i32_w]
  rfl
 refine pure_ (i := 4) (N := some 12) (v := ?_) (a' := ?_) #[true, true, true, false, true, false, false] rfl rfl (by kernel_rfl) (fun _ _ _ h => h) (Or.inl ⟨by rfl, ?_⟩) ?_ ?_
 rotate_left
 ·intro w'
  go_simp
  with_reducible rfl
 rotate_left
 ·simp only [Act.put, List.setIfInBounds_toArray, List.set_cons_zero, List.set_cons_succ, i64_w, i32_w]
  rfl
 refine take_ (i := 3) (N := some 11) (v := ?_) (a' := ?_) #[true, true, true, true, true, false, false] rfl rfl (by kernel_rfl) (fun _ _ _ h => h) (Or.inl ⟨by rfl, ?_⟩) hHeld ?_ ?_
 rotate_left
 ·intro w' s0
  go_simp
  with_reducible rfl
 rotate_left
 ·simp only [Act.put, List.setIfInBounds_toArray, List.set_cons_zero, List.set_cons_succ, i64_w, i32_w]
  rfl
 refine one_ (i := 5) (N := some 13) #[true, true, true, true, true, true, false] rfl rfl (by kernel_rfl) (by decide) (fun K hK => ?_)
 refine call_ 56 #[.pointer (some ⟨g, 0, none⟩)] ?hw rfl ?hr ?_
 case hw => rfl
 case hr => simp [execOp, resolve, Deferred.ofValue, invoke, Act.eval, eg56]
 refine (H56.out w1.drew (HB.out.trans (below_drew (Below.refl _ _)))).mono ?_
 rintro e w3 ⟨rfl, hb⟩
 refine ⟨_, rfl, ?_⟩
 have hb1 : Below w1.heap.size w1 w3 := Below.trans (below_drew (Below.refl w1.heap.size w1)) hb
 have HB3 := Aside0.mk (HB.out.trans (hb1.mono HB.out.size))
 have BX3 := Aside0.mk ((hb1.block gr (blk_lt BX.out)).trans BX.out)
 have HELD3 := Aside0.mk (show w3.cell? ⟨g, 2, none⟩ = some (.int .i64 (p : Int)) from (hb.cell (World.block_lt_of_cell? _ _ hHeld)).trans hHeld)
 clear hb hb1 hHeld
 refine hK.out _ _ HELD3.out (fun hHeld => ?_)
 clear hK K
 refine norm_ (a' := ?_) ?_ ?_
 rotate_left
 ·show Act.put _ (some 13) _ = _
  simp only [Act.put, List.setIfInBounds_toArray, List.set_cons_zero, List.set_cons_succ, i64_w, i32_w]
  rfl
 refine pure_ (i := 6) (N := some 14) (v := ?_) (a' := ?_) #[true, true, true, true, true, true, true] rfl rfl (by kernel_rfl) (fun _ _ _ h => h) (Or.inl ⟨by rfl, ?_⟩) ?_ ?_
 rotate_left
 ·intro w'
  go_simp
  with_reducible rfl
 rotate_left
 ·simp only [Act.put, List.setIfInBounds_toArray, List.set_cons_zero, List.set_cons_succ, i64_w, i32_w]
  rfl
 refine done_ (by kernel_rfl) ?_
 have q9 : w3.cell? ⟨gr, 0, none⟩ = some (.slice none 0 0) := (blk_cell BX3.out 0).trans rfl
 have z9 := blk_frozen BX3.out 0
 go_wp2
 refine bodyPost_ret (results_ctt rfl _ _ gr 24 #[.slice none 0 0] (0, 0) _ rfl (blk_put (cs := #[.slice none 0 0]) BX3.out 0 _ rfl) Tryd.underlying24 rfl (by kernel_rfl)) rfl ?_
 exact ⟨rfl, HB3.out.setCell (p := ⟨gr, 0, none⟩) (Nat.le_of_eq GR.out.symm) _⟩
set_option maxRecDepth 100000 in
set_option maxHeartbeats 8000000 in
theorem rresult_done {B : Nat} {W : World} {g : Nat} {A0 : Option Addr} {c0 : Nat} {gs : List S50} {vr : Value} {al : List Int} {p : Nat} (h : RW B W g A0 c0 gs vr al (p : Int)) (hC : Kd.C k50 W A0 gs.length gs) (hc0 : gs.length ≤ c0) (hs : startS gs al = true) (hw : ∀ g ∈ gs, g.f2.length ≤ 1099511627776) (hl : al.length ≤ 1099511627776) (hp : p = reachN gs al) (d : List S50) (m : List Int) (hk : keepS gs al = (d, m, 0)) :
  Calls Tryd.prog 27 #[.pointer (some ⟨g, 0, none⟩)] W fun e W' => ∃ A c A1 c1, e = .returned (.tuple #[.agg #[.slice A d.length c], .slice A1 m.length c1, .int .i64 0]) ∧ d.length ≤ c ∧ m.length ≤ c1 ∧ Foot (fun W'' => Kd.C k50 W'' A d.length d ∧ Kd.C (Kd.int .i64) W'' A1 m.length m) W' (fun k => W.heap.size ≤ k) ∧ Below W.heap.size W W' := by
 obtain ⟨A1, n1, c1, rfl, hn1, hc1⟩ := h.row.form
 have N1 := Aside0.mk hn1
 have HC1 := Aside0.mk hc1
 have H56 := Aside0.mk (fun (W' : World) (hb : Below W.heap.size W W') => count_calls (h.below hb) (Kd.C_below hC hb) hc0 hs hw hl)
 have H := Aside0.mk h
 have HC := Aside0.mk (fun (W' : World) (hb : Below W.heap.size W W') => Kd.C_below hC hb)
 have HC0 := Aside0.mk hc0
 obtain ⟨kk, hkk⟩ := refkeep_f (gs := gs) (rs := al) hw hl
 have KK := Aside0.mk (hkk kk (Nat.le_refl _))
 rw [hk] at KK
 obtain ⟨D, hD⟩ : ∃ D, D = reachN gs al := ⟨_, rfl⟩
 rw [← hD] at H56 hp
 clear hD h hC hc0 hs hw hl hn1 hc1 hkk hk
 have hlt : ¬ (p : Int) < (D : Int) := by omega
 clear hp
 go_enter Tryd.func27, Tryd.ntmps27
 go_upto_region 3 with (first
  | ((with_reducible refine gate_dst (N := 2) rfl ?_); refine box_event ?hg (N := 2) ?hd (cs := #[.slice none 0 0]) (t := 24) ?hr ?_; (case hd => rfl); (case hg => rfl); (case hr => first | (go_simp; done) | (go_simp; rfl)); intro gr hg w1 hbox hb; have HB := Aside0.mk hb; have BX := Aside0.mk hbox; have GR := Aside0.mk hg; clear hg hbox hb))
 have H1 := Aside0.mk (H.out.below HB.out)
 have HELD := Aside0.mk (show w1.drew.cell? ⟨g, 2, none⟩ = some (.int .i64 (p : Int)) from (blk_cell H1.out.cells 2).trans rfl)
 refine start_ (n := 7) (S := fun w' => w'.cell? ⟨g, 2, none⟩ = some (.int .i64 (p : Int))) (ds := []) #[false, false, false, false, false, false, false] (by kernel_rfl) rfl rfl HELD.out (fun hHeld => ?_)
 refine pure_ (i := 0) (N := some 8) (v := ?_) (a' := ?_) #[true, false, false, false, false, false, false] rfl rfl (by kernel_rfl) (fun _ _ _ h => h) (Or.inl ⟨by rfl, ?_⟩) ?_ ?_
 rotate_left
 ·intro w'
  go_simp
  with_reducible rfl
 rotate_left
 ·simp only [Act.put, List.setIfInBounds_toArray, List.set_cons_zero, List.set_cons_succ, i64_w, i32_w]
  rfl
 refine pure_ (i := 1) (N := some 9) (v := ?_) (a' := ?_) #[true, true, false, false, false, false, false] rfl rfl (by kernel_rfl) (fun _ _ _ h => h) (Or.inl ⟨by rfl, ?_⟩) ?_ ?_
 rotate_left
 ·intro w'
  go_simp
  with_reducible rfl
 rotate_left
 ·simp only [Act.put, List.setIfInBounds_toArray, List.set_cons_zero, List.set_cons_succ, i64_w, i32_w]
  rfl
 refine pure_ (i := 2) (N := some 10) (v := ?_) (a' := ?_) #[true, true, true, false, false, false, false] rfl rfl (by kernel_rfl) (fun _ _ _ h => h) (Or.inl ⟨by rfl, ?_⟩) ?_ ?_
 rotate_left
 ·intro w'
  go_simp
  with_reducible rfl
 rotate_left
 ·simp only [Act.put, List.setIfInBounds_toArray, List.set_cons_zero, List.set_cons_succ, i64_w, i32_w]
  rfl
 refine pure_ (i := 4) (N := some 12) (v := ?_) (a' := ?_) #[true, true, true, false, true, false, false] rfl rfl (by kernel_rfl) (fun _ _ _ h => h) (Or.inl ⟨by rfl, ?_⟩) ?_ ?_
 rotate_left
 ·intro w'
  go_simp
  with_reducible rfl
 rotate_left
 ·simp only [Act.put, List.setIfInBounds_toArray, List.set_cons_zero, List.set_cons_succ, i64_w, i32_w]
  rfl
 refine take_ (i := 3) (N := some 11) (v := ?_) (a' := ?_) #[true, true, true, true, true, false, false] rfl rfl (by kernel_rfl) (fun _ _ _ h => h) (Or.inl ⟨by rfl, ?_⟩) hHeld ?_ ?_
 rotate_left
 ·intro w' s0
  go_simp
  with_reducible rfl
 rotate_left
 ·simp only [Act.put, List.setIfInBounds_toArray, List.set_cons_zero, List.set_cons_succ, i64_w, i32_w]
  rfl
 refine one_ (i := 5) (N := some 13) #[true, true, true, true, true, true, false] rfl rfl (by kernel_rfl) (by decide) (fun K hK => ?_)
 refine call_ 56 #[.pointer (some ⟨g, 0, none⟩)] ?hw rfl ?hr ?_
 case hw => rfl
 case hr => simp [execOp, resolve, Deferred.ofValue, invoke, Act.eval, eg56]
 refine (H56.out w1.drew (HB.out.trans (below_drew (Below.refl _ _)))).mono ?_
 rintro e w3 ⟨rfl, hb⟩
 refine ⟨_, rfl, ?_⟩
 have hb1 : Below w1.heap.size w1 w3 := Below.trans (below_drew (Below.refl w1.heap.size w1)) hb
 have HB3 := Aside0.mk (HB.out.trans (hb1.mono HB.out.size))
 have BX3 := Aside0.mk ((hb1.block gr (blk_lt BX.out)).trans BX.out)
 have HELD3 := Aside0.mk (show w3.cell? ⟨g, 2, none⟩ = some (.int .i64 (p : Int)) from (hb.cell (World.block_lt_of_cell? _ _ hHeld)).trans hHeld)
 clear hb hb1 hHeld
 refine hK.out _ _ HELD3.out (fun hHeld => ?_)
 clear hK K
 refine norm_ (a' := ?_) ?_ ?_
 rotate_left
 ·show Act.put _ (some 13) _ = _
  simp only [Act.put, List.setIfInBounds_toArray, List.set_cons_zero, List.set_cons_succ, i64_w, i32_w]
  rfl
 refine pure_ (i := 6) (N := some 14) (v := ?_) (a' := ?_) #[true, true, true, true, true, true, true] rfl rfl (by kernel_rfl) (fun _ _ _ h => h) (Or.inl ⟨by rfl, ?_⟩) ?_ ?_
 rotate_left
 ·intro w'
  go_simp
  with_reducible rfl
 rotate_left
 ·simp only [Act.put, List.setIfInBounds_toArray, List.set_cons_zero, List.set_cons_succ, i64_w, i32_w]
  rfl
 refine done_ (by kernel_rfl) ?_
 go_upto_region 5 with fail
 have H3 := Aside0.mk (H.out.below HB3.out)
 have HELD5 := Aside0.mk (show w3.drew.cell? ⟨g, 0, none⟩ = some (.slice A0 gs.length c0) ∧ w3.drew.cell? ⟨g, 1, none⟩ = some (.slice A1 n1 c1) from ⟨(blk_cell H3.out.cells 0).trans rfl, (blk_cell H3.out.cells 1).trans rfl⟩)
 refine start_ (n := 15) (S := fun w' => w'.cell? ⟨g, 0, none⟩ = some (.slice A0 gs.length c0) ∧ w'.cell? ⟨g, 1, none⟩ = some (.slice A1 n1 c1)) (ds := [12, 13, 14]) #[false, false, false, false, false, false, false, false, false, false, false, false, false, false, false] (by kernel_rfl) rfl rfl HELD5.out (fun hHeld => ?_)
 refine pure_ (i := 0) (N := some 16) (v := ?_) (a' := ?_) #[true, false, false, false, false, false, false, false, false, false, false, false, false, false, false] rfl rfl (by kernel_rfl) (fun _ _ _ h => h) (Or.inl ⟨by rfl, ?_⟩) ?_ ?_
 rotate_left
 ·intro w'
  go_simp
  with_reducible rfl
 rotate_left
 ·simp only [Act.put, List.setIfInBounds_toArray, List.set_cons_zero, List.set_cons_succ, i64_w, i32_w]
  rfl
 refine pure_ (i := 1) (N := some 17) (v := ?_) (a' := ?_) #[true, true, false, false, false, false, false, false, false, false, false, false, false, false, false] rfl rfl (by kernel_rfl) (fun _ _ _ h => h) (Or.inl ⟨by rfl, ?_⟩) ?_ ?_
 rotate_left
 ·intro w'
  go_simp
  with_reducible rfl
 rotate_left
 ·simp only [Act.put, List.setIfInBounds_toArray, List.set_cons_zero, List.set_cons_succ, i64_w, i32_w]
  rfl
 refine pure_ (i := 2) (N := some 18) (v := ?_) (a' := ?_) #[true, true, true, false, false, false, false, false, false, false, false, false, false, false, false] rfl rfl (by kernel_rfl) (fun _ _ _ h => h) (Or.inl ⟨by rfl, ?_⟩) ?_ ?_
 rotate_left
 ·intro w'
  go_simp
  with_reducible rfl
 rotate_left
 ·simp only [Act.put, List.setIfInBounds_toArray, List.set_cons_zero, List.set_cons_succ, i64_w, i32_w]
  rfl
 refine pure_ (i := 4) (N := some 20) (v := ?_) (a' := ?_) #[true, true, true, false, true, false, false, false, false, false, false, false, false, false, false] rfl rfl (by kernel_rfl) (fun _ _ _ h => h) (Or.inl ⟨by rfl, ?_⟩) ?_ ?_
 rotate_left
 ·intro w'
  go_simp
  with_reducible rfl
 rotate_left
 ·simp only [Act.put, List.setIfInBounds_toArray, List.set_cons_zero, List.set_cons_succ, i64_w, i32_w]
  rfl
 refine pure_ (i := 5) (N := some 21) (v := ?_) (a' := ?_) #[true, true, true, false, true, true, false, false, false, false, false, false, false, false, false] rfl rfl (by kernel_rfl) (fun _ _ _ h => h) (Or.inl ⟨by rfl, ?_⟩) ?_ ?_
 rotate_left
 ·intro w'
  go_simp
  with_reducible rfl
 rotate_left
 ·simp only [Act.put, List.setIfInBounds_toArray, List.set_cons_zero, List.set_cons_succ, i64_w, i32_w]
  rfl
 refine pure_ (i := 6) (N := some 22) (v := ?_) (a' := ?_) #[true, true, true, false, true, true, true, false, false, false, false, false, false, false, false] rfl rfl (by kernel_rfl) (fun _ _ _ h => h) (Or.inl ⟨by rfl, ?_⟩) ?_ ?_
 rotate_left
 ·intro w'
  go_simp
  with_reducible rfl
 rotate_left
 ·simp only [Act.put, List.setIfInBounds_toArray, List.set_cons_zero, List.set_cons_succ, i64_w, i32_w]
  rfl
 refine take_ (i := 3) (N := some 19) (v := ?_) (a' := ?_) #[true, true, true, true, true, true, true, false, false, false, false, false, false, false, false] rfl rfl (by kernel_rfl) (fun _ _ _ h => h) (Or.inl ⟨by rfl, ?_⟩) hHeld ?_ ?_
 rotate_left
 ·rintro w' ⟨s0, s1⟩
  go_simp
  with_reducible rfl
 rotate_left
 ·simp only [Act.put, List.setIfInBounds_toArray, List.set_cons_zero, List.set_cons_succ, i64_w, i32_w]
  rfl
 refine take_ (i := 7) (N := some 23) (v := ?_) (a' := ?_) #[true, true, true, true, true, true, true, true, false, false, false, false, false, false, false] rfl rfl (by kernel_rfl) (fun _ _ _ h => h) (Or.inl ⟨by rfl, ?_⟩) hHeld ?_ ?_
 rotate_left
 ·rintro w' ⟨s0, s1⟩
  go_simp
  with_reducible rfl
 rotate_left
 ·simp only [Act.put, List.setIfInBounds_toArray, List.set_cons_zero, List.set_cons_succ, i64_w, i32_w]
  rfl
 refine one_ (i := 8) (N := some 24) #[true, true, true, true, true, true, true, true, true, false, false, false, false, false, false] rfl rfl (by kernel_rfl) (by decide) (fun K hK => ?_)
 refine call_ 17 #[.agg #[.slice A0 gs.length c0], .slice A1 n1 c1] ?hw rfl ?hr ?_
 case hw => rfl
 case hr => simp [execOp, resolve, Deferred.ofValue, invoke, Act.eval, eg17]
 obtain rfl : n1 = al.length := N1.out
 refine (cleanseref18_Keep.calls kk A0 c0 gs A1 c1 al d m 0 w3.drew (HC.out _ (HB3.out.trans (below_drew (Below.refl _ _)))) HC0.out H3.out.row.reads.2.2 HC1.out KK.out).mono ?_
 rintro e w4 ⟨v0, v1, rfl, hS, hR, hb⟩
 refine ⟨_, rfl, ?_⟩
 obtain ⟨Ad, cd, rfl⟩ := Kd.S_slice hS
 obtain ⟨Am, cm, rfl⟩ := Kd.R_slice hR
 have hb1 : Below w3.heap.size w3 w4 := Below.trans (below_drew (Below.refl w3.heap.size w3)) hb
 have HB4 := Aside0.mk (HB3.out.trans (hb1.mono HB3.out.size))
 have BX4 := Aside0.mk ((hb1.block gr (blk_lt BX3.out)).trans BX3.out)
 have LC := Aside0.mk (And.intro (Kd.S_reads' hS).2.1 (Kd.R_reads' hR).2.1)
 have hft : Foot (fun W'' => Kd.C k50 W'' Ad d.length d ∧ Kd.C (Kd.int .i64) W'' Am m.length m) w4 (fun k => w3.heap.size ≤ k) := Foot.and (Foot.rows (Kd.S_R hS)) (Foot.rows hR)
 have FT4 := Aside0.mk (show Foot (fun W'' => Kd.C k50 W'' Ad d.length d ∧ Kd.C (Kd.int .i64) W'' Am m.length m) (w4.setCell ⟨gr, 0, none⟩ (.slice Ad d.length cd)) (fun k => W.heap.size ≤ k) from Go.Proofs.YtcafgpfecfocnaaDoorW.PrintWords.Foot.mono (Foot.step hft (fun k hk hlt => Below.heap_setCell w4 ⟨gr, 0, none⟩ _ k (fun e => by have := blk_lt BX3.out; have e2 : k = gr := e; omega))) (fun k hk => Nat.le_trans HB3.out.size hk))
 have HELD6 := Aside0.mk (show w4.cell? ⟨g, 0, none⟩ = some (.slice A0 gs.length c0) ∧ w4.cell? ⟨g, 1, none⟩ = some (.slice A1 al.length c1) from ⟨(hb.cell (World.block_lt_of_cell? _ _ hHeld.1)).trans hHeld.1, (hb.cell (World.block_lt_of_cell? _ _ hHeld.2)).trans hHeld.2⟩)
 clear hS hR hb hb1 hft hHeld
 refine hK.out _ _ HELD6.out (fun hHeld => ?_)
 clear hK K
 refine norm_ (a' := ?_) ?_ ?_
 rotate_left
 ·show Act.put _ (some 24) _ = _
  simp only [Act.put, List.setIfInBounds_toArray, List.set_cons_zero, List.set_cons_succ, i64_w, i32_w]
  rfl
 refine pure_ (i := 9) (N := some 25) (v := ?_) (a' := ?_) #[true, true, true, true, true, true, true, true, true, true, false, false, false, false, false] rfl rfl (by kernel_rfl) (fun _ _ _ h => h) (Or.inl ⟨by rfl, ?_⟩) ?_ ?_
 rotate_left
 ·intro w'
  go_simp
  with_reducible rfl
 rotate_left
 ·simp only [Act.put, List.setIfInBounds_toArray, List.set_cons_zero, List.set_cons_succ, i64_w, i32_w]
  rfl
 refine pure_ (i := 10) (N := some 26) (v := ?_) (a' := ?_) #[true, true, true, true, true, true, true, true, true, true, true, false, false, false, false] rfl rfl (by kernel_rfl) (fun _ _ _ h => h) (Or.inl ⟨by rfl, ?_⟩) ?_ ?_
 rotate_left
 ·intro w'
  go_simp
  with_reducible rfl
 rotate_left
 ·simp only [Act.put, List.setIfInBounds_toArray, List.set_cons_zero, List.set_cons_succ, i64_w, i32_w]
  rfl
 refine pure_ (i := 11) (N := some 27) (v := ?_) (a' := ?_) #[true, true, true, true, true, true, true, true, true, true, true, true, false, false, false] rfl rfl (by kernel_rfl) (fun _ _ _ h => h) (Or.inl ⟨by rfl, ?_⟩) ?_ ?_
 rotate_left
 ·intro w'
  go_simp
  with_reducible rfl
 rotate_left
 ·simp only [Act.put, List.setIfInBounds_toArray, List.set_cons_zero, List.set_cons_succ, i64_w, i32_w]
  rfl
 refine last_ (i := 12) (N := none) #[true, true, true, true, true, true, true, true, true, true, true, true, true, false, false] rfl rfl (by kernel_rfl) (by decide) (fun K hK => ?_)
 have hs8 : w4.cell? ⟨gr, 0, none⟩ = some (.slice none 0 0) := (blk_cell BX4.out 0).trans rfl
 have hfs8 := blk_frozen BX4.out 0
 refine skip_ (w1 := ?_) (by rfl) rfl ?_ ?_
 rotate_left
 ·go_simp
  rfl
 refine hK.out _ _ ?_
 clear hK K
 refine last_ (i := 13) (N := some 3) #[true, true, true, true, true, true, true, true, true, true, true, true, true, true, false] rfl rfl (by kernel_rfl) (by decide) (fun K hK => ?_)
 refine value_ (w1 := ?_) (v := ?_) (by rfl) rfl ?_ ?_
 rotate_left 2
 ·go_simp
  constructor
  ·rfl
  ·rfl
 refine hK.out _ _ ?_
 clear hK K
 refine norm_ (a' := ?_) ?_ ?_
 rotate_left
 ·show Act.put _ (some 3) _ = _
  simp only [Act.put, List.setIfInBounds_toArray, List.set_cons_zero, List.set_cons_succ, i64_w, i32_w]
  rfl
 refine last_ (i := 14) (N := some 4) #[true, true, true, true, true, true, true, true, true, true, true, true, true, true, true] rfl rfl (by kernel_rfl) (by decide) (fun K hK => ?_)
 refine value_ (w1 := ?_) (v := ?_) (by rfl) rfl ?_ ?_
 rotate_left 2
 ·go_simp
  constructor
  ·rfl
  ·rfl
 refine hK.out _ _ ?_
 clear hK K
 refine norm_ (a' := ?_) ?_ ?_
 rotate_left
 ·show Act.put _ (some 4) _ = _
  simp only [Act.put, List.setIfInBounds_toArray, List.set_cons_zero, List.set_cons_succ, i64_w, i32_w]
  rfl
 refine done_ (by kernel_rfl) ?_
 go_wp2
 refine bodyPost_ret (results_ctt rfl _ _ gr 24 #[.slice Ad d.length cd] (0, 0) _ rfl (blk_put (cs := #[.slice none 0 0]) BX4.out 0 _ rfl) Tryd.underlying24 rfl (by kernel_rfl)) rfl ?_
 exact ⟨Ad, cd, Am, cm, rfl, LC.out.1, LC.out.2, FT4.out, HB4.out.setCell (p := ⟨gr, 0, none⟩) (Nat.le_of_eq GR.out.symm) _⟩
end Go.Proofs.YtcafgpfecfocnaaDoor.P

/- A sweep that is nil: what its methods answer, and the reference's. -/
namespace Go.Proofs.YtcafgpfecfocnaaDoor.P
open Go.RowKit Go.Maps Go.Proofs.YtcafgpfecfocnaaDoorW.PrintWords Go.Proofs.YtcafgpfecfocnaaDoorW.PrintLast Go.Proofs.YtcafgpfecfocnaaDoorW.PrintMore
set_option linter.unusedVariables false
set_option linter.unusedSimpArgs false

theorem nadd (W : World) (i : Int) : Calls Tryd.prog 22 #[.pointer none, .int .i64 i] W fun e W' => e = .returned (.int .i64 1) ∧ Below W.heap.size W W' := by
  go_enter Tryd.func22, Tryd.ntmps22
  go_wp2
  go_ret
  exact ⟨rfl, Below.refl _ _⟩
theorem nradd (W : World) (i : Int) : Calls Tryd.prog 23 #[.pointer none, .int .i64 i] W fun e W' => e = .returned (.int .i64 1) ∧ Below W.heap.size W W' := by
  go_enter Tryd.func23, Tryd.ntmps23
  go_wp2
  go_ret
  exact ⟨rfl, Below.refl _ _⟩
theorem nstep (W : World) (i : Int) : Calls Tryd.prog 24 #[.pointer none, .int .i64 i] W fun e W' => e = .returned (.bool false) ∧ Below W.heap.size W W' := by
  go_enter Tryd.func24, Tryd.ntmps24
  go_wp2
  go_ret
  exact ⟨rfl, Below.refl _ _⟩
theorem nrstep (W : World) (i : Int) : Calls Tryd.prog 25 #[.pointer none, .int .i64 i] W fun e W' => e = .returned (.bool false) ∧ Below W.heap.size W W' := by
  go_enter Tryd.func25, Tryd.ntmps25
  go_wp2
  go_ret
  exact ⟨rfl, Below.refl _ _⟩
theorem nresult (W : World) : Calls Tryd.prog 26 #[.pointer none] W fun e W' => e = .returned (.tuple #[.agg #[.slice none 0 0], .slice none 0 0, .int .i64 1]) ∧ Below W.heap.size W W' := by
  go_enter Tryd.func26, Tryd.ntmps26
  go_wp2_with (first
    | ((with_reducible refine gate_dst (N := 2) rfl ?_); refine box_event ?hg (N := 2) ?hd (cs := #[.slice none 0 0]) (t := 24) ?hr ?_; (case hd => rfl); (case hg => rfl); (case hr => first | (go_simp; done) | (go_simp; rfl)); intro gr hg w1 hbox hb; have HB := Aside0.mk hb; have BX := Aside0.mk hbox; have GR := Aside0.mk hg; have z1 := blk_frozen hbox 0; have q1 : w1.cell? ⟨gr, 0, none⟩ = some (.slice none 0 0) := (blk_cell hbox 0).trans rfl; clear hg hbox hb))
  refine bodyPost_ret (results_ctt rfl _ _ gr 24 #[.slice none 0 0] (0, 0) _ rfl (blk_put (cs := #[.slice none 0 0]) BX.out 0 _ rfl) Tryd.underlying24 rfl (by kernel_rfl)) rfl ?_
  exact ⟨rfl, HB.out.setCell (p := ⟨gr, 0, none⟩) (Nat.le_of_eq GR.out.symm) _⟩
theorem nrresult (W : World) : Calls Tryd.prog 27 #[.pointer none] W fun e W' => e = .returned (.tuple #[.agg #[.slice none 0 0], .slice none 0 0, .int .i64 1]) ∧ Below W.heap.size W W' := by
  go_enter Tryd.func27, Tryd.ntmps27
  go_wp2_with (first
    | ((with_reducible refine gate_dst (N := 2) rfl ?_); refine box_event ?hg (N := 2) ?hd (cs := #[.slice none 0 0]) (t := 24) ?hr ?_; (case hd => rfl); (case hg => rfl); (case hr => first | (go_simp; done) | (go_simp; rfl)); intro gr hg w1 hbox hb; have HB := Aside0.mk hb; have BX := Aside0.mk hbox; have GR := Aside0.mk hg; have z1 := blk_frozen hbox 0; have q1 : w1.cell? ⟨gr, 0, none⟩ = some (.slice none 0 0) := (blk_cell hbox 0).trans rfl; clear hg hbox hb))
  refine bodyPost_ret (results_ctt rfl _ _ gr 24 #[.slice none 0 0] (0, 0) _ rfl (blk_put (cs := #[.slice none 0 0]) BX.out 0 _ rfl) Tryd.underlying24 rfl (by kernel_rfl)) rfl ?_
  exact ⟨rfl, HB.out.setCell (p := ⟨gr, 0, none⟩) (Nat.le_of_eq GR.out.symm) _⟩
end Go.Proofs.YtcafgpfecfocnaaDoor.P

/- The law against the reference: what holds ahead of each operation. -/
namespace Go.Proofs.YtcafgpfecfocnaaDoor.P
open Go.RowKit Go.Maps Go.Proofs.YtcafgpfecfocnaaDoorW.PrintWords Go.Proofs.YtcafgpfecfocnaaDoorW.PrintLast Go.Proofs.YtcafgpfecfocnaaDoorW.PrintMore
set_option linter.unusedVariables false
set_option linter.unusedSimpArgs false

/-- al: the sweep's roots, s its state; al2, P: the reference's roots and marked ones. -/
structure QQ (w W : World) (gb g g2 : Nat) (A0 : Option Addr) (c0 : Nat) (gs : List S50) (al : List Int) (s : St) (vr : Value) (al2 : List Int) (P : Int) : Prop where
  below : Below w.heap.size w W
  box : W.heap[gb]? = some (.cells #[.slice A0 gs.length c0] 24 (0, 0))
  gbge : w.heap.size ≤ gb
  sw : ∃ F Ag cg vs bm nm vw f, SW W F g gs al s.mark s.wait Ag cg vs bm nm vw f ∧ ¬ F gb ∧ ¬ F g2 ∧ (∀ k, F k → w.heap.size ≤ k) ∧ (∀ k, vr.ownBlock = some k → ¬ F k) ∧ Kd.F k50 W (fun k => ¬ F k ∧ k ≠ g2 ∧ vr.ownBlock ≠ some k) Ag gs.length gs
  rw : RW w.heap.size W g2 A0 c0 gs vr al2 P
  inv : Inv gs al s
  good : s.Good gs.length
  start : startS gs al = true
section
variable {w W W' : World} {gb g g2 : Nat} {A0 : Option Addr} {c0 : Nat} {gs : List S50} {al al2 : List Int} {s : St} {vr : Value} {P : Int}
theorem QQ.step (h : QQ w W gb g g2 A0 c0 gs al s vr al2 P) (hb : Below W.heap.size W W') : QQ w W' gb g g2 A0 c0 gs al s vr al2 P where
  below := h.below.trans (hb.mono h.below.size)
  box := (hb.block gb (blk_lt h.box)).trans h.box
  gbge := h.gbge
  sw := by
    obtain ⟨F, Ag, cg, vs, bm, nm, vw, f, h1, h2, h3, h4, h5, h6⟩ := h.sw
    exact ⟨F, Ag, cg, vs, bm, nm, vw, f, h1.below hb, h2, h3, h4, h5, Kd.F_below h6 hb⟩
  rw := h.rw.below hb
  inv := h.inv
  good := h.good
  start := h.start
theorem QQ.gb_ne (h : QQ w W gb g g2 A0 c0 gs al s vr al2 P) : gb ≠ g2 := blk_ne h.box h.rw.cells (by decide)
theorem QQ.gb_nv (h : QQ w W gb g g2 A0 c0 gs al s vr al2 P) : vr.ownBlock ≠ some gb := h.rw.row.ne_type h.box (by decide)
/-- Behind a call that turns the sweep's blocks alone. -/
theorem QQ.turned (h : QQ w W gb g g2 A0 c0 gs al s vr al2 P) {F : Nat → Prop} (hF0 : ¬ F gb) (hF3 : ¬ F g2) (hF1 : ∀ k, F k → w.heap.size ≤ k) (hF2 : ∀ k, vr.ownBlock = some k → ¬ F k) (hu : Upd F W W') {F' : Nat → Prop} {al' : List Int} {s' : St} {Ag : Option Addr} (hgt : Kd.F k50 W (fun k => ¬ F k ∧ k ≠ g2 ∧ vr.ownBlock ≠ some k) Ag gs.length gs) {cg : Nat} {vs : Value} {bm nm : Nat} {vw : Value} {f : Lit → Option (DataW Unit)}
    (hsw : SW W' F' g gs al' s'.mark s'.wait Ag cg vs bm nm vw f) (hF : ∀ k, F' k → F k ∨ W.heap.size ≤ k) (hi : Inv gs al' s') (hg : s'.Good gs.length) (hst : startS gs al' = true) : QQ w W' gb g g2 A0 c0 gs al' s' vr al2 P where
  below := h.below.trans (hu.below h.below.size hF1)
  box := hu.blk h.box hF0
  gbge := h.gbge
  sw := ⟨F', Ag, cg, vs, bm, nm, vw, f, hsw, fun hf => by
    rcases hF gb hf with h1 | h1
    · exact hF0 h1
    · have := blk_lt h.box; omega, fun hf => by
    rcases hF g2 hf with h1 | h1
    · exact hF3 h1
    · have := blk_lt h.rw.cells; omega, fun k hk => by
    rcases hF k hk with h1 | h1
    · exact hF1 k h1
    · have := h.below.size; omega, fun k hk hf => by
    rcases hF k hf with h1 | h1
    · exact hF2 k hk h1
    · have := h.rw.row.lt k hk; omega,
    Go.Proofs.YtcafgpfecfocnaaDoorW.PrintWords.Foot.mono (Foot.step (Foot.bound hgt) (fun k hk hlt => hu.block k hlt hk.1.1)) (fun k hk => ⟨fun hf => by
      rcases hF k hf with h1 | h1
      · exact hk.1.1 h1
      · have := hk.2; omega, hk.1.2⟩)⟩
  rw := h.rw.upd hu hF3 hF2
  inv := hi
  good := hg
  start := hst
/-- Behind a call that turns the reference's blocks alone. -/
theorem QQ.reffed (h : QQ w W gb g g2 A0 c0 gs al s vr al2 P) {vr' : Value} {al' : List Int} {P' : Int} (hu : Upd (fun k => k = g2 ∨ vr.ownBlock = some k) W W') (hr : RW w.heap.size W' g2 A0 c0 gs vr' al' P') (hv : ∀ k, vr'.ownBlock = some k → vr.ownBlock = some k ∨ W.heap.size ≤ k) : QQ w W' gb g g2 A0 c0 gs al s vr' al' P' where
  below := h.below.trans (hu.below h.below.size (fun k hk => hk.elim (fun e => e ▸ h.rw.ge) (fun e => h.rw.rge k e)))
  box := hu.blk h.box (fun hk => hk.elim h.gb_ne h.gb_nv)
  gbge := h.gbge
  sw := by
    obtain ⟨F, Ag, cg, vs, bm, nm, vw, f, h1, h2, h3, h4, h5, h6⟩ := h.sw
    have hd : ∀ k, F k → ¬ (k = g2 ∨ vr.ownBlock = some k) := fun k hf hk => hk.elim (fun e => h3 (e ▸ hf)) (fun e => h5 k e hf)
    have hgt : Kd.F k50 W' (fun k => (¬ F k ∧ k ≠ g2 ∧ vr.ownBlock ≠ some k) ∧ k < W.heap.size) Ag gs.length gs := Foot.step (Foot.bound h6) (fun k hk hlt => hu.block k hlt (fun hq => hq.elim hk.1.2.1 hk.1.2.2))
    refine ⟨F, Ag, cg, vs, bm, nm, vw, f, h1.far hu hd (Go.Proofs.YtcafgpfecfocnaaDoorW.PrintWords.Foot.mono hgt (fun k hk => hk.1.1)), h2, h3, h4, fun k hk hf => ?_, Go.Proofs.YtcafgpfecfocnaaDoorW.PrintWords.Foot.mono hgt (fun k hk => ⟨hk.1.1, hk.1.2.1, fun e => ?_⟩)⟩
    · rcases hv k hk with h7 | h7
      · exact h5 k h7 hf
      · have := h1.lt k hf; omega
    · rcases hv k e with h7 | h7
      · exact hk.1.2.2 h7
      · have := hk.2; omega
  rw := hr
  inv := h.inv
  good := h.good
  start := h.start
end
/-- At the start: the sweep is made first, then the reference's. -/
theorem match_start {w w5 w6 w7 : World} {gb g g2 : Nat} {A0 : Option Addr} {c0 : Nat} {gs : List S50} {rs : List Int} {F : Nat → Prop} {Ag : Option Addr} {cg : Nat} {vs vr : Value} {bm nm : Nat} {vw : Value} {f : Lit → Option (DataW Unit)}
    (hb6 : Below w.heap.size w w6) (bx : w6.heap[gb]? = some (.cells #[.slice A0 gs.length c0] 24 (0, 0))) (hgb : w.heap.size ≤ gb) (hsw : SW w6 F g gs rs (st0 rs).mark (st0 rs).wait Ag cg vs bm nm vw f) (hF : ∀ k, F k → w5.heap.size ≤ k) (hlt : gb < w5.heap.size) (hw5 : w.heap.size ≤ w5.heap.size) (hb7 : Below w6.heap.size w6 w7) (hr : RW w6.heap.size w7 g2 A0 c0 gs vr rs 0) (hs : startS gs rs = true) : QQ w w7 gb g g2 A0 c0 gs rs (st0 rs) vr rs 0 where
  below := hb6.trans (hb7.mono hb6.size)
  box := (hb7.block gb (blk_lt bx)).trans bx
  gbge := hgb
  sw := ⟨F, Ag, cg, vs, bm, nm, vw, f, hsw.below hb7, fun hf => by have := hF gb hf; omega, fun hf => by have h1 := hsw.lt g2 hf; have h2 := hr.ge; omega, fun k hk => by have := hF k hk; omega, fun k hk hf => by
    have h1 := hr.rge k hk
    have h2 := hsw.lt k hf
    omega, Go.Proofs.YtcafgpfecfocnaaDoorW.PrintWords.Foot.mono (Foot.below (Foot.bound hsw.gates) hb7) (fun k hk => ⟨hk.1, fun he => by
    have h1 := hr.ge
    have h2 := hk.2
    omega, fun he => by
    have h1 := hr.rge k he
    have h2 := hk.2
    omega⟩)⟩
  rw := ⟨hr.cells, hr.row, Nat.le_trans hb6.size hr.ge, fun k hk => Nat.le_trans hb6.size (hr.rge k hk)⟩
  inv := Inv.start gs rs
  good := st0_good (start_in hs).2
  start := hs
end Go.Proofs.YtcafgpfecfocnaaDoor.P

/- The walk of the law on steps. -/
namespace Go.Proofs.YtcafgpfecfocnaaDoor.P
open Go.RowKit Go.Maps Go.Proofs.YtcafgpfecfocnaaDoorW.PrintWords Go.Proofs.YtcafgpfecfocnaaDoorW.PrintLast Go.Proofs.YtcafgpfecfocnaaDoorW.PrintMore
attribute [local go_sem] max2_int min2_int max_two min_two
set_option linter.unusedVariables false
set_option linter.unusedSimpArgs false

def fewB (gs : List S50) (rs : List Int) (n : Nat) : Bool := fewS gs 60 && (decide (rs.length ≤ 60) && decide (n ≤ 40))
theorem few_all (A0 : Option Addr) (c0 : Nat) (gs : List S50) (A1 : Option Addr) (c1 : Nat) (rs : List Int) (A2 : Option Addr) (c2 : Nat) (ops : List S41) (W : World) (h0 : Kd.C k50 W A0 gs.length gs) (hc0 : gs.length ≤ c0) (h1 : Kd.C (Kd.int .i64) W A1 rs.length rs) (hc1 : rs.length ≤ c1) (h2 : Kd.C k41 W A2 ops.length ops) (hc2 : ops.length ≤ c2) :
    Calls Tryd.prog 15 #[.agg #[.slice A0 gs.length c0], .slice A1 rs.length c1, .slice A2 ops.length c2] W fun e W' => e = .returned (.bool (fewB gs rs ops.length)) ∧ Below W.heap.size W W' := by
  refine cleanselaw18_few.calls (gs.length + 1) A0 c0 gs A1 c1 rs A2 c2 ops _ W h0 hc0 h1 hc1 h2 hc2 ?_
  unfold cleanselaw18_few.f fewB
  rw [few_f _ gs 60 (by omega) (by omega), Option.bind_some]
  cases fewS gs 60 with
  | false => rfl
  | true =>
    rw [if_pos rfl]
    by_cases h : rs.length ≤ 60
    · rw [if_pos (by omega)]; simp [h]; omega
    · rw [if_neg (by omega)]; simp [h]

end Go.Proofs.YtcafgpfecfocnaaDoor.P
