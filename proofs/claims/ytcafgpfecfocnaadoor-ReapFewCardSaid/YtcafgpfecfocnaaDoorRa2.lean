/- What the claim's proof needs: Sample, HeadK, HeadC, HeadW, HHeadA. -/
import Derived.Test.YtcafgpfecfocnaaDoorRa1
import Derived.Test.YtcafgpfecfocnaaDoorRaPx3
import Derived.Deep.RegionHeld3
/- The example circuit of the law's head. -/
namespace Go.Proofs.YtcafgpfecfocnaaDoor.P
open Go.RowKit Go.Maps Go.Proofs.YtcafgpfecfocnaaDoorW.PrintWords Go.Proofs.YtcafgpfecfocnaaDoorW.PrintLast Go.Proofs.YtcafgpfecfocnaaDoorW.PrintMore
set_option linter.unusedVariables false
set_option linter.unusedSimpArgs false

def sampleG : List S50 := [⟨2, 0, []⟩, ⟨2, 1, []⟩, ⟨3, 0, [0, 1]⟩, ⟨4, 0, [0, 2]⟩, ⟨2, 2, []⟩]
theorem C_ints {w : World} {b t : Nat} (xs : List Int) (h : w.heap[b]? = some (.cells (xs.map (Value.int .i64)).toArray t (0, 0))) (hl : xs.length ≤ 9223372036854775807) : Kd.C (Kd.int .i64) w (some ⟨b, 0, none⟩) xs.length xs := by
  refine ⟨rfl, hl, fun _ => ⟨_, rfl, fun j p hj => ⟨[.int .i64 p], rfl, rfl, fun i u hu => ?_⟩⟩⟩
  cases i with
  | succ i => simp at hu
  | zero =>
    simp only [List.getElem?_cons_zero, Option.some.injEq] at hu
    subst hu
    have e : (⟨b, 0, none⟩ : Addr).add (j * (Kd.int .i64).sz + 0) = ⟨b, j, none⟩ := by
      show (⟨b, 0, none⟩ : Addr).add (j * 1 + 0) = ⟨b, j, none⟩
      rw [Nat.mul_one, Nat.add_zero]
      unfold Addr.add
      by_cases h0 : j = 0
      · subst h0; rfl
      · rw [if_neg h0]; simp
    rw [e, blk_cell h j]
    simp [hj]
set_option maxRecDepth 100000 in
set_option maxHeartbeats 4000000 in
theorem sample_calls (w : World) : Calls Tryd.prog 48 #[] w fun e w' => ∃ bg, e = .returned (.agg #[.slice (some ⟨bg, 0, none⟩) 5 5]) ∧ Kd.C k50 w' (some ⟨bg, 0, none⟩) 5 sampleG ∧ Below w.heap.size w w' := by
  go_enter Tryd.func48, Tryd.ntmps48
  go_wp2_with (first
    | ((with_reducible refine gate_dst (N := 0) rfl ?_); refine box_event ?hg (N := 0) ?hd (cs := #[.slice none 0 0]) (t := 24) ?hr ?_; (case hd => rfl); (case hg => rfl); (case hr => first | (go_simp; done) | (go_simp; rfl)); intro gb hg w1 hbox hb; have HB := Aside0.mk hb; have BX := Aside0.mk hbox; have GG := Aside0.mk hg; have z3 : (((w1.alloc (Obj.cells #[.int .i64 0, .int .i64 1] 3)).alloc (Obj.cells #[.int .i64 0, .int .i64 2] 3)).alloc (Obj.cells #[.int .i64 2, .int .i64 0, .slice none 0 0, .int .i64 2, .int .i64 1, .slice none 0 0, .int .i64 3, .int .i64 0, .slice (some ⟨w1.heap.size, 0, none⟩) 2 2, .int .i64 4, .int .i64 0, .slice (some ⟨w1.heap.size + 1, 0, none⟩) 2 2, .int .i64 2, .int .i64 2, .slice none 0 0] 50)).frozen? ⟨gb, 0, none⟩ = false := blk_frozen (blk_alloc (blk_alloc (blk_alloc hbox _) _) _) 0; have q3 : (((w1.alloc (Obj.cells #[.int .i64 0, .int .i64 1] 3)).alloc (Obj.cells #[.int .i64 0, .int .i64 2] 3)).alloc (Obj.cells #[.int .i64 2, .int .i64 0, .slice none 0 0, .int .i64 2, .int .i64 1, .slice none 0 0, .int .i64 3, .int .i64 0, .slice (some ⟨w1.heap.size, 0, none⟩) 2 2, .int .i64 4, .int .i64 0, .slice (some ⟨w1.heap.size + 1, 0, none⟩) 2 2, .int .i64 2, .int .i64 2, .slice none 0 0] 50)).cell? ⟨gb, 0, none⟩ = some (.slice none 0 0) := (blk_cell (blk_alloc (blk_alloc (blk_alloc hbox _) _) _) 0).trans rfl; clear hg hbox hb))
  have n1 := heap_alloc_new w1 (Obj.cells #[.int .i64 0, .int .i64 1] 3)
  have n2 := heap_alloc_new (w1.alloc (Obj.cells #[.int .i64 0, .int .i64 1] 3)) (Obj.cells #[.int .i64 0, .int .i64 2] 3)
  have n3 := heap_alloc_new ((w1.alloc (Obj.cells #[.int .i64 0, .int .i64 1] 3)).alloc (Obj.cells #[.int .i64 0, .int .i64 2] 3)) (Obj.cells #[.int .i64 2, .int .i64 0, .slice none 0 0, .int .i64 2, .int .i64 1, .slice none 0 0, .int .i64 3, .int .i64 0, .slice (some ⟨w1.heap.size, 0, none⟩) 2 2, .int .i64 4, .int .i64 0, .slice (some ⟨w1.heap.size + 1, 0, none⟩) 2 2, .int .i64 2, .int .i64 2, .slice none 0 0] 50)
  have B3 : Below w.heap.size w (((w1.alloc (Obj.cells #[.int .i64 0, .int .i64 1] 3)).alloc (Obj.cells #[.int .i64 0, .int .i64 2] 3)).alloc (Obj.cells #[.int .i64 2, .int .i64 0, .slice none 0 0, .int .i64 2, .int .i64 1, .slice none 0 0, .int .i64 3, .int .i64 0, .slice (some ⟨w1.heap.size, 0, none⟩) 2 2, .int .i64 4, .int .i64 0, .slice (some ⟨w1.heap.size + 1, 0, none⟩) 2 2, .int .i64 2, .int .i64 2, .slice none 0 0] 50)) := below_alloc (below_alloc (below_alloc HB.out _) _) _
  have B3' := B3.setCell (p := ⟨gb, 0, none⟩) (by rw [GG.out]; exact Nat.le_refl _) (.slice (some ⟨w1.heap.size + 1 + 1, 0, none⟩) 5 5)
  have BX3 := blk_alloc (blk_alloc (blk_alloc BX.out (Obj.cells #[.int .i64 0, .int .i64 1] 3)) (Obj.cells #[.int .i64 0, .int .i64 2] 3)) (Obj.cells #[.int .i64 2, .int .i64 0, .slice none 0 0, .int .i64 2, .int .i64 1, .slice none 0 0, .int .i64 3, .int .i64 0, .slice (some ⟨w1.heap.size, 0, none⟩) 2 2, .int .i64 4, .int .i64 0, .slice (some ⟨w1.heap.size + 1, 0, none⟩) 2 2, .int .i64 2, .int .i64 2, .slice none 0 0] 50)
  have hgb : gb < w1.heap.size := blk_lt BX.out
  have m1 := blk_alloc (blk_alloc n1 (Obj.cells #[.int .i64 0, .int .i64 2] 3)) (Obj.cells #[.int .i64 2, .int .i64 0, .slice none 0 0, .int .i64 2, .int .i64 1, .slice none 0 0, .int .i64 3, .int .i64 0, .slice (some ⟨w1.heap.size, 0, none⟩) 2 2, .int .i64 4, .int .i64 0, .slice (some ⟨w1.heap.size + 1, 0, none⟩) 2 2, .int .i64 2, .int .i64 2, .slice none 0 0] 50)
  have m2 := blk_alloc n2 (Obj.cells #[.int .i64 2, .int .i64 0, .slice none 0 0, .int .i64 2, .int .i64 1, .slice none 0 0, .int .i64 3, .int .i64 0, .slice (some ⟨w1.heap.size, 0, none⟩) 2 2, .int .i64 4, .int .i64 0, .slice (some ⟨w1.heap.size + 1, 0, none⟩) 2 2, .int .i64 2, .int .i64 2, .slice none 0 0] 50)
  rw [World.size_alloc] at m2
  rw [World.size_alloc, World.size_alloc] at n3
  have s1 : ((((w1.alloc (Obj.cells #[.int .i64 0, .int .i64 1] 3)).alloc (Obj.cells #[.int .i64 0, .int .i64 2] 3)).alloc (Obj.cells #[.int .i64 2, .int .i64 0, .slice none 0 0, .int .i64 2, .int .i64 1, .slice none 0 0, .int .i64 3, .int .i64 0, .slice (some ⟨w1.heap.size, 0, none⟩) 2 2, .int .i64 4, .int .i64 0, .slice (some ⟨w1.heap.size + 1, 0, none⟩) 2 2, .int .i64 2, .int .i64 2, .slice none 0 0] 50)).setCell ⟨gb, 0, none⟩ (.slice (some ⟨w1.heap.size + 1 + 1, 0, none⟩) 5 5)).heap[w1.heap.size]? = some (.cells #[.int .i64 0, .int .i64 1] 3 (0, 0)) := (Below.heap_setCell _ ⟨gb, 0, none⟩ _ _ (by show w1.heap.size ≠ gb; omega)).trans m1
  have s2 : ((((w1.alloc (Obj.cells #[.int .i64 0, .int .i64 1] 3)).alloc (Obj.cells #[.int .i64 0, .int .i64 2] 3)).alloc (Obj.cells #[.int .i64 2, .int .i64 0, .slice none 0 0, .int .i64 2, .int .i64 1, .slice none 0 0, .int .i64 3, .int .i64 0, .slice (some ⟨w1.heap.size, 0, none⟩) 2 2, .int .i64 4, .int .i64 0, .slice (some ⟨w1.heap.size + 1, 0, none⟩) 2 2, .int .i64 2, .int .i64 2, .slice none 0 0] 50)).setCell ⟨gb, 0, none⟩ (.slice (some ⟨w1.heap.size + 1 + 1, 0, none⟩) 5 5)).heap[w1.heap.size + 1]? = some (.cells #[.int .i64 0, .int .i64 2] 3 (0, 0)) := (Below.heap_setCell _ ⟨gb, 0, none⟩ _ _ (by show w1.heap.size + 1 ≠ gb; omega)).trans m2
  have s3 : ((((w1.alloc (Obj.cells #[.int .i64 0, .int .i64 1] 3)).alloc (Obj.cells #[.int .i64 0, .int .i64 2] 3)).alloc (Obj.cells #[.int .i64 2, .int .i64 0, .slice none 0 0, .int .i64 2, .int .i64 1, .slice none 0 0, .int .i64 3, .int .i64 0, .slice (some ⟨w1.heap.size, 0, none⟩) 2 2, .int .i64 4, .int .i64 0, .slice (some ⟨w1.heap.size + 1, 0, none⟩) 2 2, .int .i64 2, .int .i64 2, .slice none 0 0] 50)).setCell ⟨gb, 0, none⟩ (.slice (some ⟨w1.heap.size + 1 + 1, 0, none⟩) 5 5)).heap[w1.heap.size + 1 + 1]? = some (.cells #[.int .i64 2, .int .i64 0, .slice none 0 0, .int .i64 2, .int .i64 1, .slice none 0 0, .int .i64 3, .int .i64 0, .slice (some ⟨w1.heap.size, 0, none⟩) 2 2, .int .i64 4, .int .i64 0, .slice (some ⟨w1.heap.size + 1, 0, none⟩) 2 2, .int .i64 2, .int .i64 2, .slice none 0 0] 50 (0, 0)) := (Below.heap_setCell _ ⟨gb, 0, none⟩ _ _ (by show w1.heap.size + 1 + 1 ≠ gb; omega)).trans n3
  refine bodyPost_ret (results_cell_row rfl _ _ gb 24 #[.slice (some ⟨w1.heap.size + 1 + 1, 0, none⟩) 5 5] (0, 0) _ rfl (blk_put (cs := #[.slice none 0 0]) BX3 0 _ rfl) Tryd.underlying24 rfl (by kernel_rfl)) rfl ?_
  generalize ((((w1.alloc (Obj.cells #[.int .i64 0, .int .i64 1] 3)).alloc (Obj.cells #[.int .i64 0, .int .i64 2] 3)).alloc (Obj.cells #[.int .i64 2, .int .i64 0, .slice none 0 0, .int .i64 2, .int .i64 1, .slice none 0 0, .int .i64 3, .int .i64 0, .slice (some ⟨w1.heap.size, 0, none⟩) 2 2, .int .i64 4, .int .i64 0, .slice (some ⟨w1.heap.size + 1, 0, none⟩) 2 2, .int .i64 2, .int .i64 2, .slice none 0 0] 50)).setCell ⟨gb, 0, none⟩ (.slice (some ⟨w1.heap.size + 1 + 1, 0, none⟩) 5 5)) = W9 at *
  refine ⟨_, rfl, ?_, B3'⟩
  have k1 := C_ints [0, 1] s1 (by decide)
  have k2 := C_ints [0, 2] s2 (by decide)
  have row : ∀ j p, sampleG[j]? = some p → ∃ c : List Value, c.length = 3 ∧ k50.K W9 p c ∧ ∀ i u, c[i]? = some u → W9.cell? ⟨w1.heap.size + 1 + 1, j * 3 + i, none⟩ = some u := by
    intro j p hj
    have nil : Kd.C (Kd.int .i64) W9 none ([] : List Int).length [] := Kd.C_nil _ _
    match j with
    | 0 => cases hj; exact ⟨_, rfl, k50_mk W9 ⟨2, 0, []⟩ (A2 := none) (c2 := 0) (Nat.zero_le _) nil, fun i u hu => by rw [blk_cell s3]; match i with | 0 => exact hu | 1 => exact hu | 2 => exact hu | i + 3 => simp at hu⟩
    | 1 => cases hj; exact ⟨_, rfl, k50_mk W9 ⟨2, 1, []⟩ (A2 := none) (c2 := 0) (Nat.zero_le _) nil, fun i u hu => by rw [blk_cell s3]; match i with | 0 => exact hu | 1 => exact hu | 2 => exact hu | i + 3 => simp at hu⟩
    | 2 => cases hj; exact ⟨_, rfl, k50_mk W9 ⟨3, 0, [0, 1]⟩ (c2 := 2) (Nat.le_refl _) k1, fun i u hu => by rw [blk_cell s3]; match i with | 0 => exact hu | 1 => exact hu | 2 => exact hu | i + 3 => simp at hu⟩
    | 3 => cases hj; exact ⟨_, rfl, k50_mk W9 ⟨4, 0, [0, 2]⟩ (c2 := 2) (Nat.le_refl _) k2, fun i u hu => by rw [blk_cell s3]; match i with | 0 => exact hu | 1 => exact hu | 2 => exact hu | i + 3 => simp at hu⟩
    | 4 => cases hj; exact ⟨_, rfl, k50_mk W9 ⟨2, 2, []⟩ (A2 := none) (c2 := 0) (Nat.zero_le _) nil, fun i u hu => by rw [blk_cell s3]; match i with | 0 => exact hu | 1 => exact hu | 2 => exact hu | i + 3 => simp at hu⟩
    | j + 5 => simp [sampleG] at hj
  refine ⟨rfl, by decide, fun _ => ⟨_, rfl, fun j p hj => ?_⟩⟩
  obtain ⟨c, h1, h2, h3⟩ := row j p hj
  refine ⟨c, h1, h2, fun i u hu => ?_⟩
  have e : (⟨w1.heap.size + 1 + 1, 0, none⟩ : Addr).add (j * k50.sz + i) = ⟨w1.heap.size + 1 + 1, j * 3 + i, none⟩ := by
    show (⟨w1.heap.size + 1 + 1, 0, none⟩ : Addr).add (j * 3 + i) = _
    unfold Addr.add
    by_cases h0 : j * 3 + i = 0
    · rw [if_pos h0, h0]
    · rw [if_neg h0]; simp
  rw [e]
  exact h3 i u hu
end Go.Proofs.YtcafgpfecfocnaaDoor.P

/- What the law's head calls, at the example. -/
namespace Go.Proofs.YtcafgpfecfocnaaDoor.P
open Go.RowKit Go.Maps Go.Proofs.YtcafgpfecfocnaaDoorW.PrintWords Go.Proofs.YtcafgpfecfocnaaDoorW.PrintLast Go.Proofs.YtcafgpfecfocnaaDoorW.PrintMore
set_option linter.unusedVariables false
set_option linter.unusedSimpArgs false

section
variable {P Q : World → Prop} {W W1 : World} {F F' : Nat → Prop}
theorem Foot.and (h : Foot P W F) (k : Foot Q W F) : Foot (fun W => P W ∧ Q W) W F := fun W' hW => ⟨h W' hW, k W' hW⟩
theorem Foot.below {ok : Nat → Prop} (h : Foot P W ok) (hb : Below W.heap.size W W1) : Foot P W1 ok := h.step (fun k _ hlt => hb.block k hlt)
/-- What lies outside of F stays, where F is turned; new blocks may become F's. -/
theorem Foot.upd (h : Foot P W (fun k => ¬ F k)) (hu : Upd F W W1) (hF : ∀ k, F' k → F k ∨ W.heap.size ≤ k) : Foot P W1 (fun k => ¬ F' k) :=
  Foot.mono (Foot.step (Foot.bound h) (fun k hk hlt => hu.block k hlt hk.1)) (fun k hk hf => by
    rcases hF k hf with h1 | h1
    · exact hk.1 h1
    · have := hk.2; omega)
theorem Foot.blk {b : Nat} {o : Obj} {ok : Nat → Prop} (h : W.heap[b]? = some o) (hok : ok b) : Foot (fun W' => W'.heap[b]? = some o) W ok := fun W' hW => (hW b hok (blk_lt h)).trans h
theorem Foot.rows {α : Type} {d : Kd α} {e base n c : Nat} {ok : Nat → Prop} {A : Option Addr} {xs : List α} (h : d.R e W base ok (.slice A n c) xs) : Foot (fun W' => d.C W' A xs.length xs) W (fun k => base ≤ k) :=
  fun W' hW => (Kd.R_reads' (Kd.R_step (Kd.R_bound h) (fun k hk hlt => hW k hk.2.1 hlt))).2.2
end

theorem sample_wf : ∀ g ∈ sampleG, wfG g := by
  intro g hg
  simp only [sampleG, List.mem_cons, List.not_mem_nil, or_false] at hg
  rcases hg with rfl | rfl | rfl | rfl | rfl <;> refine ⟨by unfold in64; decide, by unfold in64; decide, ?_, by decide⟩ <;> intro k hk <;> simp at hk <;> first | (rcases hk with rfl | rfl <;> unfold in64 <;> decide) | skip

/-- reap.Keep at the example. -/
theorem keep_sample (W : World) (bs b : Nat) (rs : List Int) (n : Nat) (hn : rs.length = n) (hn5 : n ≤ 5) (hT : Tabs W) (hC : Kd.C k50 W (some ⟨bs, 0, none⟩) 5 sampleG) (hb : Kd.C (Kd.int .i64) W (some ⟨b, 0, none⟩) rs.length rs) (r1 : List S50) (r2 : List Int) (r3 : Int) (n1 n2 : Nat) (h1 : r1.length = n1) (h2 : r2.length = n2) (hk : keepS sampleG rs = (r1, r2, r3)) :
    Calls Tryd.prog 16 #[.agg #[.slice (some ⟨bs, 0, none⟩) 5 5], .slice (some ⟨b, 0, none⟩) n n] W fun e W' => ∃ A c A1 c1, e = .returned (.tuple #[.agg #[.slice A n1 c], .slice A1 n2 c1, .int .i64 r3]) ∧ n1 ≤ c ∧ n2 ≤ c1 ∧ Foot (fun W'' => Kd.C k50 W'' A r1.length r1 ∧ Kd.C (Kd.int .i64) W'' A1 r2.length r2) W' (fun k => W.heap.size ≤ k) ∧ Below W.heap.size W W' := by
  subst hn
  subst h1
  subst h2
  have h := keep_calls (some ⟨bs, 0, none⟩) 5 sampleG (some ⟨b, 0, none⟩) rs.length rs W hT sample_wf hC (by decide) hb (Nat.le_refl _) (by omega)
  rw [hk] at h
  refine h.mono ?_
  rintro e W' ⟨v0, v1, rfl, hS, hR, hB⟩
  obtain ⟨A, c, rfl⟩ := Kd.S_slice hS
  obtain ⟨A1, c1, rfl⟩ := Kd.R_slice hR
  exact ⟨A, c, A1, c1, rfl, (Kd.S_reads' hS).2.1, (Kd.R_reads' hR).2.1, Foot.and (Foot.rows (Kd.S_R hS)) (Foot.rows hR), hB⟩

theorem sample_low : kidsLow sampleG := valid_low (by kernel_rfl)
theorem sample_ks : ∀ g ∈ sampleG, g.f2.length ≤ 1099511627776 := fun g hg => (sample_wf g hg).2.2.2

/-- Result when nothing waits, at the example. -/
theorem result_sample {W : World} {F : Nat → Prop} {g : Nat} {roots : List Int} {mk : Int → Bool} {wait : List Int} {Ag : Option Addr} {cg : Nat} {vr : Value} {bm nm : Nat} {vw : Value} {f : Lit → Option (DataW Unit)}
    (h : SW W F g sampleG roots mk wait Ag cg vr bm nm vw f) (hw : wait = []) (hr : ∀ r ∈ roots, inRange 5 r) (hrl : roots.length ≤ 5) (r1 : List S50) (r2 : List Int) (n1 n2 : Nat) (h1 : r1.length = n1) (h2 : r2.length = n2) (hk1 : resG sampleG mk 5 = r1) (hk2 : roots.map (plOf mk) = r2) :
    Calls Tryd.prog 26 #[.pointer (some ⟨g, 0, none⟩)] W fun e W' => ∃ A c A1 c1, e = .returned (.tuple #[.agg #[.slice A n1 c], .slice A1 n2 c1, .int .i64 0]) ∧ n1 ≤ c ∧ n2 ≤ c1 ∧ Foot (fun W'' => Kd.C k50 W'' A r1.length r1 ∧ Kd.C (Kd.int .i64) W'' A1 r2.length r2) W' (fun k => W.heap.size ≤ k) ∧ Below W.heap.size W W' := by
  subst hw
  subst h1
  subst h2
  have hx := result_calls h sample_low sample_ks (by decide) hr (by omega)
  refine hx.mono ?_
  rintro e W' ⟨v0, v1, rfl, hS, hR, hB⟩
  have hk1' : resG sampleG mk sampleG.length = r1 := hk1
  rw [hk1'] at hS
  rw [hk2] at hR
  obtain ⟨A, c, rfl⟩ := Kd.S_slice hS
  obtain ⟨A1, c1, rfl⟩ := Kd.R_slice hR
  exact ⟨A, c, A1, c1, rfl, (Kd.S_reads' hS).2.1, (Kd.R_reads' hR).2.1, Foot.and (Foot.rows (Kd.S_R hS)) (Foot.rows hR), hB⟩

/-! The states of the example's sweep. -/
def hs0 : St := st0 [3]
def hs1 : St := hs0.steps sampleG 3
def hs2 : St := hs1.steps sampleG 1
def hs3 : St := hs2.push 4
def hs4 : St := hs3.steps sampleG 0
def hs5 : St := hs4.steps sampleG 1
theorem hs0_wait : hs0.wait = [3] := by kernel_rfl
theorem hs1_wait : hs1.wait = [1] := by kernel_rfl
theorem hs2_wait : hs2.wait = [] := by kernel_rfl
theorem hs4_wait : hs4.wait = [4] := by kernel_rfl
theorem hs5_wait : hs5.wait = [] := by kernel_rfl
theorem hs2_res : resG sampleG hs2.mark 5 = [⟨2, 0, []⟩, ⟨2, 1, []⟩, ⟨3, 0, [0, 1]⟩, ⟨4, 0, [0, 2]⟩] := by kernel_rfl
theorem hs2_pl : ([3] : List Int).map (plOf hs2.mark) = [3] := by kernel_rfl
theorem hs5_res : resG sampleG hs5.mark 5 = sampleG := by kernel_rfl
theorem hs5_pl : ([3, 4] : List Int).map (plOf hs5.mark) = [3, 4] := by kernel_rfl
theorem steps_good {gs : List S50} (hk : kidsIn gs) : ∀ (n : Nat) {s : St}, s.Good gs.length → (s.steps gs n).Good gs.length
  | 0, s, hs => hs
  | n + 1, s, hs => by
    simp only [St.steps]
    split
    · exact hs
    · exact steps_good hk n (hs.step hk)
theorem sample_in : kidsIn sampleG := low_in sample_low
theorem hs0_good : hs0.Good sampleG.length := st0_good (fun r hr => by simp only [List.mem_singleton] at hr; subst hr; unfold inRange; decide)
theorem hs1_good : hs1.Good sampleG.length := steps_good sample_in 3 hs0_good
theorem hs2_good : hs2.Good sampleG.length := steps_good sample_in 1 hs1_good
theorem hs3_good : hs3.Good sampleG.length := hs2_good.push (i := 4) (by unfold inRange; decide)
theorem hs4_good : hs4.Good sampleG.length := steps_good sample_in 0 hs3_good
theorem start_h : startS sampleG [3] = true := by kernel_rfl
theorem step_h {W : World} {F : Nat → Prop} {g : Nat} {roots : List Int} {s : St} {Ag : Option Addr} {cg : Nat} {vr : Value} {bm nm : Nat} {vw : Value} {f : Lit → Option (DataW Unit)}
    (h : SW W F g sampleG roots s.mark s.wait Ag cg vr bm nm vw f) (hs : s.Good sampleG.length) (n : Int) (hn : in64 n) (s' : St) (he : s.steps sampleG n.toNat = s') (l : List Int) (hl : s'.wait = l) (b : Bool) (hb : decide (l = []) = b) :
    Calls Tryd.prog 24 #[.pointer (some ⟨g, 0, none⟩), .int .i64 n] W fun e W' => e = .returned (.bool b) ∧ After W F g sampleG roots s'.mark s'.wait Ag cg vr bm W' := by
  have h1 := step_calls h hs sample_in sample_ks (by decide) n hn
  subst he
  subst hb
  subst hl
  exact h1
theorem add_h {W : World} {F : Nat → Prop} {g : Nat} {Ag : Option Addr} {cg : Nat} {vr : Value} {bm nm : Nat} {vw : Value} {f : Lit → Option (DataW Unit)}
    (h : SW W F g sampleG [3] hs2.mark hs2.wait Ag cg vr bm nm vw f) :
    Calls Tryd.prog 22 #[.pointer (some ⟨g, 0, none⟩), .int .i64 4] W fun e W' => e = .returned (.int .i64 0) ∧ ∃ F' vr' nm' vw' f', SW W' F' g sampleG [3, 4] hs3.mark hs3.wait Ag cg vr' bm nm' vw' f' ∧ (∀ k, F' k → F k ∨ W.heap.size ≤ k) ∧ Upd F W W' :=
  add_calls h 4 (by unfold inRange; decide) (by decide) (by rw [hs2_wait]; decide) (by decide)
theorem start_sample (W : World) (bs b : Nat) (hT : Tabs W) (hC : Kd.C k50 W (some ⟨bs, 0, none⟩) 5 sampleG) (hb : Kd.C (Kd.int .i64) W (some ⟨b, 0, none⟩) ([3] : List Int).length [3]) :
    Calls Tryd.prog 18 #[.agg #[.slice (some ⟨bs, 0, none⟩) 5 5], .slice (some ⟨b, 0, none⟩) 1 1] W fun e W' => Below W.heap.size W W' ∧ ∃ g F nm vw f Ag cg vr bm, e = .returned (.tuple #[.pointer (some ⟨g, 0, none⟩), .int .i64 0]) ∧ SW W' F g sampleG [3] hs0.mark hs0.wait Ag cg vr bm nm vw f ∧ ∀ k, F k → W.heap.size ≤ k := by
  have h := start_calls (some ⟨bs, 0, none⟩) 5 sampleG (some ⟨b, 0, none⟩) 1 [3] W hT sample_wf hC (by decide) hb (by decide) (by decide)
  refine h.mono ?_
  rintro e W' ⟨hB, _, ht⟩
  exact ⟨hB, ht start_h⟩
end Go.Proofs.YtcafgpfecfocnaaDoor.P

/- The comparisons of the law's head. -/
namespace Go.Proofs.YtcafgpfecfocnaaDoor.P
open Go.RowKit Go.Maps Go.Proofs.YtcafgpfecfocnaaDoorW.PrintWords Go.Proofs.YtcafgpfecfocnaaDoorW.PrintLast Go.Proofs.YtcafgpfecfocnaaDoorW.PrintMore
set_option linter.unusedVariables false
set_option linter.unusedSimpArgs false

theorem same_h {W : World} (l : List S50) (n : Nat) (hn : l.length = n) {A B : Option Addr} {ca cb : Nat} (hA : Kd.C k50 W A l.length l) (hB : Kd.C k50 W B l.length l) (h1 : n ≤ ca) (h2 : n ≤ cb) (k : Nat) (hf : cleanseref16_Same.f k l l = some true) :
    Calls Tryd.prog 20 #[.agg #[.slice A n ca], .agg #[.slice B n cb]] W fun e W' => e = .returned (.bool true) ∧ Below W.heap.size W W' := by
  subst hn
  exact cleanseref16_Same.calls k A ca l B cb l true W hA h1 hB h2 hf
theorem ints_h {W : World} (l : List Int) (n : Nat) (hn : l.length = n) {A B : Option Addr} {ca cb : Nat} (hA : Kd.C (Kd.int .i64) W A l.length l) (hB : Kd.C (Kd.int .i64) W B l.length l) (h1 : n ≤ ca) (h2 : n ≤ cb) (k : Nat) (hf : cleanseref06_Ints.f k l l = some true) :
    Calls Tryd.prog 21 #[.slice A n ca, .slice B n cb] W fun e W' => e = .returned (.bool true) ∧ Drawn0 W W' := by
  subst hn
  exact cleanseref06_Ints.calls k A ca l B cb l true W hA h1 hB h2 hf
theorem same3 : cleanseref16_Same.f 100 [⟨2, 0, []⟩, ⟨2, 1, []⟩, ⟨3, 0, [0, 1]⟩] [⟨2, 0, []⟩, ⟨2, 1, []⟩, ⟨3, 0, [0, 1]⟩] = some true := by kernel_rfl
theorem same2 : cleanseref16_Same.f 100 [⟨2, 0, []⟩, ⟨2, 2, []⟩] [⟨2, 0, []⟩, ⟨2, 2, []⟩] = some true := by kernel_rfl
theorem same4 : cleanseref16_Same.f 100 [⟨2, 0, []⟩, ⟨2, 1, []⟩, ⟨3, 0, [0, 1]⟩, ⟨4, 0, [0, 2]⟩] [⟨2, 0, []⟩, ⟨2, 1, []⟩, ⟨3, 0, [0, 1]⟩, ⟨4, 0, [0, 2]⟩] = some true := by kernel_rfl
theorem ints1 : cleanseref06_Ints.f 100 [2] [2] = some true := by kernel_rfl
theorem ints2 : cleanseref06_Ints.f 100 [1, 0] [1, 0] = some true := by kernel_rfl
theorem ints3 : cleanseref06_Ints.f 100 [3] [3] = some true := by kernel_rfl
theorem ints4 : cleanseref06_Ints.f 100 [3, 4] [3, 4] = some true := by kernel_rfl
/-- Two gates without kids in a row of their own. -/
theorem two_gates {W : World} {b : Nat} {A0 A4 : Option Addr} {c0 c4 : Nat} (h : W.heap[b]? = some (.cells #[.int .i64 2, .int .i64 0, .slice A0 0 c0, .int .i64 2, .int .i64 2, .slice A4 0 c4] 50 (0, 0))) : Kd.C k50 W (some ⟨b, 0, none⟩) 2 [⟨2, 0, []⟩, ⟨2, 2, []⟩] := by
  have nil : ∀ A, Kd.C (Kd.int .i64) W A ([] : List Int).length [] := fun A => ⟨rfl, by decide, fun h => absurd h (by decide)⟩
  have row : ∀ j p, ([⟨2, 0, []⟩, ⟨2, 2, []⟩] : List S50)[j]? = some p → ∃ c : List Value, c.length = 3 ∧ k50.K W p c ∧ ∀ i u, c[i]? = some u → W.cell? ⟨b, j * 3 + i, none⟩ = some u := by
    intro j p hj
    match j with
    | 0 => cases hj; exact ⟨_, rfl, k50_mk W ⟨2, 0, []⟩ (A2 := A0) (c2 := c0) (Nat.zero_le _) (nil _), fun i u hu => by rw [blk_cell h]; match i with | 0 => exact hu | 1 => exact hu | 2 => exact hu | i + 3 => simp at hu⟩
    | 1 => cases hj; exact ⟨_, rfl, k50_mk W ⟨2, 2, []⟩ (A2 := A4) (c2 := c4) (Nat.zero_le _) (nil _), fun i u hu => by rw [blk_cell h]; match i with | 0 => exact hu | 1 => exact hu | 2 => exact hu | i + 3 => simp at hu⟩
    | j + 2 => simp at hj
  refine ⟨rfl, by decide, fun _ => ⟨_, rfl, fun j p hj => ?_⟩⟩
  obtain ⟨c, h1, h2, h3⟩ := row j p hj
  refine ⟨c, h1, h2, fun i u hu => ?_⟩
  have e : (⟨b, 0, none⟩ : Addr).add (j * k50.sz + i) = ⟨b, j * 3 + i, none⟩ := by
    show (⟨b, 0, none⟩ : Addr).add (j * 3 + i) = _
    unfold Addr.add
    by_cases h0 : j * 3 + i = 0
    · rw [if_pos h0, h0]
    · rw [if_neg h0]; simp
  rw [e]
  exact h3 i u hu
/-- A sample's gate, cell by cell. -/
theorem sample_gate {W : World} {bs : Nat} (h : Kd.C k50 W (some ⟨bs, 0, none⟩) 5 sampleG) (i : Nat) (hi : i < 5) (g : S50) (hg : rd_T50 sampleG (i : Int) = g) : ∃ A c, W.cell? ⟨bs, i * 3, none⟩ = some (.int .i64 g.f0) ∧ W.cell? ⟨bs, i * 3 + 1, none⟩ = some (.int .i64 g.f1) ∧ W.cell? ⟨bs, i * 3 + 2, none⟩ = some (.slice A g.f2.length c) := by
  obtain ⟨ad, A2, c2, e, x0, x1, x2, _, _⟩ := at_T50 h (i : Int) (by omega) (by omega)
  cases e
  rw [Int.toNat_natCast] at x0 x1 x2
  rw [hg] at x0 x1 x2
  have ea : (⟨bs, 0, none⟩ : Addr).add (i * 3) = ⟨bs, i * 3, none⟩ := by
    unfold Addr.add
    by_cases h0 : i * 3 = 0
    · rw [if_pos h0, h0]
    · rw [if_neg h0]; simp
  rw [ea] at x0 x1 x2
  exact ⟨A2, c2, x0, x1, x2⟩
end Go.Proofs.YtcafgpfecfocnaaDoor.P

/- The walk of the law's head. Printed by gen_head.py. -/
namespace Go.Proofs.YtcafgpfecfocnaaDoor.P
open Go.RowKit Go.Maps Go.Proofs.YtcafgpfecfocnaaDoorW.PrintWords Go.Proofs.YtcafgpfecfocnaaDoorW.PrintLast Go.Proofs.YtcafgpfecfocnaaDoorW.PrintMore
set_option linter.unusedVariables false
set_option linter.unusedSimpArgs false

theorem Foot.ofC {α : Type} {d : Kd α} {W : World} {A : Option Addr} {n : Nat} {xs : List α} (hd : Kd.Heap d) (h : d.C W A n xs) : Foot (fun W' => d.C W' A n xs) W (fun _ => True) := fun W' hW =>
  ⟨h.1, h.2.1, fun hn => by
    obtain ⟨ad, e, hc⟩ := h.2.2 hn
    refine ⟨ad, e, fun j p hj => ?_⟩
    obtain ⟨c, hs, hr, hcell⟩ := hc j p hj
    exact ⟨c, hs, hd.K (fun k hk => hW k trivial hk) hr, fun i u hu => Kd.cell_heap (fun k hk => hW k trivial hk) (hcell i u hu)⟩⟩
theorem keep32_h : keepS sampleG [2] = ([⟨2, 0, []⟩, ⟨2, 1, []⟩, ⟨3, 0, [0, 1]⟩], [2], 0) := by kernel_rfl
theorem keep39_h : keepS sampleG [4, 0] = ([⟨2, 0, []⟩, ⟨2, 2, []⟩], [1, 0], 0) := by kernel_rfl
theorem keep46_h : keepS sampleG [5] = ([], [], 1) := by kernel_rfl

set_option maxRecDepth 100000 in
set_option maxHeartbeats 16000000 in
theorem head_walk (w : World) (hT : Tabs w) : Calls Tryd.prog 14 #[] w fun e w' => e = .returned (.bool true) ∧ Below w.heap.size w w' := by
  have HT := Aside0.mk (fun (W : World) (hb : Below w.heap.size w W) => hT.below hb)
  have IN3 := Aside0.mk (show ∀ r ∈ ([3] : List Int), inRange 5 r from fun r hr => by simp only [List.mem_singleton] at hr; subst hr; unfold inRange; decide)
  have IN34 := Aside0.mk (show ∀ r ∈ ([3, 4] : List Int), inRange 5 r from fun r hr => by simp only [List.mem_cons, List.not_mem_nil, or_false] at hr; rcases hr with rfl | rfl <;> unfold inRange <;> decide)
  clear hT
  go_enter Tryd.func14, Tryd.ntmps14
  go_wp2_with (first
    | (go_at_call 48; have hk_ := sample_calls w; (with_reducible refine hk_.mono ?_); rintro e w1 ⟨bs, rfl, hC, hb⟩; have D1 := Aside0.mk hb; have FT1 := Aside0.mk (Foot.ofC k50_heap hC); clear hC hb)
    | ((with_reducible refine gate_dst (N := 1) rfl ?_); refine box_event ?bg1 (N := 1) ?bd1 (cs := #[.slice none 0 0]) (t := 24) ?br1 ?_; (case bd1 => rfl); (case bg1 => rfl); (case br1 => first | (go_simp; done) | (go_simp; rfl)); intro b1 hg w2 hbox hb; have AL1 := Aside0.mk hb; have BX1 := Aside0.mk hbox; have G1 := Aside0.mk hg; have z1 := blk_frozen hbox 0; have q1 : w2.cell? ⟨b1, 0, none⟩ = some (.slice none 0 0) := (blk_cell hbox 0).trans rfl; clear hg hbox hb)
    | ((with_reducible refine gate_store (t := 24) (p := 1) rfl ?_); refine store_event (t := 24) (p := 1) (w1 := w2.setCell ⟨b1, 0, none⟩ (.slice (some ⟨bs, 0, none⟩) 5 5)) rfl rfl rfl ?st1 ?_; (case st1 => first | (go_simp; done) | (go_simp; rfl)); intro w3 hwk; have hB : Below w1.heap.size w1 w3 := (by rw [hwk]; exact AL1.out.setCell (p := ⟨b1, 0, none⟩) (Nat.le_of_eq G1.out.symm) _); have hbx : w3.heap[b1]? = some (.cells #[.slice (some ⟨bs, 0, none⟩) 5 5] 24 (0, 0)) := (by rw [hwk]; exact blk_put (cs := #[.slice none 0 0]) BX1.out 0 _ rfl); clear hwk; have D3 := Aside0.mk (D1.out.trans (hB.mono D1.out.size)); have FT3 := Aside0.mk (Foot.and (Foot.below FT1.out hB) (Foot.blk hbx trivial)); have c3 : w3.cell? ⟨b1, 0, none⟩ = some (.slice (some ⟨bs, 0, none⟩) 5 5) := (blk_cell hbx 0).trans rfl; clear hB hbx z1 q1)
    | (go_at_call 16; have hin := C_ints [2] (heap_alloc_new w3 (.cells #[.int .i64 2] 3)) (by decide); have hal := below_alloc (Below.refl w3.heap.size w3) (.cells #[.int .i64 2] 3); have hk_ := keep_sample (w3.alloc (.cells #[.int .i64 2] 3)) bs w3.heap.size [2] 1 rfl (by decide) (HT.out _ (D3.out.trans (hal.mono D3.out.size))) (Foot.below FT3.out hal).now.1 hin [⟨2, 0, []⟩, ⟨2, 1, []⟩, ⟨3, 0, [0, 1]⟩] [2] 0 3 1 rfl rfl keep32_h; (with_reducible refine hk_.mono ?_); rintro e w4 ⟨Aa, ca, Al, cl, rfl, hc1_, hc2_, hf, hb⟩; have hb2 : Below w3.heap.size w3 w4 := hal.trans (hb.mono hal.size); have D4 := Aside0.mk (D3.out.trans (hb2.mono D3.out.size)); have IT32 := Aside0.mk (Go.Proofs.YtcafgpfecfocnaaDoorW.PrintWords.Foot.mono hf (fun k hk => Nat.le_trans hal.size hk)); have LC32 := Aside0.mk (And.intro hc1_ hc2_); have FT4 := Aside0.mk (Foot.below FT3.out hb2); clear hin hal hf hb hb2 hc1_ hc2_)
    | ((with_reducible refine gate_dst (N := 2) rfl ?_); refine box_event ?bg2 (N := 2) ?bd2 (cs := #[.slice none 0 0]) (t := 24) ?br2 ?_; (case bd2 => rfl); (case bg2 => rfl); (case br2 => first | (go_simp; done) | (go_simp; rfl)); intro b2 hg w5 hbox hb; have AL2 := Aside0.mk hb; have BX2 := Aside0.mk hbox; have G2 := Aside0.mk hg; have z2 := blk_frozen hbox 0; have q2 : w5.cell? ⟨b2, 0, none⟩ = some (.slice none 0 0) := (blk_cell hbox 0).trans rfl; clear hg hbox hb)
    | ((with_reducible refine gate_store (t := 24) (p := 2) rfl ?_); refine store_event (t := 24) (p := 2) (w1 := w5.setCell ⟨b2, 0, none⟩ (.slice Aa 3 ca)) rfl rfl rfl ?st2 ?_; (case st2 => first | (go_simp; done) | (go_simp; rfl)); intro w6 hwk; have hB : Below w4.heap.size w4 w6 := (by rw [hwk]; exact AL2.out.setCell (p := ⟨b2, 0, none⟩) (Nat.le_of_eq G2.out.symm) _); have hbx : w6.heap[b2]? = some (.cells #[.slice Aa 3 ca] 24 (0, 0)) := (by rw [hwk]; exact blk_put (cs := #[.slice none 0 0]) BX2.out 0 _ rfl); clear hwk; have D6 := Aside0.mk (D4.out.trans (hB.mono D4.out.size)); have FT6 := Aside0.mk (Foot.and (Foot.below FT4.out hB) (Foot.and (Go.Proofs.YtcafgpfecfocnaaDoorW.PrintWords.Foot.mono (Foot.below (Go.Proofs.YtcafgpfecfocnaaDoorW.PrintWords.Foot.mono (ok' := fun _ => True) IT32.out (fun _ _ => trivial)) hB) (fun _ _ => trivial)) (Foot.blk hbx trivial))); have c6 : w6.cell? ⟨b1, 0, none⟩ = some (.slice (some ⟨bs, 0, none⟩) 5 5) := (blk_cell FT6.out.now.1.2 0).trans rfl; clear hB hbx z2 q2)
    | (go_at_call 16; have hin := C_ints [4, 0] (heap_alloc_new w6 (.cells #[.int .i64 4, .int .i64 0] 3)) (by decide); have hal := below_alloc (Below.refl w6.heap.size w6) (.cells #[.int .i64 4, .int .i64 0] 3); have hk_ := keep_sample (w6.alloc (.cells #[.int .i64 4, .int .i64 0] 3)) bs w6.heap.size [4, 0] 2 rfl (by decide) (HT.out _ (D6.out.trans (hal.mono D6.out.size))) (Foot.below FT6.out hal).now.1.1 hin [⟨2, 0, []⟩, ⟨2, 2, []⟩] [1, 0] 0 2 2 rfl rfl keep39_h; (with_reducible refine hk_.mono ?_); rintro e w7 ⟨Ab, cb, Am, cm, rfl, hc1_, hc2_, hf, hb⟩; have hb2 : Below w6.heap.size w6 w7 := hal.trans (hb.mono hal.size); have D7 := Aside0.mk (D6.out.trans (hb2.mono D6.out.size)); have IT39 := Aside0.mk (Go.Proofs.YtcafgpfecfocnaaDoorW.PrintWords.Foot.mono hf (fun k hk => Nat.le_trans hal.size hk)); have LC39 := Aside0.mk (And.intro hc1_ hc2_); have FT7 := Aside0.mk (Foot.below FT6.out hb2); clear hin hal hf hb hb2 hc1_ hc2_)
    | ((with_reducible refine gate_dst (N := 5) rfl ?_); refine box_event ?bg5 (N := 5) ?bd5 (cs := #[.slice none 0 0]) (t := 24) ?br5 ?_; (case bd5 => rfl); (case bg5 => rfl); (case br5 => first | (go_simp; done) | (go_simp; rfl)); intro b5 hg w8 hbox hb; have AL5 := Aside0.mk hb; have BX5 := Aside0.mk hbox; have G5 := Aside0.mk hg; have z5 := blk_frozen hbox 0; have q5 : w8.cell? ⟨b5, 0, none⟩ = some (.slice none 0 0) := (blk_cell hbox 0).trans rfl; clear hg hbox hb)
    | ((with_reducible refine gate_store (t := 24) (p := 5) rfl ?_); refine store_event (t := 24) (p := 5) (w1 := w8.setCell ⟨b5, 0, none⟩ (.slice Ab 2 cb)) rfl rfl rfl ?st5 ?_; (case st5 => first | (go_simp; done) | (go_simp; rfl)); intro w9 hwk; have hB : Below w7.heap.size w7 w9 := (by rw [hwk]; exact AL5.out.setCell (p := ⟨b5, 0, none⟩) (Nat.le_of_eq G5.out.symm) _); have hbx : w9.heap[b5]? = some (.cells #[.slice Ab 2 cb] 24 (0, 0)) := (by rw [hwk]; exact blk_put (cs := #[.slice none 0 0]) BX5.out 0 _ rfl); clear hwk; have D9 := Aside0.mk (D7.out.trans (hB.mono D7.out.size)); have FT9 := Aside0.mk (Foot.and (Foot.below FT7.out hB) (Foot.and (Go.Proofs.YtcafgpfecfocnaaDoorW.PrintWords.Foot.mono (Foot.below (Go.Proofs.YtcafgpfecfocnaaDoorW.PrintWords.Foot.mono (ok' := fun _ => True) IT39.out (fun _ _ => trivial)) hB) (fun _ _ => trivial)) (Foot.blk hbx trivial))); have c9 : w9.cell? ⟨b1, 0, none⟩ = some (.slice (some ⟨bs, 0, none⟩) 5 5) := (blk_cell FT9.out.now.1.1.2 0).trans rfl; clear hB hbx z5 q5)
    | (go_at_call 16; have hin := C_ints [5] (heap_alloc_new w9 (.cells #[.int .i64 5] 3)) (by decide); have hal := below_alloc (Below.refl w9.heap.size w9) (.cells #[.int .i64 5] 3); have hk_ := keep_sample (w9.alloc (.cells #[.int .i64 5] 3)) bs w9.heap.size [5] 1 rfl (by decide) (HT.out _ (D9.out.trans (hal.mono D9.out.size))) (Foot.below FT9.out hal).now.1.1.1 hin [] [] 1 0 0 rfl rfl keep46_h; (with_reducible refine hk_.mono ?_); rintro e w10 ⟨Ae, ce, Ak, ck, rfl, hc1_, hc2_, hf, hb⟩; have hb2 : Below w9.heap.size w9 w10 := hal.trans (hb.mono hal.size); have D10 := Aside0.mk (D9.out.trans (hb2.mono D9.out.size)); have IT46 := Aside0.mk (Go.Proofs.YtcafgpfecfocnaaDoorW.PrintWords.Foot.mono hf (fun k hk => Nat.le_trans hal.size hk)); have LC46 := Aside0.mk (And.intro hc1_ hc2_); have FT10 := Aside0.mk (Foot.below FT9.out hb2); clear hin hal hf hb hb2 hc1_ hc2_)
    | ((with_reducible refine gate_dst (N := 8) rfl ?_); refine box_event ?bg8 (N := 8) ?bd8 (cs := #[.slice none 0 0]) (t := 24) ?br8 ?_; (case bd8 => rfl); (case bg8 => rfl); (case br8 => first | (go_simp; done) | (go_simp; rfl)); intro b8 hg w11 hbox hb; have AL8 := Aside0.mk hb; have BX8 := Aside0.mk hbox; have G8 := Aside0.mk hg; have z8 := blk_frozen hbox 0; have q8 : w11.cell? ⟨b8, 0, none⟩ = some (.slice none 0 0) := (blk_cell hbox 0).trans rfl; clear hg hbox hb)
    | ((with_reducible refine gate_store (t := 24) (p := 8) rfl ?_); refine store_event (t := 24) (p := 8) (w1 := w11.setCell ⟨b8, 0, none⟩ (.slice Ae 0 ce)) rfl rfl rfl ?st8 ?_; (case st8 => first | (go_simp; done) | (go_simp; rfl)); intro w12 hwk; have hB : Below w10.heap.size w10 w12 := (by rw [hwk]; exact AL8.out.setCell (p := ⟨b8, 0, none⟩) (Nat.le_of_eq G8.out.symm) _); have hbx : w12.heap[b8]? = some (.cells #[.slice Ae 0 ce] 24 (0, 0)) := (by rw [hwk]; exact blk_put (cs := #[.slice none 0 0]) BX8.out 0 _ rfl); clear hwk; have D12 := Aside0.mk (D10.out.trans (hB.mono D10.out.size)); have FT12 := Aside0.mk (Foot.below FT10.out hB); have c12 : w12.cell? ⟨b1, 0, none⟩ = some (.slice (some ⟨bs, 0, none⟩) 5 5) := (blk_cell FT12.out.now.1.1.2 0).trans rfl; clear hB hbx z8 q8)
    | (go_at_call 18; have hin := C_ints [3] (heap_alloc_new w12 (.cells #[.int .i64 3] 3)) (by decide); have hal := below_alloc (Below.refl w12.heap.size w12) (.cells #[.int .i64 3] 3); have hk_ := start_sample (w12.alloc (.cells #[.int .i64 3] 3)) bs w12.heap.size (HT.out _ (D12.out.trans (hal.mono D12.out.size))) (Foot.below FT12.out hal).now.1.1.1 hin; (with_reducible refine hk_.mono ?_); rintro e w13 ⟨hb, g, F1, nm1, vw1, f1, Ag, cg, vr1, bm, rfl, hsw, hF⟩; have hb2 : Below w12.heap.size w12 w13 := hal.trans (hb.mono hal.size); have D13 := Aside0.mk (D12.out.trans (hb2.mono D12.out.size)); have SW13 := Aside0.mk hsw; have hft := Go.Proofs.YtcafgpfecfocnaaDoorW.PrintWords.Foot.bound (Foot.below FT12.out hal); have FT13 := Aside0.mk (Go.Proofs.YtcafgpfecfocnaaDoorW.PrintWords.Foot.mono (ok' := fun k => ¬ F1 k) (Foot.below hft hb) (fun k hk hf => by have := hF k hf; have := hk.2; omega)); have FD := Aside0.mk (show ∀ k, F1 k → w.heap.size ≤ k from fun k hk => Nat.le_trans (D12.out.trans (hal.mono D12.out.size)).size (hF k hk)); clear hin hal hb hb2 hsw hF hft hk_)
    | (go_at_call 26; have hk_ := result_waits SW13.out (by rw [hs0_wait]; decide); (with_reducible refine hk_.mono ?_); rintro e w14 ⟨rfl, hb⟩; have D14 := Aside0.mk (D13.out.trans (hb.mono D13.out.size)); have SW14 := Aside0.mk (SW13.out.below hb); have FT14 := Aside0.mk (Foot.below FT13.out hb); clear hb SW13 FT13)
    | ((with_reducible refine gate_dst (N := 13) rfl ?_); refine box_event ?bg13 (N := 13) ?bd13 (cs := #[.slice none 0 0]) (t := 24) ?br13 ?_; (case bd13 => rfl); (case bg13 => rfl); (case br13 => first | (go_simp; done) | (go_simp; rfl)); intro b13 hg w15 hbox hb; have AL13 := Aside0.mk hb; have BX13 := Aside0.mk hbox; have G13 := Aside0.mk hg; have z13 := blk_frozen hbox 0; have q13 : w15.cell? ⟨b13, 0, none⟩ = some (.slice none 0 0) := (blk_cell hbox 0).trans rfl; clear hg hbox hb)
    | ((with_reducible refine gate_store (t := 24) (p := 13) rfl ?_); refine store_event (t := 24) (p := 13) (w1 := w15.setCell ⟨b13, 0, none⟩ (.slice none 0 0)) rfl rfl rfl ?st13 ?_; (case st13 => first | (go_simp; done) | (go_simp; rfl)); intro w16 hwk; have hB : Below w14.heap.size w14 w16 := (by rw [hwk]; exact AL13.out.setCell (p := ⟨b13, 0, none⟩) (Nat.le_of_eq G13.out.symm) _); have hbx : w16.heap[b13]? = some (.cells #[.slice none 0 0] 24 (0, 0)) := (by rw [hwk]; exact blk_put (cs := #[.slice none 0 0]) BX13.out 0 _ rfl); clear hwk; have D16 := Aside0.mk (D14.out.trans (hB.mono D14.out.size)); have FT16 := Aside0.mk (Foot.below FT14.out hB); have SW16 := Aside0.mk (SW14.out.below hB); clear hB hbx z13 q13)
    | (go_at_call 24; have hk_ := step_h SW16.out hs0_good 3 (by unfold in64; decide) hs1 rfl [1] hs1_wait false rfl; (with_reducible refine hk_.mono ?_); rintro e w17 ⟨rfl, ha⟩; obtain ⟨F2, nm2, vw2, f2, hsw, hF, hu⟩ := ha; have SW17 := Aside0.mk hsw; have FT17 := Aside0.mk (Foot.upd FT16.out hu hF); have D17 := Aside0.mk (D16.out.trans (hu.below (B := w.heap.size) D16.out.size FD.out)); have FD2 := Aside0.mk (show ∀ k, F2 k → w.heap.size ≤ k from fun k hk => (hF k hk).elim (fun h => FD.out k h) (fun h => Nat.le_trans D16.out.size h)); clear hsw hF hu SW16 FT16 FD)
    | (go_at_call 24; have hk_ := step_h SW17.out hs1_good 1 (by unfold in64; decide) hs2 rfl [] hs2_wait true rfl; (with_reducible refine hk_.mono ?_); rintro e w18 ⟨rfl, ha⟩; obtain ⟨F3, nm3, vw3, f3, hsw, hF, hu⟩ := ha; have SW18 := Aside0.mk hsw; have FT18 := Aside0.mk (Foot.upd FT17.out hu hF); have D18 := Aside0.mk (D17.out.trans (hu.below (B := w.heap.size) D17.out.size FD2.out)); have FD3 := Aside0.mk (show ∀ k, F3 k → w.heap.size ≤ k from fun k hk => (hF k hk).elim (fun h => FD2.out k h) (fun h => Nat.le_trans D17.out.size h)); clear hsw hF hu SW17 FT17 FD2)
    | (go_at_call 26; have hk_ := result_sample SW18.out hs2_wait IN3.out (by decide) [⟨2, 0, []⟩, ⟨2, 1, []⟩, ⟨3, 0, [0, 1]⟩, ⟨4, 0, [0, 2]⟩] [3] 4 1 rfl rfl hs2_res hs2_pl; (with_reducible refine hk_.mono ?_); rintro e w19 ⟨Ad, cd, An, cn, rfl, hc1_, hc2_, hf, hb⟩; have D19 := Aside0.mk (D18.out.trans (hb.mono D18.out.size)); have hi : Foot (fun W'' => Kd.C k50 W'' Ad ([⟨2, 0, []⟩, ⟨2, 1, []⟩, ⟨3, 0, [0, 1]⟩, ⟨4, 0, [0, 2]⟩] : List S50).length [⟨2, 0, []⟩, ⟨2, 1, []⟩, ⟨3, 0, [0, 1]⟩, ⟨4, 0, [0, 2]⟩] ∧ Kd.C (Kd.int .i64) W'' An ([3] : List Int).length [3]) w19 (fun k => ¬ F3 k) := Go.Proofs.YtcafgpfecfocnaaDoorW.PrintWords.Foot.mono hf (fun k hk hf => by have := SW18.out.lt k hf; omega); have FT19 := Aside0.mk (Foot.and (Foot.below FT18.out hb) hi); have SW19 := Aside0.mk (SW18.out.below hb); have LC86 := Aside0.mk (And.intro hc1_ hc2_); clear hf hb hi SW18 FT18 hc1_ hc2_)
    | ((with_reducible refine gate_dst (N := 18) rfl ?_); refine box_event ?bg18 (N := 18) ?bd18 (cs := #[.slice none 0 0]) (t := 24) ?br18 ?_; (case bd18 => rfl); (case bg18 => rfl); (case br18 => first | (go_simp; done) | (go_simp; rfl)); intro b18 hg w20 hbox hb; have AL18 := Aside0.mk hb; have BX18 := Aside0.mk hbox; have G18 := Aside0.mk hg; have z18 := blk_frozen hbox 0; have q18 : w20.cell? ⟨b18, 0, none⟩ = some (.slice none 0 0) := (blk_cell hbox 0).trans rfl; clear hg hbox hb)
    | ((with_reducible refine gate_store (t := 24) (p := 18) rfl ?_); refine store_event (t := 24) (p := 18) (w1 := w20.setCell ⟨b18, 0, none⟩ (.slice Ad 4 cd)) rfl rfl rfl ?st18 ?_; (case st18 => first | (go_simp; done) | (go_simp; rfl)); intro w21 hwk; have hB : Below w19.heap.size w19 w21 := (by rw [hwk]; exact AL18.out.setCell (p := ⟨b18, 0, none⟩) (Nat.le_of_eq G18.out.symm) _); have hbx : w21.heap[b18]? = some (.cells #[.slice Ad 4 cd] 24 (0, 0)) := (by rw [hwk]; exact blk_put (cs := #[.slice none 0 0]) BX18.out 0 _ rfl); clear hwk; have D21 := Aside0.mk (D19.out.trans (hB.mono D19.out.size)); have hnf : ¬ F3 b18 := fun hf => (by have := SW19.out.lt _ hf; have := G18.out; omega); have FT21 := Aside0.mk (Foot.and (Foot.below FT19.out hB) (Foot.blk hbx hnf)); have SW21 := Aside0.mk (SW19.out.below hB); clear hnf; clear hB hbx z18 q18)
    | (go_at_call 22; have hk_ := add_h SW21.out; (with_reducible refine hk_.mono ?_); rintro e w22 ⟨rfl, ha⟩; obtain ⟨F4, vr4, nm4, vw4, f4, hsw, hF, hu⟩ := ha; have SW22 := Aside0.mk hsw; have FT22 := Aside0.mk (Foot.upd FT21.out hu hF); have D22 := Aside0.mk (D21.out.trans (hu.below (B := w.heap.size) D21.out.size FD3.out)); have FD4 := Aside0.mk (show ∀ k, F4 k → w.heap.size ≤ k from fun k hk => (hF k hk).elim (fun h => FD3.out k h) (fun h => Nat.le_trans D21.out.size h)); clear hsw hF hu SW21 FT21 FD3)
    | (go_at_call 24; have hk_ := step_h SW22.out hs3_good 0 (by unfold in64; decide) hs4 rfl [4] hs4_wait false rfl; (with_reducible refine hk_.mono ?_); rintro e w23 ⟨rfl, ha⟩; obtain ⟨F5, nm5, vw5, f5, hsw, hF, hu⟩ := ha; have SW23 := Aside0.mk hsw; have FT23 := Aside0.mk (Foot.upd FT22.out hu hF); have D23 := Aside0.mk (D22.out.trans (hu.below (B := w.heap.size) D22.out.size FD4.out)); have FD5 := Aside0.mk (show ∀ k, F5 k → w.heap.size ≤ k from fun k hk => (hF k hk).elim (fun h => FD4.out k h) (fun h => Nat.le_trans D22.out.size h)); clear hsw hF hu SW22 FT22 FD4)
    | (go_at_call 24; have hk_ := step_h SW23.out hs4_good 1 (by unfold in64; decide) hs5 rfl [] hs5_wait true rfl; (with_reducible refine hk_.mono ?_); rintro e w24 ⟨rfl, ha⟩; obtain ⟨F6, nm6, vw6, f6, hsw, hF, hu⟩ := ha; have SW24 := Aside0.mk hsw; have FT24 := Aside0.mk (Foot.upd FT23.out hu hF); have D24 := Aside0.mk (D23.out.trans (hu.below (B := w.heap.size) D23.out.size FD5.out)); clear hsw hF hu SW23 FT23 FD5)
    | (go_at_call 26; have hk_ := result_sample SW24.out hs5_wait IN34.out (by decide) sampleG [3, 4] 5 2 rfl rfl hs5_res hs5_pl; (with_reducible refine hk_.mono ?_); rintro e w25 ⟨Af, cf, Ao, co, rfl, hc1_, hc2_, hf, hb⟩; have D25 := Aside0.mk (D24.out.trans (hb.mono D24.out.size)); have hi := Go.Proofs.YtcafgpfecfocnaaDoorW.PrintWords.Foot.mono (ok' := fun k => ¬ F6 k) hf (fun k hk hf => by have := SW24.out.lt k hf; omega); have FT25 := Aside0.mk (Foot.and (Foot.below FT24.out hb) hi); have LC98 := Aside0.mk (And.intro hc1_ hc2_); clear hf hb hi SW24 FT24 hc1_ hc2_)
    | ((with_reducible refine gate_dst (N := 24) rfl ?_); refine box_event ?bg24 (N := 24) ?bd24 (cs := #[.slice none 0 0]) (t := 24) ?br24 ?_; (case bd24 => rfl); (case bg24 => rfl); (case br24 => first | (go_simp; done) | (go_simp; rfl)); intro b24 hg w26 hbox hb; have AL24 := Aside0.mk hb; have BX24 := Aside0.mk hbox; have G24 := Aside0.mk hg; have z24 := blk_frozen hbox 0; have q24 : w26.cell? ⟨b24, 0, none⟩ = some (.slice none 0 0) := (blk_cell hbox 0).trans rfl; clear hg hbox hb)
    | ((with_reducible refine gate_store (t := 24) (p := 24) rfl ?_); refine store_event (t := 24) (p := 24) (w1 := w26.setCell ⟨b24, 0, none⟩ (.slice Af 5 cf)) rfl rfl rfl ?st24 ?_; (case st24 => first | (go_simp; done) | (go_simp; rfl)); intro w27 hwk; have hB : Below w25.heap.size w25 w27 := (by rw [hwk]; exact AL24.out.setCell (p := ⟨b24, 0, none⟩) (Nat.le_of_eq G24.out.symm) _); have hbx : w27.heap[b24]? = some (.cells #[.slice Af 5 cf] 24 (0, 0)) := (by rw [hwk]; exact blk_put (cs := #[.slice none 0 0]) BX24.out 0 _ rfl); clear hwk; have D27 := Aside0.mk (D25.out.trans (hB.mono D25.out.size)); have FT27 := Aside0.mk (Foot.below FT25.out hB); clear hB hbx z24 q24))
  obtain ⟨⟨⟨⟨⟨⟨hC, k1⟩, ⟨hCa, hCl⟩, k2⟩, ⟨hCb, hCm⟩, k5⟩, hCd, hCn⟩, k18⟩, hCf, hCo⟩ := FT27.out.now
  obtain ⟨A0, c0, x0, x1, x2⟩ := sample_gate hC 0 (by decide) ⟨2, 0, []⟩ rfl
  obtain ⟨A4, c4, y0, y1, y2⟩ := sample_gate hC 4 (by decide) ⟨2, 2, []⟩ rfl
  have SC := Aside0.mk hC
  have SA := Aside0.mk hCa
  have SL := Aside0.mk hCl
  have SB := Aside0.mk hCb
  have SM := Aside0.mk hCm
  have SD := Aside0.mk hCd
  have SN := Aside0.mk hCn
  have SO := Aside0.mk hCo
  have K1 := Aside0.mk k1
  have K18 := Aside0.mk k18
  have j1 : w27.cell? ⟨b1, 0, none⟩ = some (.slice (some ⟨bs, 0, none⟩) 5 5) := (blk_cell k1 0).trans rfl
  have j2 : w27.cell? ⟨b2, 0, none⟩ = some (.slice Aa 3 ca) := (blk_cell k2 0).trans rfl
  have j5 : w27.cell? ⟨b5, 0, none⟩ = some (.slice Ab 2 cb) := (blk_cell k5 0).trans rfl
  have bz : Below w27.heap.size w27 w27 := Below.refl _ _
  clear hC hCa hCl hCb hCm hCd hCn hCf hCo k1 k2 k5 k18 c3 c6 c9 c12 hk_
  go_region_held3 (fun w' => w'.cell? ⟨b2, 0, none⟩ = some (.slice Aa 3 ca) ∧ w'.cell? ⟨b1, 0, none⟩ = some (.slice (some ⟨bs, 0, none⟩) 5 5) ∧ w'.cell? ⟨b5, 0, none⟩ = some (.slice Ab 2 cb) ∧ w'.cell? ⟨bs, 0, none⟩ = some (.int .i64 2) ∧ w'.cell? ⟨bs, 1, none⟩ = some (.int .i64 0) ∧ w'.cell? ⟨bs, 2, none⟩ = some (.slice A0 0 c0) ∧ w'.cell? ⟨bs, 12, none⟩ = some (.int .i64 2) ∧ w'.cell? ⟨bs, 13, none⟩ = some (.int .i64 2) ∧ w'.cell? ⟨bs, 14, none⟩ = some (.slice A4 0 c4) ∧ Below w27.heap.size w27 w')
    (first
      | exact ⟨j2, j1, j5, x0, x1, x2, y0, y1, y2, below_drew bz⟩
      | (go_split_ands; refine ⟨?_, ?_, ?_, ?_, ?_, ?_, ?_, ?_, ?_, ?_⟩ <;> first | exact (hb20.cell (World.block_lt_of_cell? _ _ (by assumption))).trans (by assumption) | exact Below.trans (by assumption) (hb20.mono (Below.size (by assumption))))
      | (go_split_ands; refine ⟨?_, ?_, ?_, ?_, ?_, ?_, ?_, ?_, ?_, ?_⟩ <;> first | exact (hb21.cell (World.block_lt_of_cell? _ _ (by assumption))).trans (by assumption) | exact Below.trans (by assumption) (hb21.mono (Below.size (by assumption))))
      | (go_split_ands; refine ⟨?_, ?_, ?_, ?_, ?_, ?_, ?_, ?_, ?_, ?_⟩ <;> first | exact (World.cell?_alloc_lt _ _ _ (World.block_lt_of_cell? _ _ (by assumption))).trans (by assumption) | exact below_alloc (by assumption) _)
      | go_keep)
    (first
      | (go_at_call 20; go_split_ands; (with_reducible refine (same_h [⟨2, 0, []⟩, ⟨2, 1, []⟩, ⟨3, 0, [0, 1]⟩] 3 ?n1 ?a1 ?b1 ?c1 ?d1 100 same3).mono ?_); (case n1 => rfl); (case a1 => exact Kd.C_below SA.out (by assumption)); (case b1 => exact Kd.C_below (Kd.C_take SC.out (m := 3) (by decide)) (by assumption)); (case c1 => exact LC32.out.1); (case d1 => decide); rintro e w28 ⟨rfl, hb20⟩)
      | (go_at_call 21; go_split_ands; (with_reducible refine (ints_h [2] 1 ?n2 ?a2 ?b2 ?c2 ?d2 100 ints1).mono ?_); (case n2 => rfl); (case a2 => exact Kd.C_below SL.out (by assumption)); (case b2 => exact C_ints [2] (heap_alloc_new _ _) (by decide)); (case c2 => exact LC32.out.2); (case d2 => decide); rintro e w29 ⟨rfl, hd21⟩; have hb21 := hd21.below)
      | (go_at_call 20; go_split_ands; (with_reducible refine (same_h [⟨2, 0, []⟩, ⟨2, 2, []⟩] 2 ?n3 ?a3 ?b3 ?c3 ?d3 100 same2).mono ?_); (case n3 => rfl); (case a3 => exact Kd.C_below SB.out (by assumption)); (case b3 => exact two_gates (heap_alloc_new _ _)); (case c3 => exact LC39.out.1); (case d3 => decide); rintro e w30 ⟨rfl, hb20⟩)
      | (go_at_call 21; go_split_ands; (with_reducible refine (ints_h [1, 0] 2 ?n4 ?a4 ?b4 ?c4 ?d4 100 ints2).mono ?_); (case n4 => rfl); (case a4 => exact Kd.C_below SM.out (by assumption)); (case b4 => exact C_ints [1, 0] (heap_alloc_new _ _) (by decide)); (case c4 => exact LC39.out.2); (case d4 => decide); rintro e w31 ⟨rfl, hd21⟩; have hb21 := hd21.below))
  rename_i hcc
  have b31 : Below w27.heap.size w27 w31 := hcc.2.2.2.2.2.2.2.2.2
  have i18 : w31.cell? ⟨b18, 0, none⟩ = some (.slice Ad 4 cd) := (b31.cell (blk_lt K18.out)).trans ((blk_cell K18.out 0).trans rfl)
  have i1 : w31.cell? ⟨b1, 0, none⟩ = some (.slice (some ⟨bs, 0, none⟩) 5 5) := (b31.cell (blk_lt K1.out)).trans ((blk_cell K1.out 0).trans rfl)
  clear hcc hb20 hb21
  go_wp2_with fail
  go_region_held3 (fun w' => w'.cell? ⟨b18, 0, none⟩ = some (.slice Ad 4 cd) ∧ w'.cell? ⟨b1, 0, none⟩ = some (.slice (some ⟨bs, 0, none⟩) 5 5) ∧ Below w27.heap.size w27 w')
    (first
      | exact ⟨i18, i1, below_drew b31⟩
      | (go_split_ands; refine ⟨?_, ?_, ?_⟩ <;> first | exact (hc20.cell (World.block_lt_of_cell? _ _ (by assumption))).trans (by assumption) | exact Below.trans (by assumption) (hc20.mono (Below.size (by assumption))))
      | (go_split_ands; refine ⟨?_, ?_, ?_⟩ <;> first | exact (hc21.cell (World.block_lt_of_cell? _ _ (by assumption))).trans (by assumption) | exact Below.trans (by assumption) (hc21.mono (Below.size (by assumption))))
      | (go_split_ands; refine ⟨?_, ?_, ?_⟩ <;> first | exact (World.cell?_alloc_lt _ _ _ (World.block_lt_of_cell? _ _ (by assumption))).trans (by assumption) | exact below_alloc (by assumption) _)
      | go_keep)
    (first
      | (go_at_call 20; go_split_ands; (with_reducible refine (same_h [⟨2, 0, []⟩, ⟨2, 1, []⟩, ⟨3, 0, [0, 1]⟩, ⟨4, 0, [0, 2]⟩] 4 ?n1 ?a1 ?b1 ?c1 ?d1 100 same4).mono ?_); (case n1 => rfl); (case a1 => exact Kd.C_below SD.out (by assumption)); (case b1 => exact Kd.C_below (Kd.C_take SC.out (m := 4) (by decide)) (by assumption)); (case c1 => exact LC86.out.1); (case d1 => decide); rintro e w32 ⟨rfl, hc20⟩)
      | (go_at_call 21; go_split_ands; (with_reducible refine (ints_h [3] 1 ?n2 ?a2 ?b2 ?c2 ?d2 100 ints3).mono ?_); (case n2 => rfl); (case a2 => exact Kd.C_below SN.out (by assumption)); (case b2 => exact C_ints [3] (heap_alloc_new _ _) (by decide)); (case c2 => exact LC86.out.2); (case d2 => decide); rintro e w33 ⟨rfl, hd21⟩; have hc21 := hd21.below)
      | (go_at_call 21; go_split_ands; (with_reducible refine (ints_h [3, 4] 2 ?n4 ?a4 ?b4 ?c4 ?d4 100 ints4).mono ?_); (case n4 => rfl); (case a4 => exact Kd.C_below SO.out (by assumption)); (case b4 => exact C_ints [3, 4] (heap_alloc_new _ _) (by decide)); (case c4 => exact LC98.out.2); (case d4 => decide); rintro e w34 ⟨rfl, hd21⟩; have hc21 := hd21.below))
  rename_i hcc
  have b34 : Below w27.heap.size w27 w34 := hcc.2.2
  go_wp2
  go_ret
  exact ⟨rfl, D27.out.trans (b34.mono D27.out.size)⟩
end Go.Proofs.YtcafgpfecfocnaaDoor.P

/- The head of layer 18's laws, in the words of printed contracts. -/
namespace Go.Proofs.YtcafgpfecfocnaaDoor.P
open Go.RowKit Go.Proofs.YtcafgpfecfocnaaDoorW.PrintWords
def cleanselaw18_head.f : Option Bool := some true
theorem cleanselaw18_head.calls (r : Bool) (w : World) (hT : Tabs w) (h : cleanselaw18_head.f = some r) : Calls Tryd.prog 14 #[] w fun e w' => e = .returned (.bool r) ∧ Below w.heap.size w w' := by
  obtain rfl : true = r := Option.some.inj h
  exact head_walk w hT
end Go.Proofs.YtcafgpfecfocnaaDoor.P
