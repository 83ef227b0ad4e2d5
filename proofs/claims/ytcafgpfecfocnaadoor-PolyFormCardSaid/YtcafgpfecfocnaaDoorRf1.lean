/- What the claim's proof needs: Clos, Formed, HPolyConst, Maps, PolyOrder, PolyOrd2, PolyRaw, Clos2, PolyMap, ShA, ShB, ShC, Conc, ShD, Tabs, Name, HStr, Names. -/
import Derived.Test.YtcafgpfecfocnaaDoorRfPx0
import Derived.Shelf.Abstract
import Derived.Maps.OwnSet
import Derived.Maps.OwnOps
import Derived.Test.YtcafgpfecfocnaaDoorRfPx24
import Derived.Deep.RegionHeld3
import Derived.Lib.QuietBelow
import Derived.Maps.RangeWalk
import Derived.StringKeys
import Derived.Shelf.LaysM
import Derived.Shelf.Strconv.AppendIntPublic10
import Derived.Ground.Names2Prog
import Derived.Shelf.Slices.Clone
import Derived.Test.YtcafgpfecfocnaaDoorProg
import Derived.Shelf.Strings.Builder1
import Derived.Shelf.Strings.Builder2
import Derived.Shelf.Strings.OnBuilder
import Derived.Shelf.Small.Bits
import Derived.Shelf.Small.Wraps
import Derived.Shelf.Strings.BuilderF
import Derived.Shelf.Strings.BuilderK
import Derived.Shelf.Strings.Builder2Cap
import Derived.Shelf.Strconv.Itoa0
import Derived.Shelf.Strconv.Itoa1
import Derived.Shelf.Strconv.Itoa2
import Derived.Shelf.Strconv.Itoa3
import Derived.Shelf.Strconv.AppendUint10
import Derived.Shelf.Strconv.AppendInt10
import Derived.Shelf.Strings.BuilderCap
import Derived.Shelf.Slices.SearchI
import Derived.Ground.SlgnProg
import Derived.Shelf.SlicesE.Clone
import Derived.Shelf.Spec.SlicesGrow
import Derived.Ground.Names8Prog
import Derived.Shelf.SlSortCmp.WholeK
import Derived.Ground.SlsfProg
import Derived.Lib.AppendIntMem
import Derived.Lib.BufferWrite
import Derived.Deep.AppendLies
import Derived.Lib.ItoaLen
/- slices.IndexFunc and slices.ContainsFunc over slices of whole numbers: with a closure that answers p at each element, the answer is whether p holds at one of them; the world keeps all that lay in it. -/
namespace Go.Proofs.YtcafgpfecfocnaaDoor.P
open Go.RowKit Go.Proofs.YtcafgpfecfocnaaDoorW.PrintWords Go.Proofs.YtcafgpfecfocnaaDoorW.PrintLast Go.Proofs.YtcafgpfecfocnaaDoorW.PrintMore
set_option linter.unusedVariables false
set_option linter.unusedSimpArgs false

/-- The function value (function g, bound to lb) answers p at each element of xs, in every world that keeps w's blocks. -/
def Gives {α : Type} (g : Nat) (lb : Array Value) (enc : α → Value) (p : α → Bool) (xs : List α) (w : World) : Prop :=
  ∀ (W : World) (x : α), x ∈ xs → Below w.heap.size w W → Calls Tryd.prog g (#[enc x] ++ lb) W fun e W' => e = .returned (.bool (p x)) ∧ Below W.heap.size W W'

theorem any_of_at (p : Int → Bool) (xs : List Int) (k : Nat) (hk : k < xs.length) (h : p (rd xs k) = true) : xs.any p = true := by
  rw [List.any_eq_true]
  refine ⟨rd xs k, ?_, h⟩
  unfold rd
  rw [Int.toNat_natCast, List.getD_eq_getElem?_getD, List.getElem?_eq_getElem hk]
  exact List.getElem_mem hk
theorem none_of_all (p : Int → Bool) (xs : List Int) (h : ∀ j : Nat, j < xs.length → p (rd xs j) = false) : xs.any p = false := by
  rw [List.any_eq_false]
  intro x hx
  obtain ⟨j, hj, rfl⟩ := List.getElem_of_mem hx
  have := h j hj
  unfold rd at this
  rw [Int.toNat_natCast, List.getD_eq_getElem?_getD, List.getElem?_eq_getElem hj] at this
  simpa using this
theorem rd_mem (xs : List Int) (k : Nat) (hk : k < xs.length) : rd xs k ∈ xs := by
  unfold rd
  rw [Int.toNat_natCast, List.getD_eq_getElem?_getD, List.getElem?_eq_getElem hk]
  exact List.getElem_mem hk

set_option maxHeartbeats 2000000 in
theorem indexFunc (g : Nat) (lb : Array Value) (eg : ∀ args w, (callFunc g args).run Tryd.prog w = .ok (.enter g args) w) (p : Int → Bool) (A : Option Addr) (c : Nat) (xs : List Int) (w : World)
    (hr : Kd.C (Kd.int .i64) w A xs.length xs) (hp : Gives g lb (Value.int .i64) p xs w) :
    Calls Tryd.prog 75 #[.slice A xs.length c, .func (.func g) #[] lb] w fun e w' => (∃ i : Int, e = .returned (.int .i64 i) ∧ decide (0 ≤ i) = xs.any p) ∧ Below w.heap.size w w' := by
  have HR := Aside0.mk hr
  have HP := Aside0.mk hp
  have hbig : xs.length ≤ 9223372036854775807 := hr.2.1
  clear hr hp
  go_enter Tryd.func75, Tryd.ntmps75
  go_wp2
  go_loopg [5, 8] xs.length (fun gg _ s8 wr => ∃ k : Nat, k ≤ xs.length ∧ xs.length - k ≤ gg ∧ s8 = .int .i64 k ∧ Aside0 (Below w.heap.size w wr) ∧ Aside0 (∀ j : Nat, j < k → p (rd xs j) = false))
  case atStart => exact ⟨0, Nat.zero_le _, by omega, rfl, ⟨Below.refl _ _⟩, ⟨fun j hj => absurd hj (Nat.not_lt_zero _)⟩⟩
  case round =>
    obtain ⟨k, hk, hg, rfl, HB, HA⟩ := hrel
    by_cases hlt : k < xs.length
    · have hlt' : (k : Int) < (xs.length : Int) := by omega
      obtain ⟨ad, e, hx⟩ := Kd.at_int HR.out k (by omega) hlt'
      cases e
      replace hx := (HB.out.cell (World.block_lt_of_cell? w _ hx)).trans hx
      rw [Int.toNat_natCast] at hx
      have hm := rd_mem xs k hlt
      generalize hy : rd xs k = y at hx hm
      have HY := Aside0.mk hy
      clear hy
      have hcall := HP.out wr y hm HB.out
      cases hq : p y with
      | true =>
        rw [hq] at hcall
        have HQ := Aside0.mk hq
        clear hq
        go_wp2_with (go_at_fn g; refine hcall.mono ?_; rintro e w' ⟨rfl, hb⟩)
        go_ret
        refine ⟨⟨_, rfl, ?_⟩, HB.out.trans (hb.mono HB.out.size)⟩
        rw [any_of_at p xs k hlt (by rw [HY.out]; exact HQ.out)]
        simp
      | false =>
        rw [hq] at hcall
        have HQ := Aside0.mk hq
        clear hq
        go_wp2_with (go_at_fn g; refine hcall.mono ?_; rintro e w' ⟨rfl, hb⟩)
        have HB2 := Aside0.mk (HB.out.trans (hb.mono HB.out.size))
        go_roundg (xs.length - (k + 1))
        case measure => omega
        case rel =>
          refine ⟨k + 1, by omega, by omega, by go_num, HB2, ⟨fun j hj => ?_⟩⟩
          by_cases e : j = k
          · subst e
            rw [HY.out]; exact HQ.out
          · exact HA.out j (by omega)
    · have hlt' : ¬ (k : Int) < (xs.length : Int) := by omega
      obtain rfl : k = xs.length := by omega
      go_wp2
      go_ret
      refine ⟨⟨_, rfl, ?_⟩, HB.out⟩
      rw [none_of_all p xs HA.out]
      simp

set_option maxHeartbeats 2000000 in
theorem containsFunc (g : Nat) (lb : Array Value) (eg : ∀ args w, (callFunc g args).run Tryd.prog w = .ok (.enter g args) w) (p : Int → Bool) (A : Option Addr) (c : Nat) (xs : List Int) (w : World)
    (hr : Kd.C (Kd.int .i64) w A xs.length xs) (hp : Gives g lb (Value.int .i64) p xs w) :
    Calls Tryd.prog 50 #[.slice A xs.length c, .func (.func g) #[] lb] w fun e w' => e = .returned (.bool (xs.any p)) ∧ Below w.heap.size w w' := by
  have h75 := indexFunc g lb eg p A c xs w hr hp
  have H75 := Aside0.mk h75
  clear h75 hr hp
  go_enter Tryd.func50, Tryd.ntmps50
  go_wp2_with (go_at_call 75; refine H75.out.mono ?_; rintro e w' ⟨⟨i, rfl, hi⟩, hb⟩; have HI := Aside0.mk hi; have HB := Aside0.mk hb; clear hi hb)
  go_ret
  exact ⟨by rw [← HI.out]; rfl, HB.out⟩
end Go.Proofs.YtcafgpfecfocnaaDoor.P

/- circuit.formed, circuit.kept, circuit.inner and the closures of circuit: each answers what its plain function says, and keeps all that lay in the world. -/
namespace Go.Proofs.YtcafgpfecfocnaaDoor.P
open Go.RowKit Go.Proofs.YtcafgpfecfocnaaDoorW.PrintWords Go.Proofs.YtcafgpfecfocnaaDoorW.PrintLast Go.Proofs.YtcafgpfecfocnaaDoorW.PrintMore
set_option linter.unusedVariables false
set_option linter.unusedSimpArgs false

end Go.Proofs.YtcafgpfecfocnaaDoor.P

/- Printed by a program of this work over the translation: plain functions and contracts of Go functions; checked by Lean alone. -/
namespace Go.Proofs.YtcafgpfecfocnaaDoor.P
open Go.RowKit Go.Proofs.YtcafgpfecfocnaaDoorW.PrintWords Go.Proofs.YtcafgpfecfocnaaDoorW.PrintLast Go.Proofs.YtcafgpfecfocnaaDoorW.PrintMore
section
attribute [local go_sem] min2_int min_two
set_option linter.unusedVariables false
set_option linter.unusedSimpArgs false

/-! ### poly_ConstS: function 37 -/
def poly_ConstS.j0 : Nat → Int → Bool → Option ((List (S68)) × Int)
  | 0, _, _ => none
  | k + 1, x0, x4 => if x4 = true then (some (([] : List (S68)), 1)) else (if x0 = 0 then (some (([] : List (S68)), 0)) else (some ((([(⟨x0, ([] : List (S70))⟩ : S68)] : List (S68))), 0)))
def poly_ConstS.f (k : Nat) (a0 : Int) : Option ((List (S68)) × Int) := if a0 < 0 then (poly_ConstS.j0 k a0 true) else (poly_ConstS.j0 k a0 (decide (a0 > 1000000000)))
set_option maxHeartbeats 8000000 in
set_option maxRecDepth 100000 in
theorem poly_ConstS.calls (k : Nat) (a0 : Int) (r1 : List (S68)) (r2 : Int) (w : World) (h : poly_ConstS.f k a0 = some (r1, r2)) :
    Calls Tryd.prog 37 #[.int .i64 a0] w fun e w' => ∃ v0_ : Value, e = .returned (.tuple #[v0_, .int .i64 r2]) ∧ Kd.S k68 68 w' w.heap.size (fun _ => True) v0_ r1 ∧ Below w.heap.size w w' := by
  have hu68 := Tryd.underlying68
  have HB := Aside0.mk (Below.refl w.heap.size w)
  have H : (if a0 < 0 then (poly_ConstS.j0 k a0 true) else (poly_ConstS.j0 k a0 (decide (a0 > 1000000000)))) = some (r1, r2) := h
  clear h
  have HC2 := Aside0.mk H
  clear H
  go_enter Tryd.func37, Tryd.ntmps37
  go_upto_region 1 with (fail)
  go_cut [4] (fun v4 wc => ∃ (kq : Nat) (x4_1 : Bool), v4 = .bool x4_1 ∧ Aside0 (poly_ConstS.j0 kq a0 x4_1 = some (r1, r2)) ∧ Aside0 (kq ≤ k) ∧ Aside0 (Below w.heap.size w wc))
  case first =>
    have H := HC2.out
    clear HC2
    by_cases c3 : a0 < 0
    · rw [if_pos c3] at H
      have c3b0 : decide (a0 < 0) = true := decide_eq_true c3
      clear c3
      (first | rw [c3b0] | (simp only [i64_w, i32_w]; rw [c3b0]) | skip)
      have H' := Aside0.mk H
      clear H
      go_wp2
      go_meet
      case rel => exact ⟨_, (true), (by first | rfl | (simp; done) | (simp [*]; done)), H', ⟨by first | omega | exact Nat.le_refl _⟩, ⟨by repeat (first | (with_reducible first | exact HB.out | apply below_alloc | apply pw_below_drewN | apply below_drew1) | exact HB.out)⟩⟩
    · rw [if_neg c3] at H
      have c3b0 : decide (a0 < 0) = false := decide_eq_false c3
      clear c3
      (first | rw [c3b0] | (simp only [i64_w, i32_w]; rw [c3b0]) | skip)
      have H' := Aside0.mk H
      clear H
      go_wp2
      go_meet
      case rel => exact ⟨_, (decide (a0 > 1000000000)), (by first | rfl | (simp; done) | (simp [*]; done)), H', ⟨by first | omega | exact Nat.le_refl _⟩, ⟨by repeat (first | (with_reducible first | exact HB.out | apply below_alloc | apply pw_below_drewN | apply below_drew1) | exact HB.out)⟩⟩
  case rest =>
    clear HC2
    try clear p2
    try clear c3
    try clear c3b0
    obtain ⟨kq, x4_1, rfl, HA, HJ1, HB⟩ := hcut
    cases kq with
    | zero => exact absurd HA.out (by simp [poly_ConstS.j0])
    | succ kj1 =>
      have H := HA.out
      clear HA
      simp only [poly_ConstS.j0] at H
      by_cases c4 : x4_1 = true
      · subst c4
        have H1 : (some (([] : List (S68)), 1)) = some (r1, r2) := by rw [if_pos rfl] at H; exact H
        clear H
        have H := H1
        clear H1
        simp only [Option.some.injEq, Prod.mk.injEq] at H
        obtain ⟨rfl, rfl⟩ := H
        go_wp2
        go_ret2
        exact ⟨_, by first | rfl | (simp [errW_none, errW_some] <;> rfl) | (simp [*, errW_none, errW_some] <;> rfl), by first | exact Kd.S_nil _ _ _ _ _ | exact Kd.N_nil _ _ _ _ _ | exact Kd.V_nil _ _ _ _ _ | exact Kd.Q_nil _ _ _ _ _ | exact Kd.R_nil _ _ _ _ _, by repeat (first | (with_reducible first | exact HB.out | apply below_alloc | apply pw_below_drewN | apply below_drew1) | exact HB.out)⟩
      · replace c4 := Bool.eq_false_iff.mpr c4
        subst c4
        have H1 : (if a0 = 0 then (some (([] : List (S68)), 0)) else (some ((([(⟨a0, ([] : List (S70))⟩ : S68)] : List (S68))), 0))) = some (r1, r2) := by rw [if_neg (show ¬ (false = true) by decide)] at H; exact H
        clear H
        have H := H1
        clear H1
        by_cases c5 : a0 = 0
        · rw [if_pos c5] at H
          have c5b0 : (a0 == 0) = true := beq_iff_eq.mpr c5
          have c5b1 : (a0 != 0) = false := bne_eq_false_iff_eq.mpr c5
          clear c5
          simp only [Option.some.injEq, Prod.mk.injEq] at H
          obtain ⟨rfl, rfl⟩ := H
          go_wp2
          go_ret2
          exact ⟨_, by first | rfl | (simp [errW_none, errW_some] <;> rfl) | (simp [*, errW_none, errW_some] <;> rfl), by first | exact Kd.S_nil _ _ _ _ _ | exact Kd.N_nil _ _ _ _ _ | exact Kd.V_nil _ _ _ _ _ | exact Kd.Q_nil _ _ _ _ _ | exact Kd.R_nil _ _ _ _ _, by repeat (first | (with_reducible first | exact HB.out | apply below_alloc | apply pw_below_drewN | apply below_drew1) | exact HB.out)⟩
        · rw [if_neg c5] at H
          have c5b0 : (a0 == 0) = false := beq_eq_false_iff_ne.mpr c5
          have c5b1 : (a0 != 0) = true := bne_iff_ne.mpr c5
          obtain ⟨y179, hy179⟩ : ∃ y_ : List (S68), y_ = (([(⟨a0, ([] : List (S70))⟩ : S68)] : List (S68))) := ⟨_, rfl⟩
          replace H : (some (y179, 0)) = some (r1, r2) := by first | (rw [hy179]; with_reducible exact H) | (have H2_ := (Option.bind_some _ _).symm.trans H; rw [hy179]; with_reducible exact H2_) | (have H2_ := (Option.bind_some _ _).symm.trans H; with_reducible exact H2_) | with_reducible exact H | (rw [hy179]; exact H) | exact H
          have Ny179 := Aside0.mk hy179
          clear hy179
          simp only [Option.some.injEq, Prod.mk.injEq] at H
          obtain ⟨rfl, rfl⟩ := H
          go_wp2_with (first | ((with_reducible refine gate_dst (N := 16) rfl ?_); refine Kd.S_lit k68 _ 68 ?hg (N := 16) ?hd (xs := ([(⟨a0, ([] : List (S70))⟩ : S68)] : List (S68))) (inner := [.int .i64 a0, .slice none 0 0]) (ok := fun _ => True) (okp := fun _ => True) ?hr ?hp (fun _ hk => hk) trivial (Below.refl _ _) (Nat.le_refl _) (by simp) ?_; (case hd => rfl); (case hg => rfl); (case hr => first | (go_simp; done) | (go_simp; rfl)); (case hp => exact (Reps.c2 (show Kd.M k68 _ _ _ (⟨a0, ([] : List (S70))⟩ : S68) [.int .i64 a0, .slice none 0 0] from (k68_mkM _ _ _ (⟨a0, ([] : List (S70))⟩ : S68) (Kd.R_nil _ _ _ _ _))) (Reps.none _ _))); intro v180 w6 ho7 hb hg_ hnew_; clear hg_ hnew_; (first | rw [← Ny179.out] at ho7 | (simp only [Int.reduceToNat] at ho7; rw [← Ny179.out] at ho7)); have n0_ := Aside0.mk (Kd.S_lower ho7 (below_size (by repeat (first | (with_reducible first | exact HB.out | apply below_alloc | apply pw_below_drewN | apply below_drew1) | exact HB.out)))); have n1_ := Aside0.mk (below_step (by repeat (first | (with_reducible first | exact HB.out | apply below_alloc | apply pw_below_drewN | apply below_drew1) | exact HB.out)) hb); clear HB; have HO181 := n0_; have HB := n1_; clear n0_ n1_; clear hb ho7))
          go_ret2
          exact ⟨_, by first | rfl | (simp [errW_none, errW_some] <;> rfl) | (simp [*, errW_none, errW_some] <;> rfl), by (with_reducible repeat (first | apply Kd.S_alloc | apply Kd.S_drewN | apply Kd.S_drew)); exact HO181.out, by repeat (first | (with_reducible first | exact HB.out | apply below_alloc | apply pw_below_drewN | apply below_drew1) | exact HB.out)⟩

/-- What poly.Const answers. -/
def poly_Const.f (a0 : Int) : Option (List S68 × Int) := poly_ConstS.f 5 a0
theorem poly_Const.calls (a0 : Int) (r1 : List S68) (r2 : Int) (w : World) (h : poly_Const.f a0 = some (r1, r2)) :
    Calls Tryd.prog 37 #[.int .i64 a0] w fun e w' => ∃ v0_ : Value, e = .returned (.tuple #[v0_, .int .i64 r2]) ∧ Kd.N k68 68 w' w.heap.size (fun k_ => (w.heap.size ≤ k_)) v0_ r1 ∧ Below w.heap.size w w' :=
  (poly_ConstS.calls 5 a0 r1 r2 w h).mono fun _ _ ⟨v, h1, h2, h3⟩ => ⟨v, h1, Kd.N_mono (Kd.S_N (Kd.S_bound h2)) (fun k hk => hk.2.1), h3⟩
end
end Go.Proofs.YtcafgpfecfocnaaDoor.P

/- Maps of the call's own, told by a function from keys to what stands there. -/
namespace Go.Proofs.YtcafgpfecfocnaaDoor.P
open Go.RowKit Go.Maps Go.Proofs.YtcafgpfecfocnaaDoorW.PrintWords Go.Proofs.YtcafgpfecfocnaaDoorW.PrintLast Go.Proofs.YtcafgpfecfocnaaDoorW.PrintMore
set_option linter.unusedVariables false
set_option linter.unusedSimpArgs false

/-- Block b of w is a map of at most n entries; at the key kl stands f kl. -/
def MapIs (w : World) (k : TypeId) (R : Value → Option (DataW Unit × List MemPlace)) (b n : Nat) (f : Lit → Option (DataW Unit)) : Prop :=
  ∃ D, w.ownsMap Tryd.prog k R b n D ∧ IsMap D ∧ (∀ kl, has D kl = (f kl).isSome) ∧ ∀ kl z, D.atKey kl z = (f kl).getD z

section
variable {w : World} {ops : Array Oper} {rest : List Oper} {o : Oper} {a : Act} {Q : Exit → Act → World → Prop}
end
section
variable {ops : Array Oper} {rest : List Oper} {o : Oper} {a : Act} {Q : Exit → Act → World → Prop}
end
end Go.Proofs.YtcafgpfecfocnaaDoor.P

/- The order of powers (poly.order): cmp.Compare, cmp.Or, the closure, slices.CompareFunc. -/
namespace Go.Proofs.YtcafgpfecfocnaaDoor.P
open Go.RowKit Go.Maps Go.Proofs.YtcafgpfecfocnaaDoorW.PrintWords Go.Proofs.YtcafgpfecfocnaaDoorW.PrintLast Go.Proofs.YtcafgpfecfocnaaDoorW.PrintMore
set_option linter.unusedVariables false
set_option linter.unusedSimpArgs false

/-- The world is the old one with draws and blocks behind it. -/
structure Grw (w w' : World) : Prop where mk :: (below : Below w.heap.size w w') (drawn : w.drawn ≤ w'.drawn)
theorem Grw.refl (w : World) : Grw w w := ⟨Below.refl _ _, Nat.le_refl _⟩
theorem Grw.trans {a b c : World} (h : Grw a b) (k : Grw b c) : Grw a c := ⟨h.below.trans (k.below.mono h.below.size), Nat.le_trans h.drawn k.drawn⟩
theorem Grw.alloc {a b : World} (h : Grw a b) (o : Obj) : Grw a (b.alloc o) := ⟨below_alloc h.below o, h.drawn⟩
theorem Grw.drew {a b : World} (h : Grw a b) : Grw a b.drew := ⟨below_drew h.below, Nat.le_succ_of_le h.drawn⟩
theorem drewN_drawn (w : World) (n : Nat) : (w.drewN n).drawn = w.drawn + n := rfl
theorem Grw.drewN {a b : World} (h : Grw a b) (n : Nat) : Grw a (b.drewN n) := ⟨pw_below_drewN h.below n, by rw [drewN_drawn]; exact Nat.le_add_right_of_le h.drawn⟩
theorem Grw.of_drawn0 {w w' : World} (h : Drawn0 w w') : Grw w w' := by
  obtain ⟨n, rfl⟩ := h
  exact (Grw.refl w).drewN n
theorem Grw.form {w w' : World} (h : Grw w w') : ∃ q os', w' = Sort.grow (w.drewN q) os' := by
  obtain ⟨⟨d, os⟩, e⟩ := regrown_of_below h.below
  refine ⟨w'.drawn - w.drawn, os, ?_⟩
  have hd : w'.drawn = d := by rw [e]; rfl
  have : w.drewN (w'.drawn - w.drawn) = redrawn w d := by
    unfold redrawn World.drewN
    have := h.drawn
    rw [show w.drawn + (w'.drawn - w.drawn) = d by omega]
  rw [this]
  exact e
section
variable {P : Program} {ops : Array Oper} {rest : List Oper} {o : Oper} {a : Act} {Q : Exit → Act → World → Prop}
theorem box_eventG {W : World} (hgd : o.guard = none) {N : Tmp} (_hd : o.dst = some N) {cs : Array Value} {t : TypeId}
    (hrun : (execOp a.eval o).run P W = .ok (.value (.pointer (some ⟨W.heap.size, 0, none⟩))) (W.alloc (.cells cs t (0, 0))))
    (h : ∀ g, g = W.heap.size → ∀ w1, w1.heap[g]? = some (.cells cs t (0, 0)) → Grw W w1 → wpList P ops Q rest (a.put o.dst (.pointer (some ⟨g, 0, none⟩))) w1) : wpList P ops Q (o :: rest) a W :=
  Kd.event_run hgd hrun (h _ rfl _ (blk_new W _) ((Grw.refl _).alloc _))
end
def compS (a b : Int) : Int := if a < b then -1 else if b < a then 1 else 0
def powS (x y : S70) : Int := if compS x.f0 y.f0 ≠ 0 then compS x.f0 y.f0 else compS x.f1 y.f1
/-- How two lists of powers stand to one another. -/
def orderS : List S70 → List S70 → Int
  | [], [] => 0
  | [], _ :: _ => -1
  | _ :: _, [] => 1
  | x :: a, y :: b => if powS x y ≠ 0 then powS x y else orderS a b
theorem isNaN_h (a : Int) (W : World) : Calls Tryd.prog 106 #[.int .i64 a] W fun e W' => e = .returned (.bool false) ∧ Drawn0 W W' := cmp_isNaN_int.calls a false W (by simp [cmp_isNaN_int.f])
theorem compare_calls (a b : Int) (W : World) : Calls Tryd.prog 93 #[.int .i64 a, .int .i64 b] W fun e W' => e = .returned (.int .i64 (compS a b)) ∧ Grw W W' := by
  by_cases h1 : a < b
  · have e : compS a b = -1 := by unfold compS; rw [if_pos h1]
    rw [e]
    clear e
    go_enter Tryd.func93, Tryd.ntmps93
    go_wp2_with (first
      | (go_at_call 106; (with_reducible refine (isNaN_h a _).mono ?_); rintro e w1 ⟨rfl, hb⟩; have HA := Aside0.mk (Grw.of_drawn0 hb); clear hb)
      | (go_at_call 106; (with_reducible refine (isNaN_h b _).mono ?_); rintro e w2 ⟨rfl, hb⟩; have HB := Aside0.mk (HA.out.trans (Grw.of_drawn0 hb)); clear hb))
    go_ret
    exact ⟨rfl, HB.out⟩
  · by_cases h2 : b < a
    · have e : compS a b = 1 := by unfold compS; rw [if_neg h1, if_pos h2]
      rw [e]
      clear e
      go_enter Tryd.func93, Tryd.ntmps93
      go_wp2_with (first
        | (go_at_call 106; (with_reducible refine (isNaN_h a _).mono ?_); rintro e w1 ⟨rfl, hb⟩; have HA := Aside0.mk (Grw.of_drawn0 hb); clear hb)
        | (go_at_call 106; (with_reducible refine (isNaN_h b _).mono ?_); rintro e w2 ⟨rfl, hb⟩; have HB := Aside0.mk (HA.out.trans (Grw.of_drawn0 hb)); clear hb))
      go_ret
      exact ⟨rfl, HB.out⟩
    · have e : compS a b = 0 := by unfold compS; rw [if_neg h1, if_neg h2]
      rw [e]
      clear e
      go_enter Tryd.func93, Tryd.ntmps93
      go_wp2_with (first
        | (go_at_call 106; (with_reducible refine (isNaN_h a _).mono ?_); rintro e w1 ⟨rfl, hb⟩; have HA := Aside0.mk (Grw.of_drawn0 hb); clear hb)
        | (go_at_call 106; (with_reducible refine (isNaN_h b _).mono ?_); rintro e w2 ⟨rfl, hb⟩; have HB := Aside0.mk (HA.out.trans (Grw.of_drawn0 hb)); clear hb))
      go_ret
      exact ⟨rfl, HB.out⟩
/-- cmp.Or of two numbers in a block. -/
theorem or2_calls (a b : Int) (g : Nat) (W : World) (h : W.heap[g]? = some (.cells #[.int .i64 a, .int .i64 b] 3 (0, 0))) : Calls Tryd.prog 92 #[.slice (some ⟨g, 0, none⟩) 2 2] W fun e W' => e = .returned (.int .i64 (if a ≠ 0 then a else b)) ∧ Grw W W' := by
  have c0 : W.cell? ⟨g, 0, none⟩ = some (.int .i64 a) := (blk_cell h 0).trans rfl
  have c1 : W.cell? ⟨g, 1, none⟩ = some (.int .i64 b) := (blk_cell h 1).trans rfl
  obtain ⟨r, hr⟩ : ∃ r : Int, r = (if a ≠ 0 then a else b) := ⟨_, rfl⟩
  rw [← hr]
  have RE := Aside0.mk hr
  have C0 := Aside0.mk c0
  have C1 := Aside0.mk c1
  clear h c0 c1 hr
  have HB0 := Aside0.mk (Grw.refl W)
  go_enter Tryd.func92, Tryd.ntmps92
  go_wp2
  go_loopg [8] 2 (fun gg s8 wr => ∃ i : Nat, i ≤ 2 ∧ 2 - i ≤ gg ∧ s8 = .int .i64 i ∧ (0 < i → a = 0) ∧ (1 < i → b = 0) ∧ Aside0 (Grw W wr))
  case atStart => exact ⟨0, by omega, by omega, rfl, fun h => by omega, fun h => by omega, HB0⟩
  case round =>
    clear HB0
    obtain ⟨i, hi, hgg, rfl, ha, hb, HB⟩ := hrel
    have c0 := (HB.out.below.cell (World.block_lt_of_cell? _ _ C0.out)).trans C0.out
    have c1 := (HB.out.below.cell (World.block_lt_of_cell? _ _ C1.out)).trans C1.out
    match i, hi with
    | 0, _ =>
      by_cases h1 : a = 0
      · subst h1
        clear ha hb
        go_wp2
        go_roundg 1
        case measure => omega
        case rel => exact ⟨1, by omega, by omega, rfl, fun _ => trivial, fun h => by omega, HB⟩
      · obtain rfl : r = a := by rw [RE.out, if_pos h1]
        clear ha hb
        go_wp2
        go_ret
        exact ⟨rfl, HB.out⟩
    | 1, _ =>
      obtain rfl := ha (by omega)
      clear ha hb
      by_cases h2 : b = 0
      · subst h2
        go_wp2
        go_roundg 0
        case measure => omega
        case rel => exact ⟨2, by omega, by omega, rfl, fun _ => trivial, fun _ => trivial, HB⟩
      · obtain rfl : r = b := by rw [RE.out, if_neg (by decide)]
        go_wp2
        go_ret
        exact ⟨rfl, HB.out⟩
    | 2, _ =>
      obtain rfl := ha (by omega)
      obtain rfl := hb (by omega)
      obtain rfl : r = 0 := by rw [RE.out, if_neg (by decide)]
      clear ha hb
      go_wp2
      go_ret
      exact ⟨rfl, HB.out⟩
    | i + 3, h => omega
end Go.Proofs.YtcafgpfecfocnaaDoor.P

/- poly.order: its closure, slices.CompareFunc, and itself. Written by gen_poly.py. -/
namespace Go.Proofs.YtcafgpfecfocnaaDoor.P
open Go.RowKit Go.Maps Go.Proofs.YtcafgpfecfocnaaDoorW.PrintWords Go.Proofs.YtcafgpfecfocnaaDoorW.PrintLast Go.Proofs.YtcafgpfecfocnaaDoorW.PrintMore
set_option linter.unusedVariables false
set_option linter.unusedSimpArgs false

theorem or2_pow (x y : S70) (g : Nat) (W : World) (h : W.heap[g]? = some (.cells #[.int .i64 (compS x.f0 y.f0), .int .i64 (compS x.f1 y.f1)] 3 (0, 0))) : Calls Tryd.prog 92 #[.slice (some ⟨g, 0, none⟩) 2 2] W fun e W' => e = .returned (.int .i64 (powS x y)) ∧ Grw W W' := or2_calls _ _ g W h
theorem eg93 : ∀ args w, (callFunc 93 args).run Tryd.prog w = .ok (.enter 93 args) w := enters_of Tryd.func93 (by kernel_rfl) rfl
theorem eg92 : ∀ args w, (callFunc 92 args).run Tryd.prog w = .ok (.enter 92 args) w := enters_of Tryd.func92 (by kernel_rfl) rfl
set_option maxRecDepth 100000 in
set_option maxHeartbeats 8000000 in
theorem pow_calls (x y : S70) (W : World) : Calls Tryd.prog 91 #[.agg #[.int .i64 x.f0, .int .i64 x.f1], .agg #[.int .i64 y.f0, .int .i64 y.f1]] W fun e W' => e = .returned (.int .i64 (powS x y)) ∧ Grw W W' := by
  go_enter Tryd.func91, Tryd.ntmps91
  go_upto_region 1 with (first
    | ((with_reducible refine gate_dst (N := 2) rfl ?_); refine box_eventG ?hg (N := 2) ?hd (cs := #[.int .i64 x.f0, .int .i64 x.f1]) (t := 70) ?hr ?_; (case hd => rfl); (case hg => rfl); (case hr => first | (go_simp; done) | (go_simp; rfl)); intro g2 hg w1 hbox hb; have L1 := Aside0.mk hb; have B2 := Aside0.mk hbox; clear hg hbox hb)
    | ((with_reducible refine gate_dst (N := 3) rfl ?_); refine box_eventG ?hg3 (N := 3) ?hd3 (cs := #[.int .i64 y.f0, .int .i64 y.f1]) (t := 70) ?hr3 ?_; (case hd3 => rfl); (case hg3 => rfl); (case hr3 => first | (go_simp; done) | (go_simp; rfl)); intro g3 hg w2 hbox hb; have L2 := Aside0.mk (L1.out.trans hb); have B3 := Aside0.mk hbox; have B22 := Aside0.mk ((hb.below.block g2 (blk_lt B2.out)).trans B2.out); clear hg hbox hb))
  have HELD := Aside0.mk (show w2.drew.cell? ⟨g2, 0, none⟩ = some (.int .i64 x.f0) ∧ w2.drew.cell? ⟨g2, 1, none⟩ = some (.int .i64 x.f1) ∧ w2.drew.cell? ⟨g3, 0, none⟩ = some (.int .i64 y.f0) ∧ w2.drew.cell? ⟨g3, 1, none⟩ = some (.int .i64 y.f1) from ⟨(blk_cell B22.out 0).trans rfl, (blk_cell B22.out 1).trans rfl, (blk_cell B3.out 0).trans rfl, (blk_cell B3.out 1).trans rfl⟩)
  have HB := Aside0.mk (Grw.refl w2).drew
  refine start_ (n := 13) (S := fun w' => w'.cell? ⟨g2, 0, none⟩ = some (.int .i64 x.f0) ∧ w'.cell? ⟨g2, 1, none⟩ = some (.int .i64 x.f1) ∧ w'.cell? ⟨g3, 0, none⟩ = some (.int .i64 y.f0) ∧ w'.cell? ⟨g3, 1, none⟩ = some (.int .i64 y.f1)) (ds := []) #[false, false, false, false, false, false, false, false, false, false, false, false, false] (by kernel_rfl) rfl rfl HELD.out (fun hHeld => ?_)
  refine pure_ (i := 0) (N := some 5) (v := ?_) (a' := ?_) #[true, false, false, false, false, false, false, false, false, false, false, false, false] rfl rfl (by kernel_rfl) (fun _ _ _ h => h) (Or.inl ⟨by rfl, ?_⟩) ?_ ?_
  rotate_left
  · intro w'
    go_simp
    with_reducible rfl
  rotate_left
  · simp only [Act.put, List.setIfInBounds_toArray, List.set_cons_zero, List.set_cons_succ, i64_w, i32_w]
    rfl
  refine pure_ (i := 2) (N := some 7) (v := ?_) (a' := ?_) #[true, false, true, false, false, false, false, false, false, false, false, false, false] rfl rfl (by kernel_rfl) (fun _ _ _ h => h) (Or.inl ⟨by rfl, ?_⟩) ?_ ?_
  rotate_left
  · intro w'
    go_simp
    with_reducible rfl
  rotate_left
  · simp only [Act.put, List.setIfInBounds_toArray, List.set_cons_zero, List.set_cons_succ, i64_w, i32_w]
    rfl
  refine pure_ (i := 5) (N := some 10) (v := ?_) (a' := ?_) #[true, false, true, false, false, true, false, false, false, false, false, false, false] rfl rfl (by kernel_rfl) (fun _ _ _ h => h) (Or.inl ⟨by rfl, ?_⟩) ?_ ?_
  rotate_left
  · intro w'
    go_simp
    with_reducible rfl
  rotate_left
  · simp only [Act.put, List.setIfInBounds_toArray, List.set_cons_zero, List.set_cons_succ, i64_w, i32_w]
    rfl
  refine pure_ (i := 7) (N := some 12) (v := ?_) (a' := ?_) #[true, false, true, false, false, true, false, true, false, false, false, false, false] rfl rfl (by kernel_rfl) (fun _ _ _ h => h) (Or.inl ⟨by rfl, ?_⟩) ?_ ?_
  rotate_left
  · intro w'
    go_simp
    with_reducible rfl
  rotate_left
  · simp only [Act.put, List.setIfInBounds_toArray, List.set_cons_zero, List.set_cons_succ, i64_w, i32_w]
    rfl
  refine take_ (i := 1) (N := some 6) (v := ?_) (a' := ?_) #[true, true, true, false, false, true, false, true, false, false, false, false, false] rfl rfl (by kernel_rfl) (fun _ _ _ h => h) (Or.inl ⟨by rfl, ?_⟩) hHeld ?_ ?_
  rotate_left
  · rintro w' ⟨s0, s1, s2, s3⟩
    go_simp
    with_reducible rfl
  rotate_left
  · simp only [Act.put, List.setIfInBounds_toArray, List.set_cons_zero, List.set_cons_succ, i64_w, i32_w]
    rfl
  refine take_ (i := 3) (N := some 8) (v := ?_) (a' := ?_) #[true, true, true, true, false, true, false, true, false, false, false, false, false] rfl rfl (by kernel_rfl) (fun _ _ _ h => h) (Or.inl ⟨by rfl, ?_⟩) hHeld ?_ ?_
  rotate_left
  · rintro w' ⟨s0, s1, s2, s3⟩
    go_simp
    with_reducible rfl
  rotate_left
  · simp only [Act.put, List.setIfInBounds_toArray, List.set_cons_zero, List.set_cons_succ, i64_w, i32_w]
    rfl
  refine take_ (i := 6) (N := some 11) (v := ?_) (a' := ?_) #[true, true, true, true, false, true, true, true, false, false, false, false, false] rfl rfl (by kernel_rfl) (fun _ _ _ h => h) (Or.inl ⟨by rfl, ?_⟩) hHeld ?_ ?_
  rotate_left
  · rintro w' ⟨s0, s1, s2, s3⟩
    go_simp
    with_reducible rfl
  rotate_left
  · simp only [Act.put, List.setIfInBounds_toArray, List.set_cons_zero, List.set_cons_succ, i64_w, i32_w]
    rfl
  refine take_ (i := 8) (N := some 13) (v := ?_) (a' := ?_) #[true, true, true, true, false, true, true, true, true, false, false, false, false] rfl rfl (by kernel_rfl) (fun _ _ _ h => h) (Or.inl ⟨by rfl, ?_⟩) hHeld ?_ ?_
  rotate_left
  · rintro w' ⟨s0, s1, s2, s3⟩
    go_simp
    with_reducible rfl
  rotate_left
  · simp only [Act.put, List.setIfInBounds_toArray, List.set_cons_zero, List.set_cons_succ, i64_w, i32_w]
    rfl
  refine one_ (i := 4) (N := some 9) #[true, true, true, true, true, true, true, true, true, false, false, false, false] rfl rfl (by kernel_rfl) (by decide) (fun K hK => ?_)
  refine call_ 93 #[.int .i64 x.f0, .int .i64 y.f0] ?hw rfl ?hr ?_
  case hw => rfl
  case hr => simp [execOp, resolve, Deferred.ofValue, invoke, Act.eval, eg93]
  refine (compare_calls x.f0 y.f0 _).mono ?_
  rintro e w3 ⟨rfl, hb⟩
  refine ⟨_, rfl, ?_⟩
  have HX := Aside0.mk (And.intro ((hb.below.cell (World.block_lt_of_cell? _ _ hHeld.1)).trans hHeld.1) (And.intro ((hb.below.cell (World.block_lt_of_cell? _ _ hHeld.2.1)).trans hHeld.2.1) (And.intro ((hb.below.cell (World.block_lt_of_cell? _ _ hHeld.2.2.1)).trans hHeld.2.2.1) ((hb.below.cell (World.block_lt_of_cell? _ _ hHeld.2.2.2)).trans hHeld.2.2.2))))
  have HBn := Aside0.mk (HB.out.trans hb)
  clear hb hHeld HB
  have HB := HBn
  clear HBn
  refine hK.out _ _ HX.out (fun hHeld => ?_)
  clear hK K
  refine norm_ (a' := ?_) ?_ ?_
  rotate_left
  · show Act.put _ (some 9) _ = _
    simp only [Act.put, List.setIfInBounds_toArray, List.set_cons_zero, List.set_cons_succ, i64_w, i32_w]
    rfl
  refine one_ (i := 9) (N := some 14) #[true, true, true, true, true, true, true, true, true, true, false, false, false] rfl rfl (by kernel_rfl) (by decide) (fun K hK => ?_)
  refine call_ 93 #[.int .i64 x.f1, .int .i64 y.f1] ?hw rfl ?hr ?_
  case hw => rfl
  case hr => simp [execOp, resolve, Deferred.ofValue, invoke, Act.eval, eg93]
  refine (compare_calls x.f1 y.f1 _).mono ?_
  rintro e w4 ⟨rfl, hb⟩
  refine ⟨_, rfl, ?_⟩
  have HX := Aside0.mk (And.intro ((hb.below.cell (World.block_lt_of_cell? _ _ hHeld.1)).trans hHeld.1) (And.intro ((hb.below.cell (World.block_lt_of_cell? _ _ hHeld.2.1)).trans hHeld.2.1) (And.intro ((hb.below.cell (World.block_lt_of_cell? _ _ hHeld.2.2.1)).trans hHeld.2.2.1) ((hb.below.cell (World.block_lt_of_cell? _ _ hHeld.2.2.2)).trans hHeld.2.2.2))))
  have HBn := Aside0.mk (HB.out.trans hb)
  clear hb hHeld HB
  have HB := HBn
  clear HBn
  refine hK.out _ _ HX.out (fun hHeld => ?_)
  clear hK K
  refine norm_ (a' := ?_) ?_ ?_
  rotate_left
  · show Act.put _ (some 14) _ = _
    simp only [Act.put, List.setIfInBounds_toArray, List.set_cons_zero, List.set_cons_succ, i64_w, i32_w]
    rfl
  refine one_ (i := 10) (N := some 15) #[true, true, true, true, true, true, true, true, true, true, true, false, false] rfl rfl (by kernel_rfl) (by decide) (fun K hK => ?_)
  refine value_ (w1 := w4.alloc (.cells #[.int .i64 (compS x.f0 y.f0), .int .i64 (compS x.f1 y.f1)] 3)) (v := .slice (some ⟨w4.heap.size, 0, none⟩) 2 2) (by rfl) rfl ?_ ?_
  · first | (go_simp; done) | (go_simp; rfl)
  have hb := (Grw.refl w4).alloc (.cells #[.int .i64 (compS x.f0 y.f0), .int .i64 (compS x.f1 y.f1)] 3)
  have LIT := Aside0.mk (heap_alloc_new w4 (.cells #[.int .i64 (compS x.f0 y.f0), .int .i64 (compS x.f1 y.f1)] 3))
  have HX := Aside0.mk (And.intro ((hb.below.cell (World.block_lt_of_cell? _ _ hHeld.1)).trans hHeld.1) (And.intro ((hb.below.cell (World.block_lt_of_cell? _ _ hHeld.2.1)).trans hHeld.2.1) (And.intro ((hb.below.cell (World.block_lt_of_cell? _ _ hHeld.2.2.1)).trans hHeld.2.2.1) ((hb.below.cell (World.block_lt_of_cell? _ _ hHeld.2.2.2)).trans hHeld.2.2.2))))
  have HBn := Aside0.mk (HB.out.trans hb)
  clear hb hHeld HB
  have HB := HBn
  clear HBn
  refine hK.out _ _ HX.out (fun hHeld => ?_)
  clear hK K
  refine norm_ (a' := ?_) ?_ ?_
  rotate_left
  · show Act.put _ (some 15) _ = _
    simp only [Act.put, List.setIfInBounds_toArray, List.set_cons_zero, List.set_cons_succ, i64_w, i32_w]
    rfl
  refine one_ (i := 11) (N := some 16) #[true, true, true, true, true, true, true, true, true, true, true, true, false] rfl rfl (by kernel_rfl) (by decide) (fun K hK => ?_)
  refine call_ 92 #[.slice (some ⟨w4.heap.size, 0, none⟩) 2 2] ?hw rfl ?hr ?_
  case hw => rfl
  case hr => simp [execOp, resolve, Deferred.ofValue, invoke, Act.eval, eg92]
  refine (or2_pow x y w4.heap.size _ LIT.out).mono ?_
  rintro e w6 ⟨rfl, hb⟩
  refine ⟨_, rfl, ?_⟩
  have HX := Aside0.mk (And.intro ((hb.below.cell (World.block_lt_of_cell? _ _ hHeld.1)).trans hHeld.1) (And.intro ((hb.below.cell (World.block_lt_of_cell? _ _ hHeld.2.1)).trans hHeld.2.1) (And.intro ((hb.below.cell (World.block_lt_of_cell? _ _ hHeld.2.2.1)).trans hHeld.2.2.1) ((hb.below.cell (World.block_lt_of_cell? _ _ hHeld.2.2.2)).trans hHeld.2.2.2))))
  have HBn := Aside0.mk (HB.out.trans hb)
  clear hb hHeld HB
  have HB := HBn
  clear HBn
  refine hK.out _ _ HX.out (fun hHeld => ?_)
  clear hK K
  refine norm_ (a' := ?_) ?_ ?_
  rotate_left
  · show Act.put _ (some 16) _ = _
    simp only [Act.put, List.setIfInBounds_toArray, List.set_cons_zero, List.set_cons_succ, i64_w, i32_w]
    rfl
  refine pure_ (i := 12) (N := some 4) (v := ?_) (a' := ?_) #[true, true, true, true, true, true, true, true, true, true, true, true, true] rfl rfl (by kernel_rfl) (fun _ _ _ h => h) (Or.inl ⟨by rfl, ?_⟩) ?_ ?_
  rotate_left
  · intro w'
    go_simp
    with_reducible rfl
  rotate_left
  · simp only [Act.put, List.setIfInBounds_toArray, List.set_cons_zero, List.set_cons_succ, i64_w, i32_w]
    rfl
  refine done_ (by kernel_rfl) ?_
  go_wp2
  go_ret
  exact ⟨rfl, L2.out.trans HB.out⟩
theorem drop70 {l : List S70} {i : Nat} (h : i < l.length) : l.drop i = rd_T70 l (i : Int) :: l.drop (i + 1) := by
  rw [List.drop_eq_getElem_cons h]
  congr 1
  unfold rd_T70
  rw [Int.toNat_natCast, List.getD_eq_getElem?_getD, List.getElem?_eq_getElem h]
  rfl
theorem orderS_nil {m : List S70} : orderS [] m = if m.length = 0 then 0 else -1 := by
  cases m with
  | nil => rfl
  | cons y m => rfl
set_option maxRecDepth 100000 in
set_option maxHeartbeats 8000000 in
theorem comparef_calls (A0 : Option Addr) (c0 : Nat) (l : List S70) (A1 : Option Addr) (c1 : Nat) (m : List S70) (W : World) (h0 : Kd.C k70 W A0 l.length l) (hc0 : l.length ≤ c0) (h1 : Kd.C k70 W A1 m.length m) (hc1 : m.length ≤ c1) :
    Calls Tryd.prog 90 #[.slice A0 l.length c0, .slice A1 m.length c1, .func (.func 91) #[] #[]] W fun e W' => e = .returned (.int .i64 (orderS l m)) ∧ Grw W W' := by
  have H0 := Aside0.mk (fun (W' : World) (hb : Below W.heap.size W W') => Kd.C_below h0 hb)
  have H1 := Aside0.mk (fun (W' : World) (hb : Below W.heap.size W W') => Kd.C_below h1 hb)
  obtain ⟨r, hr⟩ : ∃ r, r = orderS l m := ⟨_, rfl⟩
  rw [← hr]
  have HB0 := Aside0.mk (Grw.refl W)
  have RE := Aside0.mk hr
  have hbig : l.length ≤ 9223372036854775807 := h0.2.1
  clear h0 h1 hc0 hc1 hr
  go_enter Tryd.func90, Tryd.ntmps90
  go_wp2
  go_loopg [13] l.length (fun gg s13 wr => ∃ i : Nat, i ≤ l.length ∧ i ≤ m.length ∧ l.length - i ≤ gg ∧ s13 = .int .i64 i ∧ Aside0 (Grw W wr) ∧ Aside0 (r = orderS (l.drop i) (m.drop i)))
  case atStart => exact ⟨0, Nat.zero_le _, Nat.zero_le _, by omega, rfl, HB0, RE⟩
  case round =>
    clear HB0 RE
    obtain ⟨i, hi, hm, hgg, rfl, HB, HR⟩ := hrel
    by_cases hlt : i < l.length
    · have hlt' : (i : Int) < (l.length : Int) := by omega
      obtain ⟨ad, e, x0, x1⟩ := at_T70 (H0.out wr HB.out.below) i (by omega) hlt'
      cases e
      rw [Int.toNat_natCast] at x0 x1
      by_cases hlm : i < m.length
      · have hlm' : ¬ (m.length : Int) ≤ (i : Int) := by omega
        have hlm2 : (i : Int) < (m.length : Int) := by omega
        obtain ⟨am, e, y0, y1⟩ := at_T70 (H1.out wr HB.out.below) i (by omega) hlm2
        cases e
        rw [Int.toNat_natCast] at y0 y1
        obtain ⟨x, hx⟩ : ∃ x, x = rd_T70 l (i : Int) := ⟨_, rfl⟩
        obtain ⟨y, hy⟩ : ∃ y, y = rd_T70 m (i : Int) := ⟨_, rfl⟩
        have RE := Aside0.mk (show r = if powS x y ≠ 0 then powS x y else orderS (l.drop (i + 1)) (m.drop (i + 1)) by rw [HR.out, drop70 hlt, drop70 hlm, hx, hy]; rfl)
        rw [← hx] at x0 x1
        rw [← hy] at y0 y1
        have PC := Aside0.mk (fun W => pow_calls x y W)
        have ya : (wr.alloc (.cells #[.int .i64 x.f0, .int .i64 x.f1] 70)).cell? (am.add (i * 2)) = some (.int .i64 y.f0) := (World.cell?_alloc_lt _ _ _ (World.block_lt_of_cell? _ _ y0)).trans y0
        have yb : (wr.alloc (.cells #[.int .i64 x.f0, .int .i64 x.f1] 70)).cell? ⟨(am.add (i * 2)).block, (am.add (i * 2)).off + 1, none⟩ = some (.int .i64 y.f1) := by
          exact (World.cell?_alloc_lt _ _ _ (World.block_lt_of_cell? _ _ y1)).trans y1
        clear hx hy HR
        obtain ⟨d, hd⟩ : ∃ d, d = powS x y := ⟨_, rfl⟩
        rw [← hd] at RE PC
        clear hd
        by_cases hp : d = 0
        · have RE' := Aside0.mk (show r = orderS (l.drop (i + 1)) (m.drop (i + 1)) by rw [RE.out, if_neg (by simp [hp])])
          subst hp
          clear RE
          go_wp2_with (first
            | (go_at_call 91; (refine (PC.out _).mono ?_); rintro e w5 ⟨rfl, hb⟩; have HB3 := Aside0.mk (((HB.out.alloc _).alloc _).trans hb); clear hb))
          go_roundg (l.length - (i + 1))
          case measure => omega
          case rel => exact ⟨i + 1, by omega, by omega, by omega, by go_num, HB3, RE'⟩
        · obtain rfl : r = d := by rw [RE.out, if_pos hp]
          have hpb : (r != 0) = true := bne_iff_ne.mpr hp
          clear RE
          go_wp2_with (first
            | (go_at_call 91; (refine (PC.out _).mono ?_); rintro e w5 ⟨rfl, hb⟩; have HB3 := Aside0.mk (((HB.out.alloc _).alloc _).trans hb); clear hb))
          go_ret
          exact ⟨rfl, HB3.out⟩
      · have hlm' : (m.length : Int) ≤ (i : Int) := by omega
        have RE := Aside0.mk (show r = 1 by rw [HR.out, drop70 hlt, List.drop_eq_nil_of_le (Nat.le_of_not_lt hlm)]; rfl)
        obtain rfl : r = 1 := RE.out
        clear HR
        go_wp2
        go_ret
        exact ⟨rfl, HB.out.alloc _⟩
    · obtain rfl : i = l.length := by omega
      have hlt' : ¬ (l.length : Int) < (l.length : Int) := by omega
      have RE := Aside0.mk (show r = if m.length = l.length then 0 else -1 by
        rw [HR.out, List.drop_eq_nil_of_le (Nat.le_refl _), orderS_nil, List.length_drop]
        by_cases hml : m.length = l.length
        · rw [if_pos hml, if_pos (by omega)]
        · rw [if_neg hml, if_neg (by omega)])
      clear HR
      by_cases hml : m.length = l.length
      · obtain rfl : r = 0 := by rw [RE.out, if_pos hml]
        have hd : decide ((l.length : Int) < (m.length : Int)) = false := decide_eq_false (by omega)
        clear RE
        go_wp2
        go_ret
        exact ⟨rfl, HB.out⟩
      · obtain rfl : r = -1 := by rw [RE.out, if_neg hml]
        have hd : decide ((l.length : Int) < (m.length : Int)) = true := decide_eq_true (by omega)
        clear RE
        go_wp2
        go_ret
        exact ⟨rfl, HB.out⟩
/-- What poly.order answers. -/
def poly_order.f (l0 l1 : List S70) : Option Int := some (orderS l0 l1)
set_option maxRecDepth 100000 in
set_option maxHeartbeats 8000000 in
theorem order_calls (A0 : Option Addr) (c0 : Nat) (l : List S70) (A1 : Option Addr) (c1 : Nat) (m : List S70) (W : World) (h0 : Kd.C k70 W A0 l.length l) (hc0 : l.length ≤ c0) (h1 : Kd.C k70 W A1 m.length m) (hc1 : m.length ≤ c1) :
    Calls Tryd.prog 69 #[.slice A0 l.length c0, .slice A1 m.length c1] W fun e W' => e = .returned (.int .i64 (orderS l m)) ∧ Grw W W' := by
  have H90 := Aside0.mk (comparef_calls A0 c0 l A1 c1 m W h0 hc0 h1 hc1)
  clear h0 hc0 h1 hc1
  go_enter Tryd.func69, Tryd.ntmps69
  go_wp2_with (first
    | (go_at_call 90; (with_reducible refine H90.out.mono ?_); rintro e w1 ⟨rfl, hb⟩; have HB := Aside0.mk hb; clear hb))
  go_ret
  exact ⟨rfl, HB.out⟩
theorem poly_order.calls (A0 : Option Addr) (c0 : Nat) (l0 : List S70) (A1 : Option Addr) (c1 : Nat) (l1 : List S70) (r : Int) (w : World) (hr0 : Kd.C k70 w A0 l0.length l0) (hc0 : l0.length ≤ c0) (hr1 : Kd.C k70 w A1 l1.length l1) (hc1 : l1.length ≤ c1) (h : poly_order.f l0 l1 = some r) :
    Calls Tryd.prog 69 #[.slice A0 l0.length c0, .slice A1 l1.length c1] w fun e w' => e = .returned (.int .i64 r) ∧ Below w.heap.size w w' := by
  obtain rfl := Option.some.inj h
  exact (order_calls A0 c0 l0 A1 c1 l1 w hr0 hc0 hr1 hc1).mono fun _ _ ⟨h1, h2⟩ => ⟨h1, h2.below⟩
end Go.Proofs.YtcafgpfecfocnaaDoor.P

/- Monomials as they lie in a row: a number and a slice's value; what their powers are. -/
namespace Go.Proofs.YtcafgpfecfocnaaDoor.P
open Go.RowKit Go.Maps Go.Proofs.YtcafgpfecfocnaaDoorW.PrintWords Go.Proofs.YtcafgpfecfocnaaDoorW.PrintLast Go.Proofs.YtcafgpfecfocnaaDoorW.PrintMore
set_option linter.unusedVariables false
set_option linter.unusedSimpArgs false

structure M2 where
  c : Int
  v : Value
def m2z : M2 := ⟨0, .slice none 0 0⟩
def kM2 : Kd M2 where
  sz := 2
  E := []
  K := fun _ x cs => cs = [.int .i64 x.c, x.v] ∧ x.v.oneCell' = true
  M := fun _ _ _ x cs => cs = [.int .i64 x.c, x.v] ∧ x.v.oneCell' = true
  K_len := fun h => by rw [h.1]; rfl
  K_one := fun h u hu => by
    rw [h.1] at hu
    rcases List.mem_cons.1 hu with rfl | hu
    · rfl
    · rcases List.mem_cons.1 hu with rfl | hu
      · exact h.2
      · cases hu
  K_below := fun _ h => h
  K_of_M := fun h => h
  M_mono := fun _ h => h
  M_bound := fun h => h
  M_move := fun _ h => h
  M_lower := fun _ h => h
/-- What a slice of powers reads as, as long as the blocks of ok stand. -/
def Pw (w : World) (ok : Nat → Prop) (v : Value) (l : List S70) : Prop := ∃ A c, v = .slice A l.length c ∧ l.length ≤ c ∧ Kd.F k70 w ok A l.length l
theorem Pw.one {w : World} {ok : Nat → Prop} {v : Value} {l : List S70} (h : Pw w ok v l) : v.oneCell' = true := by
  obtain ⟨A, c, rfl, _⟩ := h
  rfl
theorem Pw.below {w w' : World} {ok : Nat → Prop} {v : Value} {l : List S70} (h : Pw w ok v l) (hb : Below w.heap.size w w') : Pw w' ok v l := by
  obtain ⟨A, c, rfl, h1, h2⟩ := h
  exact ⟨A, c, rfl, h1, Kd.F_below h2 hb⟩
theorem Pw.step {w w' : World} {ok : Nat → Prop} {v : Value} {l : List S70} (h : Pw w ok v l) (hm : ∀ k, ok k → k < w.heap.size → w'.heap[k]? = w.heap[k]?) : Pw w' ok v l := by
  obtain ⟨A, c, rfl, h1, h2⟩ := h
  exact ⟨A, c, rfl, h1, Kd.F_step h2 hm⟩
theorem Pw.bound {w : World} {ok : Nat → Prop} {v : Value} {l : List S70} (h : Pw w ok v l) : Pw w (fun k => ok k ∧ k < w.heap.size) v l := by
  obtain ⟨A, c, rfl, h1, h2⟩ := h
  exact ⟨A, c, rfl, h1, Kd.F_bound h2⟩
theorem Pw.nil (w : World) (ok : Nat → Prop) : Pw w ok (.slice none 0 0) [] := ⟨none, 0, rfl, Nat.le_refl _, Kd.F_nil _ _ _⟩
/-- A monomial in its row. -/
def Mono (w : World) (ok : Nat → Prop) (x : M2) (m : S68) : Prop := x.c = m.f0 ∧ Pw w ok x.v m.f1
def Mons (w : World) (ok : Nat → Prop) (xs : List M2) (l : List S68) : Prop := xs.length = l.length ∧ ∀ (i : Nat) x m, xs[i]? = some x → l[i]? = some m → Mono w ok x m
theorem Mons.append {w : World} {ok : Nat → Prop} {xs ys : List M2} {l m : List S68} (h : Mons w ok xs l) (k : Mons w ok ys m) : Mons w ok (xs ++ ys) (l ++ m) := by
  refine ⟨by rw [List.length_append, List.length_append, h.1, k.1], fun i x m' h1 h2 => ?_⟩
  rcases Nat.lt_or_ge i xs.length with hi | hi
  · rw [List.getElem?_append_left hi] at h1
    rw [List.getElem?_append_left (by rw [← h.1]; exact hi)] at h2
    exact h.2 i x m' h1 h2
  · rw [List.getElem?_append_right hi] at h1
    rw [List.getElem?_append_right (by rw [← h.1]; exact hi), ← h.1] at h2
    exact k.2 _ x m' h1 h2
theorem pick_list {α : Type} {P : Nat → α → Prop} : ∀ n, (∀ i, i < n → ∃ x, P i x) → ∃ xs : List α, xs.length = n ∧ ∀ (i : Nat) x, xs[i]? = some x → P i x := by
  intro n
  induction n with
  | zero => exact fun _ => ⟨[], rfl, fun i x h => by simp at h⟩
  | succ n ih =>
    intro h
    obtain ⟨xs, hl, hx⟩ := ih (fun i hi => h i (by omega))
    obtain ⟨x, hp⟩ := h n (by omega)
    refine ⟨xs ++ [x], by simp [hl], fun i y hy => ?_⟩
    rcases Nat.lt_or_ge i xs.length with hi | hi
    · rw [List.getElem?_append_left hi] at hy
      exact hx i y hy
    · rw [List.getElem?_append_right hi] at hy
      have h0 : i - xs.length = 0 := by
        rcases Nat.eq_zero_or_pos (i - xs.length) with h0 | h0
        · exact h0
        · rw [List.getElem?_eq_none (by simp only [List.length_singleton]; omega)] at hy; cases hy
      rw [h0] at hy
      obtain rfl : x = y := by simpa using hy
      obtain rfl : i = n := by omega
      exact hp
/-- A polynomial that is read, told in raw monomials. -/
theorem raw_of_F {w : World} {ok : Nat → Prop} {A : Option Addr} {l : List S68} (h : Kd.F k68 w ok A l.length l) : ∃ xs : List M2, Kd.C kM2 w A l.length xs ∧ Mons w ok xs l := by
  have hn := Kd.F_now h
  have key : ∀ i : Nat, i < l.length → ∃ x : M2, Mono w ok x (l.getD i z68) ∧ ∃ ad, A = some ad ∧ w.cell? (ad.add (i * 2)) = some (.int .i64 x.c) ∧ w.cell? (ad.add (i * 2 + 1)) = some x.v := by
    intro i hi
    obtain ⟨ad, cs, e, hl, hK, hc, _⟩ := Kd.F_get h z68 (i : Int) (by omega) (by omega)
    rw [Int.toNat_natCast] at hK hc
    obtain ⟨A1, c1, rfl, h1, h2⟩ := k68_openF hK
    exact ⟨⟨(l.getD i z68).f0, .slice A1 (l.getD i z68).f1.length c1⟩, ⟨rfl, A1, c1, rfl, h1, h2⟩, ad, e, hc 0 _ rfl, hc 1 _ rfl⟩
  obtain ⟨xs, hl, hx⟩ := pick_list l.length key
  refine ⟨xs, ⟨hl, hn.2.1, fun hp => ?_⟩, hl, fun i x m h1 h2 => ?_⟩
  · obtain ⟨ad, e, _⟩ := hn.2.2 hp
    refine ⟨ad, e, fun j p hj => ?_⟩
    obtain ⟨hm, ad', e', c0, c1⟩ := hx j p hj
    obtain rfl : ad' = ad := by rw [e] at e'; exact (Option.some.inj e').symm
    refine ⟨[.int .i64 p.c, p.v], rfl, ⟨rfl, hm.2.one⟩, fun q u hu => ?_⟩
    match q, hu with
    | 0, hu => obtain rfl := Option.some.inj hu; exact c0
    | 1, hu => obtain rfl := Option.some.inj hu; exact c1
    | q + 2, hu => simp at hu
  · have h3 := (hx i x h1).1
    rwa [List.getD_eq_getElem?_getD, h2] at h3
/-- Raw monomials in a row, told as a polynomial. -/
theorem C_of_raw {w : World} {ok : Nat → Prop} {A : Option Addr} {xs : List M2} {l : List S68} (h : Kd.C kM2 w A l.length xs) (hm : Mons w ok xs l) : Kd.C k68 w A l.length l := by
  refine ⟨rfl, h.2.1, fun hp => ?_⟩
  obtain ⟨ad, e, hc⟩ := h.2.2 hp
  refine ⟨ad, e, fun j m hj => ?_⟩
  have hjl : j < xs.length := by rw [hm.1]; exact (List.getElem?_eq_some_iff.1 hj).1
  obtain ⟨c, hl, hK, hcell⟩ := hc j _ (List.getElem?_eq_getElem hjl)
  have hM := hm.2 j _ m (List.getElem?_eq_getElem hjl) hj
  refine ⟨c, hl, ?_, hcell⟩
  obtain ⟨h1, A1, c1, h2, h3, h4⟩ := hM
  rw [hK.1, h1, h2]
  exact k68_mk w m h3 (Kd.F_now h4)
theorem F_of_raw {w : World} {ok ok1 : Nat → Prop} {A : Option Addr} {xs : List M2} {l : List S68} (h : Kd.F kM2 w ok1 A l.length xs) (hm : Mons w ok xs l) : Kd.F k68 w (fun k => ok k ∨ ok1 k) A l.length l := fun W' hW =>
  C_of_raw (ok := ok) (h W' (fun k hk hlt => hW k (.inr hk) hlt)) ⟨hm.1, fun i x m h1 h2 => ⟨(hm.2 i x m h1 h2).1, (hm.2 i x m h1 h2).2.step (fun k hk hlt => hW k (.inl hk) hlt)⟩⟩
end Go.Proofs.YtcafgpfecfocnaaDoor.P

/- slices.IndexFunc and slices.ContainsFunc over powers; the closures of (sum).result and Eval. Written by gen_clos2.py. -/
namespace Go.Proofs.YtcafgpfecfocnaaDoor.P
open Go.RowKit Go.Maps Go.Proofs.YtcafgpfecfocnaaDoorW.PrintWords Go.Proofs.YtcafgpfecfocnaaDoorW.PrintLast Go.Proofs.YtcafgpfecfocnaaDoorW.PrintMore
set_option linter.unusedVariables false
set_option linter.unusedSimpArgs false

def valP (x : S70) : Value := .agg #[.int .i64 x.f0, .int .i64 x.f1]
theorem any_of_atP (p : S70 → Bool) (xs : List S70) (k : Nat) (hk : k < xs.length) (h : p (rd_T70 xs k) = true) : xs.any p = true := by
  rw [List.any_eq_true]
  refine ⟨rd_T70 xs k, ?_, h⟩
  unfold rd_T70
  rw [Int.toNat_natCast, List.getD_eq_getElem?_getD, List.getElem?_eq_getElem hk]
  exact List.getElem_mem hk
theorem none_of_allP (p : S70 → Bool) (xs : List S70) (h : ∀ j : Nat, j < xs.length → p (rd_T70 xs j) = false) : xs.any p = false := by
  rw [List.any_eq_false]
  intro x hx
  obtain ⟨j, hj, rfl⟩ := List.getElem_of_mem hx
  have := h j hj
  unfold rd_T70 at this
  rw [Int.toNat_natCast, List.getD_eq_getElem?_getD, List.getElem?_eq_getElem hj] at this
  simpa using this
theorem rdP_mem (xs : List S70) (k : Nat) (hk : k < xs.length) : rd_T70 xs k ∈ xs := by
  unfold rd_T70
  rw [Int.toNat_natCast, List.getD_eq_getElem?_getD, List.getElem?_eq_getElem hk]
  exact List.getElem_mem hk

set_option maxHeartbeats 2000000 in
theorem indexFuncP (g : Nat) (lb : Array Value) (eg : ∀ args w, (callFunc g args).run Tryd.prog w = .ok (.enter g args) w) (p : S70 → Bool) (A : Option Addr) (c : Nat) (xs : List S70) (w : World)
    (hr : Kd.C k70 w A xs.length xs) (hp : Gives g lb valP p xs w) :
    Calls Tryd.prog 102 #[.slice A xs.length c, .func (.func g) #[] lb] w fun e w' => (∃ i : Int, e = .returned (.int .i64 i) ∧ decide (0 ≤ i) = xs.any p) ∧ Below w.heap.size w w' := by
  have HR := Aside0.mk hr
  have HP := Aside0.mk hp
  have hbig : xs.length ≤ 9223372036854775807 := hr.2.1
  clear hr hp
  go_enter Tryd.func102, Tryd.ntmps102
  go_wp2
  go_loopg [5, 8] xs.length (fun gg _ s8 wr => ∃ k : Nat, k ≤ xs.length ∧ xs.length - k ≤ gg ∧ s8 = .int .i64 k ∧ Aside0 (Below w.heap.size w wr) ∧ Aside0 (∀ j : Nat, j < k → p (rd_T70 xs j) = false))
  case atStart => exact ⟨0, Nat.zero_le _, by omega, rfl, ⟨Below.refl _ _⟩, ⟨fun j hj => absurd hj (Nat.not_lt_zero _)⟩⟩
  case round =>
    obtain ⟨k, hk, hg, rfl, HB, HA⟩ := hrel
    by_cases hlt : k < xs.length
    · have hlt' : (k : Int) < (xs.length : Int) := by omega
      obtain ⟨ad, e, hx, hx1⟩ := at_T70 (Kd.C_below HR.out HB.out) k (by omega) hlt'
      cases e
      rw [Int.toNat_natCast] at hx hx1
      have hm := rdP_mem xs k hlt
      generalize hy : rd_T70 xs k = y at hx hx1 hm
      have HY := Aside0.mk hy
      clear hy
      have hcall := HP.out wr y hm HB.out
      cases hq : p y with
      | true =>
        rw [hq] at hcall
        have HQ := Aside0.mk hq
        clear hq
        go_wp2_with (go_at_fn g; refine hcall.mono ?_; rintro e w' ⟨rfl, hb⟩)
        go_ret
        refine ⟨⟨_, rfl, ?_⟩, HB.out.trans (hb.mono HB.out.size)⟩
        rw [any_of_atP p xs k hlt (by rw [HY.out]; exact HQ.out)]
        simp
      | false =>
        rw [hq] at hcall
        have HQ := Aside0.mk hq
        clear hq
        go_wp2_with (go_at_fn g; refine hcall.mono ?_; rintro e w' ⟨rfl, hb⟩)
        have HB2 := Aside0.mk (HB.out.trans (hb.mono HB.out.size))
        go_roundg (xs.length - (k + 1))
        case measure => omega
        case rel =>
          refine ⟨k + 1, by omega, by omega, by go_num, HB2, ⟨fun j hj => ?_⟩⟩
          by_cases e : j = k
          · subst e
            rw [HY.out]; exact HQ.out
          · exact HA.out j (by omega)
    · have hlt' : ¬ (k : Int) < (xs.length : Int) := by omega
      obtain rfl : k = xs.length := by omega
      go_wp2
      go_ret
      refine ⟨⟨_, rfl, ?_⟩, HB.out⟩
      rw [none_of_allP p xs HA.out]
      simp

set_option maxHeartbeats 2000000 in
theorem containsFuncP (g : Nat) (lb : Array Value) (eg : ∀ args w, (callFunc g args).run Tryd.prog w = .ok (.enter g args) w) (p : S70 → Bool) (A : Option Addr) (c : Nat) (xs : List S70) (w : World)
    (hr : Kd.C k70 w A xs.length xs) (hp : Gives g lb valP p xs w) :
    Calls Tryd.prog 85 #[.slice A xs.length c, .func (.func g) #[] lb] w fun e w' => e = .returned (.bool (xs.any p)) ∧ Below w.heap.size w w' := by
  have h75 := indexFuncP g lb eg p A c xs w hr hp
  have H75 := Aside0.mk h75
  clear h75 hr hp
  go_enter Tryd.func85, Tryd.ntmps85
  go_wp2_with (go_at_call 102; refine H75.out.mono ?_; rintro e w' ⟨⟨i, rfl, hi⟩, hb⟩; have HI := Aside0.mk hi; have HB := Aside0.mk hb; clear hi hb)
  go_ret
  exact ⟨by rw [← HI.out]; rfl, HB.out⟩

theorem eg86 : ∀ args w, (callFunc 86 args).run Tryd.prog w = .ok (.enter 86 args) w := enters_of Tryd.func86 (by kernel_rfl) rfl
theorem eg67 : ∀ args w, (callFunc 67 args).run Tryd.prog w = .ok (.enter 67 args) w := enters_of Tryd.func67 (by kernel_rfl) rfl
/-- An exponent is too high. -/
def tooHigh (x : S70) : Bool := decide (100 < x.f1)
set_option maxHeartbeats 2000000 in
theorem clos86 (x : S70) (W : World) : Calls Tryd.prog 86 #[valP x] W fun e W' => e = .returned (.bool (tooHigh x)) ∧ Below W.heap.size W W' := by
  unfold valP tooHigh
  by_cases h : 100 < x.f1
  · rw [decide_eq_true h]
    go_enter Tryd.func86, Tryd.ntmps86
    go_wp2
    go_ret
    exact ⟨by simp [h], below_alloc (Below.refl _ _) _⟩
  · rw [decide_eq_false h]
    go_enter Tryd.func86, Tryd.ntmps86
    go_wp2
    go_ret
    exact ⟨by simp [h], below_alloc (Below.refl _ _) _⟩
theorem gives86 (xs : List S70) (w : World) : Gives 86 #[] valP tooHigh xs w := fun W x _ _ => clos86 x W
/-- A value is out of range. -/
def outVal (v : Int) : Bool := decide (v < 0) || decide (1000000000 < v)
set_option maxHeartbeats 2000000 in
theorem clos67 (v : Int) (W : World) : Calls Tryd.prog 67 #[.int .i64 v] W fun e W' => e = .returned (.bool (outVal v)) ∧ Below W.heap.size W W' := by
  unfold outVal
  by_cases h : v < 0
  · rw [decide_eq_true h]
    go_enter Tryd.func67, Tryd.ntmps67
    go_wp2
    go_ret
    exact ⟨by simp [h], Below.refl _ _⟩
  · rw [decide_eq_false h]
    go_enter Tryd.func67, Tryd.ntmps67
    go_wp2
    go_ret
    exact ⟨by simp [h], Below.refl _ _⟩
theorem gives67 (xs : List Int) (w : World) : Gives 67 #[] (Value.int .i64) outVal xs w := fun W x _ _ => clos67 x W
end Go.Proofs.YtcafgpfecfocnaaDoor.P

/- A map from texts to raw monomials, and (sum).put. -/
namespace Go.Proofs.YtcafgpfecfocnaaDoor.P
open Go.RowKit Go.Maps Go.Proofs.YtcafgpfecfocnaaDoorW.PrintWords Go.Proofs.YtcafgpfecfocnaaDoorW.PrintLast Go.Proofs.YtcafgpfecfocnaaDoorW.PrintMore
set_option linter.unusedVariables false
set_option linter.unusedSimpArgs false

def mkM (x : M2) : Value := .agg #[.int .i64 x.c, x.v]
open Classical in
noncomputable def readM (v : Value) : Option (DataW Value × List MemPlace) := if ∃ x : M2, v = mkM x ∧ x.v.oneCell' = true then some (.held v, []) else none
theorem readM_mk {x : M2} (h : x.v.oneCell' = true) : readM (mkM x) = some (.held (mkM x), []) := by unfold readM; rw [if_pos ⟨x, rfl, h⟩]
theorem readM_inv {v : Value} {y : DataW Value × List MemPlace} (h : readM v = some y) : ∃ x : M2, v = mkM x ∧ x.v.oneCell' = true ∧ y = (.held v, []) := by
  unfold readM at h
  split at h
  · rename_i hx
    obtain ⟨x, e, h1⟩ := hx
    exact ⟨x, e, h1, (Option.some.inj h).symm⟩
  · cases h
theorem mkM_inj {x y : M2} (h : mkM x = mkM y) : x = y := by
  obtain ⟨a, b⟩ := x
  obtain ⟨c, d⟩ := y
  simp [mkM] at h
  rw [h.1, h.2]
/-- Block b of w is a map of at most n entries: at the text s stands g s. -/
def MapM (w : World) (b n : Nat) (g : List UInt8 → Option M2) : Prop :=
  ∃ D, w.ownsMap Tryd.prog 9 readM b n D ∧ (∀ s, has D (.string s) = (g s).isSome) ∧ (∀ s z, D.atKey (.string s) z = ((g s).map fun x => DataW.held (mkM x)).getD z) ∧ ∀ s x, g s = some x → x.v.oneCell' = true
theorem MapM.made (w : World) : MapM (w.alloc (.map #[] 0)) w.heap.size 0 (fun _ => none) :=
  ⟨_, World.ownsMap_made w Tryd.prog 9 readM, fun _ => rfl, fun _ _ => rfl, fun _ _ h => by cases h⟩
section
variable {w w' : World} {b n : Nat} {g : List UInt8 → Option M2}
theorem MapM.lt (h : MapM w b n g) : b < w.heap.size := by
  obtain ⟨D, h1, _⟩ := h
  exact h1.lt
theorem MapM.grown (h : MapM w b n g) {row : Option Nat} (hg : w.grownBy w' row) (hne : some b ≠ row) : MapM w' b n g := by
  obtain ⟨D, h1, h2⟩ := h
  exact ⟨D, h1.kept hg hne, h2⟩
theorem MapM.below (h : MapM w b n g) (hb : Below w.heap.size w w') : MapM w' b n g := h.grown (grown_of_below hb none) (by simp)
theorem MapM.alloc (h : MapM w b n g) (o : Obj) : MapM (w.alloc o) b n g := by
  obtain ⟨D, h1, h2⟩ := h
  exact ⟨D, h1.alloc o, h2⟩
theorem MapM.setCell (h : MapM w b n g) {a : Addr} (ha : b ≠ a.block) (u : Value) : MapM (w.setCell a u) b n g := by
  obtain ⟨D, h1, h2⟩ := h
  exact ⟨D, h1.setCell ha u, h2⟩
end
open Classical in
noncomputable def updM (g : List UInt8 → Option M2) (s : List UInt8) (x : M2) : List UInt8 → Option M2 := fun t => if t = s then some x else g t
theorem keyS {s : ByteArray} (hs : s.size ≤ maxLen) : keyOf Tryd.prog 9 (.string s) = some (.string s.data.toList) := Go.WideMaps.keyOf_string_mk Tryd.underlying9 hs
theorem K9 : Keyed Tryd.prog 9 := string_keyed Tryd.underlying9
def atM (g : List UInt8 → Option M2) (s : List UInt8) : M2 := (g s).getD m2z
section
variable {w : World} {ops : Array Oper} {rest : List Oper} {o : Oper} {a : Act} {Q : Exit → Act → World → Prop}
/-- 's[k]'. -/
theorem MapM.wp_lookup (hg : o.guard = none) (m x : Operand) (hop : o.op = Op.lookup 90 m x false) (b n : Nat) (g : List UInt8 → Option M2) (hm : a.eval m = .map (some b)) (h : MapM w b n g) (s : ByteArray) (hx : a.eval x = .string s) (hs : s.size ≤ maxLen)
    (hK : wpList Tryd.prog ops Q rest (a.put o.dst (.agg #[.int .i64 (atM g s.data.toList).c, (atM g s.data.toList).v])) w) : wpList Tryd.prog ops Q (o :: rest) a w := by
  obtain ⟨D, h1, h2, h3, h4⟩ := h
  refine wpList_plain hg fun K' hK' => ?_
  obtain ⟨v, ps, hrun, hv⟩ := h1.lookup K9 Tryd.underlying90 (Tryd.zeroValue68 w) (show readM (mkM m2z) = some (.held (mkM m2z), []) from readM_mk rfl) (keyS hs)
  have hv2 : v = mkM (atM g s.data.toList) := by
    rw [h3] at hv
    obtain ⟨y, rfl, hy, e⟩ := readM_inv hv
    cases hgs : g s.data.toList with
    | none =>
      rw [hgs] at e
      simp only [Option.map_none, Option.getD_none, Prod.mk.injEq, DataW.held.injEq] at e
      rw [← e.1]; simp [atM, hgs]
    | some z =>
      rw [hgs] at e
      simp only [Option.map_some, Option.getD_some, Prod.mk.injEq, DataW.held.injEq] at e
      rw [← e.1]; simp [atM, hgs]
  subst hv2
  unfold Oper.wp
  simp [execOp, hop, hm, hx, hrun, Result.andThen]
  exact hK' _ _ hK
/-- 's[k] = m'. -/
theorem MapM.wp_update (hg : o.guard = none) (m x v : Operand) (hop : o.op = Op.mapUpdate 90 m x v) (b n : Nat) (g : List UInt8 → Option M2) (hm : a.eval m = .map (some b)) (h : MapM w b n g) (hn : n < maxLen) (s : ByteArray) (hx : a.eval x = .string s) (hs : s.size ≤ maxLen) (y : M2) (hv : a.eval v = mkM y) (hy : y.v.oneCell' = true)
    (hK : ∀ w', MapM w' b (n + 1) (updM g s.data.toList y) → w.grownBy w' (some b) → wpList Tryd.prog ops Q rest (a.put o.dst undef) w') : wpList Tryd.prog ops Q (o :: rest) a w := by
  obtain ⟨D, h1, h2, h3, h4⟩ := h
  refine wpList_mapUpdate_own w hg m x v 90 hop 9 68 K9 Tryd.underlying90 readM b n D hm h1 hn (.string s) (mkM y) (.string s.data.toList) hx hv (keyS hs) (.held (mkM y)) [] (readM_mk hy) fun w' hw hg' => hK w' ⟨_, hw, fun t => ?_, fun t z => ?_, fun t z hz => ?_⟩ hg'
  · unfold updM
    by_cases e : t = s.data.toList
    · rw [if_pos e, e, has_put_same h1.isMap (K9.key (keyS hs))]; rfl
    · rw [if_neg e, has_put_other (fun h => e (by injection h)), h2]
  · unfold updM
    by_cases e : t = s.data.toList
    · rw [if_pos e, e, atKey_put_same h1.isMap (K9.key (keyS hs))]; rfl
    · rw [if_neg e, atKey_put_other (fun h => e (by injection h)), h3]
  · unfold updM at hz
    by_cases e : t = s.data.toList
    · rw [if_pos e] at hz
      obtain rfl := Option.some.inj hz
      exact hy
    · rw [if_neg e] at hz
      exact h4 t z hz
end
theorem eg61 : ∀ args w, (callFunc 61 args).run Tryd.prog w = .ok (.enter 61 args) w := enters_of Tryd.func61 (by kernel_rfl) rfl
/-- The text of powers is told in every world behind W. -/
def Tells (W : World) (v : Value) (key : ByteArray) : Prop := ∀ W', Below W.heap.size W W' → Calls Tryd.prog 71 #[v] W' fun e w' => e = .returned (.string key) ∧ Below W'.heap.size W' w'
set_option maxRecDepth 100000 in
set_option maxHeartbeats 4000000 in
/-- (sum).put. -/
theorem put_calls (b n : Nat) (g : List UInt8 → Option M2) (c : Int) (A : Option Addr) (m cp : Nat) (key : ByteArray) (W : World) (hM : MapM W b n g) (hn : n < maxLen) (hks : key.size ≤ maxLen) (hc0 : 0 ≤ c) (hc1 : c ≤ 1000000001) (hd0 : 0 ≤ (atM g key.data.toList).c) (hd1 : (atM g key.data.toList).c ≤ 1000000001) (hfac : Tells W (.slice A m cp) key) :
    Calls Tryd.prog 61 #[.map (some b), .agg #[.int .i64 c, .slice A m cp]] W fun e w' => e = .returned (.tuple #[]) ∧ MapM w' b (n + 1) (updM g key.data.toList ⟨min (c + (atM g key.data.toList).c) 1000000001, .slice A m cp⟩) ∧ W.grownBy w' (some b) := by
  have HM := Aside0.mk hM
  have HF := Aside0.mk hfac
  have HKS := Aside0.mk hks
  have hlt := hM.lt
  have HLT := Aside0.mk hlt
  obtain ⟨y, hy⟩ : ∃ y, y = atM g key.data.toList := ⟨_, rfl⟩
  rw [← hy] at hd0 hd1 ⊢
  obtain ⟨yc, yv⟩ := y
  have HY := Aside0.mk hy
  simp only at hd0 hd1
  clear hM hfac hks hy hlt
  have hfd : ∀ w, (Instr.field 68 (.agg #[.int .i64 yc, yv]) 0).run Tryd.prog w = .ok (.int .i64 yc) w := fun w => by kernel_rfl
  have HBB := Aside0.mk (Below.refl W.heap.size W)
  obtain ⟨r, hr⟩ : ∃ r, r = min (c + yc) 1000000001 := ⟨_, rfl⟩
  rw [← hr]
  have HRR := Aside0.mk hr
  by_cases hle : c + yc ≤ 1000000001
  · obtain rfl : r = c + yc := by omega
    clear hr
    go_enter Tryd.func61, Tryd.ntmps61
    go_wp2_with (first
      | (go_at_call 71; (refine (HF.out _ (below_alloc (Below.refl _ _) _)).mono ?_); rintro e w1 ⟨rfl, hb⟩; have HB := Aside0.mk hb; have HM1 := Aside0.mk ((HM.out.alloc _).below hb); have hblk := (hb.block W.heap.size (by simp)).trans (heap_alloc_new W _); have hz := blk_lt hblk; have c0 := (blk_cell hblk 0).trans rfl; have c1 := (blk_cell hblk 1).trans rfl; have f0 := blk_frozen hblk 0; have HBLK := Aside0.mk hblk; clear hb hblk)
      | (at_lookup; refine MapM.wp_lookup rfl (.tmp 10) (.tmp 11) rfl b n g rfl HM1.out key rfl HKS.out ?_; rw [← HY.out])
      | (at_mapUpdate; refine MapM.wp_update rfl (.tmp 17) (.tmp 18) (.tmp 19) rfl b n g rfl (MapM.setCell (a := ⟨W.heap.size, 0, none⟩) HM1.out (Nat.ne_of_lt HLT.out) _) hn key rfl HKS.out ⟨c + yc, .slice A m cp⟩ (by first | rfl | (rw [show min (c + yc) 1000000001 = c + yc by omega]; rfl)) rfl ?_; intro w3 hm hg; have HM3 := Aside0.mk hm; have HG3 := Aside0.mk hg; clear hm hg))
    go_end0
    exact ⟨rfl, HM3.out, (grown_of_below (Below.setCell (p := ⟨W.heap.size, 0, none⟩) (below_then (below_alloc (Below.refl _ _) _) (by simp) HB.out) (Nat.le_refl _) _) (some b)).andThen HG3.out (fun j hj => .inr hj)⟩
  · obtain rfl : r = 1000000001 := by omega
    clear hr
    go_enter Tryd.func61, Tryd.ntmps61
    go_wp2_with (first
      | (go_at_call 71; (refine (HF.out _ (below_alloc (Below.refl _ _) _)).mono ?_); rintro e w1 ⟨rfl, hb⟩; have HB := Aside0.mk hb; have HM1 := Aside0.mk ((HM.out.alloc _).below hb); have hblk := (hb.block W.heap.size (by simp)).trans (heap_alloc_new W _); have hz := blk_lt hblk; have c0 := (blk_cell hblk 0).trans rfl; have c1 := (blk_cell hblk 1).trans rfl; have f0 := blk_frozen hblk 0; have HBLK := Aside0.mk hblk; clear hb hblk)
      | (at_lookup; refine MapM.wp_lookup rfl (.tmp 10) (.tmp 11) rfl b n g rfl HM1.out key rfl HKS.out ?_; rw [← HY.out])
      | (at_mapUpdate; refine MapM.wp_update rfl (.tmp 17) (.tmp 18) (.tmp 19) rfl b n g rfl (MapM.setCell (a := ⟨W.heap.size, 0, none⟩) HM1.out (Nat.ne_of_lt HLT.out) _) hn key rfl HKS.out ⟨1000000001, .slice A m cp⟩ (by first | rfl | (rw [show min (c + yc) 1000000001 = 1000000001 by omega]; rfl)) rfl ?_; intro w3 hm hg; have HM3 := Aside0.mk hm; have HG3 := Aside0.mk hg; clear hm hg))
    go_end0
    exact ⟨rfl, HM3.out, (grown_of_below (Below.setCell (p := ⟨W.heap.size, 0, none⟩) (below_then (below_alloc (Below.refl _ _) _) (by simp) HB.out) (Nat.le_refl _) _) (some b)).andThen HG3.out (fun j hj => .inr hj)⟩
end Go.Proofs.YtcafgpfecfocnaaDoor.P

/-
  DERIVED: THE SHELF's CONTRACTS AT THIS DUMP, IN PLAIN WORDS (tools/lay-plain.mjs out of 'YtcafgpfecfocnaaDoorShA.lean', which tools/lay-shelf.mjs wrote): THE SAME DECLARATIONS UNDER THE SAME NAMES: 'import', 'namespace', 'open', 'def', 'theorem' AND NOTHING ELSE: no command of the shelf's: FOR A HAND-IN. Each laying: the table of numbers ('.._ren') and one theorem, a field a fact of the dump's own or the kernel's comparison; each contract: ONE APPLICATION.
-/
namespace Go.Proofs
open Go.Shelf
end Go.Proofs

/-
  DERIVED: THE SHELF's CONTRACTS AT THIS DUMP, IN PLAIN WORDS (tools/lay-plain.mjs out of 'YtcafgpfecfocnaaDoorShB.lean', which tools/lay-shelf.mjs wrote): THE SAME DECLARATIONS UNDER THE SAME NAMES: 'import', 'namespace', 'open', 'def', 'theorem' AND NOTHING ELSE: no command of the shelf's: FOR A HAND-IN. Each laying: the table of numbers ('.._ren') and one theorem, a field a fact of the dump's own or the kernel's comparison; each contract: ONE APPLICATION.
-/
namespace Go.Proofs
open Go.Shelf
def Tryd.lays156_ren : Go.Shelf.Ren := ⟨fun | 156 => 73 | 165 => 95 | 166 => 96 | 169 => 97 | 240 => 108 | 241 => 109 | 276 => 125 | 277 => 126 | n => n, fun | 31 => 99 | 9 => 9 | 3 => 3 | 4 => 4 | 0 => 0 | 20 => 20 | 72 => 123 | 76 => 126 | 70 => 120 | 37 => 121 | 75 => 125 | 127 => 137 | 164 => 153 | 5 => 5 | 80 => 128 | n => n, fun | n => n⟩
theorem Tryd.lays156 : Go.Proofs.Lays.n156 Tryd.prog Tryd.lays156_ren := {
  mixed := by kernel_rfl
  f156 := Tryd.func73.trans (congrArg some (by kernel_rfl))
  f165 := Tryd.func95.trans (congrArg some (by kernel_rfl))
  f166 := Tryd.func96.trans (congrArg some (by kernel_rfl))
  f169 := Tryd.func97.trans (congrArg some (by kernel_rfl))
  f240 := Tryd.func108.trans (congrArg some (by kernel_rfl))
  f241 := Tryd.func109.trans (congrArg some (by kernel_rfl))
  f276 := Tryd.func125.trans (congrArg some (by kernel_rfl))
  f277 := Tryd.func126.trans (congrArg some (by kernel_rfl))
  t0 := Tryd.underlying0
  a0 := Tryd.isAgg0
  z0 := Tryd.sizeOf0
  v0 := Tryd.zeroValue0
  t3 := Tryd.underlying3
  a3 := Tryd.isAgg3
  z3 := Tryd.sizeOf3
  v3 := Tryd.zeroValue3
  t4 := Tryd.underlying4
  a4 := Tryd.isAgg4
  z4 := Tryd.sizeOf4
  v4 := Tryd.zeroValue4
  t9 := Tryd.underlying9
  a9 := Tryd.isAgg9
  z9 := Tryd.sizeOf9
  v9 := Tryd.zeroValue9
  t20 := Tryd.underlying20
  a20 := Tryd.isAgg20
  z20 := Tryd.sizeOf20
  v20 := Tryd.zeroValue20
  t31 := Tryd.underlying99
  a31 := Tryd.isAgg99
  z31 := Tryd.sizeOf99
  v31 := Tryd.zeroValue99
  t37 := Tryd.underlying121
  a37 := Tryd.isAgg121
  z37 := Tryd.sizeOf121
  v37 := Tryd.zeroValue121
  t70 := Tryd.underlying120
  a70 := Tryd.isAgg120
  z70 := Tryd.sizeOf120
  v70 := Tryd.zeroValue120
  t72 := Tryd.underlying123
  a72 := Tryd.isAgg123
  z72 := Tryd.sizeOf123
  v72 := Tryd.zeroValue123
  t75 := Tryd.underlying125
  a75 := Tryd.isAgg125
  z75 := Tryd.sizeOf125
  v75 := Tryd.zeroValue125
  t76 := Tryd.underlying126
  a76 := Tryd.isAgg126
  z76 := Tryd.sizeOf126
  v76 := Tryd.zeroValue126
  t127 := Tryd.underlying137
  a127 := Tryd.isAgg137
  z127 := Tryd.sizeOf137
  v127 := Tryd.zeroValue137
  t164 := Tryd.underlying153
  a164 := Tryd.isAgg153
  z164 := Tryd.sizeOf153
  v164 := Tryd.zeroValue153 }
theorem Tryd.Builder_Extra_156 : Builder.Extra Tryd.prog Tryd.lays156_ren := {
  sizeBuilder := by kernel_rfl
  liesBuilder := by kernel_rfl
  t5 := Tryd.underlying5
  a5 := Tryd.isAgg5
  z5 := Tryd.sizeOf5
  v5 := Tryd.zeroValue5
  infoByte := by kernel_rfl
  cellsByte := by kernel_rfl
  sizeByte := by kernel_rfl
  neB5 := by decide }
open Go.RowKit in
/-- No element: the empty string; the world is as it was. (Whatever the slice's address and capacity: a nil slice too.) (LAID: no walk: one application.) -/
theorem Tryd.strings_Join_none (a : Option Addr) (c : Nat) (sep : ByteArray) (w : World) :
    Calls Tryd.prog 73 #[.slice a 0 c, .string sep] w fun e w' => e = .returned (.string ⟨#[]⟩) ∧ w' = w := Any.strings_Join_none Tryd.lays156 Tryd.Builder_Extra_156 a c sep w
open Go.RowKit in
/-- strings.Join: "Join concatenates the elements of its first argument to create a single string. The separator string sep is placed between elements in the resulting string.": HOWEVER MANY ELEMENTS. Below the heap's end the world is as it was. (LAID: no walk: one application.) -/
theorem Tryd.strings_Join (bk o c : Nat) (xs : List ByteArray) (sep : ByteArray) (w : World) (hcells : ∀ (j : Nat) x, xs[j]? = some x → w.cell? ⟨bk, o + j, none⟩ = some (.string x)) (hbk : bk < w.heap.size) (hN : xs.length ≤ 140737488355328) (hcap : xs.length ≤ c) (hlen : (Lib.join (xs.map (·.data.toList)) sep.data.toList).length ≤ 140737488355328) :
    Calls Tryd.prog 73 #[.slice (some ⟨bk, o, none⟩) xs.length c, .string sep] w fun e w' => e = .returned (.string ⟨(Lib.join (xs.map (·.data.toList)) sep.data.toList).toArray⟩) ∧ Below w.heap.size w w' := Any.strings_Join Tryd.lays156 Tryd.Builder_Extra_156 bk o c xs sep w hcells hbk hN hcap hlen
def Tryd.laysM171_ren : Go.Shelf.Ren := ⟨fun | 171 => 72 | 243 => 94 | 246 => 107 | 283 => 121 | 284 => 122 | 285 => 123 | 286 => 124 | 129 => 120 | 317 => 133 | 318 => 134 | 319 => 135 | 320 => 136 | 337 => 138 | 338 => 139 | n => n, fun | 3 => 3 | 9 => 9 | 2 => 2 | 4 => 4 | 171 => 149 | 0 => 0 | 53 => 148 | 37 => 121 | 5 => 5 | 173 => 151 | 212 => 165 | 51 => 146 | 20 => 20 | 213 => 166 | 46 => 133 | 232 => 170 | 233 => 171 | n => n, fun | 17 => 0 | 18 => 2 | 19 => 3 | n => n⟩
theorem Tryd.laysM171 : Go.Proofs.LaysM.n171 Tryd.prog Tryd.laysM171_ren := {
  mixed := by kernel_rfl
  f129 := Tryd.func120.trans (congrArg some (by kernel_rfl))
  f171 := Tryd.func72.trans (congrArg some (by kernel_rfl))
  f243 := Tryd.func94.trans (congrArg some (by kernel_rfl))
  f246 := Tryd.func107.trans (congrArg some (by kernel_rfl))
  f283 := Tryd.func121.trans (congrArg some (by kernel_rfl))
  f284 := Tryd.func122.trans (congrArg some (by kernel_rfl))
  f285 := Tryd.func123.trans (congrArg some (by kernel_rfl))
  f286 := Tryd.func124.trans (congrArg some (by kernel_rfl))
  f317 := Tryd.func133.trans (congrArg some (by kernel_rfl))
  f318 := Tryd.func134.trans (congrArg some (by kernel_rfl))
  f319 := Tryd.func135.trans (congrArg some (by kernel_rfl))
  f320 := Tryd.func136.trans (congrArg some (by kernel_rfl))
  f337 := Tryd.func138.trans (congrArg some (by kernel_rfl))
  f338 := Tryd.func139.trans (congrArg some (by kernel_rfl))
  t0 := Tryd.underlying0
  a0 := Tryd.isAgg0
  z0 := Tryd.sizeOf0
  v0 := Tryd.zeroValue0
  t2 := Tryd.underlying2
  a2 := Tryd.isAgg2
  z2 := Tryd.sizeOf2
  v2 := Tryd.zeroValue2
  t3 := Tryd.underlying3
  a3 := Tryd.isAgg3
  z3 := Tryd.sizeOf3
  v3 := Tryd.zeroValue3
  t4 := Tryd.underlying4
  a4 := Tryd.isAgg4
  z4 := Tryd.sizeOf4
  v4 := Tryd.zeroValue4
  t5 := Tryd.underlying5
  a5 := Tryd.isAgg5
  z5 := Tryd.sizeOf5
  v5 := Tryd.zeroValue5
  t9 := Tryd.underlying9
  a9 := Tryd.isAgg9
  z9 := Tryd.sizeOf9
  v9 := Tryd.zeroValue9
  t20 := Tryd.underlying20
  a20 := Tryd.isAgg20
  z20 := Tryd.sizeOf20
  v20 := Tryd.zeroValue20
  t37 := Tryd.underlying121
  a37 := Tryd.isAgg121
  z37 := Tryd.sizeOf121
  v37 := Tryd.zeroValue121
  t46 := Tryd.underlying133
  a46 := Tryd.isAgg133
  z46 := Tryd.sizeOf133
  v46 := Tryd.zeroValue133
  t51 := Tryd.underlying146
  a51 := Tryd.isAgg146
  z51 := Tryd.sizeOf146
  v51 := Tryd.zeroValue146
  t53 := Tryd.underlying148
  a53 := Tryd.isAgg148
  z53 := Tryd.sizeOf148
  v53 := Tryd.zeroValue148
  t171 := Tryd.underlying149
  a171 := Tryd.isAgg149
  z171 := Tryd.sizeOf149
  v171 := Tryd.zeroValue149
  t173 := Tryd.underlying151
  a173 := Tryd.isAgg151
  z173 := Tryd.sizeOf151
  v173 := Tryd.zeroValue151
  t212 := Tryd.underlying165
  a212 := Tryd.isAgg165
  z212 := Tryd.sizeOf165
  v212 := Tryd.zeroValue165
  t213 := Tryd.underlying166
  a213 := Tryd.isAgg166
  z213 := Tryd.sizeOf166
  t232 := Tryd.underlying170
  a232 := Tryd.isAgg170
  z232 := Tryd.sizeOf170
  v232 := Tryd.zeroValue170
  t233 := Tryd.underlying171
  a233 := Tryd.isAgg171
  z233 := Tryd.sizeOf171
  v233 := Tryd.zeroValue171
  g17 := by kernel_rfl
  g18 := by kernel_rfl
  g19 := by kernel_rfl
  i0 := by kernel_rfl
  i2 := by kernel_rfl
  i3 := by kernel_rfl
  i4 := by kernel_rfl
  i5 := by kernel_rfl
  i9 := by kernel_rfl
  i20 := by kernel_rfl
  i37 := by kernel_rfl
  i46 := by kernel_rfl
  i51 := by kernel_rfl
  i53 := by kernel_rfl
  i171 := by kernel_rfl
  i173 := by kernel_rfl
  i212 := by kernel_rfl
  i232 := by kernel_rfl
  i233 := by kernel_rfl
  m17 := by kernel_rfl
  m18 := by kernel_rfl
  m19 := by kernel_rfl }
open Go.RowKit Go.Sort Go.Lib in
/-- strconv.Itoa: "Itoa is equivalent to FormatInt(int64(i), 10).": i's DECIMAL NUMERAL ('Lib.itoa': a '-' where i is negative, then the digits), FOR EVERY int. The world behind the call: the world before it, new blocks behind the heap (the library's 'var a [24]byte'), draws. (LAID: no walk: one application.) -/
theorem Tryd.strconv_Itoa (n : Int) (h0 : -9223372036854775808 ≤ n) (h1 : n ≤ 9223372036854775807) (w : World) (htab : Lib.TabIs Tryd.prog w "internal/strconv.uint64pow10" .u64 Lib.pow10Tab) :
    Calls Tryd.prog 72 #[.int .i64 n] w fun e w' => e = .returned (.string ⟨(Lib.itoa n).toArray⟩) ∧ ∃ k os, w' = grow (w.drewN k) os := Any.strconv_Itoa Tryd.laysM171 n h0 h1 w htab
end Go.Proofs

/-
  DERIVED: THE SHELF's CONTRACTS AT THIS DUMP, IN PLAIN WORDS (tools/lay-plain.mjs out of 'YtcafgpfecfocnaaDoorShC.lean', which tools/lay-shelf.mjs wrote): THE SAME DECLARATIONS UNDER THE SAME NAMES: 'import', 'namespace', 'open', 'def', 'theorem' AND NOTHING ELSE: no command of the shelf's: FOR A HAND-IN. Each laying: the table of numbers ('.._ren') and one theorem, a field a fact of the dump's own or the kernel's comparison; each contract: ONE APPLICATION.
-/
namespace Go.Proofs
open Go.Shelf
def Tryd.growP_ren : Go.Shelf.Ren := ⟨fun | 4 => 105 | n => n, fun | 22 => 66 | 25 => 70 | 3 => 3 | 4 => 4 | 9 => 9 | 20 => 20 | 0 => 0 | 2 => 3 | n => n, fun | n => n⟩
theorem Tryd.growP : Go.Proofs.Lays8.n4 Tryd.prog Tryd.growP_ren := {
  mixed := by kernel_rfl
  f4 := ⟨Tryd.f105.name, by decide, Tryd.func105.trans (congrArg some (by kernel_rfl))⟩
  t0 := Tryd.underlying0
  a0 := Tryd.isAgg0
  z0 := Tryd.sizeOf0
  v0 := Tryd.zeroValue0
  t3 := Tryd.underlying3
  a3 := Tryd.isAgg3
  z3 := Tryd.sizeOf3
  v3 := Tryd.zeroValue3
  t4 := Tryd.underlying4
  a4 := Tryd.isAgg4
  z4 := Tryd.sizeOf4
  v4 := Tryd.zeroValue4
  t9 := Tryd.underlying9
  a9 := Tryd.isAgg9
  z9 := Tryd.sizeOf9
  v9 := Tryd.zeroValue9
  t20 := Tryd.underlying20
  a20 := Tryd.isAgg20
  z20 := Tryd.sizeOf20
  v20 := Tryd.zeroValue20
  t22 := Tryd.underlying66
  a22 := Tryd.isAgg66
  z22 := Tryd.sizeOf66
  v22 := Tryd.zeroValue66 }
def Tryd.growM_ren : Go.Shelf.Ren := ⟨fun | 4 => 84 | n => n, fun | 22 => 53 | 25 => 68 | 3 => 3 | 4 => 4 | 9 => 9 | 20 => 20 | 0 => 0 | 2 => 3 | n => n, fun | n => n⟩
theorem Tryd.growM : Go.Proofs.Lays8.n4 Tryd.prog Tryd.growM_ren := {
  mixed := by kernel_rfl
  f4 := ⟨Tryd.f84.name, by decide, Tryd.func84.trans (congrArg some (by kernel_rfl))⟩
  t0 := Tryd.underlying0
  a0 := Tryd.isAgg0
  z0 := Tryd.sizeOf0
  v0 := Tryd.zeroValue0
  t3 := Tryd.underlying3
  a3 := Tryd.isAgg3
  z3 := Tryd.sizeOf3
  v3 := Tryd.zeroValue3
  t4 := Tryd.underlying4
  a4 := Tryd.isAgg4
  z4 := Tryd.sizeOf4
  v4 := Tryd.zeroValue4
  t9 := Tryd.underlying9
  a9 := Tryd.isAgg9
  z9 := Tryd.sizeOf9
  v9 := Tryd.zeroValue9
  t20 := Tryd.underlying20
  a20 := Tryd.isAgg20
  z20 := Tryd.sizeOf20
  v20 := Tryd.zeroValue20
  t22 := Tryd.underlying53
  a22 := Tryd.isAgg53
  z22 := Tryd.sizeOf53
  v22 := Tryd.zeroValue53 }
end Go.Proofs

/- slices.Grow of nil and slices.Concat, at monomials (raw) and at powers. Written by gen_conc.py. -/
namespace Go.Proofs.YtcafgpfecfocnaaDoor.P
open Go.RowKit Go.Maps Go.Proofs.YtcafgpfecfocnaaDoorW.PrintWords Go.Proofs.YtcafgpfecfocnaaDoorW.PrintLast Go.Proofs.YtcafgpfecfocnaaDoorW.PrintMore
set_option linter.unusedVariables false
set_option linter.unusedSimpArgs false

/-- A slice of slices, as it is handed to slices.Concat: its elements' headers and rows. -/
structure Part (α : Type) where
  A : Option Addr
  c : Nat
  l : List α
def Part.val {α : Type} (p : Part α) : Value := .slice p.A p.l.length p.c
def partLen {α : Type} (ls : List (Part α)) : Nat := (ls.map (·.l.length)).sum
def partAll {α : Type} (ls : List (Part α)) : List α := ls.flatMap (·.l)
theorem partLen_take {α : Type} (ls : List (Part α)) (k : Nat) (p : Part α) (h : ls[k]? = some p) : partLen (ls.take (k + 1)) = partLen (ls.take k) + p.l.length := by
  unfold partLen
  rw [List.take_add_one, h]
  simp
theorem partAll_take {α : Type} (ls : List (Part α)) (k : Nat) (p : Part α) (h : ls[k]? = some p) : partAll (ls.take (k + 1)) = partAll (ls.take k) ++ p.l := by
  unfold partAll
  rw [List.take_add_one, h]
  simp
theorem partLen_all {α : Type} (ls : List (Part α)) : partLen ls = (partAll ls).length := by
  unfold partLen partAll
  induction ls with
  | nil => rfl
  | cons p r ih => rw [List.map_cons, List.sum_cons, ih, List.flatMap_cons, List.length_append]
theorem partLen_le {α : Type} (ls : List (Part α)) (k : Nat) : partLen (ls.take k) ≤ partLen ls := by
  have h : partLen ls = partLen (ls.take k) + partLen (ls.drop k) := by
    conv => lhs; rw [← List.take_append_drop k ls]
    unfold partLen
    rw [List.map_append, List.sum_append]
  omega

theorem z68_cells : (.agg #[(.int .i64 0), (.slice none 0 0)] : Value).cells.size = kM2.sz := by rfl
/-- slices.Grow(nil, n). -/
theorem grow68_nil (n : Nat) (W : World) (hn : n * 32 ≤ 140737488355328) : Calls Tryd.prog 84 #[.slice none 0 0, .int .i64 n] W fun e w' => ∃ v, e = .returned v ∧ kM2.R 68 w' W.heap.size (fun _ => True) v [] ∧ Below W.heap.size W w' := by
  rcases Nat.eq_zero_or_pos n with rfl | hp
  · refine (Any8.slices_Grow_room Tryd.growM none 0 0 0 W (by omega) (by omega) (by omega) (by omega)).mono ?_
    rintro e w' ⟨rfl, rfl⟩
    exact ⟨_, rfl, Kd.R_nil _ _ _ _ _, Below.refl _ _⟩
  · obtain ⟨i0, hi, hzz⟩ := Option.map_eq_some_iff.1 info68
    simp only [Prod.mk.injEq] at hzz
    obtain ⟨hz0, hz1, hz2⟩ := hzz
    refine (Any8.slices_Grow_grow Tryd.growM i0 _ hi hz0 (by omega) none 0 0 n [] W (by omega) (by omega) (by rw [hz2]; omega) (by omega) (by simp) (fun _ => rfl) (fun a h => by cases h)).mono ?_
    rintro e w' ⟨he, hw⟩
    rw [show Tryd.growM_ren.t 25 = 68 from rfl] at he hw
    subst he hw
    have hcap : n ≤ grownCap W (0 + n) 0 68 := by have := grownCap_ge W (0 + n) 0 68; omega
    have hmax : grownCap W (0 + n) 0 68 ≤ maxLen := grownCap_le_maxLen W (0 + n) 0 68 (by unfold maxLen; omega)
    show ∃ v, Ending.returned (.slice (some ⟨W.heap.size, 0, none⟩) 0 (grownCap W (0 + n) 0 68)) = .returned v ∧ _
    generalize grownCap W (0 + n) 0 68 = C at hcap hmax
    refine ⟨_, rfl, ⟨fun _ _ => trivial, [], ⟨rfl, .inr ⟨W.heap.size, C, _, rfl, Nat.le_refl _, heap_alloc_new W.drew _, Nat.zero_le _, hmax, ?_, by simp⟩⟩, Reps.none _ _⟩, ((Below.refl _ W).drew).alloc (Nat.le_refl _) _⟩
    have hzs : ∀ m, (Builtin.zeroCells (.agg #[(.int .i64 0), (.slice none 0 0)] : Value).cells m).size = m * 2 := by
      intro m
      simp [Builtin.zeroCells, Value.cells]
    simp only [Array.size_append, hzs]
    show 0 + (0 + n - 0) * 2 + (C - (0 + n)) * 2 = C * 2
    omega
set_option maxRecDepth 100000 in
set_option maxHeartbeats 4000000 in
/-- slices.Concat. -/
theorem conc68_calls (hd : Addr) (ls : List (Part M2)) (W : World) (hh : ∀ (i : Nat) p, ls[i]? = some p → W.cell? (hd.add i) = some p.val) (hr : ∀ p ∈ ls, kM2.C W p.A p.l.length p.l ∧ p.l.length ≤ p.c) (hn : ls.length ≤ 1000) (hl : partLen ls * 32 ≤ 140737488355328) :
    Calls Tryd.prog 60 #[.slice (some hd) ls.length ls.length] W fun e w' => ∃ v, e = .returned v ∧ kM2.R 68 w' W.heap.size (fun _ => True) v (partAll ls) ∧ Below W.heap.size W w' := by
  have HH := Aside0.mk hh
  have HR := Aside0.mk hr
  have HL := Aside0.mk hl
  have HB0 := Aside0.mk (Below.refl W.heap.size W)
  clear hh hr hl
  go_enter Tryd.func60, Tryd.ntmps60
  go_wp2
  go_loop [3, 11] (fun s3 s11 => ∃ i s : Nat, i ≤ ls.length ∧ s11 = .int .i64 i ∧ s3 = .int .i64 s ∧ s ≤ 140737488355328 ∧ Aside0 (s = partLen (ls.take i))) (fun _ s11 => ls.length - (intOf s11).toNat)
  case atStart => exact ⟨0, 0, Nat.zero_le _, rfl, rfl, by omega, Aside0.mk rfl⟩
  case round =>
    obtain ⟨i, s, hi, rfl, rfl, hs, HS⟩ := hrel
    by_cases hlt : i < ls.length
    · obtain ⟨p, hp⟩ : ∃ p, ls[i]? = some p := ⟨_, List.getElem?_eq_getElem hlt⟩
      obtain ⟨A, c, l⟩ := p
      have hcell : W.cell? (hd.add i) = some (.slice A l.length c) := HH.out i _ hp
      have HT := Aside0.mk (partLen_take ls i _ hp)
      have hb : s + l.length ≤ 140737488355328 := by
        have h1 := partLen_le ls (i + 1)
        have h2 := HT.out
        have h3 := HL.out
        rw [← HS.out] at h2
        simp only at h2
        omega
      have HP := Aside0.mk hp
      clear hp
      go_wp2
      go_round
      case rel => exact ⟨i + 1, s + l.length, by omega, by go_num, by go_num, by omega, Aside0.mk (by rw [HT.out, HS.out])⟩
      case measure => simp [intOf]; omega
    · obtain rfl : i = ls.length := by omega
      have HS2 := Aside0.mk (show s = partLen ls by rw [HS.out, List.take_length])
      have hsb : s * 32 ≤ 140737488355328 := by rw [HS2.out]; exact HL.out
      clear HS
      go_wp2_with (first | (go_at_call 84; (refine (grow68_nil s _ hsb).mono ?_); rintro e w1 ⟨v0, rfl, h0, hb0⟩; have R0 := Aside0.mk h0; have B0 := Aside0.mk hb0; clear h0 hb0))
      go_loopw [6, 27] (fun s6 s27 wr => ∃ i : Nat, i ≤ ls.length ∧ s27 = .int .i64 i ∧ Aside0 (kM2.R 68 wr W.heap.size (fun _ => True) s6 (partAll (ls.take i))) ∧ Aside0 (Below W.heap.size W wr)) (fun _ s27 _ => ls.length - (intOf s27).toNat)
      case atStart => exact ⟨0, Nat.zero_le _, rfl, R0, B0⟩
      case round =>
        obtain ⟨i, hi, rfl, RR, BB⟩ := hrel
        by_cases hlt : i < ls.length
        · obtain ⟨p, hp⟩ : ∃ p, ls[i]? = some p := ⟨_, List.getElem?_eq_getElem hlt⟩
          have hmem := List.mem_of_getElem? hp
          obtain ⟨A, c, l⟩ := p
          have hcell : wr.cell? (hd.add i) = some (.slice A l.length c) := pw_cell_below BB.out (HH.out i _ hp)
          have HP := Aside0.mk (partAll_take ls i _ hp)
          have HC := Aside0.mk (Kd.C_below (HR.out _ hmem).1 BB.out)
          have hq : ((partAll (ls.take i)).length + l.length) * 32 ≤ 140737488355328 := by
            have h1 := partLen_le ls (i + 1)
            rw [partLen_take ls i _ hp, partLen_all (ls.take i)] at h1
            have h3 := HL.out
            simp only at h1
            omega
          have HQ := Aside0.mk hq
          clear hp hmem hq
          obtain ⟨ys, hys⟩ : ∃ ys, ys = partAll (ls.take i) := ⟨_, rfl⟩
          rw [← hys] at HP RR HQ
          clear hys
          go_wp2_with (first | (at_builtin; refine Kd.R_append_rows kM2 (w0 := W) W.heap.size rfl (.tmp 31) (.tmp 32) 53 68 (.agg #[(.int .i64 0), (.slice none 0 0)]) 32 rfl Tryd.underlying53 info68 z68_cells (by decide) (by omega) _ ys l A l.length c (fun _ => True) (fun _ => False) rfl rfl RR.out HC.out (fun _ _ h => h) (fun _ h => h.elim) (fun _ _ => trivial) BB.out BB.out.size HQ.out ?_; intro v1 w1 ho hb hg hat; have R1 := Aside0.mk ho; have B1 := Aside0.mk hb; clear ho hb hg hat))
          go_roundw
          case rel => exact ⟨i + 1, by omega, by go_num, Aside0.mk (by rw [HP.out]; exact R1.out), B1⟩
          case measure => simp [intOf]; omega
        · obtain rfl : i = ls.length := by omega
          have R2 := Aside0.mk (show kM2.R 68 wr W.heap.size (fun _ => True) u6 (partAll ls) by have := RR.out; rwa [List.take_length] at this)
          clear RR
          go_wp2
          go_ret
          exact ⟨_, rfl, R2.out, BB.out⟩

theorem z70_cells : (.agg #[(.int .i64 0), (.int .i64 0)] : Value).cells.size = k70.sz := by rfl
/-- slices.Grow(nil, n). -/
theorem grow70_nil (n : Nat) (W : World) (hn : n * 16 ≤ 140737488355328) : Calls Tryd.prog 105 #[.slice none 0 0, .int .i64 n] W fun e w' => ∃ v, e = .returned v ∧ k70.R 70 w' W.heap.size (fun _ => True) v [] ∧ Below W.heap.size W w' := by
  rcases Nat.eq_zero_or_pos n with rfl | hp
  · refine (Any8.slices_Grow_room Tryd.growP none 0 0 0 W (by omega) (by omega) (by omega) (by omega)).mono ?_
    rintro e w' ⟨rfl, rfl⟩
    exact ⟨_, rfl, Kd.R_nil _ _ _ _ _, Below.refl _ _⟩
  · obtain ⟨i0, hi, hzz⟩ := Option.map_eq_some_iff.1 info70
    simp only [Prod.mk.injEq] at hzz
    obtain ⟨hz0, hz1, hz2⟩ := hzz
    refine (Any8.slices_Grow_grow Tryd.growP i0 _ hi hz0 (by omega) none 0 0 n [] W (by omega) (by omega) (by rw [hz2]; omega) (by omega) (by simp) (fun _ => rfl) (fun a h => by cases h)).mono ?_
    rintro e w' ⟨he, hw⟩
    rw [show Tryd.growP_ren.t 25 = 70 from rfl] at he hw
    subst he hw
    have hcap : n ≤ grownCap W (0 + n) 0 70 := by have := grownCap_ge W (0 + n) 0 70; omega
    have hmax : grownCap W (0 + n) 0 70 ≤ maxLen := grownCap_le_maxLen W (0 + n) 0 70 (by unfold maxLen; omega)
    show ∃ v, Ending.returned (.slice (some ⟨W.heap.size, 0, none⟩) 0 (grownCap W (0 + n) 0 70)) = .returned v ∧ _
    generalize grownCap W (0 + n) 0 70 = C at hcap hmax
    refine ⟨_, rfl, ⟨fun _ _ => trivial, [], ⟨rfl, .inr ⟨W.heap.size, C, _, rfl, Nat.le_refl _, heap_alloc_new W.drew _, Nat.zero_le _, hmax, ?_, by simp⟩⟩, Reps.none _ _⟩, ((Below.refl _ W).drew).alloc (Nat.le_refl _) _⟩
    have hzs : ∀ m, (Builtin.zeroCells (.agg #[(.int .i64 0), (.int .i64 0)] : Value).cells m).size = m * 2 := by
      intro m
      simp [Builtin.zeroCells, Value.cells]
    simp only [Array.size_append, hzs]
    show 0 + (0 + n - 0) * 2 + (C - (0 + n)) * 2 = C * 2
    omega
set_option maxRecDepth 100000 in
set_option maxHeartbeats 4000000 in
/-- slices.Concat. -/
theorem conc70_calls (hd : Addr) (ls : List (Part S70)) (W : World) (hh : ∀ (i : Nat) p, ls[i]? = some p → W.cell? (hd.add i) = some p.val) (hr : ∀ p ∈ ls, k70.C W p.A p.l.length p.l ∧ p.l.length ≤ p.c) (hn : ls.length ≤ 1000) (hl : partLen ls * 16 ≤ 140737488355328) :
    Calls Tryd.prog 89 #[.slice (some hd) ls.length ls.length] W fun e w' => ∃ v, e = .returned v ∧ k70.R 70 w' W.heap.size (fun _ => True) v (partAll ls) ∧ Below W.heap.size W w' := by
  have HH := Aside0.mk hh
  have HR := Aside0.mk hr
  have HL := Aside0.mk hl
  have HB0 := Aside0.mk (Below.refl W.heap.size W)
  clear hh hr hl
  go_enter Tryd.func89, Tryd.ntmps89
  go_wp2
  go_loop [3, 11] (fun s3 s11 => ∃ i s : Nat, i ≤ ls.length ∧ s11 = .int .i64 i ∧ s3 = .int .i64 s ∧ s ≤ 140737488355328 ∧ Aside0 (s = partLen (ls.take i))) (fun _ s11 => ls.length - (intOf s11).toNat)
  case atStart => exact ⟨0, 0, Nat.zero_le _, rfl, rfl, by omega, Aside0.mk rfl⟩
  case round =>
    obtain ⟨i, s, hi, rfl, rfl, hs, HS⟩ := hrel
    by_cases hlt : i < ls.length
    · obtain ⟨p, hp⟩ : ∃ p, ls[i]? = some p := ⟨_, List.getElem?_eq_getElem hlt⟩
      obtain ⟨A, c, l⟩ := p
      have hcell : W.cell? (hd.add i) = some (.slice A l.length c) := HH.out i _ hp
      have HT := Aside0.mk (partLen_take ls i _ hp)
      have hb : s + l.length ≤ 140737488355328 := by
        have h1 := partLen_le ls (i + 1)
        have h2 := HT.out
        have h3 := HL.out
        rw [← HS.out] at h2
        simp only at h2
        omega
      have HP := Aside0.mk hp
      clear hp
      go_wp2
      go_round
      case rel => exact ⟨i + 1, s + l.length, by omega, by go_num, by go_num, by omega, Aside0.mk (by rw [HT.out, HS.out])⟩
      case measure => simp [intOf]; omega
    · obtain rfl : i = ls.length := by omega
      have HS2 := Aside0.mk (show s = partLen ls by rw [HS.out, List.take_length])
      have hsb : s * 16 ≤ 140737488355328 := by rw [HS2.out]; exact HL.out
      clear HS
      go_wp2_with (first | (go_at_call 105; (refine (grow70_nil s _ hsb).mono ?_); rintro e w1 ⟨v0, rfl, h0, hb0⟩; have R0 := Aside0.mk h0; have B0 := Aside0.mk hb0; clear h0 hb0))
      go_loopw [6, 27] (fun s6 s27 wr => ∃ i : Nat, i ≤ ls.length ∧ s27 = .int .i64 i ∧ Aside0 (k70.R 70 wr W.heap.size (fun _ => True) s6 (partAll (ls.take i))) ∧ Aside0 (Below W.heap.size W wr)) (fun _ s27 _ => ls.length - (intOf s27).toNat)
      case atStart => exact ⟨0, Nat.zero_le _, rfl, R0, B0⟩
      case round =>
        obtain ⟨i, hi, rfl, RR, BB⟩ := hrel
        by_cases hlt : i < ls.length
        · obtain ⟨p, hp⟩ : ∃ p, ls[i]? = some p := ⟨_, List.getElem?_eq_getElem hlt⟩
          have hmem := List.mem_of_getElem? hp
          obtain ⟨A, c, l⟩ := p
          have hcell : wr.cell? (hd.add i) = some (.slice A l.length c) := pw_cell_below BB.out (HH.out i _ hp)
          have HP := Aside0.mk (partAll_take ls i _ hp)
          have HC := Aside0.mk (Kd.C_below (HR.out _ hmem).1 BB.out)
          have hq : ((partAll (ls.take i)).length + l.length) * 16 ≤ 140737488355328 := by
            have h1 := partLen_le ls (i + 1)
            rw [partLen_take ls i _ hp, partLen_all (ls.take i)] at h1
            have h3 := HL.out
            simp only at h1
            omega
          have HQ := Aside0.mk hq
          clear hp hmem hq
          obtain ⟨ys, hys⟩ : ∃ ys, ys = partAll (ls.take i) := ⟨_, rfl⟩
          rw [← hys] at HP RR HQ
          clear hys
          go_wp2_with (first | (at_builtin; refine Kd.R_append_rows k70 (w0 := W) W.heap.size rfl (.tmp 31) (.tmp 32) 66 70 (.agg #[(.int .i64 0), (.int .i64 0)]) 16 rfl Tryd.underlying66 info70 z70_cells (by decide) (by omega) _ ys l A l.length c (fun _ => True) (fun _ => False) rfl rfl RR.out HC.out (fun _ _ h => by rw [k70_open h]; exact k70_mkM _ _ _ _) (fun _ h => h.elim) (fun _ _ => trivial) BB.out BB.out.size HQ.out ?_; intro v1 w1 ho hb hg hat; have R1 := Aside0.mk ho; have B1 := Aside0.mk hb; clear ho hb hg hat))
          go_roundw
          case rel => exact ⟨i + 1, by omega, by go_num, Aside0.mk (by rw [HP.out]; exact R1.out), B1⟩
          case measure => simp [intOf]; omega
        · obtain rfl : i = ls.length := by omega
          have R2 := Aside0.mk (show k70.R 70 wr W.heap.size (fun _ => True) u6 (partAll ls) by have := RR.out; rwa [List.take_length] at this)
          clear RR
          go_wp2
          go_ret
          exact ⟨_, rfl, R2.out, BB.out⟩
end Go.Proofs.YtcafgpfecfocnaaDoor.P

/-
  DERIVED: THE SHELF's CONTRACTS AT THIS DUMP, IN PLAIN WORDS (tools/lay-plain.mjs out of 'YtcafgpfecfocnaaDoorShD.lean', which tools/lay-shelf.mjs wrote): THE SAME DECLARATIONS UNDER THE SAME NAMES: 'import', 'namespace', 'open', 'def', 'theorem' AND NOTHING ELSE: no command of the shelf's: FOR A HAND-IN. Each laying: the table of numbers ('.._ren') and one theorem, a field a fact of the dump's own or the kernel's comparison; each contract: ONE APPLICATION.
-/
namespace Go.Proofs
open Go.Shelf
def Tryd.pdqM_ren : Go.Shelf.Ren := ⟨fun | 14 => 103 | 20 => 111 | 21 => 112 | 22 => 113 | 23 => 114 | 24 => 115 | 25 => 116 | 26 => 117 | 27 => 118 | 46 => 128 | 47 => 129 | 48 => 130 | 49 => 131 | 50 => 132 | 15 => 104 | 57 => 137 | 28 => 119 | 29 => 120 | n => n, fun | 24 => 68 | 22 => 52 | 3 => 3 | 25 => 114 | 4 => 4 | 0 => 0 | 46 => 140 | 45 => 139 | 50 => 107 | 66 => 157 | 39 => 133 | 55 => 148 | 70 => 161 | 76 => 167 | 77 => 168 | 53 => 146 | 5 => 5 | 9 => 9 | n => n, fun | n => n⟩
theorem Tryd.pdqM : Go.Proofs.SlLaysF0.n14 Tryd.prog Tryd.pdqM_ren := {
  mixed := by kernel_rfl
  f14 := ⟨Tryd.f103.name, by decide, Tryd.func103.trans (congrArg some (by kernel_rfl))⟩
  f15 := Tryd.func104.trans (congrArg some (by kernel_rfl))
  f20 := ⟨Tryd.f111.name, by decide, Tryd.func111.trans (congrArg some (by kernel_rfl))⟩
  f21 := ⟨Tryd.f112.name, by decide, Tryd.func112.trans (congrArg some (by kernel_rfl))⟩
  f22 := ⟨Tryd.f113.name, by decide, Tryd.func113.trans (congrArg some (by kernel_rfl))⟩
  f23 := ⟨Tryd.f114.name, by decide, Tryd.func114.trans (congrArg some (by kernel_rfl))⟩
  f24 := ⟨Tryd.f115.name, by decide, Tryd.func115.trans (congrArg some (by kernel_rfl))⟩
  f25 := ⟨Tryd.f116.name, by decide, Tryd.func116.trans (congrArg some (by kernel_rfl))⟩
  f26 := ⟨Tryd.f117.name, by decide, Tryd.func117.trans (congrArg some (by kernel_rfl))⟩
  f27 := ⟨Tryd.f118.name, by decide, Tryd.func118.trans (congrArg some (by kernel_rfl))⟩
  f28 := Tryd.func119.trans (congrArg some (by kernel_rfl))
  f29 := Tryd.func120.trans (congrArg some (by kernel_rfl))
  f46 := ⟨Tryd.f128.name, by decide, Tryd.func128.trans (congrArg some (by kernel_rfl))⟩
  f47 := Tryd.func129.trans (congrArg some (by kernel_rfl))
  f48 := Tryd.func130.trans (congrArg some (by kernel_rfl))
  f49 := ⟨Tryd.f131.name, by decide, Tryd.func131.trans (congrArg some (by kernel_rfl))⟩
  f50 := ⟨Tryd.f132.name, by decide, Tryd.func132.trans (congrArg some (by kernel_rfl))⟩
  f57 := ⟨Tryd.f137.name, by decide, Tryd.func137.trans (congrArg some (by kernel_rfl))⟩
  t0 := Tryd.underlying0
  a0 := Tryd.isAgg0
  z0 := Tryd.sizeOf0
  v0 := Tryd.zeroValue0
  t3 := Tryd.underlying3
  a3 := Tryd.isAgg3
  z3 := Tryd.sizeOf3
  v3 := Tryd.zeroValue3
  t4 := Tryd.underlying4
  a4 := Tryd.isAgg4
  z4 := Tryd.sizeOf4
  v4 := Tryd.zeroValue4
  t5 := Tryd.underlying5
  a5 := Tryd.isAgg5
  z5 := Tryd.sizeOf5
  v5 := Tryd.zeroValue5
  t9 := Tryd.underlying9
  a9 := Tryd.isAgg9
  z9 := Tryd.sizeOf9
  v9 := Tryd.zeroValue9
  t22 := Tryd.underlying52
  a22 := Tryd.isAgg52
  z22 := Tryd.sizeOf52
  v22 := Tryd.zeroValue52
  t25 := Tryd.underlying114
  a25 := Tryd.isAgg114
  z25 := Tryd.sizeOf114
  v25 := Tryd.zeroValue114
  t39 := Tryd.underlying133
  a39 := Tryd.isAgg133
  z39 := Tryd.sizeOf133
  v39 := Tryd.zeroValue133
  t45 := Tryd.underlying139
  a45 := Tryd.isAgg139
  z45 := Tryd.sizeOf139
  v45 := Tryd.zeroValue139
  t46 := Tryd.underlying140
  a46 := Tryd.isAgg140
  z46 := Tryd.sizeOf140
  v46 := Tryd.zeroValue140
  t50 := Tryd.underlying107
  a50 := Tryd.isAgg107
  z50 := Tryd.sizeOf107
  v50 := Tryd.zeroValue107
  t53 := Tryd.underlying146
  a53 := Tryd.isAgg146
  z53 := Tryd.sizeOf146
  v53 := Tryd.zeroValue146
  t55 := Tryd.underlying148
  a55 := Tryd.isAgg148
  z55 := Tryd.sizeOf148
  v55 := Tryd.zeroValue148
  t66 := Tryd.underlying157
  a66 := Tryd.isAgg157
  z66 := Tryd.sizeOf157
  v66 := Tryd.zeroValue157
  t70 := Tryd.underlying161
  a70 := Tryd.isAgg161
  z70 := Tryd.sizeOf161
  v70 := Tryd.zeroValue161
  t76 := Tryd.underlying167
  a76 := Tryd.isAgg167
  z76 := Tryd.sizeOf167
  v76 := Tryd.zeroValue167
  t77 := Tryd.underlying168
  a77 := Tryd.isAgg168
  z77 := Tryd.sizeOf168
  v77 := Tryd.zeroValue168 }
def Tryd.lenM_ren : Go.Shelf.Ren := ⟨fun | 15 => 104 | 28 => 119 | 29 => 120 | n => n, fun | 39 => 133 | 3 => 3 | 53 => 146 | 55 => 148 | 4 => 4 | 5 => 5 | 9 => 9 | n => n, fun | n => n⟩
theorem Tryd.lenM : Go.Proofs.SlLaysF0.n15 Tryd.prog Tryd.lenM_ren := {
  mixed := by kernel_rfl
  f15 := Tryd.func104.trans (congrArg some (by kernel_rfl))
  f28 := Tryd.func119.trans (congrArg some (by kernel_rfl))
  f29 := Tryd.func120.trans (congrArg some (by kernel_rfl))
  t3 := Tryd.underlying3
  a3 := Tryd.isAgg3
  z3 := Tryd.sizeOf3
  v3 := Tryd.zeroValue3
  t4 := Tryd.underlying4
  a4 := Tryd.isAgg4
  z4 := Tryd.sizeOf4
  v4 := Tryd.zeroValue4
  t5 := Tryd.underlying5
  a5 := Tryd.isAgg5
  z5 := Tryd.sizeOf5
  v5 := Tryd.zeroValue5
  t9 := Tryd.underlying9
  a9 := Tryd.isAgg9
  z9 := Tryd.sizeOf9
  v9 := Tryd.zeroValue9
  t39 := Tryd.underlying133
  a39 := Tryd.isAgg133
  z39 := Tryd.sizeOf133
  v39 := Tryd.zeroValue133
  t53 := Tryd.underlying146
  a53 := Tryd.isAgg146
  z53 := Tryd.sizeOf146
  v53 := Tryd.zeroValue146
  t55 := Tryd.underlying148
  a55 := Tryd.isAgg148
  z55 := Tryd.sizeOf148
  v55 := Tryd.zeroValue148 }
end Go.Proofs

/- The premise of every number's text: the table of powers of ten lies in memory as its initialiser lays it; and strconv.AppendInt at base 10 in the words of rows of bytes. -/
namespace Go.Proofs.YtcafgpfecfocnaaDoor.P
open Go.RowKit Go.Proofs.YtcafgpfecfocnaaDoorW.PrintWords Go.Proofs.YtcafgpfecfocnaaDoorW.PrintLast Go.Proofs.YtcafgpfecfocnaaDoorW.PrintMore
set_option linter.unusedVariables false
set_option linter.unusedSimpArgs false

/-- The table of powers of ten reads as its initialiser lays it. -/
def Tabs (w : World) : Prop := Lib.TabIs Tryd.prog w "internal/strconv.uint64pow10" .u64 Lib.pow10Tab
theorem Tabs.below {w w' : World} (h : Tabs w) (hb : Below w.heap.size w w') : Tabs w' := Lib.tabBelow_of_tabIs h w' hb

end Go.Proofs.YtcafgpfecfocnaaDoor.P

/- circuit.name: the text that equal gates have in common, for every gate whose numbers are 64 bit. -/
namespace Go.Proofs.YtcafgpfecfocnaaDoor.P
open Go.RowKit Go.Proofs.YtcafgpfecfocnaaDoorW.PrintWords Go.Proofs.YtcafgpfecfocnaaDoorW.PrintLast Go.Proofs.YtcafgpfecfocnaaDoorW.PrintMore
set_option linter.unusedVariables false
set_option linter.unusedSimpArgs false

def in64 (i : Int) : Prop := -9223372036854775808 ≤ i ∧ i ≤ 9223372036854775807
end Go.Proofs.YtcafgpfecfocnaaDoor.P

/- strconv.Itoa and strings.Join in the words of printed contracts. -/
namespace Go.Proofs.YtcafgpfecfocnaaDoor.P
open Go.RowKit Go.Proofs.YtcafgpfecfocnaaDoorW.PrintWords Go.Proofs.YtcafgpfecfocnaaDoorW.PrintLast Go.Proofs.YtcafgpfecfocnaaDoorW.PrintMore
set_option linter.unusedVariables false
set_option linter.unusedSimpArgs false

instance in64_dec (i : Int) : Decidable (in64 i) := by unfold in64; exact inferInstance
def strconv_Itoa.f (a0 : Int) : Option ByteArray := if in64 a0 then some ⟨(Lib.itoa a0).toArray⟩ else none
theorem strconv_Itoa.calls (a0 : Int) (r : ByteArray) (w : World) (hT : Tabs w) (h : strconv_Itoa.f a0 = some r) :
    Calls Tryd.prog 72 #[.int .i64 a0] w fun e w' => e = .returned (.string r) ∧ Below w.heap.size w w' := by
  unfold strconv_Itoa.f at h
  by_cases hi : in64 a0
  · rw [if_pos hi] at h
    obtain rfl := Option.some.inj h
    refine (Tryd.strconv_Itoa a0 hi.1 hi.2 w hT).mono ?_
    rintro e w' ⟨rfl, k, os, rfl⟩
    exact ⟨rfl, Lib.below_grow _ w (Nat.le_refl _) k os⟩
  · rw [if_neg hi] at h; cases h
def joinL (l : List ByteArray) (sep : ByteArray) : List UInt8 := Lib.join (l.map (·.data.toList)) sep.data.toList
def strings_Join.f (l0 : List ByteArray) (a1 : ByteArray) : Option ByteArray := if l0.length ≤ 140737488355328 ∧ (joinL l0 a1).length ≤ 140737488355328 then some ⟨(joinL l0 a1).toArray⟩ else none
theorem cell_spot {w : World} {a : Addr} {v : Value} (h : w.cell? a = some v) : a.spot = none := by
  unfold World.cell? at h
  split at h
  · by_cases hs : a.spot.isSome
    · rw [if_pos hs] at h; cases h
    · simpa using hs
  · cases h
theorem strings_Join.calls (A0 : Option Addr) (c0 : Nat) (l0 : List ByteArray) (a1 : ByteArray) (r : ByteArray) (w : World) (hr0 : Kd.C Kd.string w A0 l0.length l0) (hc0 : l0.length ≤ c0) (h : strings_Join.f l0 a1 = some r) :
    Calls Tryd.prog 73 #[.slice A0 l0.length c0, .string a1] w fun e w' => e = .returned (.string r) ∧ Below w.heap.size w w' := by
  unfold strings_Join.f at h
  by_cases hl : l0.length ≤ 140737488355328 ∧ (joinL l0 a1).length ≤ 140737488355328
  · rw [if_pos hl] at h
    obtain rfl := Option.some.inj h
    by_cases hn : l0.length = 0
    · obtain rfl := List.eq_nil_of_length_eq_zero hn
      refine (Tryd.strings_Join_none A0 c0 a1 w).mono ?_
      rintro e w' ⟨rfl, rfl⟩
      exact ⟨rfl, Below.refl _ _⟩
    · obtain ⟨ad, e, hx⟩ := Kd.at_string hr0 0 (by omega) (by omega)
      have hs := cell_spot hx
      have hb := World.block_lt_of_cell? _ _ hx
      have e0 : ad = ⟨ad.block, ad.off, none⟩ := by
        have : ad.spot = none := by simpa [Addr.add] using hs
        rw [← this]
      have hcells : ∀ (j : Nat) x, l0[j]? = some x → w.cell? ⟨ad.block, ad.off + j, none⟩ = some (.string x) := by
        intro j x hj
        have hjl : j < l0.length := by
          rcases Nat.lt_or_ge j l0.length with h | h
          · exact h
          · rw [List.getElem?_eq_none h] at hj; cases hj
        obtain ⟨ad', e', hx'⟩ := Kd.at_string hr0 (j : Int) (by omega) (by omega)
        obtain rfl : ad' = ad := by rw [e] at e'; exact (Option.some.inj e').symm
        rw [Int.toNat_natCast] at hx'
        have e2 : rdOf ByteArray.empty l0 (j : Int) = x := by
          unfold rdOf
          rw [Int.toNat_natCast, List.getD_eq_getElem?_getD, hj]
          rfl
        rw [e2] at hx'
        rw [← hx']
        congr 1
        unfold Addr.add
        by_cases hj0 : j = 0
        · subst hj0; rw [if_pos rfl]; exact e0.symm
        · rw [if_neg hj0]
      rw [e, e0]
      exact Tryd.strings_Join ad.block ad.off c0 l0 a1 w hcells (by simpa [Addr.add] using hb) hl.1 hc0 hl.2
  · rw [if_neg hl] at h; cases h
end Go.Proofs.YtcafgpfecfocnaaDoor.P

/- circuit.names and circuit.Valid: the answer is whether the circuit is valid, for every circuit whose numbers are 64 bit. -/
namespace Go.Proofs.YtcafgpfecfocnaaDoor.P
open Go.RowKit Go.Maps Go.Proofs.YtcafgpfecfocnaaDoorW.PrintWords Go.Proofs.YtcafgpfecfocnaaDoorW.PrintLast Go.Proofs.YtcafgpfecfocnaaDoorW.PrintMore
set_option linter.unusedVariables false
set_option linter.unusedSimpArgs false

structure NE (w : World) (gb g6 bm n : Nat) (ob o6 : Obj) (f : Lit → Option (DataW Unit)) (W : World) : Prop where
  below : Below w.heap.size w W
  box : W.heap[gb]? = some ob
  gate : W.heap[g6]? = some o6
  map : MapIs W 9 (plainElem Tryd.prog 3) bm n f
section
variable {w : World} {gb g6 bm n : Nat} {ob : Obj} {x y z u : Value} {f : Lit → Option (DataW Unit)} {W : World}
end

end Go.Proofs.YtcafgpfecfocnaaDoor.P
