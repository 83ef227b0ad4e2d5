/- What the claim's proof needs: Clos, Formed, Maps, Pure, ShA, Tabs, Name, Names, HValid, Upd, Clone, Sweep, News, Push, Add, Result, Step, Start, HKeep, Sample. -/
import Derived.Test.YtcafgpfecfocnaaDoorRdPx0
import Derived.Shelf.Abstract
import Derived.Maps.OwnSet
import Derived.Maps.OwnOps
import Derived.Shelf.LaysM
import Derived.Shelf.Strconv.AppendIntPublic10
import Derived.Ground.Names2Prog
import Derived.Shelf.Slices.Clone
import Derived.Test.YtcafgpfecfocnaaDoorProg
import Derived.Lib.AppendIntMem
import Derived.Lib.BufferWrite
import Derived.Deep.RegionHeld3
import Derived.Deep.AppendLies
import Derived.Lib.ItoaLen
import Derived.StringKeys
import Derived.Test.YtcafgpfecfocnaaDoorRdPx22
import Derived.Lib.SliceRun
import Derived.StillTailTactics
/- slices.IndexFunc and slices.ContainsFunc over slices of whole numbers: with a closure that answers p at each element, the answer is whether p holds at one of them; the world keeps all that lay in it. -/
namespace Go.Proofs.YtcafgpfecfocnaaDoor.P
open Go.RowKit Go.Proofs.YtcafgpfecfocnaaDoorW.PrintWords Go.Proofs.YtcafgpfecfocnaaDoorW.PrintLast Go.Proofs.YtcafgpfecfocnaaDoorW.PrintMore
set_option linter.unusedVariables false
set_option linter.unusedSimpArgs false

/-- The function value (function g, bound to lb) answers p at each element of xs, in every world that keeps w's blocks. -/
def Gives {α : Type} (g : Nat) (lb : Array Value) (enc : α → Value) (p : α → Bool) (xs : List α) (w : World) : Prop :=
  ∀ (W : World) (x : α), x ∈ xs → Below w.heap.size w W → Calls Tryd.prog g (#[enc x] ++ lb) W fun e W' => e = .returned (.bool (p x)) ∧ Below W.heap.size W W'

theorem any_of_at (p : Int → Bool) (xs : List Int) (k : Nat) (hk : k < xs.length) (h : p (rd xs k) = true) : xs.any p = true := by
  rw [List.any_eq_true]
  refine ⟨rd xs k, ?_, h⟩
  unfold rd
  rw [Int.toNat_natCast, List.getD_eq_getElem?_getD, List.getElem?_eq_getElem hk]
  exact List.getElem_mem hk
theorem none_of_all (p : Int → Bool) (xs : List Int) (h : ∀ j : Nat, j < xs.length → p (rd xs j) = false) : xs.any p = false := by
  rw [List.any_eq_false]
  intro x hx
  obtain ⟨j, hj, rfl⟩ := List.getElem_of_mem hx
  have := h j hj
  unfold rd at this
  rw [Int.toNat_natCast, List.getD_eq_getElem?_getD, List.getElem?_eq_getElem hj] at this
  simpa using this
theorem rd_mem (xs : List Int) (k : Nat) (hk : k < xs.length) : rd xs k ∈ xs := by
  unfold rd
  rw [Int.toNat_natCast, List.getD_eq_getElem?_getD, List.getElem?_eq_getElem hk]
  exact List.getElem_mem hk

set_option maxHeartbeats 2000000 in
theorem indexFunc (g : Nat) (lb : Array Value) (eg : ∀ args w, (callFunc g args).run Tryd.prog w = .ok (.enter g args) w) (p : Int → Bool) (A : Option Addr) (c : Nat) (xs : List Int) (w : World)
    (hr : Kd.C (Kd.int .i64) w A xs.length xs) (hp : Gives g lb (Value.int .i64) p xs w) :
    Calls Tryd.prog 75 #[.slice A xs.length c, .func (.func g) #[] lb] w fun e w' => (∃ i : Int, e = .returned (.int .i64 i) ∧ decide (0 ≤ i) = xs.any p) ∧ Below w.heap.size w w' := by
  have HR := Aside0.mk hr
  have HP := Aside0.mk hp
  have hbig : xs.length ≤ 9223372036854775807 := hr.2.1
  clear hr hp
  go_enter Tryd.func75, Tryd.ntmps75
  go_wp2
  go_loopg [5, 8] xs.length (fun gg _ s8 wr => ∃ k : Nat, k ≤ xs.length ∧ xs.length - k ≤ gg ∧ s8 = .int .i64 k ∧ Aside0 (Below w.heap.size w wr) ∧ Aside0 (∀ j : Nat, j < k → p (rd xs j) = false))
  case atStart => exact ⟨0, Nat.zero_le _, by omega, rfl, ⟨Below.refl _ _⟩, ⟨fun j hj => absurd hj (Nat.not_lt_zero _)⟩⟩
  case round =>
    obtain ⟨k, hk, hg, rfl, HB, HA⟩ := hrel
    by_cases hlt : k < xs.length
    · have hlt' : (k : Int) < (xs.length : Int) := by omega
      obtain ⟨ad, e, hx⟩ := Kd.at_int HR.out k (by omega) hlt'
      cases e
      replace hx := (HB.out.cell (World.block_lt_of_cell? w _ hx)).trans hx
      rw [Int.toNat_natCast] at hx
      have hm := rd_mem xs k hlt
      generalize hy : rd xs k = y at hx hm
      have HY := Aside0.mk hy
      clear hy
      have hcall := HP.out wr y hm HB.out
      cases hq : p y with
      | true =>
        rw [hq] at hcall
        have HQ := Aside0.mk hq
        clear hq
        go_wp2_with (go_at_fn g; refine hcall.mono ?_; rintro e w' ⟨rfl, hb⟩)
        go_ret
        refine ⟨⟨_, rfl, ?_⟩, HB.out.trans (hb.mono HB.out.size)⟩
        rw [any_of_at p xs k hlt (by rw [HY.out]; exact HQ.out)]
        simp
      | false =>
        rw [hq] at hcall
        have HQ := Aside0.mk hq
        clear hq
        go_wp2_with (go_at_fn g; refine hcall.mono ?_; rintro e w' ⟨rfl, hb⟩)
        have HB2 := Aside0.mk (HB.out.trans (hb.mono HB.out.size))
        go_roundg (xs.length - (k + 1))
        case measure => omega
        case rel =>
          refine ⟨k + 1, by omega, by omega, by go_num, HB2, ⟨fun j hj => ?_⟩⟩
          by_cases e : j = k
          · subst e
            rw [HY.out]; exact HQ.out
          · exact HA.out j (by omega)
    · have hlt' : ¬ (k : Int) < (xs.length : Int) := by omega
      obtain rfl : k = xs.length := by omega
      go_wp2
      go_ret
      refine ⟨⟨_, rfl, ?_⟩, HB.out⟩
      rw [none_of_all p xs HA.out]
      simp

set_option maxHeartbeats 2000000 in
theorem containsFunc (g : Nat) (lb : Array Value) (eg : ∀ args w, (callFunc g args).run Tryd.prog w = .ok (.enter g args) w) (p : Int → Bool) (A : Option Addr) (c : Nat) (xs : List Int) (w : World)
    (hr : Kd.C (Kd.int .i64) w A xs.length xs) (hp : Gives g lb (Value.int .i64) p xs w) :
    Calls Tryd.prog 50 #[.slice A xs.length c, .func (.func g) #[] lb] w fun e w' => e = .returned (.bool (xs.any p)) ∧ Below w.heap.size w w' := by
  have h75 := indexFunc g lb eg p A c xs w hr hp
  have H75 := Aside0.mk h75
  clear h75 hr hp
  go_enter Tryd.func50, Tryd.ntmps50
  go_wp2_with (go_at_call 75; refine H75.out.mono ?_; rintro e w' ⟨⟨i, rfl, hi⟩, hb⟩; have HI := Aside0.mk hi; have HB := Aside0.mk hb; clear hi hb)
  go_ret
  exact ⟨by rw [← HI.out]; rfl, HB.out⟩
end Go.Proofs.YtcafgpfecfocnaaDoor.P

/- circuit.formed, circuit.kept, circuit.inner and the closures of circuit: each answers what its plain function says, and keeps all that lay in the world. -/
namespace Go.Proofs.YtcafgpfecfocnaaDoor.P
open Go.RowKit Go.Proofs.YtcafgpfecfocnaaDoorW.PrintWords Go.Proofs.YtcafgpfecfocnaaDoorW.PrintLast Go.Proofs.YtcafgpfecfocnaaDoorW.PrintMore
set_option linter.unusedVariables false
set_option linter.unusedSimpArgs false

def outside (n k : Int) : Bool := decide (k < 0) || decide (n ≤ k)
def innerS (kind : Int) : Bool := kind == 3 || kind == 4
def formedS (kind var : Int) (kids : List Int) (n : Int) : Bool :=
  if kids.any (outside n) = true then false
  else if kind = 2 then decide (kids.length = 0) && (decide (0 ≤ var) && decide (var < 4000))
  else if kind = 0 ∨ kind = 1 then decide (kids.length = 0) && (var == 0)
  else innerS kind && (var == 0)
def keptS (kind kid : Int) : Bool := (kid != 0) && ((kid != 1) || (kind == 3))

theorem formed1 (k n : Int) (b : Nat) (W : World) (hc : W.cell? ⟨b, 0, none⟩ = some (.int .i64 n)) :
    Calls Tryd.prog 99 #[.int .i64 k, .pointer (some ⟨b, 0, none⟩)] W fun e W' => e = .returned (.bool (outside n k)) ∧ Below W.heap.size W W' := by
  by_cases h : k < 0
  · have e1 : outside n k = true := by simp [outside, h]
    have E := Aside0.mk e1
    clear e1
    have h1 : decide (k < 0) = true := decide_eq_true h
    go_enter Tryd.func99, Tryd.ntmps99
    go_wp2
    go_ret
    exact ⟨by rw [E.out]; rfl, Below.refl _ _⟩
  · have e1 : outside n k = decide (n ≤ k) := by simp [outside, h]
    have E := Aside0.mk e1
    clear e1
    have h1 : decide (k < 0) = false := decide_eq_false h
    go_enter Tryd.func99, Tryd.ntmps99
    go_wp2
    go_ret
    exact ⟨by rw [E.out]; rfl, Below.refl _ _⟩
theorem eg99 : ∀ args w, (callFunc 99 args).run Tryd.prog w = .ok (.enter 99 args) w := enters_of Tryd.func99 (by kernel_rfl) rfl

theorem inner_calls (kind : Int) (w : World) : Calls Tryd.prog 77 #[.int .i64 kind] w fun e w' => e = .returned (.bool (innerS kind)) ∧ Below w.heap.size w w' := by
  by_cases h : kind = 3
  · have e1 : innerS kind = true := by simp [innerS, h]
    have E := Aside0.mk e1
    clear e1
    have h1 : (kind == 3) = true := by simpa using h
    clear h
    go_enter Tryd.func77, Tryd.ntmps77
    go_wp2
    go_ret
    exact ⟨by rw [E.out]; rfl, Below.refl _ _⟩
  · have h1 : (kind == 3) = false := by simpa using h
    have e1 : innerS kind = (kind == 4) := by simp [innerS, h1]
    have E := Aside0.mk e1
    clear e1 h
    go_enter Tryd.func77, Tryd.ntmps77
    go_wp2
    go_ret
    exact ⟨by rw [E.out]; rfl, Below.refl _ _⟩

theorem kept_same (kind kid : Int) (w : World) : Calls Tryd.prog 80 #[.int .i64 kind, .int .i64 kid] w fun e w' => e = .returned (.bool (keptS kind kid)) ∧ w' = w := by
  by_cases h : kid = 0
  · have h1 : (kid != 0) = false := by simpa using h
    have e1 : keptS kind kid = false := by simp [keptS, h]
    have E := Aside0.mk e1
    clear e1 h
    go_enter Tryd.func80, Tryd.ntmps80
    go_wp2
    go_ret
    exact ⟨by rw [E.out]; rfl, rfl⟩
  · have h1 : (kid != 0) = true := by simpa using h
    by_cases h' : kid = 1
    · have h2 : (kid != 1) = false := by simpa using h'
      have e1 : keptS kind kid = (kind == 3) := by simp [keptS, h1, h2]
      have E := Aside0.mk e1
      clear e1 h h'
      go_enter Tryd.func80, Tryd.ntmps80
      go_wp2
      go_ret
      exact ⟨by rw [E.out]; rfl, rfl⟩
    · have h2 : (kid != 1) = true := by simpa using h'
      have e1 : keptS kind kid = true := by simp [keptS, h1, h2]
      have E := Aside0.mk e1
      clear e1 h h'
      go_enter Tryd.func80, Tryd.ntmps80
      go_wp2
      go_ret
      exact ⟨by rw [E.out]; rfl, rfl⟩

set_option maxHeartbeats 4000000 in
theorem formed_calls (kind var : Int) (A : Option Addr) (c : Nat) (kids : List Int) (n : Int) (w : World) (hr : Kd.C (Kd.int .i64) w A kids.length kids) :
    Calls Tryd.prog 76 #[.agg #[.int .i64 kind, .int .i64 var, .slice A kids.length c], .int .i64 n] w fun e w' => e = .returned (.bool (formedS kind var kids n)) ∧ Below w.heap.size w w' := by
  have h50 : ∀ W, W.cell? ⟨w.heap.size + 1, 0, none⟩ = some (.int .i64 n) → Below w.heap.size w W → Calls Tryd.prog 50 #[.slice A kids.length c, .func (.func 99) #[] #[.pointer (some ⟨w.heap.size + 1, 0, none⟩)]] W fun e w' => e = .returned (.bool (kids.any (outside n))) ∧ Below W.heap.size W w' :=
    fun W hc hb => containsFunc 99 _ eg99 (outside n) A c kids W (Kd.C_below hr hb) (fun W' x _ hb' => formed1 x n _ W' ((hb'.cell (World.block_lt_of_cell? W _ hc)).trans hc))
  have H50 := Aside0.mk h50
  clear h50 hr
  have b0 : Below w.heap.size w ((w.alloc (Obj.cells #[.int .i64 kind, .int .i64 var, .slice A kids.length c] 50)).alloc (Obj.cells #[.int .i64 n] 3)) := ((Below.refl _ _).alloc (Nat.le_refl _) _).alloc (by simp) _
  have B0 := Aside0.mk b0
  clear b0
  have key : ∀ (r : Bool), formedS kind var kids n = r → ∀ w', Below (w.heap.size + 2) ((w.alloc (Obj.cells #[.int .i64 kind, .int .i64 var, .slice A kids.length c] 50)).alloc (Obj.cells #[.int .i64 n] 3)) w' →
      w'.cell? ⟨w.heap.size, 0, none⟩ = some (.int .i64 kind) ∧ w'.cell? ⟨w.heap.size, 1, none⟩ = some (.int .i64 var) ∧ w'.cell? ⟨w.heap.size, 2, none⟩ = some (.slice A kids.length c) ∧ Below w.heap.size w w' := by
    intro r _ w' hb
    refine ⟨(hb.cell (p := ⟨w.heap.size, 0, none⟩) (by simp)).trans (by go_simp), (hb.cell (p := ⟨w.heap.size, 1, none⟩) (by simp)).trans (by go_simp), (hb.cell (p := ⟨w.heap.size, 2, none⟩) (by simp)).trans (by go_simp), B0.out.trans (hb.mono (by omega))⟩
  have KEY := Aside0.mk key
  clear key
  by_cases hany : kids.any (outside n) = true
  · have E := Aside0.mk (show formedS kind var kids n = false by simp [formedS, hany])
    rw [hany] at H50
    clear hany
    go_enter Tryd.func76, Tryd.ntmps76
    go_wp2_with (go_at_call 50; refine (H50.out _ (by go_simp) B0.out).mono ?_; rintro e w' ⟨rfl, hb⟩; have HB := Aside0.mk hb; clear hb)
    go_ret
    exact ⟨by rw [E.out]; rfl, B0.out.trans (HB.out.mono (by simp; omega))⟩
  · have hany' : kids.any (outside n) = false := by simpa using hany
    have E0 := Aside0.mk hany'
    rw [hany'] at H50
    clear hany hany'
    by_cases h2 : kind = 2
    · have h2b : (kind == 2) = true := by simpa using h2
      have E1 := Aside0.mk h2
      clear h2
      by_cases hl : kids.length = 0
      · have hlb : ((kids.length : Int) == 0) = true := by simpa using hl
        by_cases hv : 0 ≤ var
        · have hvb : decide (0 ≤ var) = true := decide_eq_true hv
          have E := Aside0.mk (show formedS kind var kids n = decide (var < 4000) by simp [formedS, E0.out, E1.out, hl, hv])
          clear hl hv
          go_enter Tryd.func76, Tryd.ntmps76
          go_wp2_with (go_at_call 50; refine (H50.out _ (by go_simp) B0.out).mono ?_; rintro e w' ⟨rfl, hb⟩; obtain ⟨c0, c1, c2, hb2⟩ := KEY.out _ E.out w' (hb.mono (by simp)); have HB := Aside0.mk hb2; clear hb hb2)
          go_ret
          exact ⟨by rw [E.out]; rfl, HB.out⟩
        · have hvb : decide (0 ≤ var) = false := decide_eq_false hv
          have E := Aside0.mk (show formedS kind var kids n = false by simp [formedS, E0.out, E1.out, hl, hv])
          clear hl hv
          go_enter Tryd.func76, Tryd.ntmps76
          go_wp2_with (go_at_call 50; refine (H50.out _ (by go_simp) B0.out).mono ?_; rintro e w' ⟨rfl, hb⟩; obtain ⟨c0, c1, c2, hb2⟩ := KEY.out _ E.out w' (hb.mono (by simp)); have HB := Aside0.mk hb2; clear hb hb2)
          go_ret
          exact ⟨by rw [E.out]; rfl, HB.out⟩
      · have hlb : ((kids.length : Int) == 0) = false := by simpa using hl
        have E := Aside0.mk (show formedS kind var kids n = false by simp [formedS, E0.out, E1.out, hl])
        clear hl
        go_enter Tryd.func76, Tryd.ntmps76
        go_wp2_with (go_at_call 50; refine (H50.out _ (by go_simp) B0.out).mono ?_; rintro e w' ⟨rfl, hb⟩; obtain ⟨c0, c1, c2, hb2⟩ := KEY.out _ E.out w' (hb.mono (by simp)); have HB := Aside0.mk hb2; clear hb hb2)
        go_ret
        exact ⟨by rw [E.out]; rfl, HB.out⟩
    · have h2b : (kind == 2) = false := by simpa using h2
      by_cases h0 : kind = 0 ∨ kind = 1
      · by_cases hl : kids.length = 0
        · have hlb : ((kids.length : Int) == 0) = true := by simpa using hl
          have E := Aside0.mk (show formedS kind var kids n = (var == 0) by simp only [formedS, E0.out, if_neg h2, if_pos h0, hl]; simp)
          rcases h0 with h0 | h0
          · have h0b : (kind == 0) = true := by simpa using h0
            clear hl h0 h2
            go_enter Tryd.func76, Tryd.ntmps76
            go_wp2_with (go_at_call 50; refine (H50.out _ (by go_simp) B0.out).mono ?_; rintro e w' ⟨rfl, hb⟩; obtain ⟨c0, c1, c2, hb2⟩ := KEY.out _ E.out w' (hb.mono (by simp)); have HB := Aside0.mk hb2; clear hb hb2)
            go_ret
            exact ⟨by rw [E.out]; rfl, HB.out⟩
          · have h0b : (kind == 0) = false := by simp [h0]
            have h1b : (kind == 1) = true := by simpa using h0
            clear hl h0 h2
            go_enter Tryd.func76, Tryd.ntmps76
            go_wp2_with (go_at_call 50; refine (H50.out _ (by go_simp) B0.out).mono ?_; rintro e w' ⟨rfl, hb⟩; obtain ⟨c0, c1, c2, hb2⟩ := KEY.out _ E.out w' (hb.mono (by simp)); have HB := Aside0.mk hb2; clear hb hb2)
            go_ret
            exact ⟨by rw [E.out]; rfl, HB.out⟩
        · have hlb : ((kids.length : Int) == 0) = false := by simpa using hl
          have E := Aside0.mk (show formedS kind var kids n = false by simp only [formedS, E0.out, if_neg h2, if_pos h0]; simp [hl])
          rcases h0 with h0 | h0
          · have h0b : (kind == 0) = true := by simpa using h0
            clear hl h0 h2
            go_enter Tryd.func76, Tryd.ntmps76
            go_wp2_with (go_at_call 50; refine (H50.out _ (by go_simp) B0.out).mono ?_; rintro e w' ⟨rfl, hb⟩; obtain ⟨c0, c1, c2, hb2⟩ := KEY.out _ E.out w' (hb.mono (by simp)); have HB := Aside0.mk hb2; clear hb hb2)
            go_ret
            exact ⟨by rw [E.out]; rfl, HB.out⟩
          · have h0b : (kind == 0) = false := by simp [h0]
            have h1b : (kind == 1) = true := by simpa using h0
            clear hl h0 h2
            go_enter Tryd.func76, Tryd.ntmps76
            go_wp2_with (go_at_call 50; refine (H50.out _ (by go_simp) B0.out).mono ?_; rintro e w' ⟨rfl, hb⟩; obtain ⟨c0, c1, c2, hb2⟩ := KEY.out _ E.out w' (hb.mono (by simp)); have HB := Aside0.mk hb2; clear hb hb2)
            go_ret
            exact ⟨by rw [E.out]; rfl, HB.out⟩
      · have h0b : (kind == 0) = false := by simp; omega
        have h1b : (kind == 1) = false := by simp; omega
        have E1 := Aside0.mk (show formedS kind var kids n = (innerS kind && (var == 0)) by simp [formedS, E0.out, h2, h0])
        clear h0 h2
        cases hi : innerS kind with
        | true =>
          have E := Aside0.mk (show formedS kind var kids n = (var == 0) by rw [E1.out, hi]; simp)
          have HI := Aside0.mk hi
          clear hi
          go_enter Tryd.func76, Tryd.ntmps76
          go_wp2_with (first | (go_at_call 50; refine (H50.out _ (by go_simp) B0.out).mono ?_; rintro e w' ⟨rfl, hb⟩; obtain ⟨c0, c1, c2, hb2⟩ := KEY.out _ E.out w' (hb.mono (by simp)); have HB := Aside0.mk hb2; clear hb hb2) | (go_at_call 77; refine (inner_calls kind _).mono ?_; rw [HI.out]; rintro e w3 ⟨rfl, hb⟩; have HB3 := Aside0.mk (HB.out.trans (hb.mono HB.out.size)); replace c1 := (hb.cell (World.block_lt_of_cell? _ _ c1)).trans c1; clear hb))
          go_ret
          exact ⟨by rw [E.out]; rfl, HB3.out⟩
        | false =>
          have E := Aside0.mk (show formedS kind var kids n = false by rw [E1.out, hi]; simp)
          have HI := Aside0.mk hi
          clear hi
          go_enter Tryd.func76, Tryd.ntmps76
          go_wp2_with (first | (go_at_call 50; refine (H50.out _ (by go_simp) B0.out).mono ?_; rintro e w' ⟨rfl, hb⟩; obtain ⟨c0, c1, c2, hb2⟩ := KEY.out _ E.out w' (hb.mono (by simp)); have HB := Aside0.mk hb2; clear hb hb2) | (go_at_call 77; refine (inner_calls kind _).mono ?_; rw [HI.out]; rintro e w3 ⟨rfl, hb⟩; have HB3 := Aside0.mk (HB.out.trans (hb.mono HB.out.size)); clear hb))
          go_ret
          exact ⟨by rw [E.out]; rfl, HB3.out⟩
end Go.Proofs.YtcafgpfecfocnaaDoor.P

/- Maps of the call's own, told by a function from keys to what stands there. -/
namespace Go.Proofs.YtcafgpfecfocnaaDoor.P
open Go.RowKit Go.Maps Go.Proofs.YtcafgpfecfocnaaDoorW.PrintWords Go.Proofs.YtcafgpfecfocnaaDoorW.PrintLast Go.Proofs.YtcafgpfecfocnaaDoorW.PrintMore
set_option linter.unusedVariables false
set_option linter.unusedSimpArgs false

/-- Block b of w is a map of at most n entries; at the key kl stands f kl. -/
def MapIs (w : World) (k : TypeId) (R : Value → Option (DataW Unit × List MemPlace)) (b n : Nat) (f : Lit → Option (DataW Unit)) : Prop :=
  ∃ D, w.ownsMap Tryd.prog k R b n D ∧ IsMap D ∧ (∀ kl, has D kl = (f kl).isSome) ∧ ∀ kl z, D.atKey kl z = (f kl).getD z

theorem MapIs.made (w : World) (k : TypeId) (R : Value → Option (DataW Unit × List MemPlace)) : MapIs (w.alloc (.map #[] 0)) k R w.heap.size 0 (fun _ => none) :=
  ⟨_, World.ownsMap_made w Tryd.prog k R, isMap_empty, fun _ => rfl, fun _ _ => rfl⟩
theorem MapIs.lt {w : World} {k : TypeId} {R : Value → Option (DataW Unit × List MemPlace)} {b n : Nat} {f : Lit → Option (DataW Unit)} (h : MapIs w k R b n f) : b < w.heap.size := by
  obtain ⟨D, h1, _⟩ := h
  exact h1.lt
theorem MapIs.grown {w w' : World} {k : TypeId} {R : Value → Option (DataW Unit × List MemPlace)} {b n : Nat} {f : Lit → Option (DataW Unit)} (h : MapIs w k R b n f) {row : Option Nat} (hg : w.grownBy w' row) (hne : some b ≠ row) : MapIs w' k R b n f := by
  obtain ⟨D, h1, h2⟩ := h
  exact ⟨D, h1.kept hg hne, h2⟩
theorem MapIs.below {w w' : World} {k : TypeId} {R : Value → Option (DataW Unit × List MemPlace)} {b n : Nat} {f : Lit → Option (DataW Unit)} (h : MapIs w k R b n f) (hb : Below w.heap.size w w') : MapIs w' k R b n f :=
  h.grown (grown_of_below hb none) (by simp)
theorem MapIs.alloc {w : World} {k : TypeId} {R : Value → Option (DataW Unit × List MemPlace)} {b n : Nat} {f : Lit → Option (DataW Unit)} (h : MapIs w k R b n f) (o : Obj) : MapIs (w.alloc o) k R b n f := by
  obtain ⟨D, h1, h2⟩ := h
  exact ⟨D, h1.alloc o, h2⟩
theorem MapIs.setCell {w : World} {k : TypeId} {R : Value → Option (DataW Unit × List MemPlace)} {b n : Nat} {f : Lit → Option (DataW Unit)} (h : MapIs w k R b n f) {a : Addr} (ha : b ≠ a.block) (u : Value) : MapIs (w.setCell a u) k R b n f := by
  obtain ⟨D, h1, h2⟩ := h
  exact ⟨D, h1.setCell ha u, h2⟩
open Classical in
/-- What a map tells behind a store. -/
noncomputable def putAt (f : Lit → Option (DataW Unit)) (kl : Lit) (d : DataW Unit) : Lit → Option (DataW Unit) := fun l => if l = kl then some d else f l

theorem MapIs.put {w' : World} {k : TypeId} {R : Value → Option (DataW Unit × List MemPlace)} {b n : Nat} {D : DataW Unit} {f : Lit → Option (DataW Unit)} {kl : Lit} {d : DataW Unit} (hk : WideAt.IsKeyLit kl) (hM : IsMap D) (h1 : ∀ kl, has D kl = (f kl).isSome) (h2 : ∀ kl z, D.atKey kl z = (f kl).getD z)
    (h : w'.ownsMap Tryd.prog k R b n (D.put kl d)) : MapIs w' k R b n (putAt f kl d) := by
  refine ⟨_, h, hM.put kl d, fun l => ?_, fun l z => ?_⟩
  · unfold putAt
    by_cases e : l = kl
    · subst e; rw [if_pos rfl, has_put_same hM hk]; rfl
    · rw [if_neg e, has_put_other e, h1]
  · unfold putAt
    by_cases e : l = kl
    · subst e; rw [if_pos rfl, atKey_put_same hM hk]; rfl
    · rw [if_neg e, atKey_put_other e, h2]

section
variable {w : World} {ops : Array Oper} {rest : List Oper} {o : Oper} {a : Act} {Q : Exit → Act → World → Prop}
/-- 'm[k] = v'. -/
theorem wp_mapUpdate (hg : o.guard = none) (m x v : Operand) (t : TypeId) (hop : o.op = Op.mapUpdate t m x v)
    (k e : TypeId) (K : Keyed Tryd.prog k) (ht : Tryd.prog.underlying t = some (.map k e)) (R : Value → Option (DataW Unit × List MemPlace)) (b n : Nat) (f : Lit → Option (DataW Unit))
    (hm : a.eval m = .map (some b)) (hown : MapIs w k R b n f) (hn : n < maxLen) (key val : Value) (kl : Lit) (hx : a.eval x = key) (hv : a.eval v = val) (hkey : keyOf Tryd.prog k key = some kl)
    (d : DataW Unit) (ps : List MemPlace) (hval : R val = some (d, ps))
    (hK : ∀ w', MapIs w' k R b (n + 1) (putAt f kl d) → w.grownBy w' (some b) → wpList Tryd.prog ops Q rest (a.put o.dst undef) w') :
    wpList Tryd.prog ops Q (o :: rest) a w := by
  obtain ⟨D, h1, h2, h3, h4⟩ := hown
  exact wpList_mapUpdate_own w hg m x v t hop k e K ht R b n D hm h1 hn key val kl hx hv hkey d ps hval fun w' hw hg' => hK w' (MapIs.put (K.key hkey) h2 h3 h4 hw) hg'

/-- 'v, ok := m[k]' at elements that are whole numbers. -/
theorem wp_lookup_ok_int (hg : o.guard = none) (m x : Operand) (t : TypeId) (hop : o.op = Op.lookup t m x true)
    (k e : TypeId) (q : IntKind) (K : Keyed Tryd.prog k) (ht : Tryd.prog.underlying t = some (.map k e)) (he : Tryd.prog.underlying e = some (.int q)) (hz : (zeroValue e).run Tryd.prog w = .ok (.int q 0) w) (b n : Nat) (f : Lit → Option (DataW Unit))
    (hm : a.eval m = .map (some b)) (hown : MapIs w k (plainElem Tryd.prog e) b n f) (key : Value) (kl : Lit) (hx : a.eval x = key) (hkey : keyOf Tryd.prog k key = some kl)
    (bb : Bool) (hbb : (f kl).isSome = bb)
    (hK : ∀ c : Int, (f kl).getD (.lit (.int q 0)) = .lit (.int q c) → wpList Tryd.prog ops Q rest (a.put o.dst (.tuple #[.int q c, .bool bb])) w) :
    wpList Tryd.prog ops Q (o :: rest) a w := by
  subst hbb
  obtain ⟨D, h1, h2, h3, h4⟩ := hown
  refine wpList_lookup_own_ok_int w hg m x t hop k e q K ht he hz b n D hm h1 key kl hx hkey fun c hc _ => ?_
  rw [h3]
  rw [h4] at hc
  exact hK c hc

/-- 'm[k]' at elements of whatever plain type: told by their reading. -/
theorem wp_lookup (hg : o.guard = none) (m x : Operand) (t : TypeId) (hop : o.op = Op.lookup t m x false)
    (k e : TypeId) (K : Keyed Tryd.prog k) (ht : Tryd.prog.underlying t = some (.map k e)) (R : Value → Option (DataW Unit × List MemPlace)) {z : Value} (hz : (zeroValue e).run Tryd.prog w = .ok z w) {zd : DataW Unit} {zp : List MemPlace} (hzd : R z = some (zd, zp)) (b n : Nat) (f : Lit → Option (DataW Unit))
    (hm : a.eval m = .map (some b)) (hown : MapIs w k R b n f) (key : Value) (kl : Lit) (hx : a.eval x = key) (hkey : keyOf Tryd.prog k key = some kl)
    (hK : ∀ v ps, R v = some ((f kl).getD zd, ps) → wpList Tryd.prog ops Q rest (a.put o.dst v) w) :
    wpList Tryd.prog ops Q (o :: rest) a w := by
  obtain ⟨D, h1, h2, h3, h4⟩ := hown
  refine wpList_plain hg fun K' hK' => ?_
  obtain ⟨v, ps, hrun, hv⟩ := h1.lookup K ht hz hzd hkey
  unfold Oper.wp
  simp [execOp, hop, hm, hx, hrun, Result.andThen]
  exact hK' _ _ (hK v ps (by rw [h4] at hv; exact hv))
end
theorem run_makeMap_hint (t k e : TypeId) (ht : Tryd.prog.underlying t = some (.map k e)) (n : Int) (w : World) : (Instr.makeMap t (some (.int .i64 n))).run Tryd.prog w = .ok (.map (some w.heap.size)) (w.alloc (.map #[] 0)) := by
  simp [Instr.makeMap, run_underlying ht, asInt]
  rfl
section
variable {ops : Array Oper} {rest : List Oper} {o : Oper} {a : Act} {Q : Exit → Act → World → Prop}
/-- A map is made. -/
theorem map_event {W : World} (hgd : o.guard = none) {t : TypeId} {r : Option Operand} (_ho : o.op = Op.makeMap t r) (hrun : (execOp a.eval o).run Tryd.prog W = .ok (.value (.map (some W.heap.size))) (W.alloc (.map #[] 0)))
    (k : TypeId) (R : Value → Option (DataW Unit × List MemPlace))
    (h : ∀ b, b = W.heap.size → ∀ w1, MapIs w1 k R b 0 (fun _ => none) → Below W.heap.size W w1 → wpList Tryd.prog ops Q rest (a.put o.dst (.map (some b))) w1) : wpList Tryd.prog ops Q (o :: rest) a W :=
  Kd.event_run hgd hrun (h _ rfl _ (MapIs.made W k R) (below_alloc (Below.refl _ _) _))
end
end Go.Proofs.YtcafgpfecfocnaaDoor.P

/- The plain side of a sweep: marks, what waits, steps; how many gates are marked. -/
namespace Go.Proofs.YtcafgpfecfocnaaDoor.P
open Go.Proofs.YtcafgpfecfocnaaDoorW.PrintWords
set_option linter.unusedVariables false
set_option linter.unusedSimpArgs false

def mkPut (mk : Int → Bool) (i : Int) : Int → Bool := fun j => if j = i then true else mk j
def waitPut (mk : Int → Bool) (wait : List Int) (i : Int) : List Int := if mk i = true then wait else wait ++ [i]
/-- How many of the first n are marked. -/
def cnt (mk : Int → Bool) : Nat → Nat
  | 0 => 0
  | n + 1 => cnt mk n + (if mk (n : Int) = true then 1 else 0)
theorem cnt_le (mk : Int → Bool) (n : Nat) : cnt mk n ≤ n := by
  induction n with
  | zero => exact Nat.le_refl _
  | succ n ih => simp only [cnt]; split <;> omega
theorem cnt_put (mk : Int → Bool) (i : Int) (n : Nat) (h0 : 0 ≤ i) (h1 : i < n) (hm : mk i = false) : cnt (mkPut mk i) n = cnt mk n + 1 := by
  have far : ∀ m : Nat, (m : Int) ≤ i → cnt (mkPut mk i) m = cnt mk m := by
    intro m
    induction m with
    | zero => intro _; rfl
    | succ m ih =>
      intro h
      have e : mkPut mk i (m : Int) = mk (m : Int) := by unfold mkPut; rw [if_neg (by omega)]
      simp only [cnt]
      rw [ih (by omega), e]
  induction n with
  | zero => omega
  | succ n ih =>
    simp only [cnt]
    by_cases e : i = (n : Int)
    · subst e
      have e2 : mkPut mk (n : Int) (n : Int) = true := by unfold mkPut; rw [if_pos rfl]
      rw [far n (by omega), e2, hm]
      simp
    · have e2 : mkPut mk i (n : Int) = mk (n : Int) := by unfold mkPut; rw [if_neg (by omega)]
      rw [ih (by omega), e2]
      omega
theorem mkPut_same (mk : Int → Bool) (i : Int) (h : mk i = true) : mkPut mk i = mk := by
  funext j
  unfold mkPut
  by_cases e : j = i
  · subst e; rw [if_pos rfl, h]
  · rw [if_neg e]

/-- A sweep's state, plainly. -/
structure St where
  mark : Int → Bool
  wait : List Int
def St.push (s : St) (i : Int) : St := ⟨mkPut s.mark i, waitPut s.mark s.wait i⟩
def St.pushAll (s : St) (l : List Int) : St := l.foldl St.push s
def inRange (n : Nat) (i : Int) : Prop := 0 ≤ i ∧ i < n
/-- What waits are gates, no more than there are marks. -/
structure St.Good (s : St) (n : Nat) : Prop where
  range : ∀ i ∈ s.wait, inRange n i
  few : s.wait.length ≤ cnt s.mark n
theorem St.Good.push {s : St} {n : Nat} (h : s.Good n) {i : Int} (hi : inRange n i) : (s.push i).Good n := by
  unfold St.push waitPut
  by_cases hm : s.mark i = true
  · rw [if_pos hm, mkPut_same _ _ hm]
    exact h
  · rw [if_neg hm]
    refine ⟨fun j hj => ?_, ?_⟩
    · simp only [List.mem_append, List.mem_singleton] at hj
      rcases hj with hj | rfl
      · exact h.range j hj
      · exact hi
    · show (s.wait ++ [i]).length ≤ cnt (mkPut s.mark i) n
      rw [cnt_put s.mark i n hi.1 hi.2 (by simpa using hm), List.length_append]
      have := h.few
      simp only [List.length_cons, List.length_nil]
      omega
theorem St.Good.pushAll {n : Nat} : ∀ (l : List Int) {s : St}, s.Good n → (∀ i ∈ l, inRange n i) → (s.pushAll l).Good n
  | [], s, h, _ => h
  | i :: l, s, h, hl => by
    show ((s.push i).pushAll l).Good n
    exact St.Good.pushAll l (h.push (hl i (by simp))) (fun j hj => hl j (by simp [hj]))
/-- One gate that waits is taken. -/
def St.step (gs : List S50) (s : St) : St := match s.wait with
  | [] => s
  | i :: r => St.pushAll ⟨s.mark, r⟩ (rd_T50 gs i).f2
def St.steps (gs : List S50) : Nat → St → St
  | 0, s => s
  | n + 1, s => if s.wait = [] then s else St.steps gs n (s.step gs)
def kidsIn (gs : List S50) : Prop := ∀ g ∈ gs, ∀ k ∈ g.f2, inRange gs.length k
theorem rd_mem50 (gs : List S50) (i : Int) (h : inRange gs.length i) : rd_T50 gs i ∈ gs := by
  unfold rd_T50
  have hi : i.toNat < gs.length := by unfold inRange at h; omega
  rw [List.getD_eq_getElem?_getD, List.getElem?_eq_getElem hi]
  exact List.getElem_mem hi
theorem St.Good.tail {s : St} {n : Nat} (h : s.Good n) {i : Int} {r : List Int} (hw : s.wait = i :: r) : (⟨s.mark, r⟩ : St).Good n :=
  ⟨fun j hj => h.range j (by rw [hw]; simp [hj]), by have := h.few; rw [hw] at this; simp only [List.length_cons] at this; show r.length ≤ cnt s.mark n; omega⟩
theorem St.Good.step {gs : List S50} {s : St} (h : s.Good gs.length) (hk : kidsIn gs) : (s.step gs).Good gs.length := by
  unfold St.step
  cases hw : s.wait with
  | nil => exact h
  | cons i r => exact St.Good.pushAll _ (h.tail hw) (hk _ (rd_mem50 gs i (h.range i (by rw [hw]; simp))))
/-- Steps that are still to come. -/
def St.mu (n : Nat) (s : St) : Nat := s.wait.length + (n - cnt s.mark n)
theorem St.mu_push {s : St} {n : Nat} {i : Int} (hi : inRange n i) : (s.push i).mu n = s.mu n := by
  unfold St.push St.mu waitPut
  by_cases hm : s.mark i = true
  · simp only [if_pos hm, mkPut_same _ _ hm]
  · simp only [if_neg hm]
    have h1 := cnt_put s.mark i n hi.1 hi.2 (by simpa using hm)
    have h2 := cnt_le (mkPut s.mark i) n
    rw [h1] at h2 ⊢
    rw [List.length_append]
    simp only [List.length_cons, List.length_nil]
    omega
theorem St.mu_pushAll {n : Nat} : ∀ (l : List Int) {s : St}, (∀ i ∈ l, inRange n i) → (s.pushAll l).mu n = s.mu n
  | [], s, _ => rfl
  | i :: l, s, hl => by
    show ((s.push i).pushAll l).mu n = s.mu n
    rw [St.mu_pushAll l (fun j hj => hl j (by simp [hj])), St.mu_push (hl i (by simp))]
theorem St.mu_step {gs : List S50} {s : St} (h : s.Good gs.length) (hk : kidsIn gs) (hw : s.wait ≠ []) : (s.step gs).mu gs.length + 1 = s.mu gs.length := by
  unfold St.step
  cases he : s.wait with
  | nil => exact absurd he hw
  | cons i r =>
    show (St.pushAll ⟨s.mark, r⟩ (rd_T50 gs i).f2).mu gs.length + 1 = s.mu gs.length
    rw [St.mu_pushAll _ (hk _ (rd_mem50 gs i (h.range i (by rw [he]; simp))))]
    unfold St.mu
    rw [he]
    simp only [List.length_cons]
    omega
end Go.Proofs.YtcafgpfecfocnaaDoor.P

/-
  DERIVED: THE SHELF's CONTRACTS AT THIS DUMP, IN PLAIN WORDS (tools/lay-plain.mjs out of 'YtcafgpfecfocnaaDoorShA.lean', which tools/lay-shelf.mjs wrote): THE SAME DECLARATIONS UNDER THE SAME NAMES: 'import', 'namespace', 'open', 'def', 'theorem' AND NOTHING ELSE: no command of the shelf's: FOR A HAND-IN. Each laying: the table of numbers ('.._ren') and one theorem, a field a fact of the dump's own or the kernel's comparison; each contract: ONE APPLICATION.
-/
namespace Go.Proofs
open Go.Shelf
def Tryd.laysM176_ren : Go.Shelf.Ren := ⟨fun | 176 => 101 | 249 => 110 | 288 => 127 | 283 => 121 | 284 => 122 | 285 => 123 | 286 => 124 | 129 => 120 | 317 => 133 | 318 => 134 | 319 => 135 | 320 => 136 | 337 => 138 | 338 => 139 | n => n, fun | 37 => 121 | 2 => 2 | 3 => 3 | 53 => 148 | 4 => 4 | 9 => 9 | 171 => 149 | 0 => 0 | 173 => 151 | 212 => 165 | 51 => 146 | 5 => 5 | 20 => 20 | 213 => 166 | 46 => 133 | 232 => 170 | 233 => 171 | n => n, fun | 17 => 0 | 18 => 2 | 19 => 3 | n => n⟩
theorem Tryd.laysM176 : Go.Proofs.LaysM.n176 Tryd.prog Tryd.laysM176_ren := {
  mixed := by kernel_rfl
  f129 := Tryd.func120.trans (congrArg some (by kernel_rfl))
  f176 := Tryd.func101.trans (congrArg some (by kernel_rfl))
  f249 := Tryd.func110.trans (congrArg some (by kernel_rfl))
  f283 := Tryd.func121.trans (congrArg some (by kernel_rfl))
  f284 := Tryd.func122.trans (congrArg some (by kernel_rfl))
  f285 := Tryd.func123.trans (congrArg some (by kernel_rfl))
  f286 := Tryd.func124.trans (congrArg some (by kernel_rfl))
  f288 := Tryd.func127.trans (congrArg some (by kernel_rfl))
  f317 := Tryd.func133.trans (congrArg some (by kernel_rfl))
  f318 := Tryd.func134.trans (congrArg some (by kernel_rfl))
  f319 := Tryd.func135.trans (congrArg some (by kernel_rfl))
  f320 := Tryd.func136.trans (congrArg some (by kernel_rfl))
  f337 := Tryd.func138.trans (congrArg some (by kernel_rfl))
  f338 := Tryd.func139.trans (congrArg some (by kernel_rfl))
  t0 := Tryd.underlying0
  a0 := Tryd.isAgg0
  z0 := Tryd.sizeOf0
  v0 := Tryd.zeroValue0
  t2 := Tryd.underlying2
  a2 := Tryd.isAgg2
  z2 := Tryd.sizeOf2
  v2 := Tryd.zeroValue2
  t3 := Tryd.underlying3
  a3 := Tryd.isAgg3
  z3 := Tryd.sizeOf3
  v3 := Tryd.zeroValue3
  t4 := Tryd.underlying4
  a4 := Tryd.isAgg4
  z4 := Tryd.sizeOf4
  v4 := Tryd.zeroValue4
  t5 := Tryd.underlying5
  a5 := Tryd.isAgg5
  z5 := Tryd.sizeOf5
  v5 := Tryd.zeroValue5
  t9 := Tryd.underlying9
  a9 := Tryd.isAgg9
  z9 := Tryd.sizeOf9
  v9 := Tryd.zeroValue9
  t20 := Tryd.underlying20
  a20 := Tryd.isAgg20
  z20 := Tryd.sizeOf20
  v20 := Tryd.zeroValue20
  t37 := Tryd.underlying121
  a37 := Tryd.isAgg121
  z37 := Tryd.sizeOf121
  v37 := Tryd.zeroValue121
  t46 := Tryd.underlying133
  a46 := Tryd.isAgg133
  z46 := Tryd.sizeOf133
  v46 := Tryd.zeroValue133
  t51 := Tryd.underlying146
  a51 := Tryd.isAgg146
  z51 := Tryd.sizeOf146
  v51 := Tryd.zeroValue146
  t53 := Tryd.underlying148
  a53 := Tryd.isAgg148
  z53 := Tryd.sizeOf148
  v53 := Tryd.zeroValue148
  t171 := Tryd.underlying149
  a171 := Tryd.isAgg149
  z171 := Tryd.sizeOf149
  v171 := Tryd.zeroValue149
  t173 := Tryd.underlying151
  a173 := Tryd.isAgg151
  z173 := Tryd.sizeOf151
  v173 := Tryd.zeroValue151
  t212 := Tryd.underlying165
  a212 := Tryd.isAgg165
  z212 := Tryd.sizeOf165
  v212 := Tryd.zeroValue165
  t213 := Tryd.underlying166
  a213 := Tryd.isAgg166
  z213 := Tryd.sizeOf166
  t232 := Tryd.underlying170
  a232 := Tryd.isAgg170
  z232 := Tryd.sizeOf170
  v232 := Tryd.zeroValue170
  t233 := Tryd.underlying171
  a233 := Tryd.isAgg171
  z233 := Tryd.sizeOf171
  v233 := Tryd.zeroValue171
  g17 := by kernel_rfl
  g18 := by kernel_rfl
  g19 := by kernel_rfl
  i0 := by kernel_rfl
  i2 := by kernel_rfl
  i3 := by kernel_rfl
  i4 := by kernel_rfl
  i5 := by kernel_rfl
  i9 := by kernel_rfl
  i20 := by kernel_rfl
  i37 := by kernel_rfl
  i46 := by kernel_rfl
  i51 := by kernel_rfl
  i53 := by kernel_rfl
  i171 := by kernel_rfl
  i173 := by kernel_rfl
  i212 := by kernel_rfl
  i232 := by kernel_rfl
  i233 := by kernel_rfl
  m17 := by kernel_rfl
  m18 := by kernel_rfl
  m19 := by kernel_rfl }
open Go.RowKit Go.Sort Go.Lib in
/-- strconv.AppendInt: "AppendInt appends the string form of the integer i, as generated by FormatInt, to dst and returns the extended buffer.": AT BASE 10: WHAT COMES BACK OWNS dst's CELLS AND, BEHIND THEM, i's DECIMAL NUMERAL ('Lib.itoa i': at most 20 bytes), for every int64. Below the call's own blocks nothing has turned. (LAID: no walk: one application.) -/
theorem Tryd.strconv_AppendInt_10 (B n : Nat) (i : Int) (h0 : -9223372036854775808 ≤ i) (h1 : i ≤ 9223372036854775807) (sv : Value) (xs : List Value) (w : World) (hown : w.ownsRow B 5 1 sv n xs) (hBw : B ≤ w.heap.size) (hlim : n + 21 ≤ 140737488355328) (htab : Lib.TabBelow Tryd.prog B w "internal/strconv.uint64pow10" .u64 Lib.pow10Tab) :
    Calls Tryd.prog 101 #[sv, .int .i64 i, .int .i64 10] w fun e w' => ∃ v', e = .returned v' ∧ w'.ownsRow B 5 1 v' (n + (Lib.itoa i).length) (xs ++ Lib.byteCells (Lib.itoa i)) ∧ Below B w w' ∧ Lib.OthersKept 5 none w w' := Any.strconv_AppendInt_10 Tryd.laysM176 B n i h0 h1 sv xs w hown hBw hlim htab
end Go.Proofs

/- The premise of every number's text: the table of powers of ten lies in memory as its initialiser lays it; and strconv.AppendInt at base 10 in the words of rows of bytes. -/
namespace Go.Proofs.YtcafgpfecfocnaaDoor.P
open Go.RowKit Go.Proofs.YtcafgpfecfocnaaDoorW.PrintWords Go.Proofs.YtcafgpfecfocnaaDoorW.PrintLast Go.Proofs.YtcafgpfecfocnaaDoorW.PrintMore
set_option linter.unusedVariables false
set_option linter.unusedSimpArgs false

/-- The table of powers of ten reads as its initialiser lays it. -/
def Tabs (w : World) : Prop := Lib.TabIs Tryd.prog w "internal/strconv.uint64pow10" .u64 Lib.pow10Tab
theorem Tabs.below {w w' : World} (h : Tabs w) (hb : Below w.heap.size w w') : Tabs w' := Lib.tabBelow_of_tabIs h w' hb

/-- A row of bytes of the call's own. -/
def Bytes (w : World) (B : Nat) (v : Value) (l : List UInt8) : Prop := w.ownsRow B 5 1 v l.length (Lib.byteCells l)
theorem Bytes.nil (w : World) (B : Nat) : Bytes w B (.slice none 0 0) [] := own_nil w B 5 1
theorem bytes_conv {w : World} {B : Nat} {v : Value} {l : List UInt8} (h : Bytes w B v l) : (convert 121 9 v).run Tryd.prog w = .ok (.string ⟨l.toArray⟩) w := by
  have h2 : w.ownsRow B 5 1 v (l.map fun b => (b.toNat : Int)).length (nums .u8 (l.map fun b => (b.toNat : Int))) := by
    unfold Bytes at h
    simpa [nums, Lib.byteCells, Function.comp_def] using h
  have := own_string (P := Tryd.prog) (src := 121) (dst := 9) (e := 5) Tryd.underlying121 Tryd.underlying5 Tryd.underlying9 h2
  have e : strOfNums (l.map fun b => (b.toNat : Int)) = ⟨l.toArray⟩ := by simp [strOfNums, Function.comp_def]
  rw [this, e]

theorem append_int (B : Nat) (i : Int) (hi : -9223372036854775808 ≤ i ∧ i ≤ 9223372036854775807) (sv : Value) (l : List UInt8) (w : World) (hT : Tabs w) (hown : Bytes w B sv l) (hB : B ≤ w.heap.size) (hlen : l.length ≤ 140737488355307)
    (hT2 : ∀ w', Below B w w' → Tabs w') :
    Calls Tryd.prog 101 #[sv, .int .i64 i, .int .i64 10] w fun e w' => ∃ v', e = .returned v' ∧ Bytes w' B v' (l ++ Lib.itoa i) ∧ Below B w w' := by
  refine (Tryd.strconv_AppendInt_10 B l.length i hi.1 hi.2 sv (Lib.byteCells l) w hown hB (by omega) hT2).mono ?_
  rintro e w' ⟨v', rfl, h1, h2, _⟩
  refine ⟨v', rfl, ?_, h2⟩
  unfold Bytes
  rw [List.length_append, Lib.byteCells_append]
  exact h1
end Go.Proofs.YtcafgpfecfocnaaDoor.P

/- circuit.name: the text that equal gates have in common, for every gate whose numbers are 64 bit. -/
namespace Go.Proofs.YtcafgpfecfocnaaDoor.P
open Go.RowKit Go.Proofs.YtcafgpfecfocnaaDoorW.PrintWords Go.Proofs.YtcafgpfecfocnaaDoorW.PrintLast Go.Proofs.YtcafgpfecfocnaaDoorW.PrintMore
set_option linter.unusedVariables false
set_option linter.unusedSimpArgs false

def in64 (i : Int) : Prop := -9223372036854775808 ≤ i ∧ i ≤ 9223372036854775807
def nameK (kids : List Int) : List UInt8 := kids.flatMap fun k => 44 :: Lib.itoa k
def nameS (kind var : Int) (kids : List Int) : List UInt8 := ((Lib.itoa kind ++ [46]) ++ Lib.itoa var) ++ nameK kids

theorem info5 : (Tryd.prog.info? 5).map (fun i => (i.zero, i.size, i.bytes)) = some (some (.int .u8 0), 1, 1) := by kernel_rfl

theorem nameK_len (kids : List Int) (h : ∀ k ∈ kids, in64 k) : (nameK kids).length ≤ 22 * kids.length := by
  induction kids with
  | nil => simp [nameK]
  | cons k ks ih =>
    have h1 := Lib.itoa_length_le k (h k (by simp)).1 (h k (by simp)).2
    have h2 := ih (fun x hx => h x (by simp [hx]))
    simp only [nameK, List.flatMap_cons, List.length_append, List.length_cons] at h2 ⊢
    omega
theorem nameK_snoc (kids : List Int) (k : Nat) (hk : k < kids.length) : nameK (kids.take (k + 1)) = (nameK (kids.take k) ++ [44]) ++ Lib.itoa (rd kids k) := by
  have e : rd kids k = kids[k] := by unfold rd; rw [Int.toNat_natCast, List.getD_eq_getElem?_getD, List.getElem?_eq_getElem hk]; rfl
  rw [e, List.take_succ_eq_append_getElem hk]
  unfold nameK
  rw [List.flatMap_append]
  simp
theorem snoc_bytes {w : World} {B : Nat} {v : Value} {l : List UInt8} {b : UInt8} (h : w.ownsRow B 5 1 v (l.length + 1) (Lib.byteCells l ++ [.int .u8 b.toNat])) : Bytes w B v (l ++ [b]) := by
  unfold Bytes
  rw [List.length_append, Lib.byteCells_append]
  exact h
theorem grown_below {w : World} {B : Nat} {v : Value} {o : Obj} {w' : World} (hB : B ≤ w.heap.size) (hg : (w.alloc o).drew.grownBy w' v.ownBlock) (hv : ∀ k, v.ownBlock = some k → B ≤ k) : Below B w w' :=
  (below_drew ((Below.refl B w).alloc hB o)).grown hg (by simp; omega) hv
set_option maxRecDepth 100000 in
set_option maxHeartbeats 4000000 in
theorem name_calls (kind var : Int) (A : Option Addr) (c : Nat) (kids : List Int) (w : World) (hT : Tabs w) (h1 : in64 kind) (h2 : in64 var) (h3 : ∀ k ∈ kids, in64 k) (hl : kids.length ≤ 1099511627776)
    (hr : Kd.C (Kd.int .i64) w A kids.length kids) :
    Calls Tryd.prog 81 #[.agg #[.int .i64 kind, .int .i64 var, .slice A kids.length c]] w fun e w' => e = .returned (.string ⟨(nameS kind var kids).toArray⟩) ∧ Below w.heap.size w w' := by
  obtain ⟨i0, hi0, hz0, hz1, hz2⟩ := info_parts info5
  have HT := Aside0.mk hT
  have H1 := Aside0.mk h1
  have H2 := Aside0.mk h2
  have H3 := Aside0.mk h3
  have HL := Aside0.mk hl
  have HR := Aside0.mk hr
  clear hT h1 h2 h3 hl hr
  go_enter Tryd.func81, Tryd.ntmps81
  go_wp2_with (first | ((with_reducible refine gate_dst (N := 1) rfl ?_); refine box_event ?hg (N := 1) ?hd (cs := #[.int .i64 kind, .int .i64 var, .slice A kids.length c]) (t := 50) ?hr ?_; (case hd => rfl); (case hg => rfl); (case hr => first | (go_simp; done) | (go_simp; rfl)); intro gb hg w1 hbox hb; have HG := Aside0.mk hg; have BX := Aside0.mk hbox; have HB1 := Aside0.mk hb; clear hg hbox hb; have c0 : w1.cell? ⟨gb, 0, none⟩ = some (.int .i64 kind) := (blk_cell BX.out 0).trans rfl))
  have hTB : ∀ w', Below w1.heap.size w1 w' → Tabs w' := fun w' h => (HT.out.below HB1.out).below h
  have HTB := Aside0.mk hTB
  clear hTB
  have hB : gb < w1.heap.size := blk_lt BX.out
  obtain ⟨B, hBe⟩ : ∃ B, B = w1.heap.size := ⟨_, rfl⟩
  rw [← hBe] at HTB hB
  have HBE := Aside0.mk hBe
  clear hBe
  refine (append_int B kind H1.out (.slice none 0 0) [] w1 (HTB.out w1 (Below.refl _ _)) (Bytes.nil _ _) (Nat.le_of_eq HBE.out) (by simp) HTB.out).mono ?_
  rintro e w2 ⟨v2, rfl, hown2, hb2⟩
  rw [List.nil_append] at hown2
  have OW2 := Aside0.mk hown2
  have HB2 := Aside0.mk hb2
  have hs2 : B ≤ w2.heap.size := by have := hb2.size; have := HBE.out; omega
  have c1 : w2.cell? ⟨gb, 1, none⟩ = some (.int .i64 var) := (hb2.cell (p := ⟨gb, 1, none⟩) hB).trans ((blk_cell BX.out 1).trans rfl)
  have c2 : w2.cell? ⟨gb, 2, none⟩ = some (.slice A kids.length c) := (hb2.cell (p := ⟨gb, 2, none⟩) hB).trans ((blk_cell BX.out 2).trans rfl)
  have hl2 : (Lib.itoa kind).length ≤ 21 := Lib.itoa_length_le _ H1.out.1 H1.out.2
  have ag : v2.ownBlock ≠ some gb := fun e => by have := own_base hown2 _ e; omega
  have hgb2 : gb < w2.heap.size := by omega
  clear hown2 hb2
  go_wp2_with fail
  go_region_held3 (fun w' => w'.cell? ⟨gb, 1, none⟩ = some (.int .i64 var) ∧ w'.cell? ⟨gb, 2, none⟩ = some (.slice A kids.length c))
    (first
      | go_keep
      | (go_split_ands
         refine ⟨?_, ?_⟩
         · (rw [hgrow.cell_far _ (by simp; omega) (Ne.symm ag)]; assumption)
         · (rw [hgrow.cell_far _ (by simp; omega) (Ne.symm ag)]; assumption))
      | (go_split_ands
         refine ⟨?_, ?_⟩
         · exact (HB4.out.cell (p := ⟨gb, 1, none⟩) hB).trans (by assumption)
         · exact (HB4.out.cell (p := ⟨gb, 2, none⟩) hB).trans (by assumption)))
    (first
      | (refine step_append_lies _ (by rfl) _ _ _ (by rfl) B 5 i0 _ 1 1 Tryd.underlying121 hi0 hz0 hz1 hz2 rfl (by omega) v2 (Lib.itoa kind).length (Lib.byteCells (Lib.itoa kind)) (by rfl) ((World.ownsRow.alloc OW2.out _).drew)
             ⟨w2.heap.size, 0, none⟩ 1 1 [.int .u8 46] (by rfl) (by rfl) (World.news_of_block (cs := #[.int .u8 46]) (t := 5) (fr := (0, 0)) (heap_alloc_new w2 _)) (by simp [Value.oneCell'])
             (by omega) (by unfold maxLen; omega) (by omega) (by simp; omega) (w2.heap.size + 1) (by simp) ?_; intro gg cap w3 hown3 hgrow hat hlt; have OW3 := Aside0.mk (snoc_bytes (l := Lib.itoa kind) (b := 46) hown3); have HB3 := Aside0.mk (grown_below (w := w2) (v := v2) hs2 hgrow (own_base OW2.out)); clear hown3)
      | (go_at_call 101; refine (append_int B var H2.out _ (Lib.itoa kind ++ [46]) _ (HTB.out _ (HB2.out.trans HB3.out)) OW3.out ?_ ?_ (fun w' h => HTB.out w' (HB2.out.trans (HB3.out.trans h)))).mono ?_; (exact Nat.le_trans hs2 HB3.out.size); (rw [List.length_append]; simp only [List.length_cons, List.length_nil]; omega); rintro e w4 ⟨v4, rfl, hown4, hb4⟩; have OW4 := Aside0.mk hown4; have HB4 := Aside0.mk hb4; clear hown4))
  have HC4 := Aside0.mk (HB2.out.trans (HB3.out.trans HB4.out))
  have HW4 := Aside0.mk (HB1.out.trans (HC4.out.mono (by rw [HBE.out]; exact HB1.out.size)))
  have hlv : (Lib.itoa var).length ≤ 21 := Lib.itoa_length_le _ H2.out.1 H2.out.2
  obtain ⟨pre, hpre⟩ : ∃ pre, pre = Lib.itoa kind ++ [46] ++ Lib.itoa var := ⟨_, rfl⟩
  rw [← hpre] at OW4
  have hpl : pre.length ≤ 43 := by rw [hpre]; simp only [List.length_append, List.length_cons, List.length_nil]; omega
  have HPRE := Aside0.mk hpre
  clear hpre hlv hl2 ag hgrow hat hlt OW3 HB3 HB4 hb4 OW2 HB2 hs2 hgb2 c0 c1 c2
  rename_i hcc
  have cK : w4.cell? ⟨gb, 2, none⟩ = some (.slice A kids.length c) := hcc.2
  clear hcc
  go_wp2
  go_loopg [3, 5, 18] kids.length (fun gg s3 _ s18 wr => ∃ k : Nat, k ≤ kids.length ∧ kids.length - k ≤ gg ∧ s18 = .int .i64 k ∧ Aside0 (Bytes wr B s3 (pre ++ nameK (kids.take k))) ∧ Aside0 (Below B w1 wr) ∧ Aside0 (Below w.heap.size w wr))
  case atStart => exact ⟨0, Nat.zero_le _, by omega, rfl, ⟨by simpa [nameK] using OW4.out⟩, HC4, HW4⟩
  case round =>
    clear OW4 HC4 HW4 cK
    obtain ⟨k, hk, hg, rfl, OW, HC, HW⟩ := hrel
    by_cases hlt : k < kids.length
    · have hlt' : (k : Int) < (kids.length : Int) := by omega
      obtain ⟨ad, e, hx⟩ := Kd.at_int HR.out k (by omega) hlt'
      cases e
      replace hx := (HW.out.cell (World.block_lt_of_cell? w _ hx)).trans hx
      rw [Int.toNat_natCast] at hx
      have hin := H3.out _ (rd_mem kids k hlt)
      have hsn := nameK_snoc kids k hlt
      generalize hy : rd kids k = y at hx hin hsn
      clear hy
      have HIN := Aside0.mk hin
      have HSN := Aside0.mk hsn
      clear hin hsn
      obtain ⟨l, hle⟩ : ∃ l, l = pre ++ nameK (kids.take k) := ⟨_, rfl⟩
      have hll : l.length ≤ 24189255811200 := by
        have h1 := nameK_len (kids.take k) (fun x hx => H3.out x (List.mem_of_mem_take hx))
        have h2 : (kids.take k).length ≤ k := List.length_take_le _ _
        have := HL.out
        rw [hle, List.length_append]
        omega
      rw [← hle] at OW
      have HLE := Aside0.mk hle
      clear hle
      have hkl := HL.out
      have hBr : B ≤ wr.heap.size := by have := HC.out.size; have := HBE.out; omega
      go_wp2_with (first
        | (at_builtin; refine wpList_append_own _ rfl (.tmp 22) (.tmp 23) 121 rfl B 5 i0 _ 1 1 Tryd.underlying121 hi0 hz0 hz1 hz2 rfl (by decide) _ l.length (Lib.byteCells l) rfl (World.ownsRow.alloc OW.out _) ⟨wr.heap.size, 0, none⟩ 1 1 [.int .u8 44] rfl rfl (World.news_of_block (cs := #[.int .u8 44]) (t := 5) (fr := (0, 0)) (heap_alloc_new wr _)) (by simp [Value.oneCell']) (by unfold maxLen; omega) (by omega) (by simp; omega) ?_; intro v5 w5 hown5 hg5 _; have OW5 := Aside0.mk (snoc_bytes (l := l) (b := 44) hown5); have HB5 := Aside0.mk (((Below.refl B wr).alloc hBr _).grown hg5 (by simp; omega) (own_base OW.out)); clear hown5 hg5)
        | (go_at_call 101; refine (append_int B y HIN.out _ (l ++ [44]) _ (HTB.out _ (HC.out.trans HB5.out)) OW5.out ?_ ?_ (fun w' h => HTB.out w' (HC.out.trans (HB5.out.trans h)))).mono ?_; (exact Nat.le_trans hBr HB5.out.size); (rw [List.length_append]; simp only [List.length_cons, List.length_nil]; omega); rintro e w6 ⟨v6, rfl, hown6, hb6⟩; have OW6 := Aside0.mk hown6; have HB6 := Aside0.mk (HB5.out.trans hb6); clear hown6 hb6))
      go_roundg (kids.length - (k + 1))
      case measure => omega
      case rel => exact ⟨k + 1, by omega, by omega, by go_num, ⟨by rw [HSN.out, ← List.append_assoc, ← List.append_assoc, ← HLE.out]; exact OW6.out⟩, ⟨HC.out.trans HB6.out⟩, ⟨HW.out.trans (HB6.out.mono (by have := HB1.out.size; have := HBE.out; omega))⟩⟩
    · have hlt' : ¬ (k : Int) < (kids.length : Int) := by omega
      obtain rfl : k = kids.length := by omega
      rw [List.take_length] at OW
      have hcv := bytes_conv OW.out
      go_wp2
      go_ret
      exact ⟨by unfold nameS; rw [← HPRE.out]; rfl, HW.out⟩
end Go.Proofs.YtcafgpfecfocnaaDoor.P

/- circuit.names and circuit.Valid: the answer is whether the circuit is valid, for every circuit whose numbers are 64 bit. -/
namespace Go.Proofs.YtcafgpfecfocnaaDoor.P
open Go.RowKit Go.Maps Go.Proofs.YtcafgpfecfocnaaDoorW.PrintWords Go.Proofs.YtcafgpfecfocnaaDoorW.PrintLast Go.Proofs.YtcafgpfecfocnaaDoorW.PrintMore
set_option linter.unusedVariables false
set_option linter.unusedSimpArgs false

def sortedTo (l : List Int) : Nat → Bool
  | 0 => true
  | j + 1 => if rd l ((j + 1 : Nat) : Int) < rd l (j : Int) then false else sortedTo l j
def sortedS (l : List Int) : Bool := sortedTo l (l.length - 1)

theorem less_some (a b : Int) : cmp_Less_int.f a b = some (decide (a < b)) := by simp [cmp_Less_int.f, cmp_isNaN_int.f]
theorem sorted_l0 (l : List Int) (hl : l.length ≤ 4611686018427387904) : ∀ (j k : Nat), j < k → (j = 0 ∨ j < l.length) → slices_IsSorted_int_int.l0 k l j = some (sortedTo l j) := by
  intro j
  induction j with
  | zero =>
    intro k hk _
    obtain ⟨k, rfl⟩ : ∃ m, k = m + 1 := ⟨k - 1, by omega⟩
    simp only [slices_IsSorted_int_int.l0]
    rw [if_neg (by omega)]
    rfl
  | succ j ih =>
    intro k hk hj
    obtain ⟨k, rfl⟩ : ∃ m, k = m + 1 := ⟨k - 1, by omega⟩
    have hjl : j + 1 < l.length := by omega
    have e : wrap64 (((j + 1 : Nat) : Int) - 1) = (j : Int) := by unfold wrap64; omega
    simp only [slices_IsSorted_int_int.l0]
    rw [if_pos (by omega), if_pos (by omega), if_pos (by omega), e, if_pos (by omega), if_pos (by omega), less_some, Option.bind_some]
    simp only [sortedTo]
    by_cases h : rd l ((j + 1 : Nat) : Int) < rd l (j : Int)
    · rw [if_pos h, decide_eq_true h, if_pos rfl]
    · rw [if_neg h, decide_eq_false h, if_neg (by decide)]
      exact ih k (by omega) (by omega)
theorem isSorted_f (l : List Int) (hl : l.length ≤ 4611686018427387904) : ∃ k, slices_IsSorted_int_int.f k l = some (sortedS l) := by
  refine ⟨l.length + 1, ?_⟩
  unfold slices_IsSorted_int_int.f sortedS
  by_cases h : l.length = 0
  · obtain rfl : l = [] := List.eq_nil_of_length_eq_zero h
    have e : wrap64 ((([] : List Int).length : Int) - 1) = -1 := by simp [wrap64]
    rw [e]
    simp [slices_IsSorted_int_int.l0, sortedTo]
  · have e : wrap64 ((l.length : Int) - 1) = ((l.length - 1 : Nat) : Int) := by unfold wrap64; omega
    rw [e]
    exact sorted_l0 l hl _ _ (by omega) (by omega)
theorem isSorted_calls (A : Option Addr) (c : Nat) (l : List Int) (w : World) (hr : Kd.C (Kd.int .i64) w A l.length l) (hc : l.length ≤ c) (hl : l.length ≤ 4611686018427387904) :
    Calls Tryd.prog 78 #[.slice A l.length c] w fun e w' => e = .returned (.bool (sortedS l)) ∧ Below w.heap.size w w' := by
  obtain ⟨k, h⟩ := isSorted_f l hl
  exact (slices_IsSorted_int_int.calls k A c l _ w hr hc h).mono fun e w' ⟨he, hd⟩ => ⟨he, hd.below⟩

/-- The closure of names: does the kid not stay in a gate of this kind? -/
def dropsKid (kind : Int) (gs : List S50) (k : Int) : Bool := !keptS kind (rd_T50 gs k).f0
theorem eg79 : ∀ args w, (callFunc 79 args).run Tryd.prog w = .ok (.enter 79 args) w := enters_of Tryd.func79 (by kernel_rfl) rfl
theorem names1 (kind k : Int) (gs : List S50) (A : Option Addr) (c : Nat) (b6 b1 : Nat) (W : World) (h0 : 0 ≤ k) (h1 : k < gs.length) (hr : Kd.C k50 W A gs.length gs)
    (hc6 : W.cell? ⟨b6, 0, none⟩ = some (.int .i64 kind)) (hc1 : W.cell? ⟨b1, 0, none⟩ = some (.slice A gs.length c)) :
    Calls Tryd.prog 79 #[.int .i64 k, .pointer (some ⟨b6, 0, none⟩), .pointer (some ⟨b1, 0, none⟩)] W fun e W' => e = .returned (.bool (dropsKid kind gs k)) ∧ Below W.heap.size W W' := by
  obtain ⟨ad, A2, c2, e, hx0, hx1, hx2, hl, hi⟩ := at_T50 hr k h0 h1
  cases e
  clear hx1 hx2 hl hi hr
  have e1 : dropsKid kind gs k = !keptS kind (rd_T50 gs k).f0 := rfl
  have E := Aside0.mk e1
  clear e1
  generalize hy : (rd_T50 gs k).f0 = y at hx0
  have HY := Aside0.mk hy
  clear hy
  have h0' : decide (0 ≤ k) = true := decide_eq_true h0
  have h1' : decide (k < (gs.length : Int)) = true := decide_eq_true h1
  go_enter Tryd.func79, Tryd.ntmps79
  go_wp2_with fail
  go_quiet ((go_at_call 80; exact Calls.quiet_of_same (kept_same _ _ _)))
  go_wp2
  go_ret
  exact ⟨by rw [E.out, HY.out]; rfl, pw_below_drewN (Below.refl _ _) nq⟩

def wfG (g : S50) : Prop := in64 g.f0 ∧ in64 g.f1 ∧ (∀ k ∈ g.f2, in64 k) ∧ g.f2.length ≤ 1099511627776
def gateAt (gs : List S50) (i : Nat) : S50 := rd_T50 gs (i : Int)
def nameAt (gs : List S50) (i : Nat) : List UInt8 := nameS (gateAt gs i).f0 (gateAt gs i).f1 (gateAt gs i).f2
def badKids (kind : Int) (kids : List Int) (gs : List S50) : Bool := decide (kids.length < 2) || (!sortedS kids || kids.any (dropsKid kind gs))
def badGate (gs : List S50) (i : Nat) : Bool := !formedS (gateAt gs i).f0 (gateAt gs i).f1 (gateAt gs i).f2 i || (innerS (gateAt gs i).f0 && badKids (gateAt gs i).f0 (gateAt gs i).f2 gs)
def namesTo (gs : List S50) (i : Nat) : List (List UInt8) := (List.range i).map (nameAt gs)
def okTo (gs : List S50) : Nat → Bool
  | 0 => true
  | i + 1 => okTo gs i && (!badGate gs i && !decide (nameAt gs i ∈ namesTo gs i))
def validS (gs : List S50) : Bool := decide (gs.length ≤ 100000) && okTo gs gs.length

theorem okTo_false {gs : List S50} {i n : Nat} (h : okTo gs i = false) (hin : i ≤ n) : okTo gs n = false := by
  induction n with
  | zero => obtain rfl : i = 0 := by omega
            exact h
  | succ n ih =>
    by_cases e : i = n + 1
    · subst e; exact h
    · simp [okTo, ih (by omega)]

theorem gate_mem (gs : List S50) (k : Nat) (hk : k < gs.length) : gateAt gs k ∈ gs := by
  unfold gateAt rd_T50
  rw [Int.toNat_natCast, List.getD_eq_getElem?_getD, List.getElem?_eq_getElem hk]
  exact List.getElem_mem hk
theorem formed_kids {kind var n : Int} {kids : List Int} {m : Int} (h : formedS kind var kids n = true) (hn : n ≤ m) : ∀ x ∈ kids, 0 ≤ x ∧ x < m := by
  intro x hx
  unfold formedS at h
  by_cases ha : kids.any (outside n) = true
  · rw [if_pos ha] at h; cases h
  · have := (List.any_eq_false.1 (by simpa using ha)) x hx
    simp [outside] at this
    omega
theorem nameS_len {kind var : Int} {kids : List Int} (h1 : in64 kind) (h2 : in64 var) (h3 : ∀ k ∈ kids, in64 k) (hl : kids.length ≤ 1099511627776) : (nameS kind var kids).length ≤ 24189255811300 := by
  have a := Lib.itoa_length_le _ h1.1 h1.2
  have b := Lib.itoa_length_le _ h2.1 h2.2
  have c := nameK_len kids h3
  simp only [nameS, List.length_append, List.length_cons, List.length_nil]
  omega
theorem names_put {gs : List S50} {k : Nat} {f : Lit → Option (DataW Unit)} {s : List UInt8} {d : DataW Unit} (h : ∀ l, (f (.string l)).isSome = decide (l ∈ namesTo gs k)) (hs : nameAt gs k = s) (l : List UInt8) :
    (putAt f (.string s) d (.string l)).isSome = decide (l ∈ namesTo gs (k + 1)) := by
  have e : namesTo gs (k + 1) = namesTo gs k ++ [s] := by simp [namesTo, List.range_succ, hs]
  rw [e]
  unfold putAt
  by_cases hl : l = s
  · subst hl; rw [if_pos rfl]; simp
  · rw [if_neg (by simpa using hl), h]; simp [hl]

structure NE (w : World) (gb g6 bm n : Nat) (ob o6 : Obj) (f : Lit → Option (DataW Unit)) (W : World) : Prop where
  below : Below w.heap.size w W
  box : W.heap[gb]? = some ob
  gate : W.heap[g6]? = some o6
  map : MapIs W 9 (plainElem Tryd.prog 3) bm n f
theorem NE.step {w : World} {gb g6 bm n : Nat} {ob o6 : Obj} {f : Lit → Option (DataW Unit)} {W W' : World} (h : NE w gb g6 bm n ob o6 f W) (hb : Below W.heap.size W W') : NE w gb g6 bm n ob o6 f W' :=
  ⟨h.below.trans (hb.mono h.below.size), (hb.block gb (blk_lt h.box)).trans h.box, (hb.block g6 (blk_lt h.gate)).trans h.gate, h.map.below hb⟩
section
variable {w : World} {gb g6 bm n : Nat} {ob : Obj} {x y z u : Value} {f : Lit → Option (DataW Unit)} {W : World}
theorem NE.q0 (h : NE w gb g6 bm n ob (Obj.cells #[x, y, z] 50 (0, 0)) f W) : W.cell? ⟨g6, 0, none⟩ = some x := (blk_cell h.gate 0).trans rfl
theorem NE.q1 (h : NE w gb g6 bm n ob (Obj.cells #[x, y, z] 50 (0, 0)) f W) : W.cell? ⟨g6, 1, none⟩ = some y := (blk_cell h.gate 1).trans rfl
theorem NE.q2 (h : NE w gb g6 bm n ob (Obj.cells #[x, y, z] 50 (0, 0)) f W) : W.cell? ⟨g6, 2, none⟩ = some z := (blk_cell h.gate 2).trans rfl
theorem NE.qb {o6 : Obj} (h : NE w gb g6 bm n (Obj.cells #[u] 24 (0, 0)) o6 f W) : W.cell? ⟨gb, 0, none⟩ = some u := (blk_cell h.box 0).trans rfl
end

theorem law86 : Keyed Tryd.prog 9 := string_keyed Tryd.underlying9
theorem zero3 (w : World) : (zeroValue 3).run Tryd.prog w = .ok (.int .i64 0) w := by kernel_rfl

set_option maxRecDepth 100000 in
set_option maxHeartbeats 8000000 in
theorem names_calls (A : Option Addr) (c : Nat) (gs : List S50) (w : World) (hT : Tabs w) (hwf : ∀ g ∈ gs, wfG g) (hr : Kd.C k50 w A gs.length gs) (hc : gs.length ≤ c) :
    Calls Tryd.prog 58 #[.agg #[.slice A gs.length c]] w fun e w' => (∃ v, e = .returned (.tuple #[v, .bool (validS gs)])) ∧ Below w.heap.size w w' := by
  have HT := Aside0.mk hT
  have HWF := Aside0.mk hwf
  have HR := Aside0.mk hr
  have HC := Aside0.mk hc
  clear hT hwf hr hc
  have hmm := fun n W => run_makeMap_hint 86 9 3 Tryd.underlying86 n W
  by_cases hl : gs.length ≤ 100000
  · have hlb : decide ((100000 : Int) < (gs.length : Int)) = false := decide_eq_false (by omega)
    have E0 := Aside0.mk (show validS gs = okTo gs gs.length by simp [validS, hl])
    go_enter Tryd.func58, Tryd.ntmps58
    go_wp2_with (first
      | ((with_reducible refine gate_dst (N := 1) rfl ?_); refine box_event ?hg (N := 1) ?hd (cs := #[.slice A gs.length c]) (t := 24) ?hr ?_; (case hd => rfl); (case hg => rfl); (case hr => first | (go_simp; done) | (go_simp; rfl)); intro gb hg w1 hbox hb; have HG := Aside0.mk hg; have BX := Aside0.mk hbox; have HB := Aside0.mk hb; clear hg hbox hb; have c0 : w1.cell? ⟨gb, 0, none⟩ = some (.slice A gs.length c) := (blk_cell BX.out 0).trans rfl)
      | ((with_reducible refine gate_dst (N := 16) rfl ?_); refine map_event rfl rfl ?hr 9 (plainElem Tryd.prog 3) ?_; (case hr => first | (go_simp; done) | (go_simp; rfl)); intro bm hbm w2 hM hb; have HM := Aside0.mk hM; have BMG := Aside0.mk (show w.heap.size ≤ bm by rw [hbm]; exact HB.out.size); have GBM := Aside0.mk (show gb ≠ bm by have := blk_lt BX.out; omega); have c0' := (hb.cell (World.block_lt_of_cell? _ _ c0)).trans c0; have BX2 := Aside0.mk ((hb.block gb (blk_lt BX.out)).trans BX.out); have HB2 := Aside0.mk (HB.out.trans (hb.mono HB.out.size)); clear hbm hM hb c0))
    go_loopg [20] gs.length (fun gg s20 wr => ∃ (k : Nat) (f : Lit → Option (DataW Unit)), k ≤ gs.length ∧ gs.length - k ≤ gg ∧ s20 = .int .i64 k ∧ Aside0 (okTo gs k = true) ∧ Aside0 (Below w.heap.size w wr) ∧ Aside0 (wr.heap[gb]? = some (Obj.cells #[.slice A gs.length c] 24 (0, 0))) ∧ Aside0 (MapIs wr 9 (plainElem Tryd.prog 3) bm k f) ∧ Aside0 (∀ s, (f (.string s)).isSome = decide (s ∈ namesTo gs k)))
    case atStart => exact ⟨0, _, Nat.zero_le _, by omega, rfl, ⟨rfl⟩, HB2, BX2, HM, ⟨fun s => by simp [namesTo]⟩⟩
    case round =>
      clear BX HB HM c0' BX2 HB2 hlb
      obtain ⟨k, f, hk, hg, rfl, HOK, HB, BX, HM, HF⟩ := hrel
      by_cases hlt : k < gs.length
      · have hlt' : (k : Int) < (gs.length : Int) := by omega
        obtain ⟨ad, A2, c2, e, hx0, hx1, hx2, hl2, hi2⟩ := at_T50 HR.out k (by omega) hlt'
        cases e
        replace hx0 := (HB.out.cell (World.block_lt_of_cell? w _ hx0)).trans hx0
        replace hx1 := (HB.out.cell (World.block_lt_of_cell? w _ hx1)).trans hx1
        replace hx2 := (HB.out.cell (World.block_lt_of_cell? w _ hx2)).trans hx2
        rw [Int.toNat_natCast] at hx0 hx1 hx2
        obtain ⟨g, hg⟩ : ∃ g, g = gateAt gs k := ⟨_, rfl⟩
        rw [show rd_T50 gs (k : Int) = g from hg.symm] at hx0 hx1 hx2 hl2 hi2
        have HGA := Aside0.mk hg
        have HI2 := Aside0.mk hi2
        have HL2 := Aside0.mk hl2
        clear hg hi2 hl2
        have WG := Aside0.mk (HWF.out g (by rw [HGA.out]; exact gate_mem gs k hlt))
        obtain ⟨s, hs⟩ : ∃ s, s = nameS g.f0 g.f1 g.f2 := ⟨_, rfl⟩
        have hsl : s.length ≤ 24189255811300 := by rw [hs]; exact nameS_len WG.out.1 WG.out.2.1 WG.out.2.2.1 WG.out.2.2.2
        have NM := Aside0.mk hs.symm
        have NMA := Aside0.mk (show nameAt gs k = s by unfold nameAt; rw [← HGA.out]; exact hs.symm)
        have KEY := Aside0.mk (show keyOf Tryd.prog 9 (.string ⟨s.toArray⟩) = some (.string s) from Go.WideMaps.keyOf_string_mk (s := ⟨s.toArray⟩) Tryd.underlying9 (by show s.toArray.size ≤ maxLen; simp; unfold maxLen; omega))
        clear hs
        have hk2 : (k : Int) ≤ (gs.length : Int) := by omega
        have en : NE w gb wr.heap.size bm k (Obj.cells #[.slice (some ad) gs.length c] 24 (0, 0)) (Obj.cells #[.int .i64 g.f0, .int .i64 g.f1, .slice A2 g.f2.length c2] 50 (0, 0)) f (wr.alloc (Obj.cells #[.int .i64 g.f0, .int .i64 g.f1, .slice A2 g.f2.length c2] 50)) :=
          ⟨HB.out.alloc HB.out.size _, (Below.heap_alloc wr _ gb (blk_lt BX.out)).trans BX.out, heap_alloc_new wr _, HM.out.alloc _⟩
        have EN := Aside0.mk en
        have H81 := Aside0.mk (fun (W : World) (hb : Below w.heap.size w W) => (show Calls Tryd.prog 81 #[.agg #[.int .i64 g.f0, .int .i64 g.f1, .slice A2 g.f2.length c2]] W fun e w' => e = .returned (.string ⟨s.toArray⟩) ∧ Below W.heap.size W w' by have h := name_calls g.f0 g.f1 A2 c2 g.f2 W (HT.out.below hb) WG.out.1 WG.out.2.1 WG.out.2.2.1 WG.out.2.2.2 (Kd.C_below HI2.out hb); rw [NM.out] at h; exact h))
        have q0 := EN.out.q0
        have q1 := EN.out.q1
        have q2 := EN.out.q2
        have qb := EN.out.qb
        clear en HM BX
        cases h1 : formedS g.f0 g.f1 g.f2 (k : Int) with
        | false =>
          have F1 := Aside0.mk h1
          have GB := Aside0.mk (show badGate gs k = true by unfold badGate; rw [← HGA.out, F1.out]; rfl)
          clear h1
          have H76 := Aside0.mk (fun (W : World) (hb : Below w.heap.size w W) => (show Calls Tryd.prog 76 #[.agg #[.int .i64 g.f0, .int .i64 g.f1, .slice A2 g.f2.length c2], .int .i64 (k : Int)] W fun e w' => e = .returned (.bool false) ∧ Below W.heap.size W w' by have h := formed_calls g.f0 g.f1 A2 c2 g.f2 k W (Kd.C_below HI2.out hb); rw [F1.out] at h; exact h))
          have BAD := Aside0.mk (show okTo gs (k + 1) = false by simp only [okTo]; rw [GB.out]; simp)
          go_wp2_with (first
            | (go_at_call 76; refine (H76.out _ EN.out.below).mono ?_; rintro e W5 ⟨rfl, hb⟩; have EN2 := Aside0.mk (EN.out.step hb); clear hb EN q0 q1 q2 qb; have EN := EN2; clear EN2; have q0 := EN.out.q0; have q1 := EN.out.q1; have q2 := EN.out.q2; have qb := EN.out.qb))
          go_ret2
          exact ⟨⟨_, by rw [E0.out, okTo_false (BAD.out) (show k + 1 ≤ gs.length by omega)]; rfl⟩, EN.out.below⟩
        | true =>
          have F1 := Aside0.mk h1
          have KID := Aside0.mk (formed_kids h1 hk2)
          clear h1
          have H76 := Aside0.mk (fun (W : World) (hb : Below w.heap.size w W) => (show Calls Tryd.prog 76 #[.agg #[.int .i64 g.f0, .int .i64 g.f1, .slice A2 g.f2.length c2], .int .i64 (k : Int)] W fun e w' => e = .returned (.bool true) ∧ Below W.heap.size W w' by have h := formed_calls g.f0 g.f1 A2 c2 g.f2 k W (Kd.C_below HI2.out hb); rw [F1.out] at h; exact h))
          cases h2 : innerS g.f0 with
          | false =>
            have F2 := Aside0.mk h2
            have GB := Aside0.mk (show badGate gs k = false by unfold badGate; rw [← HGA.out, F1.out, F2.out]; rfl)
            clear h2
            have H77 := Aside0.mk (fun (W : World) => (show Calls Tryd.prog 77 #[.int .i64 g.f0] W fun e w' => e = .returned (.bool false) ∧ Below W.heap.size W w' by have h := inner_calls g.f0 W; rw [F2.out] at h; exact h))
            by_cases hd : s ∈ namesTo gs k
            · have FD := Aside0.mk (show (f (.string s)).isSome = true by rw [HF.out]; exact decide_eq_true hd)
              have BAD := Aside0.mk (show okTo gs (k + 1) = false by simp only [okTo]; rw [NMA.out, decide_eq_true hd]; simp)
              clear hd
              go_wp2_with (first
                | (go_at_call 76; refine (H76.out _ EN.out.below).mono ?_; rintro e W5 ⟨rfl, hb⟩; have EN2 := Aside0.mk (EN.out.step hb); clear hb EN q0 q1 q2 qb; have EN := EN2; clear EN2; have q0 := EN.out.q0; have q1 := EN.out.q1; have q2 := EN.out.q2; have qb := EN.out.qb)
                | (go_at_call 77; refine (H77.out _).mono ?_; rintro e W6 ⟨rfl, hb⟩; have EN2 := Aside0.mk (EN.out.step hb); clear hb EN q0 q1 q2 qb; have EN := EN2; clear EN2; have q0 := EN.out.q0; have q1 := EN.out.q1; have q2 := EN.out.q2; have qb := EN.out.qb)
                | (go_at_call 81; refine (H81.out _ EN.out.below).mono ?_; rintro e W9 ⟨rfl, hb⟩; have EN2 := Aside0.mk (EN.out.step hb); clear hb EN q0 q1 q2 qb; have EN := EN2; clear EN2; have q0 := EN.out.q0; have q1 := EN.out.q1; have q2 := EN.out.q2; have qb := EN.out.qb)
                | (at_lookup; refine wp_lookup_ok_int rfl _ _ 86 rfl 9 3 .i64 law86 Tryd.underlying86 Tryd.underlying3 (zero3 _) bm k f rfl EN.out.map _ (.string s) rfl KEY.out _ FD.out ?_; intro cc _))
              go_ret2
              exact ⟨⟨_, by rw [E0.out, okTo_false (BAD.out) (show k + 1 ≤ gs.length by omega)]; rfl⟩, EN.out.below⟩
            · have FD := Aside0.mk (show (f (.string s)).isSome = false by rw [HF.out]; exact decide_eq_false hd)
              have GOOD := Aside0.mk (show okTo gs (k + 1) = true by simp only [okTo]; rw [HOK.out, GB.out, NMA.out, decide_eq_false hd]; rfl)
              clear hd
              go_wp2_with (first
                | (go_at_call 76; refine (H76.out _ EN.out.below).mono ?_; rintro e W5 ⟨rfl, hb⟩; have EN2 := Aside0.mk (EN.out.step hb); clear hb EN q0 q1 q2 qb; have EN := EN2; clear EN2; have q0 := EN.out.q0; have q1 := EN.out.q1; have q2 := EN.out.q2; have qb := EN.out.qb)
                | (go_at_call 77; refine (H77.out _).mono ?_; rintro e W6 ⟨rfl, hb⟩; have EN2 := Aside0.mk (EN.out.step hb); clear hb EN q0 q1 q2 qb; have EN := EN2; clear EN2; have q0 := EN.out.q0; have q1 := EN.out.q1; have q2 := EN.out.q2; have qb := EN.out.qb)
                | (go_at_call 81; refine (H81.out _ EN.out.below).mono ?_; rintro e W9 ⟨rfl, hb⟩; have EN2 := Aside0.mk (EN.out.step hb); clear hb EN q0 q1 q2 qb; have EN := EN2; clear EN2; have q0 := EN.out.q0; have q1 := EN.out.q1; have q2 := EN.out.q2; have qb := EN.out.qb)
                | (at_lookup; refine wp_lookup_ok_int rfl _ _ 86 rfl 9 3 .i64 law86 Tryd.underlying86 Tryd.underlying3 (zero3 _) bm k f rfl EN.out.map _ (.string s) rfl KEY.out _ FD.out ?_; intro cc _)
                | (at_mapUpdate; refine wp_mapUpdate rfl _ _ _ 86 rfl 9 3 law86 Tryd.underlying86 (plainElem Tryd.prog 3) bm k f rfl EN.out.map (by unfold maxLen; omega) _ _ (.string s) rfl rfl KEY.out (.lit (.int .i64 k)) [] (plainElem_int Tryd.underlying3 (WalkArith.wf_i64 (by omega))) ?_; intro W10 hM hg10; have HM := Aside0.mk hM; have HG10 := Aside0.mk hg10; clear hM hg10))
              go_roundg (gs.length - (k + 1))
              case measure => omega
              case rel => exact ⟨k + 1, putAt f (.string s) (.lit (.int .i64 k)), by omega, by omega, by go_num, GOOD, ⟨EN.out.below.grown HG10.out (EN.out.below.size) (fun j hj => by cases hj; exact BMG.out)⟩, ⟨(HG10.out.block gb (blk_lt EN.out.box) (by intro e; cases e; exact absurd rfl GBM.out)).trans EN.out.box⟩, HM, ⟨fun l => names_put HF.out NMA.out l⟩⟩
          | true =>
            have F2 := Aside0.mk h2
            have GBE := Aside0.mk (show badGate gs k = badKids g.f0 g.f2 gs by unfold badGate; rw [← HGA.out, F1.out, F2.out]; simp)
            clear h2
            have H77 := Aside0.mk (fun (W : World) => (show Calls Tryd.prog 77 #[.int .i64 g.f0] W fun e w' => e = .returned (.bool true) ∧ Below W.heap.size W w' by have h := inner_calls g.f0 W; rw [F2.out] at h; exact h))
            by_cases h3 : g.f2.length < 2
            · have h3b : decide ((g.f2.length : Int) < 2) = true := decide_eq_true (by omega)
              have GB := Aside0.mk (show badGate gs k = true by rw [GBE.out]; simp [badKids, h3])
              clear h3
              have BAD := Aside0.mk (show okTo gs (k + 1) = false by simp only [okTo]; rw [GB.out]; simp)
              go_wp2_with (first
                | (go_at_call 76; refine (H76.out _ EN.out.below).mono ?_; rintro e W5 ⟨rfl, hb⟩; have EN2 := Aside0.mk (EN.out.step hb); clear hb EN q0 q1 q2 qb; have EN := EN2; clear EN2; have q0 := EN.out.q0; have q1 := EN.out.q1; have q2 := EN.out.q2; have qb := EN.out.qb)
                | (go_at_call 77; refine (H77.out _).mono ?_; rintro e W6 ⟨rfl, hb⟩; have EN2 := Aside0.mk (EN.out.step hb); clear hb EN q0 q1 q2 qb; have EN := EN2; clear EN2; have q0 := EN.out.q0; have q1 := EN.out.q1; have q2 := EN.out.q2; have qb := EN.out.qb))
              go_ret2
              exact ⟨⟨_, by rw [E0.out, okTo_false (BAD.out) (show k + 1 ≤ gs.length by omega)]; rfl⟩, EN.out.below⟩
            · have h3b : decide ((g.f2.length : Int) < 2) = false := decide_eq_false (by omega)
              have F3 := Aside0.mk h3
              clear h3
              cases h4 : sortedS g.f2 with
              | false =>
                have F4 := Aside0.mk h4
                have GB := Aside0.mk (show badGate gs k = true by rw [GBE.out]; simp [badKids, F4.out])
                clear h4
                have H78 := Aside0.mk (fun (W : World) (hb : Below w.heap.size w W) => (show Calls Tryd.prog 78 #[.slice A2 g.f2.length c2] W fun e w' => e = .returned (.bool false) ∧ Below W.heap.size W w' by have h := isSorted_calls A2 c2 g.f2 W (Kd.C_below HI2.out hb) HL2.out (Nat.le_trans WG.out.2.2.2 (by decide)); rw [F4.out] at h; exact h))
                have BAD := Aside0.mk (show okTo gs (k + 1) = false by simp only [okTo]; rw [GB.out]; simp)
                go_wp2_with (first
                  | (go_at_call 76; refine (H76.out _ EN.out.below).mono ?_; rintro e W5 ⟨rfl, hb⟩; have EN2 := Aside0.mk (EN.out.step hb); clear hb EN q0 q1 q2 qb; have EN := EN2; clear EN2; have q0 := EN.out.q0; have q1 := EN.out.q1; have q2 := EN.out.q2; have qb := EN.out.qb)
                  | (go_at_call 77; refine (H77.out _).mono ?_; rintro e W6 ⟨rfl, hb⟩; have EN2 := Aside0.mk (EN.out.step hb); clear hb EN q0 q1 q2 qb; have EN := EN2; clear EN2; have q0 := EN.out.q0; have q1 := EN.out.q1; have q2 := EN.out.q2; have qb := EN.out.qb)
                  | (go_at_call 78; refine (H78.out _ EN.out.below).mono ?_; rintro e W7 ⟨rfl, hb⟩; have EN2 := Aside0.mk (EN.out.step hb); clear hb EN q0 q1 q2 qb; have EN := EN2; clear EN2; have q0 := EN.out.q0; have q1 := EN.out.q1; have q2 := EN.out.q2; have qb := EN.out.qb))
                go_ret2
                exact ⟨⟨_, by rw [E0.out, okTo_false (BAD.out) (show k + 1 ≤ gs.length by omega)]; rfl⟩, EN.out.below⟩
              | true =>
                have F4 := Aside0.mk h4
                clear h4
                have H78 := Aside0.mk (fun (W : World) (hb : Below w.heap.size w W) => (show Calls Tryd.prog 78 #[.slice A2 g.f2.length c2] W fun e w' => e = .returned (.bool true) ∧ Below W.heap.size W w' by have h := isSorted_calls A2 c2 g.f2 W (Kd.C_below HI2.out hb) HL2.out (Nat.le_trans WG.out.2.2.2 (by decide)); rw [F4.out] at h; exact h))
                cases h5 : g.f2.any (dropsKid g.f0 gs) with
                | true =>
                  have F5 := Aside0.mk h5
                  have GB := Aside0.mk (show badGate gs k = true by rw [GBE.out]; simp only [badKids]; rw [F5.out]; simp)
                  clear h5
                  have H50 := Aside0.mk (fun (W : World) (en : NE w gb wr.heap.size bm k (Obj.cells #[.slice (some ad) gs.length c] 24 (0, 0)) (Obj.cells #[.int .i64 g.f0, .int .i64 g.f1, .slice A2 g.f2.length c2] 50 (0, 0)) f W) => (show Calls Tryd.prog 50 #[.slice A2 g.f2.length c2, .func (.func 79) #[] #[.pointer (some ⟨wr.heap.size, 0, none⟩), .pointer (some ⟨gb, 0, none⟩)]] W fun e w' => e = .returned (.bool true) ∧ Below W.heap.size W w' by have h := containsFunc 79 #[.pointer (some ⟨wr.heap.size, 0, none⟩), .pointer (some ⟨gb, 0, none⟩)] eg79 (dropsKid g.f0 gs) A2 c2 g.f2 W (Kd.C_below HI2.out en.below) (fun W' x hx hb' => names1 g.f0 x gs _ c _ _ W' (KID.out x hx).1 (KID.out x hx).2 (Kd.C_below HR.out (en.step hb').below) (en.step hb').q0 (en.step hb').qb); rw [F5.out] at h; exact h))
                  have BAD := Aside0.mk (show okTo gs (k + 1) = false by simp only [okTo]; rw [GB.out]; simp)
                  go_wp2_with (first
                    | (go_at_call 76; refine (H76.out _ EN.out.below).mono ?_; rintro e W5 ⟨rfl, hb⟩; have EN2 := Aside0.mk (EN.out.step hb); clear hb EN q0 q1 q2 qb; have EN := EN2; clear EN2; have q0 := EN.out.q0; have q1 := EN.out.q1; have q2 := EN.out.q2; have qb := EN.out.qb)
                    | (go_at_call 77; refine (H77.out _).mono ?_; rintro e W6 ⟨rfl, hb⟩; have EN2 := Aside0.mk (EN.out.step hb); clear hb EN q0 q1 q2 qb; have EN := EN2; clear EN2; have q0 := EN.out.q0; have q1 := EN.out.q1; have q2 := EN.out.q2; have qb := EN.out.qb)
                    | (go_at_call 78; refine (H78.out _ EN.out.below).mono ?_; rintro e W7 ⟨rfl, hb⟩; have EN2 := Aside0.mk (EN.out.step hb); clear hb EN q0 q1 q2 qb; have EN := EN2; clear EN2; have q0 := EN.out.q0; have q1 := EN.out.q1; have q2 := EN.out.q2; have qb := EN.out.qb)
                    | (go_at_call 50; refine (H50.out _ EN.out).mono ?_; rintro e W8 ⟨rfl, hb⟩; have EN2 := Aside0.mk (EN.out.step hb); clear hb EN q0 q1 q2 qb; have EN := EN2; clear EN2; have q0 := EN.out.q0; have q1 := EN.out.q1; have q2 := EN.out.q2; have qb := EN.out.qb))
                  go_ret2
                  exact ⟨⟨_, by rw [E0.out, okTo_false (BAD.out) (show k + 1 ≤ gs.length by omega)]; rfl⟩, EN.out.below⟩
                | false =>
                  have F5 := Aside0.mk h5
                  have GB := Aside0.mk (show badGate gs k = false by rw [GBE.out]; simp only [badKids]; rw [F5.out, F4.out]; simp [F3.out])
                  clear h5
                  have H50 := Aside0.mk (fun (W : World) (en : NE w gb wr.heap.size bm k (Obj.cells #[.slice (some ad) gs.length c] 24 (0, 0)) (Obj.cells #[.int .i64 g.f0, .int .i64 g.f1, .slice A2 g.f2.length c2] 50 (0, 0)) f W) => (show Calls Tryd.prog 50 #[.slice A2 g.f2.length c2, .func (.func 79) #[] #[.pointer (some ⟨wr.heap.size, 0, none⟩), .pointer (some ⟨gb, 0, none⟩)]] W fun e w' => e = .returned (.bool false) ∧ Below W.heap.size W w' by have h := containsFunc 79 #[.pointer (some ⟨wr.heap.size, 0, none⟩), .pointer (some ⟨gb, 0, none⟩)] eg79 (dropsKid g.f0 gs) A2 c2 g.f2 W (Kd.C_below HI2.out en.below) (fun W' x hx hb' => names1 g.f0 x gs _ c _ _ W' (KID.out x hx).1 (KID.out x hx).2 (Kd.C_below HR.out (en.step hb').below) (en.step hb').q0 (en.step hb').qb); rw [F5.out] at h; exact h))
                  by_cases hd : s ∈ namesTo gs k
                  · have FD := Aside0.mk (show (f (.string s)).isSome = true by rw [HF.out]; exact decide_eq_true hd)
                    have BAD := Aside0.mk (show okTo gs (k + 1) = false by simp only [okTo]; rw [NMA.out, decide_eq_true hd]; simp)
                    clear hd
                    go_wp2_with (first
                      | (go_at_call 76; refine (H76.out _ EN.out.below).mono ?_; rintro e W5 ⟨rfl, hb⟩; have EN2 := Aside0.mk (EN.out.step hb); clear hb EN q0 q1 q2 qb; have EN := EN2; clear EN2; have q0 := EN.out.q0; have q1 := EN.out.q1; have q2 := EN.out.q2; have qb := EN.out.qb)
                      | (go_at_call 77; refine (H77.out _).mono ?_; rintro e W6 ⟨rfl, hb⟩; have EN2 := Aside0.mk (EN.out.step hb); clear hb EN q0 q1 q2 qb; have EN := EN2; clear EN2; have q0 := EN.out.q0; have q1 := EN.out.q1; have q2 := EN.out.q2; have qb := EN.out.qb)
                      | (go_at_call 78; refine (H78.out _ EN.out.below).mono ?_; rintro e W7 ⟨rfl, hb⟩; have EN2 := Aside0.mk (EN.out.step hb); clear hb EN q0 q1 q2 qb; have EN := EN2; clear EN2; have q0 := EN.out.q0; have q1 := EN.out.q1; have q2 := EN.out.q2; have qb := EN.out.qb)
                      | (go_at_call 50; refine (H50.out _ EN.out).mono ?_; rintro e W8 ⟨rfl, hb⟩; have EN2 := Aside0.mk (EN.out.step hb); clear hb EN q0 q1 q2 qb; have EN := EN2; clear EN2; have q0 := EN.out.q0; have q1 := EN.out.q1; have q2 := EN.out.q2; have qb := EN.out.qb)
                      | (go_at_call 81; refine (H81.out _ EN.out.below).mono ?_; rintro e W9 ⟨rfl, hb⟩; have EN2 := Aside0.mk (EN.out.step hb); clear hb EN q0 q1 q2 qb; have EN := EN2; clear EN2; have q0 := EN.out.q0; have q1 := EN.out.q1; have q2 := EN.out.q2; have qb := EN.out.qb)
                      | (at_lookup; refine wp_lookup_ok_int rfl _ _ 86 rfl 9 3 .i64 law86 Tryd.underlying86 Tryd.underlying3 (zero3 _) bm k f rfl EN.out.map _ (.string s) rfl KEY.out _ FD.out ?_; intro cc _))
                    go_ret2
                    exact ⟨⟨_, by rw [E0.out, okTo_false (BAD.out) (show k + 1 ≤ gs.length by omega)]; rfl⟩, EN.out.below⟩
                  · have FD := Aside0.mk (show (f (.string s)).isSome = false by rw [HF.out]; exact decide_eq_false hd)
                    have GOOD := Aside0.mk (show okTo gs (k + 1) = true by simp only [okTo]; rw [HOK.out, GB.out, NMA.out, decide_eq_false hd]; rfl)
                    clear hd
                    go_wp2_with (first
                      | (go_at_call 76; refine (H76.out _ EN.out.below).mono ?_; rintro e W5 ⟨rfl, hb⟩; have EN2 := Aside0.mk (EN.out.step hb); clear hb EN q0 q1 q2 qb; have EN := EN2; clear EN2; have q0 := EN.out.q0; have q1 := EN.out.q1; have q2 := EN.out.q2; have qb := EN.out.qb)
                      | (go_at_call 77; refine (H77.out _).mono ?_; rintro e W6 ⟨rfl, hb⟩; have EN2 := Aside0.mk (EN.out.step hb); clear hb EN q0 q1 q2 qb; have EN := EN2; clear EN2; have q0 := EN.out.q0; have q1 := EN.out.q1; have q2 := EN.out.q2; have qb := EN.out.qb)
                      | (go_at_call 78; refine (H78.out _ EN.out.below).mono ?_; rintro e W7 ⟨rfl, hb⟩; have EN2 := Aside0.mk (EN.out.step hb); clear hb EN q0 q1 q2 qb; have EN := EN2; clear EN2; have q0 := EN.out.q0; have q1 := EN.out.q1; have q2 := EN.out.q2; have qb := EN.out.qb)
                      | (go_at_call 50; refine (H50.out _ EN.out).mono ?_; rintro e W8 ⟨rfl, hb⟩; have EN2 := Aside0.mk (EN.out.step hb); clear hb EN q0 q1 q2 qb; have EN := EN2; clear EN2; have q0 := EN.out.q0; have q1 := EN.out.q1; have q2 := EN.out.q2; have qb := EN.out.qb)
                      | (go_at_call 81; refine (H81.out _ EN.out.below).mono ?_; rintro e W9 ⟨rfl, hb⟩; have EN2 := Aside0.mk (EN.out.step hb); clear hb EN q0 q1 q2 qb; have EN := EN2; clear EN2; have q0 := EN.out.q0; have q1 := EN.out.q1; have q2 := EN.out.q2; have qb := EN.out.qb)
                      | (at_lookup; refine wp_lookup_ok_int rfl _ _ 86 rfl 9 3 .i64 law86 Tryd.underlying86 Tryd.underlying3 (zero3 _) bm k f rfl EN.out.map _ (.string s) rfl KEY.out _ FD.out ?_; intro cc _)
                      | (at_mapUpdate; refine wp_mapUpdate rfl _ _ _ 86 rfl 9 3 law86 Tryd.underlying86 (plainElem Tryd.prog 3) bm k f rfl EN.out.map (by unfold maxLen; omega) _ _ (.string s) rfl rfl KEY.out (.lit (.int .i64 k)) [] (plainElem_int Tryd.underlying3 (WalkArith.wf_i64 (by omega))) ?_; intro W10 hM hg10; have HM := Aside0.mk hM; have HG10 := Aside0.mk hg10; clear hM hg10))
                    go_roundg (gs.length - (k + 1))
                    case measure => omega
                    case rel => exact ⟨k + 1, putAt f (.string s) (.lit (.int .i64 k)), by omega, by omega, by go_num, GOOD, ⟨EN.out.below.grown HG10.out (EN.out.below.size) (fun j hj => by cases hj; exact BMG.out)⟩, ⟨(HG10.out.block gb (blk_lt EN.out.box) (by intro e; cases e; exact absurd rfl GBM.out)).trans EN.out.box⟩, HM, ⟨fun l => names_put HF.out NMA.out l⟩⟩
      · have hlt' : ¬ (k : Int) < (gs.length : Int) := by omega
        obtain rfl : k = gs.length := by omega
        go_wp2
        go_ret2
        exact ⟨⟨_, by rw [E0.out, HOK.out]; rfl⟩, HB.out⟩
  · have hlb : decide ((100000 : Int) < (gs.length : Int)) = true := decide_eq_true (by omega)
    have E := Aside0.mk (show validS gs = false by simp [validS, hl])
    clear hl hmm
    go_enter Tryd.func58, Tryd.ntmps58
    go_wp2_with (first
      | ((with_reducible refine gate_dst (N := 1) rfl ?_); refine box_event ?hg (N := 1) ?hd (cs := #[.slice A gs.length c]) (t := 24) ?hr ?_; (case hd => rfl); (case hg => rfl); (case hr => first | (go_simp; done) | (go_simp; rfl)); intro gb hg w1 hbox hb; have HG := Aside0.mk hg; have BX := Aside0.mk hbox; have HB := Aside0.mk hb; clear hg hbox hb; have c0 : w1.cell? ⟨gb, 0, none⟩ = some (.slice A gs.length c) := (blk_cell BX.out 0).trans rfl))
    go_ret2
    exact ⟨⟨_, by rw [E.out]; rfl⟩, HB.out⟩
end Go.Proofs.YtcafgpfecfocnaaDoor.P

/- circuit.Valid in the words of printed contracts. -/
namespace Go.Proofs.YtcafgpfecfocnaaDoor.P
open Go.RowKit Go.Maps Go.Proofs.YtcafgpfecfocnaaDoorW.PrintWords Go.Proofs.YtcafgpfecfocnaaDoorW.PrintLast Go.Proofs.YtcafgpfecfocnaaDoorW.PrintMore
set_option linter.unusedVariables false
set_option linter.unusedSimpArgs false

theorem valid_calls (A : Option Addr) (c : Nat) (gs : List S50) (w : World) (hT : Tabs w) (hwf : ∀ g ∈ gs, wfG g) (hr : Kd.C k50 w A gs.length gs) (hc : gs.length ≤ c) :
    Calls Tryd.prog 28 #[.agg #[.slice A gs.length c]] w fun e w' => e = .returned (.bool (validS gs)) ∧ Below w.heap.size w w' := by
  have h := names_calls A c gs w hT hwf hr hc
  have H := Aside0.mk (fun (W : World) (hb : Below w.heap.size w W) => names_calls A c gs W (hT.below hb) hwf (Kd.C_below hr hb) hc)
  clear h hT hwf hr hc
  go_enter Tryd.func28, Tryd.ntmps28
  go_wp2_with (first
    | ((with_reducible refine gate_dst (N := 1) rfl ?_); refine box_event ?hg (N := 1) ?hd (cs := #[.slice A gs.length c]) (t := 24) ?hr ?_; (case hd => rfl); (case hg => rfl); (case hr => first | (go_simp; done) | (go_simp; rfl)); intro gb hg w1 hbox hb; have HB := Aside0.mk hb; have c0 : w1.cell? ⟨gb, 0, none⟩ = some (.slice A gs.length c) := (blk_cell hbox 0).trans rfl; clear hg hbox hb)
    | (go_at_call 58; refine (H.out _ HB.out).mono ?_; rintro e w2 ⟨⟨v, rfl⟩, hb⟩; have HB2 := Aside0.mk (HB.out.trans (hb.mono HB.out.size)); clear hb))
  go_ret
  exact ⟨rfl, HB2.out⟩

instance (i : Int) : Decidable (in64 i) := by unfold in64; exact inferInstance
instance (g : S50) : Decidable (wfG g) := by unfold wfG; exact inferInstance
end Go.Proofs.YtcafgpfecfocnaaDoor.P

/- Worlds that differ in some blocks alone; rows of whole numbers that may begin inside their block. -/
namespace Go.Proofs.YtcafgpfecfocnaaDoor.P
open Go.RowKit Go.Maps Go.Proofs.YtcafgpfecfocnaaDoorW.PrintWords Go.Proofs.YtcafgpfecfocnaaDoorW.PrintLast Go.Proofs.YtcafgpfecfocnaaDoorW.PrintMore
set_option linter.unusedVariables false
set_option linter.unusedSimpArgs false

/-- Of what lay in w, at most the blocks of F have turned. -/
structure Upd (F : Nat → Prop) (w w' : World) : Prop where
  os : w'.os = w.os
  tape : w'.tape = w.tape
  output : w'.output = w.output
  size : w.heap.size ≤ w'.heap.size
  block : ∀ k, k < w.heap.size → ¬ F k → w'.heap[k]? = w.heap[k]?
section
variable {F G : Nat → Prop} {w w1 w2 : World}
theorem Upd.refl (F : Nat → Prop) (w : World) : Upd F w w := ⟨rfl, rfl, rfl, Nat.le_refl _, fun _ _ _ => rfl⟩
theorem Upd.trans (h : Upd F w w1) (k : Upd G w1 w2) (hg : ∀ i, G i → F i ∨ w.heap.size ≤ i) : Upd F w w2 :=
  ⟨k.os.trans h.os, k.tape.trans h.tape, k.output.trans h.output, Nat.le_trans h.size k.size, fun i hi hn => (k.block i (Nat.lt_of_lt_of_le hi h.size) (fun g => (hg i g).elim hn (fun e => by omega))).trans (h.block i hi hn)⟩
theorem Upd.of_below (F : Nat → Prop) (h : Below w.heap.size w w1) : Upd F w w1 := ⟨h.os, h.tape, h.output, h.size, fun i hi _ => h.block i hi⟩
theorem Upd.of_grown {row : Option Nat} (h : w.grownBy w1 row) (hr : ∀ k, row = some k → F k) : Upd F w w1 := ⟨h.os, h.tape, h.output, h.size, fun i hi hn => h.block i hi (fun e => hn (hr i e.symm))⟩
theorem Upd.drew (h : Upd F w w1) : Upd F w w1.drew := ⟨h.os, h.tape, h.output, h.size, h.block⟩
theorem Upd.setCell (h : Upd F w w1) {p : Addr} (hp : F p.block ∨ w.heap.size ≤ p.block) (u : Value) : Upd F w (w1.setCell p u) :=
  h.trans (G := fun k => k = p.block) ⟨rfl, rfl, rfl, by simp [World.setCell], fun i _ hn => Below.heap_setCell w1 p u i hn⟩ (fun i hi => by rw [hi]; exact hp)
theorem Upd.below (h : Upd F w w1) {B : Nat} (hB : B ≤ w.heap.size) (hf : ∀ k, F k → B ≤ k) : Below B w w1 :=
  ⟨h.os, h.tape, h.output, h.size, fun k hk => h.block k (by omega) (fun g => by have := hf k g; omega)⟩
theorem Upd.blk {g : Nat} {o : Obj} (h : Upd F w w1) (hb : w.heap[g]? = some o) (hn : ¬ F g) : w1.heap[g]? = some o := (h.block g (blk_lt hb) hn).trans hb
end

/-- A row of whole numbers that is ours: it may begin inside its block, and end before the block does. -/
def QInts (w : World) (v : Value) (xs : List Int) : Prop :=
  (xs = [] ∧ ∃ A, v = .slice A 0 0 ∧ ∀ a, A = some a → ∃ cur, w.heap[a.block]? = some (.cells cur 3 (0, 0))) ∨
  ∃ g off cap cur, v = .slice (some ⟨g, off, none⟩) xs.length cap ∧ w.heap[g]? = some (.cells cur 3 (0, 0)) ∧ xs.length ≤ cap ∧ off + cap ≤ cur.size ∧ cap ≤ maxLen ∧ ∀ j x, xs[j]? = some x → cur[off + j]? = some (.int .i64 x)
section
variable {w w1 : World} {v : Value} {xs : List Int}
theorem QInts.nil (w : World) : QInts w (.slice none 0 0) [] := .inl ⟨rfl, none, rfl, fun a h => by cases h⟩
theorem QInts.of_own {base : Nat} (h : w.ownsRow base 3 1 v xs.length (nums .i64 xs)) : QInts w v xs := by
  obtain ⟨h1, h2⟩ := h
  rcases h2 with ⟨rfl, h0⟩ | ⟨g, cap, cur, rfl, hb, hh, hnc, hcm, hcs, ht⟩
  · obtain rfl : xs = [] := List.eq_nil_of_length_eq_zero h0
    exact QInts.nil w
  · refine .inr ⟨g, 0, cap, cur, rfl, hh, hnc, by rw [hcs]; omega, hcm, fun j x hx => ?_⟩
    have : (nums .i64 xs)[j]? = some (.int .i64 x) := by simp [nums, hx]
    rw [← ht, List.getElem?_take] at this
    split at this
    · rw [Nat.zero_add, ← Array.getElem?_toList]; exact this
    · cases this
theorem QInts.typed (h : QInts w v xs) (k : Nat) (hk : v.ownBlock = some k) : ∃ cells, w.heap[k]? = some (.cells cells 3 (0, 0)) := by
  rcases h with ⟨_, A, rfl, hA⟩ | ⟨g, off, cap, cur, rfl, hh, r⟩
  · cases A with
    | none => simp [Value.ownBlock] at hk
    | some a =>
      have : a.block = k := by simpa [Value.ownBlock] using hk
      subst this
      exact hA a rfl
  · have : g = k := by simpa [Value.ownBlock] using hk
    subst this
    exact ⟨cur, hh⟩
theorem QInts.move (h : QInts w v xs) (hm : ∀ k, v.ownBlock = some k → w1.heap[k]? = w.heap[k]?) : QInts w1 v xs := by
  rcases h with ⟨h0, A, rfl, hA⟩ | ⟨g, off, cap, cur, rfl, hh, r⟩
  · refine .inl ⟨h0, A, rfl, fun a ha => ?_⟩
    obtain ⟨cur, hc⟩ := hA a ha
    subst ha
    exact ⟨cur, (hm a.block (by simp [Value.ownBlock])).trans hc⟩
  · exact .inr ⟨g, off, cap, cur, rfl, (hm g (by simp [Value.ownBlock])).trans hh, r⟩
theorem QInts.lt (h : QInts w v xs) (k : Nat) (hk : v.ownBlock = some k) : k < w.heap.size := by
  obtain ⟨cells, hc⟩ := h.typed k hk
  exact blk_lt hc
theorem QInts.upd {F : Nat → Prop} (h : QInts w v xs) (hu : Upd F w w1) (hn : ∀ k, v.ownBlock = some k → ¬ F k) : QInts w1 v xs := h.move fun k hk => hu.block k (h.lt k hk) (hn k hk)
theorem QInts.ne_type (h : QInts w v xs) {g t : Nat} {cs : Array Value} (hb : w.heap[g]? = some (.cells cs t (0, 0))) (ht : t ≠ 3) : v.ownBlock ≠ some g := by
  intro e
  obtain ⟨cells, hc⟩ := h.typed g e
  rw [hc] at hb
  injection hb with hb
  injection hb with _ hb
  exact ht hb.symm
theorem QInts.ne_map (h : QInts w v xs) {b : Nat} {es : Array MapEntry} {c : Nat} (hb : w.heap[b]? = some (.map es c)) : v.ownBlock ≠ some b := by
  intro e
  obtain ⟨cells, hc⟩ := h.typed b e
  rw [hc] at hb
  cases hb
theorem QInts.form (h : QInts w v xs) : ∃ A n c, v = .slice A n c ∧ n = xs.length ∧ n ≤ c := by
  rcases h with ⟨rfl, A, rfl, hA⟩ | ⟨g, off, cap, cur, rfl, hh, hn, r⟩
  · exact ⟨A, 0, 0, rfl, rfl, Nat.le_refl _⟩
  · exact ⟨_, _, cap, rfl, rfl, hn⟩
theorem QInts.reads {A : Option Addr} {n c : Nat} (h : QInts w (.slice A n c) xs) : n = xs.length ∧ n ≤ c ∧ Kd.C (Kd.int .i64) w A xs.length xs := by
  rcases h with ⟨rfl, A', e, hA⟩ | ⟨g, off, cap, cur, e, hh, hn, hs, hm, hc⟩
  · injection e with e1 e2 e3
    subst e1; subst e2; subst e3
    exact ⟨rfl, Nat.le_refl _, ⟨rfl, by simp, fun h => absurd h (Nat.lt_irrefl 0)⟩⟩
  · injection e with e1 e2 e3
    subst e1; subst e2; subst e3
    refine ⟨rfl, hn, ?_⟩
    refine Kd.C_of_reads (d := (0 : Int)) (h1 := fun _ => rfl) ⟨rfl, by unfold maxLen at hm; omega, fun _ => ⟨_, rfl, fun j hj => ?_⟩⟩
    rw [add_at, cell_of_row w g _ cur 3 (0, 0) hh, hc j (xs.getD j 0) (by rw [List.getD_eq_getElem?_getD, List.getElem?_eq_getElem hj]; rfl)]
/-- 'xs[1:n:n]'. -/
theorem QInts.cut {i : Int} {r : List Int} {A : Option Addr} {n c : Nat} (h : QInts w (.slice A n c) (i :: r)) : QInts w (.slice (if n = 1 then A else A.map (·.add (1 * 1))) (n - 1) (n - 1)) r := by
  rcases h with ⟨h0, _⟩ | ⟨g, off, cap, cur, e, hh, hn, hs, hm, hc⟩
  · cases h0
  · injection e with e1 e2 e3
    subst e1; subst e2; subst e3
    simp only [List.length_cons] at hn ⊢
    by_cases hr : r = []
    · subst hr
      exact .inl ⟨rfl, _, rfl, fun a ha => by simp at ha; subst ha; exact ⟨cur, hh⟩⟩
    · have hl : r.length ≠ 0 := fun e => hr (List.eq_nil_of_length_eq_zero e)
      refine .inr ⟨g, off + 1, r.length, cur, ?_, hh, Nat.le_refl _, by omega, by omega, fun j x hx => ?_⟩
      · rw [if_neg (by omega)]
        simp only [Nat.add_sub_cancel, Option.map_some, Nat.mul_one]
        rw [add_at]
      · have := hc (j + 1) x (by simpa using hx)
        rw [show off + 1 + j = off + (j + 1) by omega]
        exact this
theorem info3q : (Tryd.prog.info? 3).map (fun i => (i.zero, i.size, i.bytes)) = some (some (.int .i64 0), 1, 8) := by kernel_rfl
theorem QInts.append_run (h : QInts w v xs) (i : Int) (ty : TypeId) (hl : xs.length < 8796093022208) (a : Addr) (ha : ∀ j u, [Value.int .i64 i][j]? = some u → w.cell? (a.add j) = some u) :
    ∃ v1 w1, (Builtin.append_ #[25, 25] ty #[v, .slice (some a) 1 1]).run Tryd.prog w = .ok v1 w1 ∧ QInts w1 v1 (xs ++ [i]) ∧ w.grownBy w1 v.ownBlock ∧ (v1.ownBlock = v.ownBlock ∨ ∃ b, v1.ownBlock = some b ∧ w.heap.size ≤ b) := by
  obtain ⟨i0, hi0, hz0, hz1, hz2⟩ := info_parts info3q
  have grows : ∀ (b : Addr) (cap : Nat), cap < xs.length + 1 → (∀ j u, (nums .i64 xs)[j]? = some u → w.cell? (b.add j) = some u) → v = .slice (some b) xs.length cap →
      ∃ v1 w1, (Builtin.append_ #[25, 25] ty #[v, .slice (some a) 1 1]).run Tryd.prog w = .ok v1 w1 ∧ QInts w1 v1 (xs ++ [i]) ∧ w.grownBy w1 v.ownBlock ∧ (v1.ownBlock = v.ownBlock ∨ ∃ b, v1.ownBlock = some b ∧ w.heap.size ≤ b) := by
    intro b cap hcap hcells hv
    obtain ⟨v', w', hr, ho, hg⟩ := run_append_arg_grows (P := Tryd.prog) (w := w) 25 ty 3 i0 _ 1 8 Tryd.underlying25 hi0 hz0 hz1 hz2 rfl (by decide) b xs.length cap (nums .i64 xs) (by rw [nums_length, Nat.mul_one]) hcells a 1 1 [.int .i64 i] rfl ha hcap (by unfold maxLen; omega) (by omega)
    have ho' : w'.ownsRow w.heap.size 3 1 v' (xs ++ [i]).length (nums .i64 (xs ++ [i])) := by rw [List.length_append, nums_append]; exact ho
    refine ⟨v', w', by rw [hv]; exact hr, QInts.of_own ho', ⟨hg.os, hg.tape, hg.output, hg.size, fun k hk _ => hg.block k hk (by simp)⟩, ?_⟩
    obtain ⟨g', cap', he, hb, _⟩ := ho.form (by omega)
    exact .inr ⟨g', by rw [he]; simp [Value.ownBlock], hb⟩
  rcases h with ⟨rfl, A, rfl, hA⟩ | ⟨g, off, cap, cur, hv, hh, hn, hs, hm, hc⟩
  · cases A with
    | none =>
      have ho : w.ownsRow 0 3 1 (.slice none 0 0) 0 [] := own_nil w 0 3 1
      obtain ⟨v', w', hr, ho', hg, _, hat⟩ := run_append_own_at (P := Tryd.prog) w 0 25 ty 3 i0 _ 1 8 Tryd.underlying25 hi0 hz0 hz1 hz2 rfl (by decide) _ 0 [] ho a 1 1 [.int .i64 i] rfl ha (by simp [Value.oneCell']) (by unfold maxLen; omega) (by omega) (Nat.zero_le _)
      refine ⟨v', w', hr, QInts.of_own (base := 0) (by simpa [nums] using ho'), hg, ?_⟩
      rcases hat with hat | hat
      · exact .inl hat
      · exact .inr ⟨_, hat, Nat.le_refl _⟩
    | some b => exact grows b 0 (by simp) (fun j u hu => by simp [nums] at hu) rfl
  · by_cases hroom : xs.length + 1 ≤ cap
    · have hsz : i0.size = 1 := hz1
      have hcell : w.cell? ⟨g, off + xs.length, none⟩ = some (cur[off + xs.length]'(by omega)) := by rw [cell_of_row w g _ cur 3 (0, 0) hh]; exact Array.getElem?_eq_getElem _
      have hr := run_append_room_cells (P := Tryd.prog) (w := w) 25 ty 3 i0 Tryd.underlying25 hi0 g off xs.length cap a 1 1 [.int .i64 i] (by rw [hsz]; rfl) ha (by simp [Value.oneCell']) hroom
        (fun j hj => by
          have : j = 0 := by simpa using hj
          subst this
          rw [hsz, Nat.mul_one, Nat.add_zero, hcell]; rfl) (fun j _ => blk_frozen hh _)
      rw [hsz, Nat.mul_one] at hr
      have hset : w.setCells g (off + xs.length) [.int .i64 i] = w.setCell ⟨g, off + xs.length, none⟩ (.int .i64 i) := rfl
      rw [hset] at hr
      refine ⟨_, _, by rw [hv]; exact hr, .inr ⟨g, off, cap, cur.setIfInBounds (off + xs.length) (.int .i64 i), by rw [List.length_append]; rfl, blk_set hh _ _, by rw [List.length_append]; exact hroom, by rw [Array.size_setIfInBounds]; exact hs, hm, fun j x hx => ?_⟩,
        ⟨rfl, rfl, rfl, by simp [World.setCell], fun k _ hk => Below.heap_setCell w _ _ k (fun he => hk (by rw [hv, he]; simp [Value.ownBlock]))⟩, .inl (by rw [hv]; rfl)⟩
      rcases Nat.lt_or_ge j xs.length with hj | hj
      · rw [List.getElem?_append_left hj] at hx
        rw [Array.getElem?_setIfInBounds_ne (by omega)]
        exact hc j x hx
      · rw [List.getElem?_append_right hj] at hx
        have hj0 : j = xs.length := by
          rcases Nat.eq_zero_or_pos (j - xs.length) with h0 | h0
          · omega
          · rw [List.getElem?_eq_none (by simp; omega)] at hx; cases hx
        subst hj0
        simp at hx
        subst hx
        rw [Array.getElem?_setIfInBounds_self]
        rw [if_pos (by omega)]
    · refine grows ⟨g, off, none⟩ cap (by omega) (fun j u hu => ?_) hv
      rw [add_at, cell_of_row w g _ cur 3 (0, 0) hh]
      simp only [nums, List.getElem?_map, Option.map_eq_some_iff] at hu
      obtain ⟨x, hx, rfl⟩ := hu
      exact hc j x hx
end
end Go.Proofs.YtcafgpfecfocnaaDoor.P

/- slices.Clone at gates and at numbers. -/
namespace Go.Proofs.YtcafgpfecfocnaaDoor.P
open Go.RowKit Go.Maps Go.Proofs.YtcafgpfecfocnaaDoorW.PrintWords Go.Proofs.YtcafgpfecfocnaaDoorW.PrintLast Go.Proofs.YtcafgpfecfocnaaDoorW.PrintMore
set_option linter.unusedVariables false
set_option linter.unusedSimpArgs false

set_option maxHeartbeats 2000000 in
set_option maxRecDepth 100000 in
theorem clone52 (A : Option Addr) (n c : Nat) (news : List Value) (w : World) (hl : news.length = n * 3) (hn : n ≤ 100000) (hA : A = none → n = 0) (hc : ∀ ad, A = some ad → ∀ j u, news[j]? = some u → w.cell? (ad.add j) = some u) (h1 : ∀ u ∈ news, u.oneCell' = true) :
    Calls Tryd.prog 52 #[.slice A n c] w fun e w' => ∃ v', e = .returned v' ∧ w'.ownsRow w.heap.size 50 3 v' n news ∧ Below w.heap.size w w' := by
  have q22 : ∀ (w : World) (a : Option Addr) (n c n' c' : Nat), (binOp .eql 22 (.slice a n c) (.slice none n' c')).run Tryd.prog w = .ok (.bool a.isNone) w := fun w a n c n' c' => Lib.run_eql_slice_nil w _ _ a n c n' c' Tryd.underlying22
  cases A with
  | none =>
    obtain rfl := hA rfl
    obtain rfl : news = [] := by simpa using hl
    clear hc h1
    go_enter Tryd.func52, Tryd.ntmps52
    go_wp2
    go_ret
    exact ⟨_, rfl, ⟨rfl, .inl ⟨rfl, rfl⟩⟩, Below.refl _ _⟩
  | some ad =>
    have B := Aside0.mk (hc ad rfl)
    have H1 := Aside0.mk h1
    obtain ⟨i0, hi, hz0, hz1, hz2⟩ := info_parts info50
    clear hc h1 hA
    go_enter Tryd.func52, Tryd.ntmps52
    go_wp2_with (at_builtin; refine wpList_append_own _ rfl _ _ 22 rfl w.heap.size 50 i0 _ 3 _ Tryd.underlying22 hi hz0 hz1 hz2 rfl (by decide) _ _ _ rfl (World.ownsRow_made w #[] 0 (Nat.le_refl _) (Nat.zero_le _) rfl) ad n c news rfl ?qc1 ?qc2 ?qc3 ?qc4 ?qc5 ?qc6 ?_)
    case qc1 => exact hl
    case qc2 =>
      intro j u hj
      exact Lib.cell?_alloc_some _ (B.out j u hj)
    case qc3 => exact H1.out
    case qc4 => unfold maxLen; omega
    case qc5 => omega
    case qc6 => simp
    intro v' w1 hown hgrow hnil
    have HO := Aside0.mk hown
    have HG := Aside0.mk hgrow
    clear hown hgrow hnil
    go_wp2
    go_ret
    refine ⟨v', rfl, by simpa using HO.out, ?_⟩
    exact ((Below.refl _ w).alloc (Nat.le_refl _) _).grown HG.out (by simp) (by intro k hk; simp [Value.ownBlock] at hk; omega)

set_option maxHeartbeats 2000000 in
set_option maxRecDepth 100000 in
theorem clone53 (A : Option Addr) (n c : Nat) (news : List Value) (w : World) (hl : news.length = n * 1) (hn : n ≤ 1099511627776) (hA : A = none → n = 0) (hc : ∀ ad, A = some ad → ∀ j u, news[j]? = some u → w.cell? (ad.add j) = some u) (h1 : ∀ u ∈ news, u.oneCell' = true) :
    Calls Tryd.prog 53 #[.slice A n c] w fun e w' => ∃ v', e = .returned v' ∧ w'.ownsRow w.heap.size 3 1 v' n news ∧ Below w.heap.size w w' := by
  have q22 : ∀ (w : World) (a : Option Addr) (n c n' c' : Nat), (binOp .eql 25 (.slice a n c) (.slice none n' c')).run Tryd.prog w = .ok (.bool a.isNone) w := fun w a n c n' c' => Lib.run_eql_slice_nil w _ _ a n c n' c' Tryd.underlying25
  cases A with
  | none =>
    obtain rfl := hA rfl
    obtain rfl : news = [] := by simpa using hl
    clear hc h1
    go_enter Tryd.func53, Tryd.ntmps53
    go_wp2
    go_ret
    exact ⟨_, rfl, ⟨rfl, .inl ⟨rfl, rfl⟩⟩, Below.refl _ _⟩
  | some ad =>
    have B := Aside0.mk (hc ad rfl)
    have H1 := Aside0.mk h1
    obtain ⟨i0, hi, hz0, hz1, hz2⟩ := info_parts info3q
    clear hc h1 hA
    go_enter Tryd.func53, Tryd.ntmps53
    go_wp2_with (at_builtin; refine wpList_append_own _ rfl _ _ 25 rfl w.heap.size 3 i0 (.int .i64 0) 1 8 Tryd.underlying25 hi hz0 hz1 hz2 rfl (by decide) _ _ _ rfl (World.ownsRow_made w #[] 0 (Nat.le_refl _) (Nat.zero_le _) rfl) ad n c news rfl ?qc1 ?qc2 ?qc3 ?qc4 ?qc5 ?qc6 ?_)
    case qc1 => exact hl
    case qc2 =>
      intro j u hj
      exact Lib.cell?_alloc_some _ (B.out j u hj)
    case qc3 => exact H1.out
    case qc4 => unfold maxLen; omega
    case qc5 => omega
    case qc6 => simp
    intro v' w1 hown hgrow hnil
    have HO := Aside0.mk hown
    have HG := Aside0.mk hgrow
    clear hown hgrow hnil
    go_wp2
    go_ret
    refine ⟨v', rfl, by simpa using HO.out, ?_⟩
    exact ((Below.refl _ w).alloc (Nat.le_refl _) _).grown HG.out (by simp) (by intro k hk; simp [Value.ownBlock] at hk; omega)

/-- The flat cells of a row that is read. -/
theorem flat_of_C {α : Type} {d : Kd α} {w : World} {A : Option Addr} {xs : List α} (h : d.C w A xs.length xs) : (A = none → xs.length = 0) ∧ ∃ news : List Value, news.length = xs.length * d.sz ∧ Reps (d.K w) d.sz xs news ∧ (∀ ad, A = some ad → ∀ j u, news[j]? = some u → w.cell? (ad.add j) = some u) ∧ ∀ u ∈ news, u.oneCell' = true := by
  have one : ∀ news, Reps (d.K w) d.sz xs news → 0 < d.sz → ∀ u ∈ news, u.oneCell' = true := by
    intro news hR hs u hu
    obtain ⟨j, hj, rfl⟩ := List.getElem_of_mem hu
    have hlen := hR.1
    have hjx : j / d.sz < xs.length := (Nat.div_lt_iff_lt_mul hs).2 (by rw [← hlen]; exact hj)
    have hK := hR.2 (j / d.sz) _ (List.getElem?_eq_getElem hjx)
    refine d.K_one hK _ ?_
    rw [List.mem_iff_getElem?]
    refine ⟨j % d.sz, ?_⟩
    rw [List.getElem?_take_of_lt (Nat.mod_lt _ hs), List.getElem?_drop, Nat.div_add_mod', List.getElem?_eq_getElem hj]
  cases A with
  | none =>
    have h0 : xs.length = 0 := by
      rcases Nat.eq_zero_or_pos xs.length with e | e
      · exact e
      · obtain ⟨ad, e2, _⟩ := h.2.2 e
        cases e2
    obtain rfl : xs = [] := List.eq_nil_of_length_eq_zero h0
    exact ⟨fun _ => h0, [], by simp, Reps.none _ _, (fun ad e => by cases e), by simp⟩
  | some ad =>
    obtain ⟨news, hR, hcell⟩ := ReadsRow.inner_ h
    refine ⟨(fun e => by cases e), news, hR.1, hR, (fun ad' e => by cases e; exact hcell), ?_⟩
    intro u hu
    rcases Nat.eq_zero_or_pos d.sz with e | e
    · have := hR.1
      rw [e, Nat.mul_zero] at this
      rw [List.eq_nil_of_length_eq_zero this] at hu
      simp at hu
    · exact one news hR e u hu

theorem clone_gates (A : Option Addr) (c : Nat) (gs : List S50) (w : World) (hr : Kd.C k50 w A gs.length gs) (hl : gs.length ≤ 100000) :
    Calls Tryd.prog 52 #[.slice A gs.length c] w fun e w' => ∃ Ag cg, e = .returned (.slice Ag gs.length cg) ∧ gs.length ≤ cg ∧ Below w.heap.size w w' ∧ (∀ ad, Ag = some ad → w.heap.size ≤ ad.block ∧ ad.block < w'.heap.size) ∧ Kd.F k50 w' (fun k => k < w.heap.size ∨ ∃ ad, Ag = some ad ∧ k = ad.block) Ag gs.length gs := by
  obtain ⟨hA, news, hlen, hR, hcell, hone⟩ := flat_of_C hr
  refine (clone52 A gs.length c news w hlen hl hA hcell hone).mono ?_
  rintro e w' ⟨v', rfl, hown, hb⟩
  obtain ⟨Ag, cg, rfl, hle, hbase⟩ : ∃ Ag cg, v' = .slice Ag gs.length cg ∧ gs.length ≤ cg ∧ ∀ ad, Ag = some ad → w.heap.size ≤ ad.block ∧ ad.block < w'.heap.size := by
    rcases hown.2 with ⟨rfl, h0⟩ | ⟨g, cap, cur, rfl, hg, hh, hnc, _⟩
    · exact ⟨none, 0, by rw [h0], by omega, fun ad e => by cases e⟩
    · exact ⟨_, cap, rfl, hnc, fun ad e => by cases e; exact ⟨hg, blk_lt hh⟩⟩
  refine ⟨Ag, cg, rfl, hle, hb, hbase, ?_⟩
  intro W' hW'
  have hown' : W'.ownsRow w.heap.size 50 3 (.slice Ag gs.length cg) gs.length news := own_move hown fun k hk => by
    have hex : ∃ ad, Ag = some ad ∧ k = ad.block := by
      cases Ag with
      | none => simp [Value.ownBlock] at hk
      | some ad => exact ⟨ad, rfl, by simpa [Value.ownBlock] using hk.symm⟩
    refine hW' k (.inr hex) ?_
    obtain ⟨cells, hh⟩ := own_typed hown k hk
    exact blk_lt hh
  have hR' : Reps (k50.K W') 3 gs news := hR.imp_ fun p cs hp => k50_heap.K (fun k hk => (hW' k (.inl hk) (Nat.lt_of_lt_of_le hk hb.size)).trans (hb.block k hk)) hp
  obtain ⟨A2, c2, e2, hrow⟩ := own_reads_row hown' hR' rfl
  cases e2
  exact hrow

theorem clone_ints (A : Option Addr) (c : Nat) (xs : List Int) (w : World) (hr : Kd.C (Kd.int .i64) w A xs.length xs) (hl : xs.length ≤ 1099511627776) :
    Calls Tryd.prog 53 #[.slice A xs.length c] w fun e w' => ∃ v', e = .returned v' ∧ QInts w' v' xs ∧ Below w.heap.size w w' ∧ (∀ k, v'.ownBlock = some k → w.heap.size ≤ k) := by
  obtain ⟨hA, news, hlen, hR, hcell, hone⟩ := flat_of_C hr
  obtain rfl : news = nums .i64 xs := by
    refine List.ext_getElem? fun j => ?_
    have hlen' : news.length = xs.length * 1 := hlen
    rcases Nat.lt_or_ge j xs.length with hj | hj
    · have hK : (Kd.int .i64).K w xs[j] ((news.drop (j * 1)).take 1) := hR.2 j _ (List.getElem?_eq_getElem hj)
      have hK' : (news.drop (j * 1)).take 1 = [.int .i64 xs[j]] := hK
      have h2 : ((news.drop (j * 1)).take 1)[0]? = news[j]? := by
        rw [List.getElem?_take_of_lt (by omega), List.getElem?_drop]
        simp
      rw [← h2, hK']
      simp [nums, hj]
    · rw [List.getElem?_eq_none (by omega), List.getElem?_eq_none (by simp [nums]; omega)]
  refine (clone53 A xs.length c _ w hlen hl hA hcell hone).mono ?_
  rintro e w' ⟨v', rfl, hown, hb⟩
  refine ⟨v', rfl, QInts.of_own hown, hb, fun k hk => ?_⟩
  rcases hown.2 with ⟨rfl, h0⟩ | ⟨g, cap, cur, rfl, hg, hh, hnc, _⟩
  · simp [Value.ownBlock] at hk
  · simp [Value.ownBlock] at hk; omega
end Go.Proofs.YtcafgpfecfocnaaDoor.P

/- A sweep in memory (reap.Sweep), and its method push: a gate that is not marked is marked and waits. -/
namespace Go.Proofs.YtcafgpfecfocnaaDoor.P
open Go.RowKit Go.Maps Go.Proofs.YtcafgpfecfocnaaDoorW.PrintWords Go.Proofs.YtcafgpfecfocnaaDoorW.PrintLast Go.Proofs.YtcafgpfecfocnaaDoorW.PrintMore
set_option linter.unusedVariables false
set_option linter.unusedSimpArgs false

/-- One number is appended to a row of ours. -/
theorem wp_append_q {ops : Array Oper} {rest : List Oper} {o : Oper} {a : Act} {Q' : Exit → Act → World → Prop} {W : World} (hgd : o.guard = none) (s x : Operand)
    (ho : o.op = .call { callee := .builtin .append, args := #[s, x], argTypes := #[25, 25] })
    (v : Value) (xs : List Int) (i : Int) (hs : a.eval s = v) (hx : a.eval x = .slice (some ⟨W.heap.size, 0, none⟩) 1 1) (hq : QInts W v xs) (hl : xs.length < 8796093022208)
    (h : ∀ v1 w1, QInts w1 v1 (xs ++ [i]) → W.grownBy w1 v.ownBlock → (v1.ownBlock = v.ownBlock ∨ ∃ b, v1.ownBlock = some b ∧ W.heap.size ≤ b) → wpList Tryd.prog ops Q' rest (a.put o.dst v1) w1) :
    wpList Tryd.prog ops Q' (o :: rest) a (W.alloc (.cells #[.int .i64 i] 3)) := by
  have hq' : QInts (W.alloc (.cells #[.int .i64 i] 3)) v xs := hq.move fun k hk => Below.heap_alloc W _ k (hq.lt k hk)
  obtain ⟨v1, w1, hr, h1, h2, h3⟩ := hq'.append_run i o.type hl ⟨W.heap.size, 0, none⟩ (World.news_of_block (cs := #[.int .i64 i]) (t := 3) (fr := (0, 0)) (heap_alloc_new W _))
  have hg : W.grownBy w1 v.ownBlock := World.grownBy.trans (World.grownBy_alloc W _ _) h2
  have hat : v1.ownBlock = v.ownBlock ∨ ∃ b, v1.ownBlock = some b ∧ W.heap.size ≤ b := by
    rcases h3 with h3 | ⟨b, hb, hle⟩
    · exact .inl h3
    · exact .inr ⟨b, hb, by rw [World.size_alloc] at hle; omega⟩
  refine wpList_plain hgd fun K hK => ?_
  unfold Oper.wp execOp
  simp only [ho, resolve, invoke, builtin, Sem.run_bind, Sem.run_pure, Result.andThen_ok, List.map_toArray, List.map_cons, List.map_nil, hs, hx, hr]
  exact hK _ _ (h v1 w1 h1 hg hat)

/-- A gate that is read, and what its kids lie in. -/
theorem gate_read {W : World} {ok : Nat → Prop} {A : Option Addr} {n : Nat} {gs : List S50} (h : Kd.F k50 W ok A n gs) (i : Int) (h0 : 0 ≤ i) (h1 : i < n) : ∃ ad A2 c2, A = some ad ∧ W.cell? (ad.add (i.toNat * 3)) = some (.int .i64 (rd_T50 gs i).f0) ∧ W.cell? ⟨(ad.add (i.toNat * 3)).block, (ad.add (i.toNat * 3)).off + 1, none⟩ = some (.int .i64 (rd_T50 gs i).f1) ∧ W.cell? ⟨(ad.add (i.toNat * 3)).block, (ad.add (i.toNat * 3)).off + 2, none⟩ = some (.slice A2 (rd_T50 gs i).f2.length c2) ∧ (rd_T50 gs i).f2.length ≤ c2 ∧ Kd.F (Kd.int .i64) W ok A2 (rd_T50 gs i).f2.length (rd_T50 gs i).f2 := by
  obtain ⟨ad, c, e, _, hK, hc0⟩ := ReadsRow.get_ (Kd.F_rows h) z50 i h0 h1
  have hc : ∀ j u, c[j]? = some u → W.cell? (ad.add (i.toNat * 3 + j)) = some u := hc0
  obtain ⟨A2, c2, rfl, l2, g2⟩ := k50_openF hK
  exact ⟨ad, A2, c2, e, hc 0 _ rfl, by rw [← add_field _ _ 1 (by omega)]; exact hc 1 _ rfl, by rw [← add_field _ _ 2 (by omega)]; exact hc 2 _ rfl, l2, g2⟩

/-- A sweep lies at block g; F: the blocks that are its own. -/
structure SW (W : World) (F : Nat → Prop) (g : Nat) (gs : List S50) (roots : List Int) (mk : Int → Bool) (wait : List Int) (Ag : Option Addr) (cg : Nat) (vr : Value) (bm nm : Nat) (vw : Value) (f : Lit → Option (DataW Unit)) : Prop where
  cells : W.heap[g]? = some (.cells #[.slice Ag gs.length cg, vr, .map (some bm), vw] 79 (0, 0))
  room : gs.length ≤ cg
  gates : Kd.F k50 W (fun k => ¬ F k) Ag gs.length gs
  roots : QInts W vr roots
  wait : QInts W vw wait
  map : MapIs W 3 (plainElem Tryd.prog 4) bm nm f
  marks : ∀ i, in64 i → f (.int .i64 i) = if mk i = true then some (.lit (.bool true)) else none
  fg : F g
  fm : F bm
  fr : ∀ k, vr.ownBlock = some k → F k
  fw : ∀ k, vw.ownBlock = some k → F k
  lt : ∀ k, F k → k < W.heap.size
  apart : ∀ k, vr.ownBlock = some k → vw.ownBlock ≠ some k
  bound : nm ≤ cnt mk gs.length
section
variable {W W' : World} {F : Nat → Prop} {g : Nat} {gs : List S50} {roots : List Int} {mk : Int → Bool} {wait : List Int} {Ag : Option Addr} {cg : Nat} {vr : Value} {bm nm : Nat} {vw : Value} {f : Lit → Option (DataW Unit)}
/-- What turns none of its blocks leaves a sweep as it was. -/
theorem SW.far {G : Nat → Prop} (h : SW W F g gs roots mk wait Ag cg vr bm nm vw f) (hu : Upd G W W') (hd : ∀ k, F k → ¬ G k) (hgat : Kd.F k50 W' (fun k => ¬ F k) Ag gs.length gs) : SW W' F g gs roots mk wait Ag cg vr bm nm vw f where
  cells := hu.blk h.cells (hd g h.fg)
  room := h.room
  gates := hgat
  roots := h.roots.upd hu (fun k hk => hd k (h.fr k hk))
  wait := h.wait.upd hu (fun k hk => hd k (h.fw k hk))
  map := by
    obtain ⟨D, ⟨es, cl, hb, r⟩, h2⟩ := h.map
    exact ⟨D, ⟨es, cl, (hu.block bm (blk_lt hb) (hd bm h.fm)).trans hb, r⟩, h2⟩
  marks := h.marks
  fg := h.fg
  fm := h.fm
  fr := h.fr
  fw := h.fw
  lt := fun k hk => Nat.lt_of_lt_of_le (h.lt k hk) hu.size
  apart := h.apart
  bound := h.bound
theorem SW.below (h : SW W F g gs roots mk wait Ag cg vr bm nm vw f) (hb : Below W.heap.size W W') : SW W' F g gs roots mk wait Ag cg vr bm nm vw f :=
  h.far (G := fun _ => False) (Upd.of_below _ hb) (fun _ _ hf => hf) (Kd.F_below h.gates hb)
theorem SW.bm_block (h : SW W F g gs roots mk wait Ag cg vr bm nm vw f) : ∃ es c, W.heap[bm]? = some (.map es c) := by
  obtain ⟨D, ⟨es, cl, hb, r⟩, h2⟩ := h.map
  exact ⟨es, cl, hb⟩
theorem SW.g_ne_bm (h : SW W F g gs roots mk wait Ag cg vr bm nm vw f) : g ≠ bm := by
  rintro rfl
  obtain ⟨es, c, hb⟩ := h.bm_block
  rw [h.cells] at hb
  cases hb
theorem SW.w_ne_g (h : SW W F g gs roots mk wait Ag cg vr bm nm vw f) : vw.ownBlock ≠ some g := h.wait.ne_type h.cells (by decide)
theorem SW.r_ne_g (h : SW W F g gs roots mk wait Ag cg vr bm nm vw f) : vr.ownBlock ≠ some g := h.roots.ne_type h.cells (by decide)
theorem SW.w_ne_bm (h : SW W F g gs roots mk wait Ag cg vr bm nm vw f) : vw.ownBlock ≠ some bm := by
  obtain ⟨es, c, hb⟩ := h.bm_block
  exact h.wait.ne_map hb
theorem SW.r_ne_bm (h : SW W F g gs roots mk wait Ag cg vr bm nm vw f) : vr.ownBlock ≠ some bm := by
  obtain ⟨es, c, hb⟩ := h.bm_block
  exact h.roots.ne_map hb
theorem SW.c0 (h : SW W F g gs roots mk wait Ag cg vr bm nm vw f) : W.cell? ⟨g, 0, none⟩ = some (.slice Ag gs.length cg) := (blk_cell h.cells 0).trans rfl
theorem SW.c1 (h : SW W F g gs roots mk wait Ag cg vr bm nm vw f) : W.cell? ⟨g, 1, none⟩ = some vr := (blk_cell h.cells 1).trans rfl
theorem SW.c2 (h : SW W F g gs roots mk wait Ag cg vr bm nm vw f) : W.cell? ⟨g, 2, none⟩ = some (.map (some bm)) := (blk_cell h.cells 2).trans rfl
theorem SW.c3 (h : SW W F g gs roots mk wait Ag cg vr bm nm vw f) : W.cell? ⟨g, 3, none⟩ = some vw := (blk_cell h.cells 3).trans rfl
end

theorem plain_bool_inv {P : Program} {e : TypeId} (he : P.underlying e = some .bool) {v : Value} {z : DataW Unit × List MemPlace} (h : plainElem (H := Unit) P e v = some z) : ∃ b, v = .bool b ∧ z = (.lit (.bool b), []) := by
  unfold plainElem at h
  rw [he] at h
  cases v <;> simp at h
  exact ⟨_, rfl, h.symm⟩
theorem plainElem_bool_inv {v : Value} {z : DataW Unit × List MemPlace} (h : plainElem (H := Unit) Tryd.prog 4 v = some z) : ∃ b, v = .bool b ∧ z = (.lit (.bool b), []) := plain_bool_inv Tryd.underlying4 h
theorem zero4 (w : World) : (zeroValue 4).run Tryd.prog w = .ok (.bool false) w := by kernel_rfl
theorem law77 : Keyed Tryd.prog 3 := int_keyed Tryd.underlying3

/-- 'm[i]' at a map of marks. -/
theorem wp_marked {ops : Array Oper} {rest : List Oper} {o : Oper} {a : Act} {Q : Exit → Act → World → Prop} {w : World} (hg : o.guard = none) (m x : Operand) (hop : o.op = Op.lookup 77 m x false)
    (b n : Nat) (f : Lit → Option (DataW Unit)) (hm : a.eval m = .map (some b)) (hown : MapIs w 3 (plainElem Tryd.prog 4) b n f) (i : Int) (hx : a.eval x = .int .i64 i) (hi : in64 i) (bb : Bool) (hf : f (.int .i64 i) = if bb = true then some (.lit (.bool true)) else none)
    (hK : wpList Tryd.prog ops Q rest (a.put o.dst (.bool bb)) w) : wpList Tryd.prog ops Q (o :: rest) a w := by
  refine wp_lookup hg m x 77 hop 3 4 law77 Tryd.underlying77 (plainElem Tryd.prog 4) (zero4 w) (plainElem_bool Tryd.underlying4 false) b n f hm hown _ (.int .i64 i) hx (keyOf_int_mk Tryd.underlying3 (WalkArith.wf_i64 (by unfold in64 at hi; omega))) ?_
  intro v ps hv
  obtain ⟨b', rfl, hz⟩ := plainElem_bool_inv hv
  have : b' = bb := by
    rw [hf] at hz
    cases bb <;> simp at hz <;> simp [hz]
  subst this
  exact hK
end Go.Proofs.YtcafgpfecfocnaaDoor.P

/- The closure of reap.Sweep.Result: the new places of a list of gates. -/
namespace Go.Proofs.YtcafgpfecfocnaaDoor.P
open Go.RowKit Go.Maps Go.Proofs.YtcafgpfecfocnaaDoorW.PrintWords Go.Proofs.YtcafgpfecfocnaaDoorW.PrintLast Go.Proofs.YtcafgpfecfocnaaDoorW.PrintMore
set_option linter.unusedVariables false
set_option linter.unusedSimpArgs false

theorem run_makeMap_none' (t k e : TypeId) (ht : Tryd.prog.underlying t = some (.map k e)) (w : World) : (Instr.makeMap t none).run Tryd.prog w = .ok (.map (some w.heap.size)) (w.alloc (.map #[] 0)) := by
  simp [Instr.makeMap, run_underlying ht]
theorem zero3n (w : World) : (zeroValue 3).run Tryd.prog w = .ok (.int .i64 0) w := by kernel_rfl
theorem plain3 (c : Int) (hc : in64 c) : plainElem (H := Unit) Tryd.prog 3 (.int .i64 c) = some (.lit (.int .i64 c), []) := plainElem_int Tryd.underlying3 (WalkArith.wf_i64 (by unfold in64 at hc; omega))
theorem plain3_inv {v : Value} {z : DataW Unit × List MemPlace} (h : plainElem (H := Unit) Tryd.prog 3 v = some z) : ∃ a, v = .int .i64 a ∧ z = (.lit (.int .i64 a), []) := by
  obtain ⟨a, h1, h2, _⟩ := plainElem_int_inv Tryd.underlying3 h
  exact ⟨a, h1, h2⟩
/-- 'm[i]' at a map of places. -/
theorem wp_place {ops : Array Oper} {rest : List Oper} {o : Oper} {a : Act} {Q : Exit → Act → World → Prop} {w : World} (hg : o.guard = none) (m x : Operand) (hop : o.op = Op.lookup 85 m x false)
    (b n : Nat) (f : Lit → Option (DataW Unit)) (hm : a.eval m = .map (some b)) (hown : MapIs w 3 (plainElem Tryd.prog 3) b n f) (i : Int) (hx : a.eval x = .int .i64 i) (hi : in64 i) (c : Int) (hf : (f (.int .i64 i)).getD (.lit (.int .i64 0)) = .lit (.int .i64 c))
    (hK : wpList Tryd.prog ops Q rest (a.put o.dst (.int .i64 c)) w) : wpList Tryd.prog ops Q (o :: rest) a w := by
  refine wp_lookup hg m x 85 hop 3 3 law77 Tryd.underlying85 (plainElem Tryd.prog 3) (zero3n w) (plain3 0 (by unfold in64; omega)) b n f hm hown _ (.int .i64 i) hx (keyOf_int_mk Tryd.underlying3 (WalkArith.wf_i64 (by unfold in64 at hi; omega))) ?_
  intro v ps hv
  obtain ⟨c', rfl, hz⟩ := plain3_inv hv
  rw [hf] at hz
  injection hz with hz _
  injection hz with hz
  injection hz with _ hz
  subst hz
  exact hK
theorem eg57 : ∀ args w, (callFunc 57 args).run Tryd.prog w = .ok (.enter 57 args) w := enters_of Tryd.func57 (by kernel_rfl) rfl
theorem take_succ_map (l : List Int) (pl : Int → Int) (k : Nat) (h : k < l.length) : (l.take (k + 1)).map pl = (l.take k).map pl ++ [pl (rd l (k : Int))] := by
  rw [List.take_succ_eq_append_getElem h, List.map_append]
  unfold rd
  rw [Int.toNat_natCast, List.getD_eq_getElem?_getD, List.getElem?_eq_getElem h]
  rfl

set_option maxHeartbeats 4000000 in
theorem news_calls (A : Option Addr) (c : Nat) (l : List Int) (pb bm n : Nat) (f : Lit → Option (DataW Unit)) (pl : Int → Int) (W : World) (hr : Kd.C (Kd.int .i64) W A l.length l) (hl : l.length ≤ 1099511627776) (hp : W.heap[pb]? = some (.cells #[.map (some bm)] 85 (0, 0)))
    (hM : MapIs W 3 (plainElem Tryd.prog 3) bm n f) (hin : ∀ i ∈ l, in64 i) (hf : ∀ i ∈ l, (f (.int .i64 i)).getD (.lit (.int .i64 0)) = .lit (.int .i64 (pl i))) :
    Calls Tryd.prog 57 #[.slice A l.length c, .pointer (some ⟨pb, 0, none⟩)] W fun e W' => ∃ v, e = .returned v ∧ (Kd.int .i64).R 3 W' W.heap.size (fun _ => True) v (l.map pl) ∧ Below W.heap.size W W' := by
  have HR := Aside0.mk hr
  have HL := Aside0.mk hl
  have HP := Aside0.mk hp
  have HM := Aside0.mk hM
  have HIN := Aside0.mk hin
  have HF := Aside0.mk hf
  clear hr hl hp hM hin hf
  go_enter Tryd.func57, Tryd.ntmps57
  go_wp2
  go_loopg [4, 9] l.length (fun gg s4 s9 wr => ∃ (k : Nat), k ≤ l.length ∧ l.length - k ≤ gg ∧ s9 = .int .i64 k ∧ Aside0 ((Kd.int .i64).R 3 wr W.heap.size (fun _ => True) s4 ((l.take k).map pl)) ∧ Aside0 (Below W.heap.size W wr))
  case atStart => exact ⟨0, Nat.zero_le _, by omega, rfl, ⟨Kd.R_nil _ _ _ _ _⟩, ⟨Below.refl _ _⟩⟩
  case round =>
    obtain ⟨k, hk, hgk, rfl, HO, HB⟩ := hrel
    have hll : l.length ≤ 1099511627776 := HL.out
    by_cases hlt : k < l.length
    · obtain ⟨ad, e, hx⟩ := Kd.at_int (Kd.C_below HR.out HB.out) (k : Int) (by omega) (by omega)
      cases e
      rw [Int.toNat_natCast] at hx
      obtain ⟨x, hxe⟩ : ∃ x, x = rd l (k : Int) := ⟨_, rfl⟩
      rw [← hxe] at hx
      have XE := Aside0.mk (show (l.take (k + 1)).map pl = (l.take k).map pl ++ [pl x] by rw [hxe]; exact take_succ_map l pl k hlt)
      have XM := Aside0.mk (show x ∈ l by rw [hxe]; exact rd_mem l k hlt)
      clear hxe
      have LK := Aside0.mk (show ((l.take k).map pl).length = k by rw [List.length_map, List.length_take]; omega)
      have hlt' : (k : Int) < (l.length : Int) := by omega
      have BK := Aside0.mk ((HB.out.block pb (blk_lt HP.out)).trans HP.out)
      have q0 : wr.cell? ⟨pb, 0, none⟩ = some (.map (some bm)) := (blk_cell BK.out 0).trans rfl
      have HMr := Aside0.mk (HM.out.below HB.out)
      obtain ⟨ys, hys⟩ : ∃ ys, ys = (l.take k).map pl := ⟨_, rfl⟩
      rw [← hys] at HO LK XE
      clear hys
      obtain ⟨Ao, co, rfl⟩ := Kd.R_slice HO.out
      go_wp2_with (first
        | (at_lookup; refine wp_place rfl _ _ rfl bm n f rfl HMr.out x rfl (HIN.out x XM.out) (pl x) (HF.out x XM.out) ?_)
        | (at_builtin; go_loud (refine Kd.R_append (Kd.int .i64) (w0 := W) W.heap.size rfl (.tmp 13) (.tmp 17) 25 3 (.int .i64 0) 8 rfl Tryd.underlying25 info3 rfl (by decide) (by decide) (.slice Ao ys.length co) ys (pl x) [.int .i64 (pl x)] (fun _ => True) (fun _ => False) rfl rfl rfl (fun _ hk => hk.elim) (fun _ _ => trivial) HO.out HB.out HB.out.size (by rw [LK.out]; omega) ?_); intro v1 w1 ho hb hg hat; have HO2 := Aside0.mk ho; have HB2 := Aside0.mk hb; clear ho hb hg hat))
      go_roundg (l.length - (k + 1))
      case measure => omega
      case rel =>
        exact ⟨k + 1, by omega, by omega, by go_num, ⟨by rw [XE.out]; exact HO2.out⟩, HB2⟩
    · obtain rfl : k = l.length := by omega
      have hge : decide ((l.length : Int) < (l.length : Int)) = false := by simp
      go_wp2
      go_ret
      exact ⟨_, rfl, by rw [List.take_length] at HO; exact HO.out, HB.out⟩
end Go.Proofs.YtcafgpfecfocnaaDoor.P

/- reap.Sweep.push. -/
namespace Go.Proofs.YtcafgpfecfocnaaDoor.P
open Go.RowKit Go.Maps Go.Proofs.YtcafgpfecfocnaaDoorW.PrintWords Go.Proofs.YtcafgpfecfocnaaDoorW.PrintLast Go.Proofs.YtcafgpfecfocnaaDoorW.PrintMore
set_option linter.unusedVariables false
set_option linter.unusedSimpArgs false

/-- What an operation of a sweep leaves. -/
def After (W : World) (F : Nat → Prop) (g : Nat) (gs : List S50) (roots : List Int) (mk : Int → Bool) (wait : List Int) (Ag : Option Addr) (cg : Nat) (vr : Value) (bm : Nat) (W' : World) : Prop :=
  ∃ F' nm vw f, SW W' F' g gs roots mk wait Ag cg vr bm nm vw f ∧ (∀ k, F' k → F k ∨ W.heap.size ≤ k) ∧ Upd F W W'

section
variable {W : World} {F : Nat → Prop} {g : Nat} {gs : List S50} {roots : List Int} {mk : Int → Bool} {wait : List Int} {Ag : Option Addr} {cg : Nat} {vr : Value} {bm nm : Nat} {vw : Value} {f : Lit → Option (DataW Unit)}
/-- A store into the place of what waits. -/
theorem SW.stored (h : SW W F g gs roots mk wait Ag cg vr bm nm vw f) {i : Int} {W1 W2 : World} (hi : in64 i) (hir : inRange gs.length i) (hm0 : mk i = false) (hM : MapIs W1 3 (plainElem Tryd.prog 4) bm (nm + 1) (putAt f (.int .i64 i) (.lit (.bool true)))) (hg1 : W.grownBy W1 (some bm))
    {v1 : Value} {wait' : List Int} (hq : QInts W2 v1 wait') (hg2 : W1.grownBy W2 vw.ownBlock) (hat : v1.ownBlock = vw.ownBlock ∨ ∃ b, v1.ownBlock = some b ∧ W1.heap.size ≤ b) :
    After W F g gs roots (mkPut mk i) wait' Ag cg vr bm (W2.setCell ⟨g, 3, none⟩ v1) := by
  have u1 : Upd F W W1 := Upd.of_grown hg1 (fun k hk => by cases hk; exact h.fm)
  have u2 : Upd F W W2 := u1.trans (Upd.of_grown (F := fun k => vw.ownBlock = some k) hg2 (fun k hk => hk)) (fun k hk => .inl (h.fw k hk))
  have u3 : Upd F W (W2.setCell ⟨g, 3, none⟩ v1) := u2.setCell (.inl h.fg) v1
  have cg1 : W1.heap[g]? = some (.cells #[.slice Ag gs.length cg, vr, .map (some bm), vw] 79 (0, 0)) := (hg1.block g (h.lt g h.fg) (fun e => h.g_ne_bm (Option.some.inj e))).trans h.cells
  have cg2 : W2.heap[g]? = some (.cells #[.slice Ag gs.length cg, vr, .map (some bm), vw] 79 (0, 0)) := (hg2.block g (blk_lt cg1) (fun e => h.w_ne_g e.symm)).trans cg1
  have hvg : v1.ownBlock ≠ some g := hq.ne_type cg2 (by decide)
  have hF : ∀ k, (F k ∨ v1.ownBlock = some k) → F k ∨ W.heap.size ≤ k := fun k hk => by
    rcases hk with hk | hk
    · exact .inl hk
    · rcases hat with e | ⟨b, e, hb⟩
      · exact .inl (h.fw k (by rw [← e]; exact hk))
      · rw [e] at hk; cases hk; exact .inr (Nat.le_trans u1.size hb)
  refine ⟨fun k => F k ∨ v1.ownBlock = some k, nm + 1, v1, putAt f (.int .i64 i) (.lit (.bool true)), ?_, hF, u3⟩
  have hbm1 : bm < W1.heap.size := hM.lt
  have hmb2 : MapIs W2 3 (plainElem Tryd.prog 4) bm (nm + 1) (putAt f (.int .i64 i) (.lit (.bool true))) := hM.grown hg2 (fun e => h.w_ne_bm e.symm)
  constructor
  · have := blk_set (g := g) (i := 3) (u := v1) cg2
    exact this
  · exact h.room
  · refine Kd.F_mono (Kd.F_step (Kd.F_bound h.gates) (fun k hk hlt => u3.block k hlt hk.1)) (fun k hk hf => ?_)
    rcases hF k hf with h1 | h1
    · exact hk.1 h1
    · have := hk.2; omega
  · have hr1 : QInts W1 vr roots := h.roots.upd (Upd.of_grown (F := fun k => k = bm) hg1 (fun k hk => by cases hk; rfl)) (fun k hk e => h.r_ne_bm (by rw [← e]; exact hk))
    have hr2 : QInts W2 vr roots := hr1.upd (Upd.of_grown (F := fun k => vw.ownBlock = some k) hg2 (fun k hk => hk)) (fun k hk e => h.apart k hk e)
    exact hr2.move fun k hk => Below.heap_setCell W2 ⟨g, 3, none⟩ v1 k (fun e => h.r_ne_g (by have e' : k = g := e; rw [← e']; exact hk))
  · exact hq.move fun k hk => Below.heap_setCell W2 ⟨g, 3, none⟩ v1 k (fun e => hvg (by have e' : k = g := e; rw [← e']; exact hk))
  · exact hmb2.setCell (fun e => h.g_ne_bm e.symm) v1
  · intro j hj
    unfold putAt mkPut
    by_cases e : j = i
    · subst e; rw [if_pos rfl, if_pos rfl, if_pos rfl]
    · rw [if_neg (by intro e2; injection e2 with _ e2; exact e e2), if_neg e, h.marks j hj]
  · exact .inl h.fg
  · exact .inl h.fm
  · exact fun k hk => .inl (h.fr k hk)
  · exact fun k hk => .inr hk
  · intro k hk
    rcases hk with hk | hk
    · exact Nat.lt_of_lt_of_le (h.lt k hk) u3.size
    · have := hq.lt k hk; simpa [World.setCell] using this
  · intro k hk e
    rcases hat with e1 | ⟨b, e1, hb⟩
    · exact h.apart k hk (by rw [← e1]; exact e)
    · rw [e1] at e; cases e
      have := h.roots.lt k hk
      have := u1.size
      omega
  · rw [cnt_put mk i _ hir.1 hir.2 hm0]
    exact Nat.succ_le_succ h.bound
end

set_option maxHeartbeats 4000000 in
theorem push_calls {W : World} {F : Nat → Prop} {g : Nat} {gs : List S50} {roots : List Int} {mk : Int → Bool} {wait : List Int} {Ag : Option Addr} {cg : Nat} {vr : Value} {bm nm : Nat} {vw : Value} {f : Lit → Option (DataW Unit)}
    (h : SW W F g gs roots mk wait Ag cg vr bm nm vw f) (i : Int) (hir : inRange gs.length i) (hlen : gs.length ≤ 100000) (hl : wait.length < 8796093022208) :
    Calls Tryd.prog 54 #[.pointer (some ⟨g, 0, none⟩), .int .i64 i] W fun e W' => e = .returned (.tuple #[]) ∧ After W F g gs roots (mkPut mk i) (waitPut mk wait i) Ag cg vr bm W' := by
  have hi : in64 i := by unfold inRange at hir; unfold in64; omega
  have hn : nm < 8796093022208 := by have := h.bound; have := cnt_le mk gs.length; omega
  have HIR := Aside0.mk hir
  clear hir hlen
  have H := Aside0.mk h
  have HI := Aside0.mk hi
  have q2 := h.c2
  cases hm : mk i with
  | true =>
    have FM := Aside0.mk (show f (.int .i64 i) = if true = true then some (.lit (.bool true)) else none by rw [h.marks i hi, hm])
    have fin : After W F g gs roots (mkPut mk i) (waitPut mk wait i) Ag cg vr bm W := by
      refine ⟨F, nm, vw, f, ?_, fun k hk => .inl hk, Upd.refl _ _⟩
      have e1 : waitPut mk wait i = wait := by unfold waitPut; rw [if_pos hm]
      have e2 : mkPut mk i = mk := mkPut_same mk i hm
      rw [e1, e2]
      exact h
    have FIN := Aside0.mk fin
    clear fin hm h hi
    go_enter Tryd.func54, Tryd.ntmps54
    go_wp2_with (first
      | (at_lookup; refine wp_marked rfl _ _ rfl bm nm f rfl H.out.map i rfl HI.out true FM.out ?_))
    go_end0
    exact ⟨rfl, FIN.out⟩
  | false =>
    have FM := Aside0.mk (show f (.int .i64 i) = if false = true then some (.lit (.bool true)) else none by rw [h.marks i hi, hm])
    have EW := Aside0.mk (show waitPut mk wait i = wait ++ [i] by unfold waitPut; rw [if_neg (by rw [hm]; decide)])
    have HL := Aside0.mk hl
    have HM0 := Aside0.mk hm
    have q3 := h.c3
    clear hm h hi hl
    go_enter Tryd.func54, Tryd.ntmps54
    go_wp2_with (first
      | (at_lookup; refine wp_marked rfl _ _ rfl bm nm f rfl H.out.map i rfl HI.out false FM.out ?_)
      | (at_mapUpdate; refine wp_mapUpdate rfl _ _ _ 77 rfl 3 4 law77 Tryd.underlying77 (plainElem Tryd.prog 4) bm nm f rfl H.out.map (by unfold maxLen; omega) _ _ (.int .i64 i) rfl rfl (keyOf_int_mk Tryd.underlying3 (WalkArith.wf_i64 (by have := HI.out; unfold in64 at this; omega))) (.lit (.bool true)) [] (plainElem_bool Tryd.underlying4 true) ?_; intro W1 hM hg1; have HM := Aside0.mk hM; have HG1 := Aside0.mk hg1; have cg1 := Aside0.mk ((hg1.block g (H.out.lt g H.out.fg) (fun e => H.out.g_ne_bm (Option.some.inj e))).trans H.out.cells); have q31 : W1.cell? ⟨g, 3, none⟩ = some vw := (blk_cell cg1.out 3).trans rfl; clear hM hg1)
      | (at_builtin; refine wp_append_q rfl _ _ rfl vw wait i rfl rfl (H.out.wait.upd (Upd.of_grown (F := fun k => k = bm) HG1.out (fun k hk => by cases hk; rfl)) (fun k hk e => H.out.w_ne_bm (by rw [← e]; exact hk))) HL.out ?_; intro v1 W2 hq hg2 hat; obtain ⟨A1, n1, k1, e1, hn1, _⟩ := hq.form; subst e1; clear hn1; have HQ := Aside0.mk hq; have HG2 := Aside0.mk hg2; have HAT := Aside0.mk hat; have cg2 := Aside0.mk ((hg2.block g (blk_lt cg1.out) (fun e => H.out.w_ne_g e.symm)).trans cg1.out); have q32 : W2.cell? ⟨g, 3, none⟩ = some vw := (blk_cell cg2.out 3).trans rfl; have z32 := blk_frozen cg2.out 3; clear hq hg2 hat))
    go_end0
    refine ⟨rfl, ?_⟩
    rw [EW.out]
    exact H.out.stored HI.out HIR.out HM0.out HM.out HG1.out HQ.out HG2.out HAT.out
end Go.Proofs.YtcafgpfecfocnaaDoor.P

/- reap.Sweep.Add. -/
namespace Go.Proofs.YtcafgpfecfocnaaDoor.P
open Go.RowKit Go.Maps Go.Proofs.YtcafgpfecfocnaaDoorW.PrintWords Go.Proofs.YtcafgpfecfocnaaDoorW.PrintLast Go.Proofs.YtcafgpfecfocnaaDoorW.PrintMore
set_option linter.unusedVariables false
set_option linter.unusedSimpArgs false

section
variable {W : World} {F : Nat → Prop} {g : Nat} {gs : List S50} {roots : List Int} {mk : Int → Bool} {wait : List Int} {Ag : Option Addr} {cg : Nat} {vr : Value} {bm nm : Nat} {vw : Value} {f : Lit → Option (DataW Unit)}
/-- A store into the place of the roots. -/
theorem SW.rooted (h : SW W F g gs roots mk wait Ag cg vr bm nm vw f) {W2 : World} {v1 : Value} {roots' : List Int} (hq : QInts W2 v1 roots') (hg2 : W.grownBy W2 vr.ownBlock) (hat : v1.ownBlock = vr.ownBlock ∨ ∃ b, v1.ownBlock = some b ∧ W.heap.size ≤ b) :
    SW (W2.setCell ⟨g, 1, none⟩ v1) (fun k => F k ∨ v1.ownBlock = some k) g gs roots' mk wait Ag cg v1 bm nm vw f ∧ (∀ k, (F k ∨ v1.ownBlock = some k) → F k ∨ W.heap.size ≤ k) ∧ Upd F W (W2.setCell ⟨g, 1, none⟩ v1) := by
  have u2 : Upd F W W2 := Upd.of_grown hg2 (fun k hk => h.fr k hk)
  have u3 : Upd F W (W2.setCell ⟨g, 1, none⟩ v1) := u2.setCell (.inl h.fg) v1
  have cg2 : W2.heap[g]? = some (.cells #[.slice Ag gs.length cg, vr, .map (some bm), vw] 79 (0, 0)) := (hg2.block g (blk_lt h.cells) (fun e => h.r_ne_g e.symm)).trans h.cells
  have hvg : v1.ownBlock ≠ some g := hq.ne_type cg2 (by decide)
  have hF : ∀ k, (F k ∨ v1.ownBlock = some k) → F k ∨ W.heap.size ≤ k := fun k hk => by
    rcases hk with hk | hk
    · exact .inl hk
    · rcases hat with e | ⟨b, e, hb⟩
      · exact .inl (h.fr k (by rw [← e]; exact hk))
      · rw [e] at hk; cases hk; exact .inr hb
  refine ⟨?_, hF, u3⟩
  have hmb2 : MapIs W2 3 (plainElem Tryd.prog 4) bm nm f := h.map.grown hg2 (fun e => h.r_ne_bm e.symm)
  constructor
  · have := blk_set (g := g) (i := 1) (u := v1) cg2
    exact this
  · exact h.room
  · refine Kd.F_mono (Kd.F_step (Kd.F_bound h.gates) (fun k hk hlt => u3.block k hlt hk.1)) (fun k hk hf => ?_)
    rcases hF k hf with h1 | h1
    · exact hk.1 h1
    · have := hk.2; omega
  · exact hq.move fun k hk => Below.heap_setCell W2 ⟨g, 1, none⟩ v1 k (fun e => hvg (by have e' : k = g := e; rw [← e']; exact hk))
  · have hw2 : QInts W2 vw wait := h.wait.upd (Upd.of_grown (F := fun k => vr.ownBlock = some k) hg2 (fun k hk => hk)) (fun k hk e => h.apart k e hk)
    exact hw2.move fun k hk => Below.heap_setCell W2 ⟨g, 1, none⟩ v1 k (fun e => h.w_ne_g (by have e' : k = g := e; rw [← e']; exact hk))
  · exact hmb2.setCell (fun e => h.g_ne_bm e.symm) v1
  · exact h.marks
  · exact .inl h.fg
  · exact .inl h.fm
  · exact fun k hk => .inr hk
  · exact fun k hk => .inl (h.fw k hk)
  · intro k hk
    rcases hk with hk | hk
    · exact Nat.lt_of_lt_of_le (h.lt k hk) u3.size
    · have := hq.lt k hk; simpa [World.setCell] using this
  · intro k hk e
    rcases hat with e1 | ⟨b, e1, hb⟩
    · exact h.apart k (by rw [← e1]; exact hk) e
    · rw [e1] at hk; cases hk
      have := h.wait.lt _ e
      omega
  · exact h.bound
end

set_option maxHeartbeats 4000000 in
theorem add_calls {W : World} {F : Nat → Prop} {g : Nat} {gs : List S50} {roots : List Int} {mk : Int → Bool} {wait : List Int} {Ag : Option Addr} {cg : Nat} {vr : Value} {bm nm : Nat} {vw : Value} {f : Lit → Option (DataW Unit)}
    (h : SW W F g gs roots mk wait Ag cg vr bm nm vw f) (i : Int) (hir : inRange gs.length i) (hlen : gs.length ≤ 100000) (hl : wait.length < 8796093022208) (hl2 : roots.length < 8796093022208) :
    Calls Tryd.prog 22 #[.pointer (some ⟨g, 0, none⟩), .int .i64 i] W fun e W' => e = .returned (.int .i64 0) ∧ ∃ F' vr' nm' vw' f', SW W' F' g gs (roots ++ [i]) (mkPut mk i) (waitPut mk wait i) Ag cg vr' bm nm' vw' f' ∧ (∀ k, F' k → F k ∨ W.heap.size ≤ k) ∧ Upd F W W' := by
  have q0 := h.c0
  have q1 := h.c1
  obtain ⟨A2, n2, c2, rfl, hn2, hc2⟩ := h.roots.form
  have HIR := Aside0.mk hir
  have HL := Aside0.mk hlen
  have HW := Aside0.mk hl
  have HR2 := Aside0.mk hl2
  have CG := Aside0.mk h.cells
  have h0b : decide (i < 0) = false := decide_eq_false (by unfold inRange at hir; omega)
  have h1b : decide ((gs.length : Int) ≤ i) = false := decide_eq_false (by unfold inRange at hir; omega)
  have H := Aside0.mk h
  clear h hir hlen hl hl2 hn2
  go_enter Tryd.func22, Tryd.ntmps22
  go_wp2_with (first
    | (at_builtin; refine wp_append_q rfl _ _ rfl (.slice A2 n2 c2) roots i rfl rfl H.out.roots HR2.out ?_; intro v1 W2 hq hg2 hat; obtain ⟨A1, n1, k1, e1, hn1, _⟩ := hq.form; subst e1; clear hn1; have HQ := Aside0.mk hq; have HG2 := Aside0.mk hg2; have HAT := Aside0.mk hat; have cg2 := Aside0.mk ((hg2.block g (blk_lt CG.out) (fun e => H.out.r_ne_g e.symm)).trans CG.out); have q12 : W2.cell? ⟨g, 1, none⟩ = some (.slice A2 n2 c2) := (blk_cell cg2.out 1).trans rfl; have z12 := blk_frozen cg2.out 1; clear hq hg2 hat)
    | (go_at_call 54; obtain ⟨hs3, hF3, hu3⟩ := H.out.rooted HQ.out HG2.out HAT.out; refine (push_calls hs3 i HIR.out HL.out HW.out).mono ?_; rintro e w4 ⟨rfl, ha⟩; obtain ⟨F4, nm4, vw4, f4, h4, hF4, hu4⟩ := ha; have H4 := Aside0.mk h4; have F4' := Aside0.mk (show ∀ k, F4 k → F k ∨ W.heap.size ≤ k from fun k hk => by
        rcases hF4 k hk with h | h
        · exact hF3 k h
        · exact .inr (Nat.le_trans hu3.size h)); have U4 := Aside0.mk (hu3.trans hu4 hF3); clear h4 hF4 hu4 hs3 hF3 hu3))
  go_ret
  exact ⟨rfl, F4, _, nm4, vw4, f4, H4.out, F4'.out, U4.out⟩
end Go.Proofs.YtcafgpfecfocnaaDoor.P

/- reap.Sweep.Result. -/
namespace Go.Proofs.YtcafgpfecfocnaaDoor.P
open Go.RowKit Go.Maps Go.Proofs.YtcafgpfecfocnaaDoorW.PrintWords Go.Proofs.YtcafgpfecfocnaaDoorW.PrintLast Go.Proofs.YtcafgpfecfocnaaDoorW.PrintMore
set_option linter.unusedVariables false
set_option linter.unusedSimpArgs false

def plOf (mk : Int → Bool) (i : Int) : Int := if mk i = true then (cnt mk i.toNat : Int) else 0
def movedG (gs : List S50) (mk : Int → Bool) (n : Nat) : S50 := ⟨(rd_T50 gs (n : Int)).f0, (rd_T50 gs (n : Int)).f1, (rd_T50 gs (n : Int)).f2.map (plOf mk)⟩
def resG (gs : List S50) (mk : Int → Bool) : Nat → List S50
  | 0 => []
  | n + 1 => resG gs mk n ++ (if mk (n : Int) = true then [movedG gs mk n] else [])
theorem resG_length (gs : List S50) (mk : Int → Bool) (n : Nat) : (resG gs mk n).length = cnt mk n := by
  induction n with
  | zero => rfl
  | succ n ih =>
    simp only [resG, cnt, List.length_append, ih]
    split <;> simp
def kidsLow (gs : List S50) : Prop := ∀ n : Nat, n < gs.length → ∀ k ∈ (rd_T50 gs (n : Int)).f2, 0 ≤ k ∧ k < n
/-- The map of places, when the first i gates are done. -/
def placeTo (mk : Int → Bool) (i : Nat) (f : Lit → Option (DataW Unit)) : Prop := ∀ j, in64 j → f (.int .i64 j) = if 0 ≤ j ∧ j < i ∧ mk j = true then some (.lit (.int .i64 (cnt mk j.toNat))) else none
theorem placeTo.get {mk : Int → Bool} {i : Nat} {f : Lit → Option (DataW Unit)} (h : placeTo mk i f) (j : Int) (hj : in64 j) (h0 : 0 ≤ j) (h1 : j < i) : (f (.int .i64 j)).getD (.lit (.int .i64 0)) = .lit (.int .i64 (plOf mk j)) := by
  rw [h j hj]
  unfold plOf
  by_cases hm : mk j = true
  · rw [if_pos ⟨h0, h1, hm⟩, if_pos hm]; rfl
  · rw [if_neg (fun h => hm h.2.2), if_neg hm]; rfl
theorem placeTo.skip {mk : Int → Bool} {i : Nat} {f : Lit → Option (DataW Unit)} (h : placeTo mk i f) (hm : mk (i : Int) = false) : placeTo mk (i + 1) f := by
  intro j hj
  rw [h j hj]
  by_cases e : j = (i : Int)
  · subst e
    rw [if_neg (by simp [hm]), if_neg (by simp [hm])]
  · have : (0 ≤ j ∧ j < (i : Int) ∧ mk j = true) ↔ (0 ≤ j ∧ j < ((i + 1 : Nat) : Int) ∧ mk j = true) := ⟨fun h => ⟨h.1, by omega, h.2.2⟩, fun h => ⟨h.1, by omega, h.2.2⟩⟩
    simp only [this]
theorem placeTo.put {mk : Int → Bool} {i : Nat} {f : Lit → Option (DataW Unit)} (h : placeTo mk i f) (hm : mk (i : Int) = true) : placeTo mk (i + 1) (putAt f (.int .i64 (i : Int)) (.lit (.int .i64 (cnt mk i : Int)))) := by
  intro j hj
  unfold putAt
  by_cases e : j = (i : Int)
  · subst e
    rw [if_pos rfl, if_pos ⟨by omega, by omega, hm⟩, Int.toNat_natCast]
  · rw [if_neg (by intro e2; injection e2 with _ e2; exact e e2), h j hj]
    have : (0 ≤ j ∧ j < (i : Int) ∧ mk j = true) ↔ (0 ≤ j ∧ j < ((i + 1 : Nat) : Int) ∧ mk j = true) := ⟨fun h => ⟨h.1, by omega, h.2.2⟩, fun h => ⟨h.1, by omega, h.2.2⟩⟩
    simp only [this]

set_option maxRecDepth 100000 in
set_option maxHeartbeats 4000000 in
theorem result_waits {W : World} {F : Nat → Prop} {g : Nat} {gs : List S50} {roots : List Int} {mk : Int → Bool} {wait : List Int} {Ag : Option Addr} {cg : Nat} {vr : Value} {bm nm : Nat} {vw : Value} {f : Lit → Option (DataW Unit)}
    (h : SW W F g gs roots mk wait Ag cg vr bm nm vw f) (hw : wait ≠ []) :
    Calls Tryd.prog 26 #[.pointer (some ⟨g, 0, none⟩)] W fun e W' => e = .returned (.tuple #[.agg #[.slice none 0 0], .slice none 0 0, .int .i64 12]) ∧ Below W.heap.size W W' := by
  obtain ⟨A1, n1, c1, rfl, hn1, hc1⟩ := h.wait.form
  have hpos : 0 < n1 := by rw [hn1]; exact List.length_pos_iff.2 hw
  have hposb : decide ((0 : Int) < (n1 : Int)) = true := decide_eq_true (by omega)
  have q3 := h.c3
  have H := Aside0.mk h
  clear h hw hn1
  go_enter Tryd.func26, Tryd.ntmps26
  go_wp2_with (first
    | ((with_reducible refine gate_dst (N := 2) rfl ?_); refine box_event ?hg (N := 2) ?hd (cs := #[.slice none 0 0]) (t := 24) ?hr ?_; (case hd => rfl); (case hg => rfl); (case hr => first | (go_simp; done) | (go_simp; rfl)); intro gb hg w1 hbox hb; have HB := Aside0.mk hb; have BX := Aside0.mk hbox; have GG := Aside0.mk hg; have q31 := (hb.cell (World.block_lt_of_cell? _ _ q3)).trans q3; have z1 := blk_frozen hbox 0; have q1 : w1.cell? ⟨gb, 0, none⟩ = some (.slice none 0 0) := (blk_cell hbox 0).trans rfl; clear hg hbox hb))
  refine bodyPost_ret (results_ctt rfl _ _ gb 24 #[.slice none 0 0] (0, 0) _ rfl (blk_put (cs := #[.slice none 0 0]) BX.out 0 _ rfl) Tryd.underlying24 rfl (by kernel_rfl)) rfl ?_
  exact ⟨rfl, below_set HB.out (by rw [GG.out]; exact Nat.le_refl _)⟩

/-- Where the loop of Result stands: i gates are out, j are in the map. -/
structure RS (W w : World) (gr gp go pm : Nat) (gs : List S50) (mk : Int → Bool) (i j : Nat) : Prop where
  below : Below W.heap.size W w
  res : w.heap[gr]? = some (.cells #[.slice none 0 0] 24 (0, 0))
  pl : w.heap[gp]? = some (.cells #[.map (some pm)] 85 (0, 0))
  own : ∃ Ao co, w.heap[go]? = some (.cells #[.slice Ao (resG gs mk i).length co] 24 (0, 0)) ∧ Kd.S k50 50 w W.heap.size (fun _ => True) (.slice Ao (resG gs mk i).length co) (resG gs mk i)
  map : ∃ f, MapIs w 3 (plainElem Tryd.prog 3) pm (cnt mk j) f ∧ placeTo mk j f
  ne : gr ≠ go
  ger : W.heap.size ≤ gr
  geo : W.heap.size ≤ go
  gep : W.heap.size ≤ pm
section
variable {W w w' w8 w9 : World} {gr gp go pm : Nat} {gs : List S50} {mk : Int → Bool} {i j : Nat}
theorem MapIs.block {k b n : Nat} {R : Value → Option (DataW Unit × List MemPlace)} {f : Lit → Option (DataW Unit)} (h : MapIs w k R b n f) : ∃ es c, w.heap[b]? = some (.map es c) := by
  obtain ⟨D, ⟨es, cl, hb, r⟩, h2⟩ := h
  exact ⟨es, cl, hb⟩
theorem RS.step (h : RS W w gr gp go pm gs mk i j) (hb : Below w.heap.size w w') : RS W w' gr gp go pm gs mk i j where
  below := h.below.trans (hb.mono h.below.size)
  res := (hb.block gr (blk_lt h.res)).trans h.res
  pl := (hb.block gp (blk_lt h.pl)).trans h.pl
  own := by
    obtain ⟨Ao, co, h1, h2⟩ := h.own
    exact ⟨Ao, co, (hb.block go (blk_lt h1)).trans h1, Kd.S_below h2 hb⟩
  map := by
    obtain ⟨f, h1, h2⟩ := h.map
    exact ⟨f, h1.below hb, h2⟩
  ne := h.ne
  ger := h.ger
  geo := h.geo
  gep := h.gep
theorem cells_ne_map {b pm t : Nat} {cs : Array Value} {fr : Nat × Nat} {es : Array MapEntry} {c : Nat} (h : w.heap[b]? = some (.cells cs t fr)) (h' : w.heap[pm]? = some (.map es c)) : b ≠ pm := by
  rintro rfl
  rw [h] at h'
  cases h'
theorem RS.putm (h : RS W w gr gp go pm gs mk i i) (hm : mk (i : Int) = true) {f : Lit → Option (DataW Unit)} {c : Int} (hc : c = (cnt mk i : Int)) (hP : placeTo mk i f) (hM : MapIs w' 3 (plainElem Tryd.prog 3) pm (cnt mk i + 1) (putAt f (.int .i64 (i : Int)) (.lit (.int .i64 c)))) (hg : w.grownBy w' (some pm)) : RS W w' gr gp go pm gs mk i (i + 1) := by
  obtain ⟨es, cl, hb⟩ : ∃ es c, w.heap[pm]? = some (.map es c) := by
    obtain ⟨f, h1, _⟩ := h.map
    exact h1.block
  subst hc
  exact
  { below := h.below.grown hg h.below.size (fun k hk => by cases hk; exact h.gep)
    res := blk_grown h.res hg (fun e => cells_ne_map h.res hb (Option.some.inj e))
    pl := blk_grown h.pl hg (fun e => cells_ne_map h.pl hb (Option.some.inj e))
    own := by
      obtain ⟨Ao, co, h1, h2⟩ := h.own
      refine ⟨Ao, co, blk_grown h1 hg (fun e => cells_ne_map h1 hb (Option.some.inj e)), Kd.S_mono (Kd.S_move (Kd.S_bound h2) (fun k hk => hg.block k hk.2.2.1 ?_)) (fun _ _ => trivial)⟩
      obtain ⟨_, _, _, q, _, cells, hc⟩ := hk
      exact fun e => cells_ne_map hc hb (Option.some.inj e)
    map := ⟨_, by rw [show cnt mk (i + 1) = cnt mk i + 1 by simp only [cnt]; rw [if_pos hm]]; exact hM, hP.put hm⟩
    ne := h.ne
    ger := h.ger
    geo := h.geo
    gep := h.gep }
theorem RS.unmarked (h : RS W w gr gp go pm gs mk i i) (hm : mk (i : Int) = false) : RS W w gr gp go pm gs mk (i + 1) (i + 1) where
  below := h.below
  res := h.res
  pl := h.pl
  own := by
    have e : resG gs mk (i + 1) = resG gs mk i := by simp only [resG]; rw [if_neg (by rw [hm]; decide), List.append_nil]
    rw [e]
    exact h.own
  map := by
    obtain ⟨f, h1, h2⟩ := h.map
    exact ⟨f, by rw [show cnt mk (i + 1) = cnt mk i by simp only [cnt]; rw [if_neg (by rw [hm]; decide)]; rfl]; exact h1, h2.skip hm⟩
  ne := h.ne
  ger := h.ger
  geo := h.geo
  gep := h.gep
theorem RS.appended (h : RS W w gr gp go pm gs mk i (i + 1)) (hm : mk (i : Int) = true) {Ao : Option Addr} {co : Nat} (ho0 : w.heap[go]? = some (.cells #[.slice Ao (resG gs mk i).length co] 24 (0, 0))) (hR0 : Kd.S k50 50 w W.heap.size (fun _ => True) (.slice Ao (resG gs mk i).length co) (resG gs mk i)) (hb : Below w.heap.size w w8) {v1 : Value}
    (ho : Kd.S k50 50 w9 W.heap.size (fun _ => True) v1 (resG gs mk i ++ [movedG gs mk i])) (hb9 : Below W.heap.size W w9) (hg : w8.grownBy w9 (Value.slice Ao (resG gs mk i).length co).ownBlock) :
    w9.heap[go]? = some (.cells #[.slice Ao (resG gs mk i).length co] 24 (0, 0)) ∧ RS W (w9.setCell ⟨go, 0, none⟩ v1) gr gp go pm gs mk (i + 1) (i + 1) := by
  have h8 := h.step hb
  have hR8 := Kd.S_below hR0 hb
  have ho8 := (hb.block go (blk_lt ho0)).trans ho0
  have go9 := blk_grown ho8 hg (Kd.S_ne hR8 ho8 (by decide))
  have gr9 := blk_grown h8.res hg (Kd.S_ne hR8 h8.res (by decide))
  have gp9 := blk_grown h8.pl hg (Kd.S_ne hR8 h8.pl (by decide))
  have hes : resG gs mk (i + 1) = resG gs mk i ++ [movedG gs mk i] := by
    simp only [resG]
    rw [if_pos hm]
  refine ⟨go9, ?_⟩
  constructor
  · exact hb9.setCell h.geo v1
  · exact (Below.heap_setCell w9 ⟨go, 0, none⟩ v1 gr (by show gr ≠ go; exact h.ne)).trans gr9
  · exact (Below.heap_setCell w9 ⟨go, 0, none⟩ v1 gp (by show gp ≠ go; exact blk_ne gp9 go9 (by decide))).trans gp9
  · rw [hes]
    obtain ⟨A1, c1, rfl⟩ := Kd.S_slice ho
    exact ⟨A1, c1, blk_put (cs := #[.slice Ao (resG gs mk i).length co]) go9 0 _ rfl, Kd.S_set ho go9 (by decide) 0 _⟩
  · obtain ⟨f, h1, h2⟩ := h8.map
    refine ⟨f, (h1.grown hg ?_).setCell ?_ v1, h2⟩
    · obtain ⟨es, cl, hb⟩ := h1.block
      intro e
      obtain ⟨cells, hc⟩ := Kd.S_typed hR8 pm e.symm
      exact cells_ne_map hc hb rfl
    · have h1' : MapIs w9 3 (plainElem Tryd.prog 3) pm (cnt mk (i + 1)) f := h1.grown hg (by
        obtain ⟨es, cl, hb⟩ := h1.block
        intro e
        obtain ⟨cells, hc⟩ := Kd.S_typed hR8 pm e.symm
        exact cells_ne_map hc hb rfl)
      obtain ⟨es, cl, hb⟩ := h1'.block
      exact fun e => cells_ne_map go9 hb e.symm
  · exact h.ne
  · exact h.ger
  · exact h.geo
  · exact h.gep
end

set_option maxRecDepth 100000 in
set_option maxHeartbeats 8000000 in
theorem result_calls {W : World} {F : Nat → Prop} {g : Nat} {gs : List S50} {roots : List Int} {mk : Int → Bool} {Ag : Option Addr} {cg : Nat} {vr : Value} {bm nm : Nat} {vw : Value} {f : Lit → Option (DataW Unit)}
    (h : SW W F g gs roots mk [] Ag cg vr bm nm vw f) (hk : kidsLow gs) (hks : ∀ g ∈ gs, g.f2.length ≤ 1099511627776) (hlen : gs.length ≤ 100000) (hr : ∀ r ∈ roots, inRange gs.length r) (hrl : roots.length ≤ 1099511627776) :
    Calls Tryd.prog 26 #[.pointer (some ⟨g, 0, none⟩)] W fun e W' => ∃ v0 v1, e = .returned (.tuple #[.agg #[v0], v1, .int .i64 0]) ∧ Kd.S k50 50 W' W.heap.size (fun k => some k ≠ v1.ownBlock) v0 (resG gs mk gs.length) ∧ (Kd.int .i64).R 3 W' W.heap.size (fun _ => True) v1 (roots.map (plOf mk)) ∧ Below W.heap.size W W' := by
  obtain ⟨A1, n1, c1, rfl, hn1, hc1⟩ := h.wait.form
  obtain ⟨A2, n2, c2, rfl, hn2, hc2⟩ := h.roots.form
  obtain rfl : n1 = 0 := hn1
  obtain rfl : n2 = roots.length := hn2
  have q3 := h.c3
  have q1 := h.c0
  have H := Aside0.mk h
  have HK := Aside0.mk hk
  have HKS := Aside0.mk hks
  have HL := Aside0.mk hlen
  have HR := Aside0.mk hr
  have HRL := Aside0.mk hrl
  clear h hk hks hlen hr hrl
  have hmm := fun W => run_makeMap_none' 85 3 3 Tryd.underlying85 W
  go_enter Tryd.func26, Tryd.ntmps26
  go_wp2_with (first
    | ((with_reducible refine gate_dst (N := 2) rfl ?_); refine box_event ?hg (N := 2) ?hd (cs := #[.slice none 0 0]) (t := 24) ?hr ?_; (case hd => rfl); (case hg => rfl); (case hr => first | (go_simp; done) | (go_simp; rfl)); intro gr hg w1 hbox hb; have HB1 := Aside0.mk hb; have BX := Aside0.mk hbox; have GG := Aside0.mk hg; have q31 := (hb.cell (World.block_lt_of_cell? _ _ q3)).trans q3; clear hg hbox hb)
    | ((with_reducible refine gate_dst (N := 22) rfl ?_); refine map_event rfl rfl ?hr 3 (plainElem Tryd.prog 3) ?_; (case hr => first | (go_simp; done) | (go_simp; rfl)); intro pm hbm w2 hM hb; have HM := Aside0.mk hM; have PMG := Aside0.mk hbm; have HB2 := Aside0.mk hb; clear hM hb hbm)
    | ((with_reducible refine gate_dst (N := 5) rfl ?_); refine box_event ?hg3 (N := 5) ?hd3 (cs := #[.map none]) (t := 85) ?hr3 ?_; (case hd3 => rfl); (case hg3 => rfl); (case hr3 => first | (go_simp; done) | (go_simp; rfl)); intro gp hg w3 hbox hb; have HB3 := Aside0.mk hb; have BX3 := Aside0.mk hbox; have GG3 := Aside0.mk hg; have z3 := blk_frozen hbox 0; have c3 : w3.cell? ⟨gp, 0, none⟩ = some (.map none) := (blk_cell hbox 0).trans rfl; clear hg hbox hb)
    | ((with_reducible refine gate_dst (N := 7) rfl ?_); refine box_event ?hg4 (N := 7) ?hd4 (cs := #[.slice none 0 0]) (t := 24) ?hr4 ?_; (case hd4 => rfl); (case hg4 => rfl); (case hr4 => first | (go_simp; done) | (go_simp; rfl)); intro go hg w4 hbox hb; have HB4 := Aside0.mk hb; have BX4 := Aside0.mk hbox; have GG4 := Aside0.mk hg; have H4 := Aside0.mk ((((HB1.out.trans (HB2.out.mono HB1.out.size)).trans (HB3.out.mono (Nat.le_trans HB1.out.size HB2.out.size))).setCell (p := ⟨gp, 0, none⟩) (by rw [GG3.out]; exact Nat.le_trans HB1.out.size HB2.out.size) (.map (some pm))).trans (hb.mono (by simp; exact Nat.le_trans (Nat.le_trans HB1.out.size HB2.out.size) HB3.out.size))); have q41 := (H4.out.cell (World.block_lt_of_cell? _ _ q1)).trans q1; clear hg hbox hb))
  have RS0 := Aside0.mk (show RS W w4 gr gp go pm gs mk 0 0 from by
    have h1 := HB1.out.size
    have h2 := HB2.out.size
    have h3 := HB3.out.size
    have hgp := GG3.out
    have hgo := GG4.out
    have hgr := GG.out
    have hpm := PMG.out
    have hsz : (w3.setCell ⟨gp, 0, none⟩ (.map (some pm))).heap.size = w3.heap.size := by simp [World.setCell]
    have hgr1 : gr < w1.heap.size := blk_lt BX.out
    have hpl : gp < w3.heap.size := blk_lt BX3.out
    have hpm2 : pm < w2.heap.size := HM.out.lt
    have e3 : (w3.setCell ⟨gp, 0, none⟩ (.map (some pm))).heap[gr]? = some (.cells #[.slice none 0 0] 24 (0, 0)) :=
      (Below.heap_setCell w3 ⟨gp, 0, none⟩ _ gr (by show gr ≠ gp; omega)).trans ((HB3.out.block gr (by omega)).trans ((HB2.out.block gr hgr1).trans BX.out))
    have e4 : (w3.setCell ⟨gp, 0, none⟩ (.map (some pm))).heap[gp]? = some (.cells #[.map (some pm)] 85 (0, 0)) := blk_put (cs := #[.map none]) BX3.out 0 _ rfl
    constructor
    · exact H4.out
    · exact (HB4.out.block gr (blk_lt e3)).trans e3
    · exact (HB4.out.block gp (blk_lt e4)).trans e4
    · exact ⟨none, 0, BX4.out, Kd.S_nil _ _ _ _ _⟩
    · exact ⟨_, ((HM.out.below HB3.out).setCell (by show pm ≠ gp; omega) _).below HB4.out, fun j _ => by rw [if_neg (by omega)]⟩
    · omega
    · omega
    · omega
    · omega)
  clear GG PMG GG3 GG4 H4 HB4 BX4 c3 z3 BX3 HB3 HB2 HM BX HB1 q31 q41 q1 q3
  go_loopg [30] gs.length (fun gg s30 wr => ∃ i : Nat, i ≤ gs.length ∧ gs.length - i ≤ gg ∧ s30 = .int .i64 i ∧ Aside0 (RS W wr gr gp go pm gs mk i i))
  case atStart => exact ⟨0, Nat.zero_le _, by omega, rfl, RS0⟩
  case round =>
    clear RS0
    obtain ⟨i, hi, hgi, rfl, HS⟩ := hrel
    have hlb : gs.length ≤ 100000 := HL.out
    have HSW := Aside0.mk (H.out.below HS.out.below)
    by_cases hlt : i < gs.length
    · have hlt' : (i : Int) < (gs.length : Int) := by omega
      obtain ⟨adg, A3, c3, e, x0, x1, x2, hc3, hkd⟩ := gate_read (Kd.F_below (Kd.F_bound H.out.gates) HS.out.below) (i : Int) (by omega) hlt'
      subst e
      rw [Int.toNat_natCast] at x0 x1 x2
      have GIN := Aside0.mk (rd_mem50 gs (i : Int) ⟨by omega, hlt'⟩)
      have KL := Aside0.mk (HK.out i hlt)
      have KS := Aside0.mk (HKS.out _ GIN.out)
      have MV := Aside0.mk (show movedG gs mk i = ⟨(rd_T50 gs (i : Int)).f0, (rd_T50 gs (i : Int)).f1, (rd_T50 gs (i : Int)).f2.map (plOf mk)⟩ from rfl)
      generalize rd_T50 gs (i : Int) = gt at x0 x1 x2 hc3 hkd GIN KL KS MV
      have KD := Aside0.mk hkd
      clear hkd
      have b5 : Below W.heap.size W (wr.alloc (Obj.cells #[.int .i64 gt.f0, .int .i64 gt.f1, .slice A3 gt.f2.length c3] 50)) := below_alloc HS.out.below _
      have rs5 : RS W (wr.alloc (Obj.cells #[.int .i64 gt.f0, .int .i64 gt.f1, .slice A3 gt.f2.length c3] 50)) gr gp go pm gs mk i i := HS.out.step (below_alloc (Below.refl _ _) _)
      have RS5 := Aside0.mk rs5
      have m2 := (H.out.below b5).c2
      have p5 : (wr.alloc (Obj.cells #[.int .i64 gt.f0, .int .i64 gt.f1, .slice A3 gt.f2.length c3] 50)).cell? ⟨gp, 0, none⟩ = some (.map (some pm)) := (blk_cell rs5.pl 0).trans rfl
      obtain ⟨Ao, co, bo5, ho5⟩ := rs5.own
      obtain ⟨fp, hM5, hP5⟩ := rs5.map
      have o5 : (wr.alloc (Obj.cells #[.int .i64 gt.f0, .int .i64 gt.f1, .slice A3 gt.f2.length c3] 50)).cell? ⟨go, 0, none⟩ = some (.slice Ao (resG gs mk i).length co) := (blk_cell bo5 0).trans rfl
      have RL := Aside0.mk (resG_length gs mk i)
      have RC := Aside0.mk (cnt_le mk i)
      have G9 := Aside0.mk (heap_alloc_new wr (Obj.cells #[.int .i64 gt.f0, .int .i64 gt.f1, .slice A3 gt.f2.length c3] 50))
      have B5 := Aside0.mk b5
      have BO5 := Aside0.mk bo5
      have HO5 := Aside0.mk ho5
      have HM5 := Aside0.mk hM5
      have HP5 := Aside0.mk hP5
      clear b5 rs5 bo5 ho5 hM5 hP5
      have hin : in64 (i : Int) := by unfold in64; omega
      have IN := Aside0.mk hin
      cases hmi : mk (i : Int) with
      | true =>
        have FM := Aside0.mk (show f (.int .i64 (i : Int)) = if true = true then some (.lit (.bool true)) else none by rw [HSW.out.marks _ hin, hmi])
        clear hin
        go_wp2_with (first
          | (at_lookup; refine wp_marked rfl _ _ rfl bm nm f rfl (HSW.out.map.alloc _) i rfl IN.out true FM.out ?_)
          | (at_mapUpdate; refine wp_mapUpdate rfl _ _ _ 85 rfl 3 3 law77 Tryd.underlying85 (plainElem Tryd.prog 3) pm (cnt mk i) fp rfl HM5.out (by have := RC.out; unfold maxLen; omega) _ _ (.int .i64 (i : Int)) rfl rfl (keyOf_int_mk Tryd.underlying3 (WalkArith.wf_i64 (by have := IN.out; unfold in64 at this; omega))) (.lit (.int .i64 ((resG gs mk i).length : Int))) [] (plain3 _ (by have := RC.out; have := RL.out; unfold in64; omega)) ?_; intro w6 hM hg1; have HM6 := Aside0.mk hM; have HG6 := Aside0.mk hg1; clear hM hg1))
        have rs6 := RS5.out.putm hmi (c := ((resG gs mk i).length : Int)) (by rw [RL.out]) HP5.out HM6.out HG6.out
        have RS7 := Aside0.mk (rs6.step (below_drew (Below.refl _ _)))
        have pmlt : pm < wr.heap.size := by
          obtain ⟨_, h1, _⟩ := HS.out.map
          exact h1.lt
        have G7 := Aside0.mk (show w6.drew.heap[wr.heap.size]? = some (Obj.cells #[.int .i64 gt.f0, .int .i64 gt.f1, .slice A3 gt.f2.length c3] 50) from (blk_grown G9.out HG6.out (fun e => by have := Option.some.inj e; omega) : w6.heap[wr.heap.size]? = _))
        have OUT7 := Aside0.mk (show w6.drew.heap[go]? = some (.cells #[.slice Ao (resG gs mk i).length co] 24 (0, 0)) from (blk_grown BO5.out HG6.out (fun e => by
          obtain ⟨es, cl, hb⟩ := HM5.out.block
          exact cells_ne_map BO5.out hb (Option.some.inj e)) : w6.heap[go]? = _))
        have HO7 := Aside0.mk (show Kd.S k50 50 w6.drew W.heap.size (fun _ => True) (.slice Ao (resG gs mk i).length co) (resG gs mk i) from Kd.S_below (w := w6) (Kd.S_mono (Kd.S_move (w1 := w6) (Kd.S_bound HO5.out) (fun k hk => HG6.out.block k hk.2.2.1 (fun e => by
          obtain ⟨es, cl, hb⟩ := HM5.out.block
          obtain ⟨_, _, _, q, _, cells, hc⟩ := hk
          exact cells_ne_map hc hb (Option.some.inj e)))) (fun _ _ => trivial)) (below_drew (Below.refl _ _)))
        have KD7 := Aside0.mk (show Kd.C (Kd.int .i64) w6.drew A3 gt.f2.length gt.f2 from Kd.F_now (Kd.F_below (W := w6) (Kd.F_step (W1 := w6) (Kd.F_alloc KD.out _) (fun k hk hlt => HG6.out.block k hlt (fun e => by have := Option.some.inj e; have := RS5.out.gep; omega))) (below_drew (Below.refl _ _))))
        have MI := Aside0.mk hmi
        have PF := Aside0.mk (show ∀ k ∈ gt.f2, in64 k from fun k hk => by have := KL.out k hk; unfold in64; omega)
        have HELD := Aside0.mk (show w6.drew.cell? ⟨go, 0, none⟩ = some (.slice Ao (resG gs mk i).length co) ∧ w6.drew.cell? ⟨wr.heap.size, 0, none⟩ = some (.int .i64 gt.f0) ∧ w6.drew.cell? ⟨wr.heap.size, 1, none⟩ = some (.int .i64 gt.f1) ∧ w6.drew.cell? ⟨wr.heap.size, 2, none⟩ = some (.slice A3 gt.f2.length c3) from ⟨(blk_cell OUT7.out 0).trans rfl, (blk_cell G7.out 0).trans rfl, (blk_cell G7.out 1).trans rfl, (blk_cell G7.out 2).trans rfl⟩)
        clear x0 x1 x2 m2 p5 o5 RS5 G9 B5 BO5 HO5 HM5 HP5 HM6 HG6 rs6 pmlt HSW HS G7 KD
        generalize wr.heap.size = g9 at *
        -- REGION13
        obtain ⟨ks, hks⟩ : ∃ ks, ks = gt.f2.map (plOf mk) := ⟨_, rfl⟩
        have KSE := Aside0.mk hks
        clear hks
        refine start_ (n := 15) (S := fun w' => w'.cell? ⟨go, 0, none⟩ = some (.slice Ao (resG gs mk i).length co) ∧ w'.cell? ⟨g9, 0, none⟩ = some (.int .i64 gt.f0) ∧ w'.cell? ⟨g9, 1, none⟩ = some (.int .i64 gt.f1) ∧ w'.cell? ⟨g9, 2, none⟩ = some (.slice A3 gt.f2.length c3)) (ds := [12, 14]) #[false, false, false, false, false, false, false, false, false, false, false, false, false, false, false] (by kernel_rfl) rfl rfl HELD.out (fun hHeld => ?_)
        generalize w6.drew = w7 at *
        obtain ⟨fq, hMq, hPq⟩ := RS7.out.map
        have HMQ := Aside0.mk hMq
        have HPQ := Aside0.mk hPq
        clear hMq hPq
        refine pure_ (i := 0) (N := some 46) (v := ?_) (a' := ?_) #[true, false, false, false, false, false, false, false, false, false, false, false, false, false, false] rfl rfl (by kernel_rfl) (fun _ _ _ h => h) (Or.inl ⟨by rfl, ?_⟩) ?_ ?_
        rotate_left
        · intro w'
          go_simp
          with_reducible rfl
        rotate_left
        · simp only [Act.put, List.setIfInBounds_toArray, List.set_cons_zero, List.set_cons_succ, i64_w, i32_w]
          rfl
        refine pure_ (i := 2) (N := some 48) (v := ?_) (a' := ?_) #[true, false, true, false, false, false, false, false, false, false, false, false, false, false, false] rfl rfl (by kernel_rfl) (fun _ _ _ h => h) (Or.inl ⟨by rfl, ?_⟩) ?_ ?_
        rotate_left
        · intro w'
          go_simp
          with_reducible rfl
        rotate_left
        · simp only [Act.put, List.setIfInBounds_toArray, List.set_cons_zero, List.set_cons_succ, i64_w, i32_w]
          rfl
        refine pure_ (i := 4) (N := some 50) (v := ?_) (a' := ?_) #[true, false, true, false, true, false, false, false, false, false, false, false, false, false, false] rfl rfl (by kernel_rfl) (fun _ _ _ h => h) (Or.inl ⟨by rfl, ?_⟩) ?_ ?_
        rotate_left
        · intro w'
          go_simp
          with_reducible rfl
        rotate_left
        · simp only [Act.put, List.setIfInBounds_toArray, List.set_cons_zero, List.set_cons_succ, i64_w, i32_w]
          rfl
        refine pure_ (i := 6) (N := some 52) (v := ?_) (a' := ?_) #[true, false, true, false, true, false, true, false, false, false, false, false, false, false, false] rfl rfl (by kernel_rfl) (fun _ _ _ h => h) (Or.inl ⟨by rfl, ?_⟩) ?_ ?_
        rotate_left
        · intro w'
          go_simp
          with_reducible rfl
        rotate_left
        · simp only [Act.put, List.setIfInBounds_toArray, List.set_cons_zero, List.set_cons_succ, i64_w, i32_w]
          rfl
        refine pure_ (i := 7) (N := some 53) (v := ?_) (a' := ?_) #[true, false, true, false, true, false, true, true, false, false, false, false, false, false, false] rfl rfl (by kernel_rfl) (fun _ _ _ h => h) (Or.inl ⟨by rfl, ?_⟩) ?_ ?_
        rotate_left
        · intro w'
          go_simp
          with_reducible rfl
        rotate_left
        · simp only [Act.put, List.setIfInBounds_toArray, List.set_cons_zero, List.set_cons_succ, i64_w, i32_w]
          rfl
        refine take_ (i := 1) (N := some 47) (v := ?_) (a' := ?_) #[true, true, true, false, true, false, true, true, false, false, false, false, false, false, false] rfl rfl (by kernel_rfl) (fun _ _ _ h => h) (Or.inl ⟨by rfl, ?_⟩) hHeld ?_ ?_
        rotate_left
        · rintro w' ⟨s0, s1, s2, s3⟩
          go_simp
          with_reducible rfl
        rotate_left
        · simp only [Act.put, List.setIfInBounds_toArray, List.set_cons_zero, List.set_cons_succ, i64_w, i32_w]
          rfl
        refine take_ (i := 3) (N := some 49) (v := ?_) (a' := ?_) #[true, true, true, true, true, false, true, true, false, false, false, false, false, false, false] rfl rfl (by kernel_rfl) (fun _ _ _ h => h) (Or.inl ⟨by rfl, ?_⟩) hHeld ?_ ?_
        rotate_left
        · rintro w' ⟨s0, s1, s2, s3⟩
          go_simp
          with_reducible rfl
        rotate_left
        · simp only [Act.put, List.setIfInBounds_toArray, List.set_cons_zero, List.set_cons_succ, i64_w, i32_w]
          rfl
        refine take_ (i := 5) (N := some 51) (v := ?_) (a' := ?_) #[true, true, true, true, true, true, true, true, false, false, false, false, false, false, false] rfl rfl (by kernel_rfl) (fun _ _ _ h => h) (Or.inl ⟨by rfl, ?_⟩) hHeld ?_ ?_
        rotate_left
        · rintro w' ⟨s0, s1, s2, s3⟩
          go_simp
          with_reducible rfl
        rotate_left
        · simp only [Act.put, List.setIfInBounds_toArray, List.set_cons_zero, List.set_cons_succ, i64_w, i32_w]
          rfl
        refine take_ (i := 8) (N := some 54) (v := ?_) (a' := ?_) #[true, true, true, true, true, true, true, true, true, false, false, false, false, false, false] rfl rfl (by kernel_rfl) (fun _ _ _ h => h) (Or.inl ⟨by rfl, ?_⟩) hHeld ?_ ?_
        rotate_left
        · rintro w' ⟨s0, s1, s2, s3⟩
          go_simp
          with_reducible rfl
        rotate_left
        · simp only [Act.put, List.setIfInBounds_toArray, List.set_cons_zero, List.set_cons_succ, i64_w, i32_w]
          rfl
        refine one_ (i := 9) (N := some 55) #[true, true, true, true, true, true, true, true, true, true, false, false, false, false, false] rfl rfl (by kernel_rfl) (by decide) (fun K hK => ?_)
        refine call_ 57 #[.slice A3 gt.f2.length c3, .pointer (some ⟨gp, 0, none⟩)] ?hw rfl ?hr ?_
        case hw => rfl
        case hr => simp [execOp, resolve, Deferred.ofValue, invoke, Act.eval, eg57]
        refine (news_calls A3 c3 gt.f2 gp pm _ fq (plOf mk) w7 KD7.out KS.out RS7.out.pl HMQ.out PF.out (fun k hk => HPQ.out.get k (PF.out k hk) (KL.out k hk).1 (by have := (KL.out k hk).2; omega))).mono ?_
        rintro e w8 ⟨v55, rfl, hv, hb⟩
        refine ⟨_, rfl, ?_⟩
        rw [← KSE.out] at hv
        have HV := Aside0.mk hv
        have HB8 := Aside0.mk hb
        have HELD8 := Aside0.mk (show w8.cell? ⟨go, 0, none⟩ = some (.slice Ao (resG gs mk i).length co) ∧ w8.cell? ⟨g9, 0, none⟩ = some (.int .i64 gt.f0) ∧ w8.cell? ⟨g9, 1, none⟩ = some (.int .i64 gt.f1) ∧ w8.cell? ⟨g9, 2, none⟩ = some (.slice A3 gt.f2.length c3) from ⟨(hb.cell (World.block_lt_of_cell? _ _ hHeld.1)).trans hHeld.1, (hb.cell (World.block_lt_of_cell? _ _ hHeld.2.1)).trans hHeld.2.1, (hb.cell (World.block_lt_of_cell? _ _ hHeld.2.2.1)).trans hHeld.2.2.1, (hb.cell (World.block_lt_of_cell? _ _ hHeld.2.2.2)).trans hHeld.2.2.2⟩)
        obtain ⟨A5, c5, rfl⟩ := Kd.R_slice HV.out
        clear hv hb hHeld
        refine hK.out _ _ HELD8.out (fun hHeld => ?_)
        clear hK K
        refine norm_ (a' := ?_) ?_ ?_
        rotate_left
        · show Act.put _ (some 55) _ = _
          simp only [Act.put, List.setIfInBounds_toArray, List.set_cons_zero, List.set_cons_succ, i64_w, i32_w]
          rfl
        refine pure_ (i := 10) (N := some 56) (v := ?_) (a' := ?_) #[true, true, true, true, true, true, true, true, true, true, true, false, false, false, false] rfl rfl (by kernel_rfl) (fun _ _ _ h => h) (Or.inl ⟨by rfl, ?_⟩) ?_ ?_
        rotate_left
        · intro w'
          go_simp
          with_reducible rfl
        rotate_left
        · simp only [Act.put, List.setIfInBounds_toArray, List.set_cons_zero, List.set_cons_succ, i64_w, i32_w]
          rfl
        refine one_ (i := 11) (N := some 57) #[true, true, true, true, true, true, true, true, true, true, true, true, false, false, false] rfl rfl (by kernel_rfl) (by decide) (fun K hK => ?_)
        refine value_ (w1 := ?_) (v := ?_) (by rfl) rfl ?_ ?_
        rotate_left 2
        · go_simp
          constructor
          · rfl
          · rfl
        refine hK.out _ _ ⟨(World.cell?_alloc_lt _ _ _ (World.block_lt_of_cell? _ _ hHeld.1)).trans hHeld.1, (World.cell?_alloc_lt _ _ _ (World.block_lt_of_cell? _ _ hHeld.2.1)).trans hHeld.2.1, (World.cell?_alloc_lt _ _ _ (World.block_lt_of_cell? _ _ hHeld.2.2.1)).trans hHeld.2.2.1, (World.cell?_alloc_lt _ _ _ (World.block_lt_of_cell? _ _ hHeld.2.2.2)).trans hHeld.2.2.2⟩ (fun hHeld => ?_)
        clear hK K
        refine norm_ (a' := ?_) ?_ ?_
        rotate_left
        · show Act.put _ (some 57) _ = _
          simp only [Act.put, List.setIfInBounds_toArray, List.set_cons_zero, List.set_cons_succ, i64_w, i32_w]
          rfl
        refine last_ (i := 12) (N := some 58) #[true, true, true, true, true, true, true, true, true, true, true, true, true, false, false] rfl rfl (by kernel_rfl) (by decide) (fun K hK => ?_)
        refine Kd.S_append_step k50 (w0 := W) W.heap.size ?aW (.tmp 47) (.tmp 57) 22 50 (.agg #[(.int .i64 0), (.int .i64 0), (.slice none 0 0)]) 40 rfl Tryd.underlying22 info50 rfl (by decide) (by omega) (.slice Ao (resG gs mk i).length co) (resG gs mk i) (movedG gs mk i) [.int .i64 gt.f0, .int .i64 gt.f1, .slice A5 ks.length c5] (fun _ => True) (fun k => w7.heap.size ≤ k) rfl rfl ?aP ?aN (fun _ _ => trivial) ?aO ?aB ?aS ?aL ?_
        case aW => rfl
        case aP =>
          rw [MV.out]
          rw [← KSE.out]
          exact k50_mkM _ _ _ ⟨gt.f0, gt.f1, ks⟩ (Kd.R_lower (Kd.R_mono (Kd.R_bound HV.out) (fun k hk => hk.2.1)) RS7.out.below.size)
        case aN => exact fun k hk => ⟨trivial, fun he => by have := Kd.S_lt HO7.out k he.symm; omega⟩
        case aO => exact Kd.S_mono (Kd.S_below (Kd.S_bound HO7.out) HB8.out) (fun k hk => ⟨trivial, by have := hk.2.2.1; omega⟩)
        case aB => exact RS7.out.below.trans (HB8.out.mono RS7.out.below.size)
        case aS => exact Nat.le_trans RS7.out.below.size HB8.out.size
        case aL => have := RL.out; have := RC.out; omega
        intro v1 w9 ho hb hg hat
        have rs9 := RS7.out.appended MI.out OUT7.out HO7.out HB8.out ho hb hg
        obtain ⟨Ao2, co2, rfl⟩ := Kd.S_slice ho
        generalize (resG gs mk i ++ [movedG gs mk i]).length = ylen at *
        have RS9 := Aside0.mk rs9.2
        have OUT9 := Aside0.mk rs9.1
        clear rs9 ho hb hg hat
        refine hK.out _ _ ?_
        clear hK K
        refine norm_ (a' := ?_) ?_ ?_
        rotate_left
        · show Act.put _ (some 58) _ = _
          simp only [Act.put, List.setIfInBounds_toArray, List.set_cons_zero, List.set_cons_succ, i64_w, i32_w]
          rfl
        refine pure_ (i := 13) (N := some 59) (v := ?_) (a' := ?_) #[true, true, true, true, true, true, true, true, true, true, true, true, true, true, false] rfl rfl (by kernel_rfl) (fun _ _ _ h => h) (Or.inl ⟨by rfl, ?_⟩) ?_ ?_
        rotate_left
        · intro w'
          go_simp
          with_reducible rfl
        rotate_left
        · simp only [Act.put, List.setIfInBounds_toArray, List.set_cons_zero, List.set_cons_succ, i64_w, i32_w]
          rfl
        refine last_ (i := 14) (N := none) #[true, true, true, true, true, true, true, true, true, true, true, true, true, true, true] rfl rfl (by kernel_rfl) (by decide) (fun K hK => ?_)
        have hs9 : w9.cell? ⟨go, 0, none⟩ = some (.slice Ao (resG gs mk i).length co) := (blk_cell OUT9.out 0).trans rfl
        have hfs9 := blk_frozen OUT9.out 0
        refine skip_ (w1 := ?_) (by rfl) rfl ?_ ?_
        rotate_left
        · go_simp
          rfl
        refine hK.out _ _ ?_
        clear hK K
        refine done_ (by kernel_rfl) ?_
        go_wp2
        go_roundg (gs.length - (i + 1))
        case measure => omega
        case rel => exact ⟨i + 1, by omega, by omega, by go_num, RS9⟩
        -- END13
      | false =>
        have FM := Aside0.mk (show f (.int .i64 (i : Int)) = if false = true then some (.lit (.bool true)) else none by rw [HSW.out.marks _ hin, hmi])
        clear hin
        go_wp2_with (first
          | (at_lookup; refine wp_marked rfl _ _ rfl bm nm f rfl (HSW.out.map.alloc _) i rfl IN.out false FM.out ?_))
        have RS6 := Aside0.mk (RS5.out.unmarked hmi)
        go_roundg (gs.length - (i + 1))
        case measure => omega
        case rel => exact ⟨i + 1, by omega, by omega, by go_num, RS6⟩
    · obtain rfl : i = gs.length := by omega
      have hge : decide ((gs.length : Int) < (gs.length : Int)) = false := by simp
      obtain ⟨Ao, co, bo, hoR⟩ := HS.out.own
      obtain ⟨fq, hMq, hPq⟩ := HS.out.map
      have OUT := Aside0.mk (show wr.drew.heap[go]? = some (.cells #[.slice Ao (resG gs mk gs.length).length co] 24 (0, 0)) from bo)
      have HO := Aside0.mk (show Kd.S k50 50 wr.drew W.heap.size (fun _ => True) (.slice Ao (resG gs mk gs.length).length co) (resG gs mk gs.length) from Kd.S_below hoR (below_drew (Below.refl _ _)))
      have HMQ := Aside0.mk (hMq.below (below_drew (Below.refl _ _)))
      have HPQ := Aside0.mk hPq
      have HSD := Aside0.mk (HS.out.step (below_drew (Below.refl _ _)))
      have SWD := Aside0.mk (HSW.out.below (below_drew (Below.refl _ _)))
      have RR := Aside0.mk (SWD.out.roots.reads.2.2)
      have HELD := Aside0.mk (show wr.drew.cell? ⟨go, 0, none⟩ = some (.slice Ao (resG gs mk gs.length).length co) ∧ wr.drew.cell? ⟨g, 1, none⟩ = some (.slice A2 roots.length c2) from ⟨(blk_cell OUT.out 0).trans rfl, SWD.out.c1⟩)
      have RI := Aside0.mk (show ∀ k ∈ roots, in64 k from fun k hk => by have := HR.out k hk; unfold inRange at this; unfold in64; omega)
      clear bo hoR hMq hPq HSW HS
      go_wp2_with fail
      generalize (resG gs mk gs.length).length = nl at *
      -- REGION15
      refine start_ (n := 10) (S := fun w' => w'.cell? ⟨go, 0, none⟩ = some (.slice Ao nl co) ∧ w'.cell? ⟨g, 1, none⟩ = some (.slice A2 roots.length c2)) (ds := [7, 8, 9]) #[false, false, false, false, false, false, false, false, false, false] (by kernel_rfl) rfl rfl HELD.out (fun hHeld => ?_)
      generalize wr.drew = w7 at *
      refine pure_ (i := 1) (N := some 62) (v := ?_) (a' := ?_) #[false, true, false, false, false, false, false, false, false, false] rfl rfl (by kernel_rfl) (fun _ _ _ h => h) (Or.inl ⟨by rfl, ?_⟩) ?_ ?_
      rotate_left
      · intro w'
        go_simp
        with_reducible rfl
      rotate_left
      · simp only [Act.put, List.setIfInBounds_toArray, List.set_cons_zero, List.set_cons_succ, i64_w, i32_w]
        rfl
      refine pure_ (i := 2) (N := some 63) (v := ?_) (a' := ?_) #[false, true, true, false, false, false, false, false, false, false] rfl rfl (by kernel_rfl) (fun _ _ _ h => h) (Or.inl ⟨by rfl, ?_⟩) ?_ ?_
      rotate_left
      · intro w'
        go_simp
        with_reducible rfl
      rotate_left
      · simp only [Act.put, List.setIfInBounds_toArray, List.set_cons_zero, List.set_cons_succ, i64_w, i32_w]
        rfl
      refine pure_ (i := 3) (N := some 64) (v := ?_) (a' := ?_) #[false, true, true, true, false, false, false, false, false, false] rfl rfl (by kernel_rfl) (fun _ _ _ h => h) (Or.inl ⟨by rfl, ?_⟩) ?_ ?_
      rotate_left
      · intro w'
        go_simp
        with_reducible rfl
      rotate_left
      · simp only [Act.put, List.setIfInBounds_toArray, List.set_cons_zero, List.set_cons_succ, i64_w, i32_w]
        rfl
      refine pure_ (i := 4) (N := some 65) (v := ?_) (a' := ?_) #[false, true, true, true, true, false, false, false, false, false] rfl rfl (by kernel_rfl) (fun _ _ _ h => h) (Or.inl ⟨by rfl, ?_⟩) ?_ ?_
      rotate_left
      · intro w'
        go_simp
        with_reducible rfl
      rotate_left
      · simp only [Act.put, List.setIfInBounds_toArray, List.set_cons_zero, List.set_cons_succ, i64_w, i32_w]
        rfl
      refine take_ (i := 0) (N := some 61) (v := ?_) (a' := ?_) #[true, true, true, true, true, false, false, false, false, false] rfl rfl (by kernel_rfl) (fun _ _ _ h => h) (Or.inl ⟨by rfl, ?_⟩) hHeld ?_ ?_
      rotate_left
      · rintro w' ⟨s0, s1⟩
        go_simp
        with_reducible rfl
      rotate_left
      · simp only [Act.put, List.setIfInBounds_toArray, List.set_cons_zero, List.set_cons_succ, i64_w, i32_w]
        rfl
      refine take_ (i := 5) (N := some 66) (v := ?_) (a' := ?_) #[true, true, true, true, true, true, false, false, false, false] rfl rfl (by kernel_rfl) (fun _ _ _ h => h) (Or.inl ⟨by rfl, ?_⟩) hHeld ?_ ?_
      rotate_left
      · rintro w' ⟨s0, s1⟩
        go_simp
        with_reducible rfl
      rotate_left
      · simp only [Act.put, List.setIfInBounds_toArray, List.set_cons_zero, List.set_cons_succ, i64_w, i32_w]
        rfl
      refine one_ (i := 6) (N := some 67) #[true, true, true, true, true, true, true, false, false, false] rfl rfl (by kernel_rfl) (by decide) (fun K hK => ?_)
      refine call_ 57 #[.slice A2 roots.length c2, .pointer (some ⟨gp, 0, none⟩)] ?hw rfl ?hr ?_
      case hw => rfl
      case hr => simp [execOp, resolve, Deferred.ofValue, invoke, Act.eval, eg57]
      refine (news_calls A2 c2 roots gp pm _ fq (plOf mk) w7 RR.out HRL.out HSD.out.pl HMQ.out RI.out (fun k hk => HPQ.out.get k (RI.out k hk) (HR.out k hk).1 (HR.out k hk).2)).mono ?_
      rintro e w8 ⟨v67, rfl, hv, hb⟩
      refine ⟨_, rfl, ?_⟩
      have HV := Aside0.mk hv
      have HB8 := Aside0.mk hb
      have HELD8 := Aside0.mk (show w8.cell? ⟨go, 0, none⟩ = some (.slice Ao nl co) ∧ w8.cell? ⟨g, 1, none⟩ = some (.slice A2 roots.length c2) from ⟨(hb.cell (World.block_lt_of_cell? _ _ hHeld.1)).trans hHeld.1, (hb.cell (World.block_lt_of_cell? _ _ hHeld.2)).trans hHeld.2⟩)
      clear hv hb hHeld
      refine hK.out _ _ HELD8.out (fun hHeld => ?_)
      clear hK K
      refine norm_ (a' := ?_) ?_ ?_
      rotate_left
      · show Act.put _ (some 67) _ = _
        simp only [Act.put, List.setIfInBounds_toArray, List.set_cons_zero, List.set_cons_succ, i64_w, i32_w]
        rfl
      refine last_ (i := 7) (N := none) #[true, true, true, true, true, true, true, true, false, false] rfl rfl (by kernel_rfl) (by decide) (fun K hK => ?_)
      have rs8 := HSD.out.step HB8.out
      have RES8 := Aside0.mk rs8.res
      have hs8 : w8.cell? ⟨gr, 0, none⟩ = some (.slice none 0 0) := (blk_cell RES8.out 0).trans rfl
      have hfs8 := blk_frozen RES8.out 0
      clear rs8
      refine skip_ (w1 := ?_) (by rfl) rfl ?_ ?_
      rotate_left
      · go_simp
        rfl
      refine hK.out _ _ ?_
      clear hK K
      refine last_ (i := 8) (N := some 3) #[true, true, true, true, true, true, true, true, true, false] rfl rfl (by kernel_rfl) (by decide) (fun K hK => ?_)
      refine value_ (w1 := ?_) (v := ?_) (by rfl) rfl ?_ ?_
      rotate_left 2
      · go_simp
        constructor
        · rfl
        · rfl
      refine hK.out _ _ ?_
      clear hK K
      refine norm_ (a' := ?_) ?_ ?_
      rotate_left
      · show Act.put _ (some 3) _ = _
        simp only [Act.put, List.setIfInBounds_toArray, List.set_cons_zero, List.set_cons_succ, i64_w, i32_w]
        rfl
      refine last_ (i := 9) (N := some 4) #[true, true, true, true, true, true, true, true, true, true] rfl rfl (by kernel_rfl) (by decide) (fun K hK => ?_)
      refine value_ (w1 := ?_) (v := ?_) (by rfl) rfl ?_ ?_
      rotate_left 2
      · go_simp
        constructor
        · rfl
        · rfl
      refine hK.out _ _ ?_
      clear hK K
      refine norm_ (a' := ?_) ?_ ?_
      rotate_left
      · show Act.put _ (some 4) _ = _
        simp only [Act.put, List.setIfInBounds_toArray, List.set_cons_zero, List.set_cons_succ, i64_w, i32_w]
        rfl
      refine done_ (by kernel_rfl) ?_
      go_wp2
      refine bodyPost_ret (results_ctt rfl _ _ gr 24 #[.slice Ao nl co] (0, 0) _ rfl (blk_put (cs := #[.slice none 0 0]) RES8.out 0 _ rfl) Tryd.underlying24 rfl (by kernel_rfl)) rfl ?_
      refine ⟨_, _, rfl, Kd.S_mono (Kd.S_set (Kd.S_below (Kd.S_bound HO.out) HB8.out) RES8.out (by decide) 0 _) (fun k hk he => by have := Kd.R_base HV.out k he.symm; have := hk.2.2.1; omega), ?_, (HSD.out.below.trans (HB8.out.mono HSD.out.below.size)).setCell HSD.out.ger _⟩
      exact Kd.R_mono (Kd.R_set (Kd.R_lower HV.out HSD.out.below.size) RES8.out (by decide) 0 _) (fun _ _ => trivial)
      -- END15
end Go.Proofs.YtcafgpfecfocnaaDoor.P

/- reap.Sweep.Step: at most n steps of a sweep; the answer is whether nothing waits any more. -/
namespace Go.Proofs.YtcafgpfecfocnaaDoor.P
open Go.RowKit Go.Maps Go.Proofs.YtcafgpfecfocnaaDoorW.PrintWords Go.Proofs.YtcafgpfecfocnaaDoorW.PrintLast Go.Proofs.YtcafgpfecfocnaaDoorW.PrintMore
set_option linter.unusedVariables false
set_option linter.unusedSimpArgs false

theorem add_block (a : Addr) (n : Nat) : (a.add n).block = a.block := by unfold Addr.add; split <;> rfl
section
variable {W W1 W2 : World} {F : Nat → Prop} {g : Nat} {gs : List S50} {roots : List Int} {mk mk' : Int → Bool} {wait wait' : List Int} {Ag : Option Addr} {cg : Nat} {vr : Value} {bm nm : Nat} {vw : Value} {f : Lit → Option (DataW Unit)}
theorem SW.drew (h : SW W F g gs roots mk wait Ag cg vr bm nm vw f) : SW W.drew F g gs roots mk wait Ag cg vr bm nm vw f := h.below (below_drew (Below.refl _ _))
theorem After.now (h : SW W F g gs roots mk wait Ag cg vr bm nm vw f) : After W F g gs roots mk wait Ag cg vr bm W := ⟨F, nm, vw, f, h, fun k hk => .inl hk, Upd.refl _ _⟩
theorem After.then_ (h : After W F g gs roots mk wait Ag cg vr bm W1) (k : ∀ F' nm vw f, SW W1 F' g gs roots mk wait Ag cg vr bm nm vw f → After W1 F' g gs roots mk' wait' Ag cg vr bm W2) : After W F g gs roots mk' wait' Ag cg vr bm W2 := by
  obtain ⟨F1, nm1, vw1, f1, h1, h2, h3⟩ := h
  obtain ⟨F2, nm2, vw2, f2, k1, k2, k3⟩ := k F1 nm1 vw1 f1 h1
  refine ⟨F2, nm2, vw2, f2, k1, fun i hi => ?_, h3.trans k3 h2⟩
  rcases k2 i hi with h | h
  · exact h2 i h
  · exact .inr (Nat.le_trans h3.size h)
/-- The first one that waits is taken away. -/
theorem SW.popped {i : Int} {r : List Int} {A : Option Addr} {n c : Nat} (h : SW W F g gs roots mk (i :: r) Ag cg vr bm nm (.slice A n c) f) :
    SW (W.setCell ⟨g, 3, none⟩ (.slice (if n = 1 then A else A.map (·.add (1 * 1))) (n - 1) (n - 1))) F g gs roots mk r Ag cg vr bm nm (.slice (if n = 1 then A else A.map (·.add (1 * 1))) (n - 1) (n - 1)) f := by
  have hown : (Value.slice (if n = 1 then A else A.map (·.add (1 * 1))) (n - 1) (n - 1)).ownBlock = (Value.slice A n c).ownBlock := by
    cases A with
    | none => by_cases e : n = 1 <;> simp [e, Value.ownBlock]
    | some a => by_cases e : n = 1 <;> simp [e, Value.ownBlock, add_block]
  have hq := h.wait.cut
  have u : Upd F W (W.setCell ⟨g, 3, none⟩ (.slice (if n = 1 then A else A.map (·.add (1 * 1))) (n - 1) (n - 1))) := (Upd.refl F W).setCell (.inl h.fg) _
  constructor
  · exact blk_set (g := g) h.cells 3 _
  · exact h.room
  · exact Kd.F_step h.gates (fun k hk hlt => u.block k hlt hk)
  · exact h.roots.move fun k hk => Below.heap_setCell W ⟨g, 3, none⟩ _ k (fun e => h.r_ne_g (by have e' : k = g := e; rw [← e']; exact hk))
  · exact hq.move fun k hk => Below.heap_setCell W ⟨g, 3, none⟩ _ k (fun e => h.w_ne_g (by have e' : k = g := e; rw [← e', ← hown]; exact hk))
  · exact h.map.setCell (fun e => h.g_ne_bm e.symm) _
  · exact h.marks
  · exact h.fg
  · exact h.fm
  · exact h.fr
  · exact fun k hk => h.fw k (by rw [← hown]; exact hk)
  · exact fun k hk => Nat.lt_of_lt_of_le (h.lt k hk) u.size
  · exact fun k hk e => h.apart k hk (by rw [← hown]; exact e)
  · exact h.bound

theorem After.drewn (h : After W F g gs roots mk wait Ag cg vr bm W1) : After W F g gs roots mk wait Ag cg vr bm W1.drew := h.then_ fun F' nm vw f h' => by
  refine ⟨F', nm, vw, f, h'.drew, fun k hk => .inl hk, (Upd.refl _ _).drew⟩
end

theorem slice_pop (W : World) (A : Option Addr) (n c : Nat) (hn : 0 < n) (hc : n ≤ c) : (Instr.slice 25 (.slice A n c) (some (.int .i64 1)) (some (.int .i64 n)) (some (.int .i64 n))).run Tryd.prog W = .ok (.slice (if n = 1 then A else A.map (·.add (1 * 1))) (n - 1) (n - 1)) W := by
  have hel : Tryd.prog.elem 25 = 3 := by simp [Program.elem, Tryd.underlying25]
  have hu : Tryd.prog.underlying 25 = some (.slice (Tryd.prog.elem 25)) := by rw [hel]; exact Tryd.underlying25
  rw [run_slice_lhm W 25 A n c hu .i64 .i64 .i64 1 n n (by omega) (by omega) (by omega) (by omega), hel]
  obtain ⟨i0, hi0, hz0, hz1, hz2⟩ := info_parts info3q
  simp [sizeOf, typeInfo, hi0, hz1, sliced, Result.andThen]
theorem take_succ_rd (l : List Int) (k : Nat) (h : k < l.length) : l.take (k + 1) = l.take k ++ [rd l (k : Int)] := by
  rw [List.take_succ_eq_append_getElem h]
  unfold rd
  rw [Int.toNat_natCast, List.getD_eq_getElem?_getD, List.getElem?_eq_getElem h]
  rfl
theorem pushAll_snoc (s : St) (l : List Int) (x : Int) : s.pushAll (l ++ [x]) = (s.pushAll l).push x := by
  unfold St.pushAll
  rw [List.foldl_append]
  rfl
theorem steps_nil {gs : List S50} {s : St} (h : s.wait = []) (n : Nat) : s.steps gs n = s := by
  cases n with
  | zero => rfl
  | succ n => simp only [St.steps]; rw [if_pos h]
set_option maxRecDepth 100000 in
set_option maxHeartbeats 4000000 in
theorem step_calls {W : World} {F : Nat → Prop} {g : Nat} {gs : List S50} {roots : List Int} {s : St} {Ag : Option Addr} {cg : Nat} {vr : Value} {bm nm : Nat} {vw : Value} {f : Lit → Option (DataW Unit)}
    (h : SW W F g gs roots s.mark s.wait Ag cg vr bm nm vw f) (hs : s.Good gs.length) (hk : kidsIn gs) (hks : ∀ g ∈ gs, g.f2.length ≤ 1099511627776) (hlen : gs.length ≤ 100000) (n : Int) (hn : in64 n) :
    Calls Tryd.prog 24 #[.pointer (some ⟨g, 0, none⟩), .int .i64 n] W fun e W' => e = .returned (.bool (decide ((s.steps gs n.toNat).wait = []))) ∧ After W F g gs roots (s.steps gs n.toNat).mark (s.steps gs n.toNat).wait Ag cg vr bm W' := by
  have H := Aside0.mk (After.now h)
  have HS := Aside0.mk hs
  have HK := Aside0.mk hk
  have HKS := Aside0.mk hks
  have HL := Aside0.mk hlen
  have HN := Aside0.mk hn
  clear h hs hk hks hlen hn
  go_enter Tryd.func24, Tryd.ntmps24
  go_wp2_with fail
  go_loopg [1] (s.mu gs.length) (fun gg s1 wr => ∃ (m : Int) (s' : St), s1 = .int .i64 m ∧ Aside0 (in64 m) ∧ Aside0 (s'.Good gs.length) ∧ Aside0 (s'.mu gs.length ≤ gg) ∧ Aside0 (s.steps gs n.toNat = s'.steps gs m.toNat) ∧ Aside0 (After W F g gs roots s'.mark s'.wait Ag cg vr bm wr))
  case atStart => exact ⟨n, s, rfl, HN, HS, ⟨Nat.le_refl _⟩, ⟨rfl⟩, H⟩
  case round =>
    clear H HS HN
    obtain ⟨m, s', rfl, HN, HS, HMU, HE, HA⟩ := hrel
    have ha := HA.out
    obtain ⟨F1, nm1, vw1, f1, h1, hF1, hu1⟩ := ha
    obtain ⟨A1, n1, c1, rfl, hn1, hc1⟩ := h1.wait.form
    have H1 := Aside0.mk h1
    have HF1 := Aside0.mk hF1
    have HU1 := Aside0.mk hu1
    have q3 := h1.c3
    have N1 := Aside0.mk hn1
    clear hF1 hu1 hn1
    by_cases hm : 0 < m
    · by_cases hw : s'.wait = []
      · have hmb : decide (0 < m) = true := decide_eq_true hm
        obtain rfl : n1 = 0 := by rw [N1.out, hw]; rfl
        have E := Aside0.mk (show s.steps gs n.toNat = s' by rw [HE.out]; exact steps_nil hw _)
        have EW := Aside0.mk hw
        clear hw h1 hm
        go_wp2
        go_ret
        exact ⟨by rw [E.out, EW.out]; rfl, by rw [E.out]; exact HA.out⟩
      · have hpos : 0 < n1 := by
          rw [N1.out]
          exact List.length_pos_iff.2 hw
        have hmb : decide (0 < m) = true := decide_eq_true hm
        have hposb : decide ((0 : Int) < (n1 : Int)) = true := decide_eq_true (by omega)
        obtain ⟨i, r, hir⟩ : ∃ i r, s'.wait = i :: r := by cases h' : s'.wait with
          | nil => exact absurd h' hw
          | cons i r => exact ⟨i, r, rfl⟩
        have hrd := h1.wait.reads.2.2
        rw [hir] at hrd
        obtain ⟨ad, e, hx⟩ := Kd.at_int hrd 0 (by omega) (by simp only [List.length_cons]; omega)
        cases e
        have e0 : rd (i :: r) 0 = i := rfl
        rw [e0] at hx
        clear e0 hrd
        have e1 : ad.add (Int.toNat 0) = ad := by simp [Addr.add]
        rw [e1] at hx
        clear e1
        have IR := Aside0.mk hir
        have MP := Aside0.mk hm
        clear hir hw h1 hm
        have hc1' : (n1 : Int) ≤ (c1 : Int) := by omega
        have hone : (1 : Int) ≤ (n1 : Int) := by omega
        have z3 := blk_frozen H1.out.cells 3
        go_wp2_with fail
        go_still_tail 18, (by kernel_rfl)
        have H2 := Aside0.mk H1.out.drew
        have HA2 := Aside0.mk (HA.out.drewn)
        have HU2 := Aside0.mk HU1.out.drew
        have q4 := H2.out.c3
        have z4 := blk_frozen H2.out.cells 3
        have hx4 : wr.drew.cell? ad = some (.int .i64 i) := hx
        clear H1 HA HU1 q3 z3 hx
        change wpList _ _ _ _ _ wr.drew
        generalize wr.drew = w2 at *
        have h3 := H2.out
        rw [IR.out] at h3
        have h4 := h3.popped
        have q5 := H2.out.c0
        have hiN : 0 ≤ i ∧ i < gs.length := HS.out.range i (by rw [IR.out]; exact List.mem_cons_self ..)
        clear h3
        by_cases hn1 : n1 = 1
        · subst hn1
          rw [if_pos rfl] at h4
          obtain ⟨adg, A3, c3, rfl, g0, g1, g2, hc3, hkd⟩ := gate_read h4.gates i hiN.1 hiN.2
          have H4 := Aside0.mk h4
          have KD := Aside0.mk hkd
          clear h4 hkd
          go_wp2_with fail
          change Code.wp _ _ _ _ (w2.setCell ⟨g, 3, none⟩ (.slice (some ad) (1 - 1) (1 - 1)))
          have U4 := Aside0.mk (show Upd F1 w2 (w2.setCell ⟨g, 3, none⟩ (.slice (some ad) (1 - 1) (1 - 1))) from (Upd.refl _ _).setCell (.inl H2.out.fg) _)
          clear g0 g1 g2 q5 q4 z4 hx4
          generalize (w2.setCell ⟨g, 3, none⟩ (.slice (some ad) (1 - 1) (1 - 1))) = w4 at *
          have hka := HKS.out _ (rd_mem50 gs i hiN)
          have KIN := Aside0.mk (HK.out _ (rd_mem50 gs i hiN))
          have ST := Aside0.mk (show s'.step gs = St.pushAll ⟨s'.mark, r⟩ (rd_T50 gs i).f2 by unfold St.step; rw [IR.out])
          generalize (rd_T50 gs i).f2 = kids at *
          have A4 := Aside0.mk (After.now H4.out)
          go_loopg [54] kids.length (fun gg s54 wr => ∃ k : Nat, k ≤ kids.length ∧ kids.length - k ≤ gg ∧ s54 = .int .i64 k ∧ Aside0 (After w4 F1 g gs roots (St.pushAll ⟨s'.mark, r⟩ (kids.take k)).mark (St.pushAll ⟨s'.mark, r⟩ (kids.take k)).wait (some adg) cg vr bm wr))
          case atStart => exact ⟨0, Nat.zero_le _, by omega, rfl, A4⟩
          case round =>
            obtain ⟨k, hk, hgk, rfl, HA5⟩ := hrel
            obtain ⟨F5, nm5, vw5, f5, h5, hF5, hu5⟩ := HA5.out
            have H5 := Aside0.mk h5
            have HF5 := Aside0.mk hF5
            have HU5 := Aside0.mk hu5
            clear hF5 hu5 h5
            by_cases hlt : k < kids.length
            · obtain ⟨ad5, e, hx⟩ := Kd.at_int (Kd.F_now (Kd.F_step KD.out (fun j hj hl => HU5.out.block j hl hj))) (k : Int) (by omega) (by omega)
              cases e
              rw [Int.toNat_natCast] at hx
              obtain ⟨x, hxe⟩ : ∃ x, x = rd kids (k : Int) := ⟨_, rfl⟩
              rw [← hxe] at hx
              have XE := Aside0.mk (show kids.take (k + 1) = kids.take k ++ [x] by rw [hxe]; exact take_succ_rd kids k hlt)
              have XIN := Aside0.mk (KIN.out x (by rw [hxe]; exact rd_mem kids k hlt))
              have WL := Aside0.mk (show (St.pushAll ⟨s'.mark, r⟩ (kids.take k)).wait.length < 8796093022208 by
                have h1 := (St.Good.pushAll (kids.take k) (HS.out.tail IR.out) (fun j hj => KIN.out j (List.mem_of_mem_take hj))).few
                have h2 := cnt_le (St.pushAll ⟨s'.mark, r⟩ (kids.take k)).mark gs.length
                have h3 := HL.out
                omega)
              clear hxe
              have hlt' : (k : Int) < (kids.length : Int) := by omega
              go_wp2_with (go_at_call 54; refine (push_calls H5.out x XIN.out HL.out WL.out).mono ?_; rintro e w6 ⟨rfl, ha⟩; have HA6 := Aside0.mk ha; clear ha)
              go_roundg (kids.length - (k + 1))
              case measure => omega
              case rel =>
                refine ⟨k + 1, by omega, by omega, by go_num, ⟨?_⟩⟩
                have he : St.pushAll ⟨s'.mark, r⟩ (kids.take (k + 1)) = (St.pushAll ⟨s'.mark, r⟩ (kids.take k)).push x := by rw [XE.out]; exact pushAll_snoc ..
                rw [he]
                obtain ⟨F6, nm6, vw6, f6, h6, hF6, hu6⟩ := HA6.out
                refine ⟨F6, nm6, vw6, f6, h6, fun j hj => ?_, HU5.out.trans hu6 HF5.out⟩
                rcases hF6 j hj with h | h
                · exact HF5.out j h
                · exact .inr (Nat.le_trans HU5.out.size h)
            · obtain rfl : k = kids.length := by omega
              have hge : decide ((kids.length : Int) < (kids.length : Int)) = false := by simp
              rw [List.take_length] at H5
              go_wp2
              go_roundg (St.mu gs.length (s'.step gs))
              case measure =>
                have := St.mu_step HS.out HK.out (show s'.wait ≠ [] by rw [IR.out]; simp)
                have := HMU.out
                omega
              case rel =>
                have hm0 : (-9223372036854775808 ≤ m ∧ m ≤ 9223372036854775807) ∧ 0 < m := ⟨HN.out, MP.out⟩
                obtain ⟨⟨hm1, hm2⟩, hm3⟩ := hm0
                refine ⟨m - 1, s'.step gs, congrArg (Value.int .i64) (show wrap64 (m - 1) = m - 1 by unfold wrap64; omega), ⟨by unfold in64; omega⟩, ⟨HS.out.step HK.out⟩, ⟨Nat.le_refl _⟩, ⟨?_⟩, ⟨?_⟩⟩
                · rw [HE.out, show m.toNat = (m - 1).toNat + 1 by omega]
                  simp only [St.steps]
                  rw [if_neg (by rw [IR.out]; simp)]
                · rw [ST.out]
                  refine ⟨F5, nm5, vw5, f5, H5.out, fun j hj => ?_, (HU2.out.trans U4.out HF1.out).trans HU5.out HF1.out⟩
                  rcases HF5.out j hj with h | h
                  · exact HF1.out j h
                  · exact .inr (Nat.le_trans (HU2.out.trans U4.out HF1.out).size h)
        · have h4' : SW (w2.setCell ⟨g, 3, none⟩ (.slice (some ⟨ad.block, ad.off + 1, none⟩) (n1 - 1) (n1 - 1))) F1 g gs roots s'.mark r Ag cg vr bm nm1 (.slice (some ⟨ad.block, ad.off + 1, none⟩) (n1 - 1) (n1 - 1)) f1 := by
            rw [if_neg hn1] at h4
            exact h4
          clear h4
          obtain ⟨adg, A3, c3, rfl, g0, g1, g2, hc3, hkd⟩ := gate_read h4'.gates i hiN.1 hiN.2
          have H4 := Aside0.mk h4'
          have KD := Aside0.mk hkd
          clear h4' hkd
          go_wp2_with fail
          change Code.wp _ _ _ _ (w2.setCell ⟨g, 3, none⟩ (.slice (some ⟨ad.block, ad.off + 1, none⟩) (n1 - 1) (n1 - 1)))
          have U4 := Aside0.mk (show Upd F1 w2 (w2.setCell ⟨g, 3, none⟩ (.slice (some ⟨ad.block, ad.off + 1, none⟩) (n1 - 1) (n1 - 1))) from (Upd.refl _ _).setCell (.inl H2.out.fg) _)
          clear g0 g1 g2 q5 q4 z4 hx4
          generalize (w2.setCell ⟨g, 3, none⟩ (.slice (some ⟨ad.block, ad.off + 1, none⟩) (n1 - 1) (n1 - 1))) = w4 at *
          have hka := HKS.out _ (rd_mem50 gs i hiN)
          have KIN := Aside0.mk (HK.out _ (rd_mem50 gs i hiN))
          have ST := Aside0.mk (show s'.step gs = St.pushAll ⟨s'.mark, r⟩ (rd_T50 gs i).f2 by unfold St.step; rw [IR.out])
          generalize (rd_T50 gs i).f2 = kids at *
          have A4 := Aside0.mk (After.now H4.out)
          go_loopg [54] kids.length (fun gg s54 wr => ∃ k : Nat, k ≤ kids.length ∧ kids.length - k ≤ gg ∧ s54 = .int .i64 k ∧ Aside0 (After w4 F1 g gs roots (St.pushAll ⟨s'.mark, r⟩ (kids.take k)).mark (St.pushAll ⟨s'.mark, r⟩ (kids.take k)).wait (some adg) cg vr bm wr))
          case atStart => exact ⟨0, Nat.zero_le _, by omega, rfl, A4⟩
          case round =>
            obtain ⟨k, hk, hgk, rfl, HA5⟩ := hrel
            obtain ⟨F5, nm5, vw5, f5, h5, hF5, hu5⟩ := HA5.out
            have H5 := Aside0.mk h5
            have HF5 := Aside0.mk hF5
            have HU5 := Aside0.mk hu5
            clear hF5 hu5 h5
            by_cases hlt : k < kids.length
            · obtain ⟨ad5, e, hx⟩ := Kd.at_int (Kd.F_now (Kd.F_step KD.out (fun j hj hl => HU5.out.block j hl hj))) (k : Int) (by omega) (by omega)
              cases e
              rw [Int.toNat_natCast] at hx
              obtain ⟨x, hxe⟩ : ∃ x, x = rd kids (k : Int) := ⟨_, rfl⟩
              rw [← hxe] at hx
              have XE := Aside0.mk (show kids.take (k + 1) = kids.take k ++ [x] by rw [hxe]; exact take_succ_rd kids k hlt)
              have XIN := Aside0.mk (KIN.out x (by rw [hxe]; exact rd_mem kids k hlt))
              have WL := Aside0.mk (show (St.pushAll ⟨s'.mark, r⟩ (kids.take k)).wait.length < 8796093022208 by
                have h1 := (St.Good.pushAll (kids.take k) (HS.out.tail IR.out) (fun j hj => KIN.out j (List.mem_of_mem_take hj))).few
                have h2 := cnt_le (St.pushAll ⟨s'.mark, r⟩ (kids.take k)).mark gs.length
                have h3 := HL.out
                omega)
              clear hxe
              have hlt' : (k : Int) < (kids.length : Int) := by omega
              go_wp2_with (go_at_call 54; refine (push_calls H5.out x XIN.out HL.out WL.out).mono ?_; rintro e w6 ⟨rfl, ha⟩; have HA6 := Aside0.mk ha; clear ha)
              go_roundg (kids.length - (k + 1))
              case measure => omega
              case rel =>
                refine ⟨k + 1, by omega, by omega, by go_num, ⟨?_⟩⟩
                have he : St.pushAll ⟨s'.mark, r⟩ (kids.take (k + 1)) = (St.pushAll ⟨s'.mark, r⟩ (kids.take k)).push x := by rw [XE.out]; exact pushAll_snoc ..
                rw [he]
                obtain ⟨F6, nm6, vw6, f6, h6, hF6, hu6⟩ := HA6.out
                refine ⟨F6, nm6, vw6, f6, h6, fun j hj => ?_, HU5.out.trans hu6 HF5.out⟩
                rcases hF6 j hj with h | h
                · exact HF5.out j h
                · exact .inr (Nat.le_trans HU5.out.size h)
            · obtain rfl : k = kids.length := by omega
              have hge : decide ((kids.length : Int) < (kids.length : Int)) = false := by simp
              rw [List.take_length] at H5
              go_wp2
              go_roundg (St.mu gs.length (s'.step gs))
              case measure =>
                have := St.mu_step HS.out HK.out (show s'.wait ≠ [] by rw [IR.out]; simp)
                have := HMU.out
                omega
              case rel =>
                have hm0 : (-9223372036854775808 ≤ m ∧ m ≤ 9223372036854775807) ∧ 0 < m := ⟨HN.out, MP.out⟩
                obtain ⟨⟨hm1, hm2⟩, hm3⟩ := hm0
                refine ⟨m - 1, s'.step gs, congrArg (Value.int .i64) (show wrap64 (m - 1) = m - 1 by unfold wrap64; omega), ⟨by unfold in64; omega⟩, ⟨HS.out.step HK.out⟩, ⟨Nat.le_refl _⟩, ⟨?_⟩, ⟨?_⟩⟩
                · rw [HE.out, show m.toNat = (m - 1).toNat + 1 by omega]
                  simp only [St.steps]
                  rw [if_neg (by rw [IR.out]; simp)]
                · rw [ST.out]
                  refine ⟨F5, nm5, vw5, f5, H5.out, fun j hj => ?_, (HU2.out.trans U4.out HF1.out).trans HU5.out HF1.out⟩
                  rcases HF5.out j hj with h | h
                  · exact HF1.out j h
                  · exact .inr (Nat.le_trans (HU2.out.trans U4.out HF1.out).size h)
    · have hmb : decide (0 < m) = false := decide_eq_false hm
      have E := Aside0.mk (show s.steps gs n.toNat = s' by rw [HE.out, show m.toNat = 0 by omega]; rfl)
      have EW := Aside0.mk (show decide (s'.wait = []) = ((n1 : Int) == 0) by rw [N1.out]; cases s'.wait <;> simp; omega)
      clear h1 hm
      go_wp2
      go_ret
      exact ⟨by rw [E.out, EW.out]; rfl, by rw [E.out]; exact HA.out⟩
end Go.Proofs.YtcafgpfecfocnaaDoor.P

/- reap.Start: a sweep is made, or refused. -/
namespace Go.Proofs.YtcafgpfecfocnaaDoor.P
open Go.RowKit Go.Maps Go.Proofs.YtcafgpfecfocnaaDoorW.PrintWords Go.Proofs.YtcafgpfecfocnaaDoorW.PrintLast Go.Proofs.YtcafgpfecfocnaaDoorW.PrintMore
set_option linter.unusedVariables false
set_option linter.unusedSimpArgs false

def startS (gs : List S50) (rs : List Int) : Bool := validS gs && !(rs.any (outside gs.length))
def st0 (rs : List Int) : St := St.pushAll ⟨fun _ => false, []⟩ rs

theorem start1 (A : Option Addr) (k : Int) (n c : Nat) (b : Nat) (W : World) (hc : W.cell? ⟨b, 0, none⟩ = some (.slice A n c)) :
    Calls Tryd.prog 51 #[.int .i64 k, .pointer (some ⟨b, 0, none⟩)] W fun e W' => e = .returned (.bool (outside n k)) ∧ Below W.heap.size W W' := by
  by_cases h : k < 0
  · have e1 : outside n k = true := by simp [outside, h]
    have E := Aside0.mk e1
    clear e1
    have h1 : decide (k < 0) = true := decide_eq_true h
    go_enter Tryd.func51, Tryd.ntmps51
    go_wp2
    go_ret
    exact ⟨by rw [E.out]; rfl, Below.refl _ _⟩
  · have e1 : outside n k = decide ((n : Int) ≤ k) := by simp [outside, h]
    have E := Aside0.mk e1
    clear e1
    have h1 : decide (k < 0) = false := decide_eq_false h
    go_enter Tryd.func51, Tryd.ntmps51
    go_wp2
    go_ret
    exact ⟨by rw [E.out]; rfl, Below.refl _ _⟩
theorem eg51 : ∀ args w, (callFunc 51 args).run Tryd.prog w = .ok (.enter 51 args) w := enters_of Tryd.func51 (by kernel_rfl) rfl
theorem run_makeMap_none (t k e : TypeId) (ht : Tryd.prog.underlying t = some (.map k e)) (w : World) : (Instr.makeMap t none).run Tryd.prog w = .ok (.map (some w.heap.size)) (w.alloc (.map #[] 0)) := by
  simp [Instr.makeMap, run_underlying ht]
set_option maxRecDepth 100000 in
set_option maxHeartbeats 8000000 in
theorem start_calls (A0 : Option Addr) (c0 : Nat) (gs : List S50) (A1 : Option Addr) (c1 : Nat) (rs : List Int) (w : World) (hT : Tabs w) (hwf : ∀ g ∈ gs, wfG g) (hr0 : Kd.C k50 w A0 gs.length gs) (hc0 : gs.length ≤ c0) (hr1 : Kd.C (Kd.int .i64) w A1 rs.length rs) (hc1 : rs.length ≤ c1) (hrl : rs.length ≤ 1099511627776) :
    Calls Tryd.prog 18 #[.agg #[.slice A0 gs.length c0], .slice A1 rs.length c1] w fun e w' => Below w.heap.size w w' ∧
      (startS gs rs = false → e = .returned (.tuple #[.pointer none, .int .i64 1])) ∧
      (startS gs rs = true → ∃ g F nm vw f Ag cg vr bm, e = .returned (.tuple #[.pointer (some ⟨g, 0, none⟩), .int .i64 0]) ∧ SW w' F g gs rs (st0 rs).mark (st0 rs).wait Ag cg vr bm nm vw f ∧ ∀ k, F k → w.heap.size ≤ k) := by
  have HV := Aside0.mk (fun (W : World) (hb : Below w.heap.size w W) => valid_calls A0 c0 gs W (hT.below hb) hwf (Kd.C_below hr0 hb) hc0)
  have HA := Aside0.mk (fun (W : World) (b : Nat) (hb : Below w.heap.size w W) (hc : W.cell? ⟨b, 0, none⟩ = some (.slice A0 gs.length c0)) => containsFunc 51 #[.pointer (some ⟨b, 0, none⟩)] eg51 (outside gs.length) A1 c1 rs W (Kd.C_below hr1 hb) (fun W' x _ hb' => start1 A0 x gs.length c0 b W' ((hb'.cell (World.block_lt_of_cell? W _ hc)).trans hc)))
  have HR0 := Aside0.mk hr0
  have HR1 := Aside0.mk hr1
  have HC := Aside0.mk hc0
  have HRL := Aside0.mk hrl
  clear hT hwf hr0 hc0 hr1 hc1 hrl
  cases hv : validS gs with
  | false =>
    have E := Aside0.mk (show startS gs rs = false by simp [startS, hv])
    rw [hv] at HV
    clear hv
    go_enter Tryd.func18, Tryd.ntmps18
    go_wp2_with (first
      | ((with_reducible refine gate_dst (N := 2) rfl ?_); refine box_event ?hg (N := 2) ?hd (cs := #[.slice A0 gs.length c0]) (t := 24) ?hr ?_; (case hd => rfl); (case hg => rfl); (case hr => first | (go_simp; done) | (go_simp; rfl)); intro gb hg w1 hbox hb; have HB := Aside0.mk hb; have BX := Aside0.mk hbox; have q0 : w1.cell? ⟨gb, 0, none⟩ = some (.slice A0 gs.length c0) := (blk_cell hbox 0).trans rfl; clear hg hbox hb)
      | (go_at_call 28; refine (HV.out _ HB.out).mono ?_; rintro e w2 ⟨rfl, hb⟩; have HB2 := Aside0.mk (HB.out.trans (hb.mono HB.out.size)); clear hb))
    go_ret2
    exact ⟨HB2.out, fun _ => rfl, fun h => by rw [E.out] at h; cases h⟩
  | true =>
    rw [hv] at HV
    cases ha : rs.any (outside gs.length) with
    | true =>
      have E := Aside0.mk (show startS gs rs = false by simp [startS, hv, ha])
      rw [ha] at HA
      clear hv ha
      go_enter Tryd.func18, Tryd.ntmps18
      go_wp2_with (first
        | ((with_reducible refine gate_dst (N := 2) rfl ?_); refine box_event ?hg (N := 2) ?hd (cs := #[.slice A0 gs.length c0]) (t := 24) ?hr ?_; (case hd => rfl); (case hg => rfl); (case hr => first | (go_simp; done) | (go_simp; rfl)); intro gb hg w1 hbox hb; have HB := Aside0.mk hb; have BX := Aside0.mk hbox; have q0 : w1.cell? ⟨gb, 0, none⟩ = some (.slice A0 gs.length c0) := (blk_cell hbox 0).trans rfl; clear hg hbox hb)
        | (go_at_call 28; refine (HV.out _ HB.out).mono ?_; rintro e w2 ⟨rfl, hb⟩; have HB2 := Aside0.mk (HB.out.trans (hb.mono HB.out.size)); have q02 := Aside0.mk ((hb.cell (World.block_lt_of_cell? _ _ q0)).trans q0); clear hb)
        | (go_at_call 50; refine (HA.out _ _ HB2.out q02.out).mono ?_; rintro e w3 ⟨rfl, hb⟩; have HB3 := Aside0.mk (HB2.out.trans (hb.mono HB2.out.size)); clear hb))
      go_ret2
      exact ⟨HB3.out, fun _ => rfl, fun h => by rw [E.out] at h; cases h⟩
    | false =>
      have E := Aside0.mk (show startS gs rs = true by simp [startS, hv, ha])
      have HIN := Aside0.mk (show ∀ r ∈ rs, inRange gs.length r by
        intro r hr
        have h1 := List.any_eq_false.1 ha r hr
        unfold outside at h1
        simp at h1
        unfold inRange
        omega)
      have GL := Aside0.mk (show gs.length ≤ 100000 by
        unfold validS at hv
        simp at hv
        exact hv.1)
      rw [ha] at HA
      clear hv ha
      have hmm := fun W => run_makeMap_none 77 3 4 Tryd.underlying77 W
      go_enter Tryd.func18, Tryd.ntmps18
      go_wp2_with (first
        | ((with_reducible refine gate_dst (N := 2) rfl ?_); refine box_event ?hg (N := 2) ?hd (cs := #[.slice A0 gs.length c0]) (t := 24) ?hr ?_; (case hd => rfl); (case hg => rfl); (case hr => first | (go_simp; done) | (go_simp; rfl)); intro gb hg w1 hbox hb; have HB := Aside0.mk hb; have BX := Aside0.mk hbox; have q0 : w1.cell? ⟨gb, 0, none⟩ = some (.slice A0 gs.length c0) := (blk_cell hbox 0).trans rfl; clear hg hbox hb)
        | (go_at_call 28; refine (HV.out _ HB.out).mono ?_; rintro e w2 ⟨rfl, hb⟩; have HB2 := Aside0.mk (HB.out.trans (hb.mono HB.out.size)); have q02 := Aside0.mk ((hb.cell (World.block_lt_of_cell? _ _ q0)).trans q0); clear hb)
        | (go_at_call 50; refine (HA.out _ _ HB2.out q02.out).mono ?_; rintro e w3 ⟨rfl, hb⟩; have HB3 := Aside0.mk (HB2.out.trans (hb.mono HB2.out.size)); have q03 := (hb.cell (World.block_lt_of_cell? _ _ q02.out)).trans q02.out; clear hb)
        | (go_at_call 52; refine (clone_gates A0 c0 gs w3 (Kd.C_below HR0.out HB3.out) GL.out).mono ?_; rintro e w4 ⟨Ag, cg, rfl, hcg, hb, hge, hF⟩; have HB4 := Aside0.mk (HB3.out.trans (hb.mono HB3.out.size)); have HCG := Aside0.mk hcg; have HS3 := Aside0.mk hb.size; have HGE := Aside0.mk hge; have HGF := Aside0.mk hF; clear hb hge hF hcg)
        | (go_at_call 53; refine (clone_ints A1 c1 rs w4 (Kd.C_below HR1.out HB4.out) HRL.out).mono ?_; rintro e w5 ⟨vr, rfl, hq, hb, hge2⟩; obtain ⟨A3, n3, c3, rfl, hn3, _⟩ := hq.form; clear hn3; have HB5 := Aside0.mk (HB4.out.trans (hb.mono HB4.out.size)); have HB45 := Aside0.mk hb; have HQ := Aside0.mk hq; have HGE2 := Aside0.mk hge2; clear hb hge2 hq)
        | ((with_reducible refine gate_dst (N := 23) rfl ?_); refine map_event rfl rfl ?hr 3 (plainElem Tryd.prog 4) ?_; (case hr => first | (go_simp; done) | (go_simp; rfl)); intro bm hbm w6 hM hb; have HM := Aside0.mk hM; have BMG := Aside0.mk hbm; have HB6 := Aside0.mk hb; clear hM hb hbm)
        | ((with_reducible refine gate_dst (N := 25) rfl ?_); refine box_event ?hg2 (N := 25) ?hd2 (cs := #[.slice Ag gs.length cg, .slice A3 n3 c3, .map (some bm), .slice none 0 0]) (t := 79) ?hr2 ?_; (case hd2 => rfl); (case hg2 => rfl); (case hr2 => first | (go_simp; done) | (go_simp; rfl)); intro g hg w7 hbox hb; have HB7 := Aside0.mk hb; have BX7 := Aside0.mk hbox; have GG := Aside0.mk hg; clear hg hbox hb))
      have sw0 : SW w7 (fun k => k = g ∨ k = bm ∨ (Value.slice A3 n3 c3).ownBlock = some k) g gs rs (fun _ => false) [] Ag cg (.slice A3 n3 c3) bm 0 (.slice none 0 0) (fun _ => none) := by
        have h45 := HB45.out.size
        have h56 := HB6.out.size
        have h67 := HB7.out.size
        have hgg := GG.out
        have hbm := BMG.out
        have h34 := HS3.out
        have hbl : bm < w6.heap.size := HM.out.lt
        constructor
        · exact BX7.out
        · exact HCG.out
        · have h1 := Kd.F_below HGF.out HB45.out
          have h2 := Kd.F_below h1 HB6.out
          have h3 := Kd.F_below h2 HB7.out
          refine Kd.F_mono (Kd.F_bound h3) (fun k hk hf => ?_)
          have hkb : k < w4.heap.size := by
              rcases hk.1 with h | ⟨ad, e, h⟩
              · omega
              · have := (HGE.out ad e).2
                omega
          rcases hf with h | h | h
          · omega
          · omega
          · have := HGE2.out k h
            omega
        · exact (HQ.out.move fun k hk => HB6.out.block k (HQ.out.lt k hk)).move fun k hk => HB7.out.block k (Nat.lt_of_lt_of_le (HQ.out.lt k hk) h56)
        · exact QInts.nil _
        · exact HM.out.below HB7.out
        · intro i _
          simp
        · exact .inl rfl
        · exact .inr (.inl rfl)
        · exact fun k hk => .inr (.inr hk)
        · exact fun k hk => by simp [Value.ownBlock] at hk
        · intro k hk
          rcases hk with h | h | h
          · subst h; exact blk_lt BX7.out
          · omega
          · have := HQ.out.lt k h; omega
        · intro k hk e
          simp [Value.ownBlock] at e
        · exact Nat.zero_le _
      have FN := Aside0.mk (show ∀ k, (k = g ∨ k = bm ∨ (Value.slice A3 n3 c3).ownBlock = some k) → w.heap.size ≤ k by
        have h4 := HB4.out.size
        have h5 := HB5.out.size
        have h6 := HB6.out.size
        intro k hk
        rcases hk with h | h | h
        · have := GG.out; omega
        · have := BMG.out; omega
        · have := HGE2.out k h; omega)
      have B7 := Aside0.mk ((HB5.out.trans (HB6.out.mono HB5.out.size)).trans (HB7.out.mono (Nat.le_trans HB5.out.size HB6.out.size)))
      obtain ⟨F0, hF0⟩ : ∃ F0 : Nat → Prop, F0 = fun k => k = g ∨ k = bm ∨ (Value.slice A3 n3 c3).ownBlock = some k := ⟨_, rfl⟩
      rw [← hF0] at sw0
      have FN := Aside0.mk (show ∀ k, F0 k → w.heap.size ≤ k by rw [hF0]; exact FN.out)
      clear hF0
      have A0' := Aside0.mk (After.now sw0)
      have U0 := Aside0.mk (Upd.refl F0 w7)
      clear HM BX7 GG BMG HB6 HB7 HQ HGE2 HB45 HGF HGE HS3 HB2 HB3 HB4 HB5 q03 q02 q0 HB BX sw0 HV HA
      go_loopg [28] rs.length (fun gg s28 wr => ∃ k : Nat, k ≤ rs.length ∧ rs.length - k ≤ gg ∧ s28 = .int .i64 k ∧ Aside0 (After w7 F0 g gs rs (st0 (rs.take k)).mark (st0 (rs.take k)).wait Ag cg (.slice A3 n3 c3) bm wr))
      case atStart => exact ⟨0, Nat.zero_le _, by omega, rfl, A0'⟩
      case round =>
        obtain ⟨k, hk, hgk, rfl, HA5⟩ := hrel
        obtain ⟨F5, nm5, vw5, f5, h5, hF5, hu5⟩ := HA5.out
        have H5 := Aside0.mk h5
        have HF5 := Aside0.mk hF5
        have HU5 := Aside0.mk hu5
        clear hF5 hu5 h5
        have BW := Aside0.mk (B7.out.trans (HU5.out.below (B := w.heap.size) B7.out.size FN.out))
        by_cases hlt : k < rs.length
        · obtain ⟨ad5, e, hx⟩ := Kd.at_int (Kd.C_below HR1.out BW.out) (k : Int) (by omega) (by omega)
          cases e
          rw [Int.toNat_natCast] at hx
          obtain ⟨x, hxe⟩ : ∃ x, x = rd rs (k : Int) := ⟨_, rfl⟩
          rw [← hxe] at hx
          have XE := Aside0.mk (show rs.take (k + 1) = rs.take k ++ [x] by rw [hxe]; exact take_succ_rd rs k hlt)
          have XIN := Aside0.mk (HIN.out x (by rw [hxe]; exact rd_mem rs k hlt))
          have WL := Aside0.mk (show (st0 (rs.take k)).wait.length < 8796093022208 by
            have h0 : (⟨fun _ => false, []⟩ : St).Good gs.length := ⟨fun i hi => by simp at hi, Nat.zero_le _⟩
            have h1 := (St.Good.pushAll (rs.take k) h0 (fun j hj => HIN.out j (List.mem_of_mem_take hj))).few
            have h2 := cnt_le (St.pushAll ⟨fun _ => false, []⟩ (rs.take k)).mark gs.length
            have h3 := GL.out
            unfold st0
            omega)
          clear hxe
          have hlt' : (k : Int) < (rs.length : Int) := by omega
          have hrb : rs.length ≤ 1099511627776 := HRL.out
          go_wp2_with (go_at_call 54; refine (push_calls H5.out x XIN.out GL.out WL.out).mono ?_; rintro e w6 ⟨rfl, ha⟩; have HA6 := Aside0.mk ha; clear ha)
          go_roundg (rs.length - (k + 1))
          case measure => omega
          case rel =>
            refine ⟨k + 1, by omega, by omega, by go_num, ⟨?_⟩⟩
            have he : st0 (rs.take (k + 1)) = (st0 (rs.take k)).push x := by rw [XE.out]; exact pushAll_snoc ..
            rw [he]
            obtain ⟨F6, nm6, vw6, f6, h6, hF6, hu6⟩ := HA6.out
            refine ⟨F6, nm6, vw6, f6, h6, fun j hj => ?_, HU5.out.trans hu6 HF5.out⟩
            rcases hF6 j hj with h | h
            · exact HF5.out j h
            · exact .inr (Nat.le_trans HU5.out.size h)
        · obtain rfl : k = rs.length := by omega
          have hge : decide ((rs.length : Int) < (rs.length : Int)) = false := by simp
          rw [List.take_length] at H5
          go_wp2
          go_ret2
          refine ⟨BW.out, (fun h => by rw [E.out] at h; cases h), fun _ => ⟨g, F5, nm5, vw5, f5, Ag, cg, _, bm, rfl, H5.out, fun j hj => ?_⟩⟩
          rcases HF5.out j hj with h | h
          · exact FN.out j h
          · exact Nat.le_trans B7.out.size h
end Go.Proofs.YtcafgpfecfocnaaDoor.P

/- reap.Keep in the words of printed contracts. -/
namespace Go.Proofs.YtcafgpfecfocnaaDoor.P
open Go.RowKit Go.Maps Go.Proofs.YtcafgpfecfocnaaDoorW.PrintWords Go.Proofs.YtcafgpfecfocnaaDoorW.PrintLast Go.Proofs.YtcafgpfecfocnaaDoorW.PrintMore
set_option linter.unusedVariables false
set_option linter.unusedSimpArgs false

theorem okTo_at {gs : List S50} {m n : Nat} (h : okTo gs m = true) (hn : n < m) : badGate gs n = false ∧ nameAt gs n ∉ namesTo gs n := by
  induction m with
  | zero => omega
  | succ m ih =>
    simp only [okTo, Bool.and_eq_true, Bool.not_eq_true', decide_eq_false_iff_not] at h
    by_cases e : n = m
    · subst e; exact h.2
    · exact ih h.1 (by omega)
theorem valid_len {gs : List S50} (h : validS gs = true) : gs.length ≤ 100000 := by
  simp [validS] at h
  exact h.1
theorem valid_low {gs : List S50} (h : validS gs = true) : kidsLow gs := by
  intro n hn k hk
  simp only [validS, Bool.and_eq_true] at h
  have hb := (okTo_at h.2 hn).1
  simp only [badGate, Bool.or_eq_false_iff, Bool.not_eq_false'] at hb
  exact formed_kids hb.1 (Int.le_refl _) k hk
theorem mem_rd {gs : List S50} {g : S50} (h : g ∈ gs) : ∃ n : Nat, n < gs.length ∧ rd_T50 gs (n : Int) = g := by
  obtain ⟨n, hn, rfl⟩ := List.getElem_of_mem h
  refine ⟨n, hn, ?_⟩
  unfold rd_T50
  rw [Int.toNat_natCast, List.getD_eq_getElem?_getD, List.getElem?_eq_getElem hn]
  rfl
theorem low_in {gs : List S50} (h : kidsLow gs) : kidsIn gs := by
  intro g hg k hk
  obtain ⟨n, hn, rfl⟩ := mem_rd hg
  have := h n hn k hk
  unfold inRange
  omega
theorem steps_done {gs : List S50} (hk : kidsIn gs) : ∀ (n : Nat) {s : St}, s.Good gs.length → s.mu gs.length ≤ n → (s.steps gs n).wait = []
  | 0, s, hs, hm => by
    unfold St.mu at hm
    exact List.eq_nil_of_length_eq_zero (by simp only [St.steps]; omega)
  | n + 1, s, hs, hm => by
    simp only [St.steps]
    by_cases hw : s.wait = []
    · rw [if_pos hw]; exact hw
    · rw [if_neg hw]
      exact steps_done hk n (hs.step hk) (by have := St.mu_step hs hk hw; omega)
theorem st0_good {gs : List S50} {rs : List Int} (h : ∀ r ∈ rs, inRange gs.length r) : (st0 rs).Good gs.length :=
  St.Good.pushAll rs ⟨fun i hi => by simp at hi, Nat.zero_le _⟩ h
theorem st0_mu {gs : List S50} {rs : List Int} (h : ∀ r ∈ rs, inRange gs.length r) : (st0 rs).mu gs.length ≤ gs.length := by
  unfold st0
  rw [St.mu_pushAll rs h]
  unfold St.mu
  simp
theorem start_in {gs : List S50} {rs : List Int} (h : startS gs rs = true) : validS gs = true ∧ ∀ r ∈ rs, inRange gs.length r := by
  simp only [startS, Bool.and_eq_true, Bool.not_eq_true'] at h
  refine ⟨h.1, fun r hr => ?_⟩
  have h1 := List.any_eq_false.1 h.2 r hr
  unfold outside at h1
  simp at h1
  unfold inRange
  omega
/-- The marks when a sweep is done. -/
def marksS (gs : List S50) (rs : List Int) : Int → Bool := ((st0 rs).steps gs gs.length).mark
def keepS (gs : List S50) (rs : List Int) : List S50 × List Int × Int := if startS gs rs = true then (resG gs (marksS gs rs) gs.length, rs.map (plOf (marksS gs rs)), 0) else ([], [], 1)

set_option maxRecDepth 100000 in
set_option maxHeartbeats 8000000 in
theorem keep_calls (A0 : Option Addr) (c0 : Nat) (gs : List S50) (A1 : Option Addr) (c1 : Nat) (rs : List Int) (w : World) (hT : Tabs w) (hwf : ∀ g ∈ gs, wfG g) (hr0 : Kd.C k50 w A0 gs.length gs) (hc0 : gs.length ≤ c0) (hr1 : Kd.C (Kd.int .i64) w A1 rs.length rs) (hc1 : rs.length ≤ c1) (hrl : rs.length ≤ 1099511627776) :
    Calls Tryd.prog 16 #[.agg #[.slice A0 gs.length c0], .slice A1 rs.length c1] w fun e w' => ∃ v0 v1, e = .returned (.tuple #[.agg #[v0], v1, .int .i64 (keepS gs rs).2.2]) ∧ Kd.S k50 50 w' w.heap.size (fun k => some k ≠ v1.ownBlock) v0 (keepS gs rs).1 ∧ (Kd.int .i64).R 3 w' w.heap.size (fun _ => True) v1 (keepS gs rs).2.1 ∧ Below w.heap.size w w' := by
  have H18 := Aside0.mk (fun (W : World) (hb : Below w.heap.size w W) => start_calls A0 c0 gs A1 c1 rs W (hT.below hb) hwf (Kd.C_below hr0 hb) hc0 (Kd.C_below hr1 hb) hc1 hrl)
  have HWF := Aside0.mk hwf
  have HRL := Aside0.mk hrl
  clear hT hwf hr0 hc0 hr1 hc1 hrl
  cases hs : startS gs rs with
  | false =>
    have E := Aside0.mk (show keepS gs rs = ([], [], 1) by simp [keepS, hs])
    rw [hs] at H18
    clear hs
    go_enter Tryd.func16, Tryd.ntmps16
    go_wp2_with (first
      | ((with_reducible refine gate_dst (N := 2) rfl ?_); refine box_event ?hg (N := 2) ?hd (cs := #[.slice A0 gs.length c0]) (t := 24) ?hr ?_; (case hd => rfl); (case hg => rfl); (case hr => first | (go_simp; done) | (go_simp; rfl)); intro gb hg w1 hbox hb; have HB := Aside0.mk hb; have BX := Aside0.mk hbox; have q0 : w1.cell? ⟨gb, 0, none⟩ = some (.slice A0 gs.length c0) := (blk_cell hbox 0).trans rfl; clear hg hbox hb)
      | ((with_reducible refine gate_dst (N := 4) rfl ?_); refine box_event ?hg2 (N := 4) ?hd2 (cs := #[.slice none 0 0]) (t := 24) ?hr2 ?_; (case hd2 => rfl); (case hg2 => rfl); (case hr2 => first | (go_simp; done) | (go_simp; rfl)); intro gr hg w2 hbox hb; have HB2 := Aside0.mk (HB.out.trans (hb.mono HB.out.size)); have BX2 := Aside0.mk hbox; have q02 := (hb.cell (World.block_lt_of_cell? _ _ q0)).trans q0; have GR := Aside0.mk (show w.heap.size ≤ gr by rw [hg]; exact HB.out.size); clear hg hbox hb)
      | (go_at_call 18; refine (H18.out _ HB2.out).mono ?_; rintro e w3 ⟨hb, hf, _⟩; obtain rfl := hf rfl; have HB3 := Aside0.mk (HB2.out.trans (hb.mono HB2.out.size)); have BX3 := Aside0.mk ((hb.block gr (blk_lt BX2.out)).trans BX2.out); have z3 := blk_frozen BX3.out 0; have q3 : w3.cell? ⟨gr, 0, none⟩ = some (.slice none 0 0) := (blk_cell BX3.out 0).trans rfl; clear hb hf))
    refine bodyPost_ret (results_ctt rfl _ _ gr 24 #[.slice none 0 0] (0, 0) _ rfl (blk_put (cs := #[.slice none 0 0]) BX3.out 0 _ rfl) Tryd.underlying24 rfl (by kernel_rfl)) rfl ?_
    rw [E.out]
    exact ⟨_, _, rfl, Kd.S_nil _ _ _ _ _, Kd.R_nil _ _ _ _ _, HB3.out.setCell GR.out _⟩
  | true =>
    obtain ⟨hv, hin⟩ := start_in hs
    have E := Aside0.mk (show keepS gs rs = (resG gs (marksS gs rs) gs.length, rs.map (plOf (marksS gs rs)), 0) by simp [keepS, hs])
    have HV := Aside0.mk hv
    have HIN := Aside0.mk hin
    have LOW := Aside0.mk (valid_low hv)
    have DONE := Aside0.mk (steps_done (low_in (valid_low hv)) gs.length (st0_good hin) (st0_mu hin))
    have KS := Aside0.mk (show ∀ g ∈ gs, g.f2.length ≤ 1099511627776 from fun g hg => (HWF.out g hg).2.2.2)
    have hlen := valid_len hv
    have LEN := Aside0.mk hlen
    rw [hs] at H18
    clear hs hv hin
    go_enter Tryd.func16, Tryd.ntmps16
    go_wp2_with (first
      | ((with_reducible refine gate_dst (N := 2) rfl ?_); refine box_event ?hg (N := 2) ?hd (cs := #[.slice A0 gs.length c0]) (t := 24) ?hr ?_; (case hd => rfl); (case hg => rfl); (case hr => first | (go_simp; done) | (go_simp; rfl)); intro gb hg w1 hbox hb; have HB := Aside0.mk hb; have BX := Aside0.mk hbox; have q0 : w1.cell? ⟨gb, 0, none⟩ = some (.slice A0 gs.length c0) := (blk_cell hbox 0).trans rfl; clear hg hbox hb)
      | ((with_reducible refine gate_dst (N := 4) rfl ?_); refine box_event ?hg2 (N := 4) ?hd2 (cs := #[.slice none 0 0]) (t := 24) ?hr2 ?_; (case hd2 => rfl); (case hg2 => rfl); (case hr2 => first | (go_simp; done) | (go_simp; rfl)); intro gr hg w2 hbox hb; have HB2 := Aside0.mk (HB.out.trans (hb.mono HB.out.size)); have BX2 := Aside0.mk hbox; have q02 := (hb.cell (World.block_lt_of_cell? _ _ q0)).trans q0; have GR := Aside0.mk (show w.heap.size ≤ gr by rw [hg]; exact HB.out.size); clear hg hbox hb)
      | (go_at_call 18; refine (H18.out _ HB2.out).mono ?_; rintro e w3 ⟨hb, _, ht⟩; obtain ⟨g, F, nm, vw, f, Ag, cg, vr, bm, rfl, hsw, hF⟩ := ht rfl; have HB3 := Aside0.mk (HB2.out.trans (hb.mono HB2.out.size)); have BX3 := Aside0.mk ((hb.block gr (blk_lt BX2.out)).trans BX2.out); have SZ := Aside0.mk hb.size; have SW3 := Aside0.mk hsw; have HF := Aside0.mk hF; have q03 := (hb.cell (World.block_lt_of_cell? _ _ q02)).trans q02; have QL := Aside0.mk (World.block_lt_of_cell? _ _ q02); have RL := Aside0.mk (blk_lt BX2.out); clear hb ht hsw hF)
      | (go_at_call 24; refine (step_calls SW3.out (st0_good HIN.out) (low_in LOW.out) KS.out LEN.out (gs.length : Int) (by have := LEN.out; unfold in64; omega)).mono ?_; rintro e w4 ⟨rfl, ha⟩; have HA := Aside0.mk ha; clear ha)
      | (go_at_call 26; obtain ⟨F4, nm4, vw4, f4, h4, hF4, hu4⟩ := HA.out; rw [Int.toNat_natCast, DONE.out] at h4; have HU4 := Aside0.mk hu4; have HB4 := Aside0.mk (HB3.out.trans (hu4.below (B := w.heap.size) HB3.out.size (fun k hk => by have := HF.out k hk; have := HB2.out.size; omega))); have BX4 := Aside0.mk ((hu4.blk BX3.out (fun hf => by have := HF.out gr hf; have := RL.out; omega))); refine (result_calls h4 LOW.out KS.out LEN.out HIN.out HRL.out).mono ?_; rintro e w5 ⟨v0, v1, rfl, hS, hR, hb⟩; have HS5 := Aside0.mk hS; have HR5 := Aside0.mk hR; have HB5 := Aside0.mk hb; have BX5 := Aside0.mk ((hb.block gr (blk_lt BX4.out)).trans BX4.out); obtain ⟨A9, c9, rfl⟩ := Kd.S_slice hS; have z5 := blk_frozen BX5.out 0; have q5 : w5.cell? ⟨gr, 0, none⟩ = some (.slice none 0 0) := (blk_cell BX5.out 0).trans rfl; clear h4 hS hR hb hu4 hF4))
    refine bodyPost_ret (results_ctt rfl _ _ gr 24 #[.slice A9 (resG gs (marksS gs rs) gs.length).length c9] (0, 0) _ rfl (blk_put (cs := #[.slice none 0 0]) BX5.out 0 _ rfl) Tryd.underlying24 rfl (by kernel_rfl)) rfl ?_
    rw [E.out]
    exact ⟨_, _, rfl, Kd.S_lower (Kd.S_set HS5.out BX5.out (by decide) 0 _) HB4.out.size, Kd.R_lower (Kd.R_set HR5.out BX5.out (by decide) 0 _) HB4.out.size, (HB4.out.trans (HB5.out.mono HB4.out.size)).setCell GR.out _⟩

end Go.Proofs.YtcafgpfecfocnaaDoor.P

/- The example circuit of the law's head. -/
namespace Go.Proofs.YtcafgpfecfocnaaDoor.P
open Go.RowKit Go.Maps Go.Proofs.YtcafgpfecfocnaaDoorW.PrintWords Go.Proofs.YtcafgpfecfocnaaDoorW.PrintLast Go.Proofs.YtcafgpfecfocnaaDoorW.PrintMore
set_option linter.unusedVariables false
set_option linter.unusedSimpArgs false

def sampleG : List S50 := [⟨2, 0, []⟩, ⟨2, 1, []⟩, ⟨3, 0, [0, 1]⟩, ⟨4, 0, [0, 2]⟩, ⟨2, 2, []⟩]
theorem C_ints {w : World} {b t : Nat} (xs : List Int) (h : w.heap[b]? = some (.cells (xs.map (Value.int .i64)).toArray t (0, 0))) (hl : xs.length ≤ 9223372036854775807) : Kd.C (Kd.int .i64) w (some ⟨b, 0, none⟩) xs.length xs := by
  refine ⟨rfl, hl, fun _ => ⟨_, rfl, fun j p hj => ⟨[.int .i64 p], rfl, rfl, fun i u hu => ?_⟩⟩⟩
  cases i with
  | succ i => simp at hu
  | zero =>
    simp only [List.getElem?_cons_zero, Option.some.injEq] at hu
    subst hu
    have e : (⟨b, 0, none⟩ : Addr).add (j * (Kd.int .i64).sz + 0) = ⟨b, j, none⟩ := by
      show (⟨b, 0, none⟩ : Addr).add (j * 1 + 0) = ⟨b, j, none⟩
      rw [Nat.mul_one, Nat.add_zero]
      unfold Addr.add
      by_cases h0 : j = 0
      · subst h0; rfl
      · rw [if_neg h0]; simp
    rw [e, blk_cell h j]
    simp [hj]
set_option maxRecDepth 100000 in
set_option maxHeartbeats 4000000 in
theorem sample_calls (w : World) : Calls Tryd.prog 48 #[] w fun e w' => ∃ bg, e = .returned (.agg #[.slice (some ⟨bg, 0, none⟩) 5 5]) ∧ Kd.C k50 w' (some ⟨bg, 0, none⟩) 5 sampleG ∧ Below w.heap.size w w' := by
  go_enter Tryd.func48, Tryd.ntmps48
  go_wp2_with (first
    | ((with_reducible refine gate_dst (N := 0) rfl ?_); refine box_event ?hg (N := 0) ?hd (cs := #[.slice none 0 0]) (t := 24) ?hr ?_; (case hd => rfl); (case hg => rfl); (case hr => first | (go_simp; done) | (go_simp; rfl)); intro gb hg w1 hbox hb; have HB := Aside0.mk hb; have BX := Aside0.mk hbox; have GG := Aside0.mk hg; have z3 : (((w1.alloc (Obj.cells #[.int .i64 0, .int .i64 1] 3)).alloc (Obj.cells #[.int .i64 0, .int .i64 2] 3)).alloc (Obj.cells #[.int .i64 2, .int .i64 0, .slice none 0 0, .int .i64 2, .int .i64 1, .slice none 0 0, .int .i64 3, .int .i64 0, .slice (some ⟨w1.heap.size, 0, none⟩) 2 2, .int .i64 4, .int .i64 0, .slice (some ⟨w1.heap.size + 1, 0, none⟩) 2 2, .int .i64 2, .int .i64 2, .slice none 0 0] 50)).frozen? ⟨gb, 0, none⟩ = false := blk_frozen (blk_alloc (blk_alloc (blk_alloc hbox _) _) _) 0; have q3 : (((w1.alloc (Obj.cells #[.int .i64 0, .int .i64 1] 3)).alloc (Obj.cells #[.int .i64 0, .int .i64 2] 3)).alloc (Obj.cells #[.int .i64 2, .int .i64 0, .slice none 0 0, .int .i64 2, .int .i64 1, .slice none 0 0, .int .i64 3, .int .i64 0, .slice (some ⟨w1.heap.size, 0, none⟩) 2 2, .int .i64 4, .int .i64 0, .slice (some ⟨w1.heap.size + 1, 0, none⟩) 2 2, .int .i64 2, .int .i64 2, .slice none 0 0] 50)).cell? ⟨gb, 0, none⟩ = some (.slice none 0 0) := (blk_cell (blk_alloc (blk_alloc (blk_alloc hbox _) _) _) 0).trans rfl; clear hg hbox hb))
  have n1 := heap_alloc_new w1 (Obj.cells #[.int .i64 0, .int .i64 1] 3)
  have n2 := heap_alloc_new (w1.alloc (Obj.cells #[.int .i64 0, .int .i64 1] 3)) (Obj.cells #[.int .i64 0, .int .i64 2] 3)
  have n3 := heap_alloc_new ((w1.alloc (Obj.cells #[.int .i64 0, .int .i64 1] 3)).alloc (Obj.cells #[.int .i64 0, .int .i64 2] 3)) (Obj.cells #[.int .i64 2, .int .i64 0, .slice none 0 0, .int .i64 2, .int .i64 1, .slice none 0 0, .int .i64 3, .int .i64 0, .slice (some ⟨w1.heap.size, 0, none⟩) 2 2, .int .i64 4, .int .i64 0, .slice (some ⟨w1.heap.size + 1, 0, none⟩) 2 2, .int .i64 2, .int .i64 2, .slice none 0 0] 50)
  have B3 : Below w.heap.size w (((w1.alloc (Obj.cells #[.int .i64 0, .int .i64 1] 3)).alloc (Obj.cells #[.int .i64 0, .int .i64 2] 3)).alloc (Obj.cells #[.int .i64 2, .int .i64 0, .slice none 0 0, .int .i64 2, .int .i64 1, .slice none 0 0, .int .i64 3, .int .i64 0, .slice (some ⟨w1.heap.size, 0, none⟩) 2 2, .int .i64 4, .int .i64 0, .slice (some ⟨w1.heap.size + 1, 0, none⟩) 2 2, .int .i64 2, .int .i64 2, .slice none 0 0] 50)) := below_alloc (below_alloc (below_alloc HB.out _) _) _
  have B3' := B3.setCell (p := ⟨gb, 0, none⟩) (by rw [GG.out]; exact Nat.le_refl _) (.slice (some ⟨w1.heap.size + 1 + 1, 0, none⟩) 5 5)
  have BX3 := blk_alloc (blk_alloc (blk_alloc BX.out (Obj.cells #[.int .i64 0, .int .i64 1] 3)) (Obj.cells #[.int .i64 0, .int .i64 2] 3)) (Obj.cells #[.int .i64 2, .int .i64 0, .slice none 0 0, .int .i64 2, .int .i64 1, .slice none 0 0, .int .i64 3, .int .i64 0, .slice (some ⟨w1.heap.size, 0, none⟩) 2 2, .int .i64 4, .int .i64 0, .slice (some ⟨w1.heap.size + 1, 0, none⟩) 2 2, .int .i64 2, .int .i64 2, .slice none 0 0] 50)
  have hgb : gb < w1.heap.size := blk_lt BX.out
  have m1 := blk_alloc (blk_alloc n1 (Obj.cells #[.int .i64 0, .int .i64 2] 3)) (Obj.cells #[.int .i64 2, .int .i64 0, .slice none 0 0, .int .i64 2, .int .i64 1, .slice none 0 0, .int .i64 3, .int .i64 0, .slice (some ⟨w1.heap.size, 0, none⟩) 2 2, .int .i64 4, .int .i64 0, .slice (some ⟨w1.heap.size + 1, 0, none⟩) 2 2, .int .i64 2, .int .i64 2, .slice none 0 0] 50)
  have m2 := blk_alloc n2 (Obj.cells #[.int .i64 2, .int .i64 0, .slice none 0 0, .int .i64 2, .int .i64 1, .slice none 0 0, .int .i64 3, .int .i64 0, .slice (some ⟨w1.heap.size, 0, none⟩) 2 2, .int .i64 4, .int .i64 0, .slice (some ⟨w1.heap.size + 1, 0, none⟩) 2 2, .int .i64 2, .int .i64 2, .slice none 0 0] 50)
  rw [World.size_alloc] at m2
  rw [World.size_alloc, World.size_alloc] at n3
  have s1 : ((((w1.alloc (Obj.cells #[.int .i64 0, .int .i64 1] 3)).alloc (Obj.cells #[.int .i64 0, .int .i64 2] 3)).alloc (Obj.cells #[.int .i64 2, .int .i64 0, .slice none 0 0, .int .i64 2, .int .i64 1, .slice none 0 0, .int .i64 3, .int .i64 0, .slice (some ⟨w1.heap.size, 0, none⟩) 2 2, .int .i64 4, .int .i64 0, .slice (some ⟨w1.heap.size + 1, 0, none⟩) 2 2, .int .i64 2, .int .i64 2, .slice none 0 0] 50)).setCell ⟨gb, 0, none⟩ (.slice (some ⟨w1.heap.size + 1 + 1, 0, none⟩) 5 5)).heap[w1.heap.size]? = some (.cells #[.int .i64 0, .int .i64 1] 3 (0, 0)) := (Below.heap_setCell _ ⟨gb, 0, none⟩ _ _ (by show w1.heap.size ≠ gb; omega)).trans m1
  have s2 : ((((w1.alloc (Obj.cells #[.int .i64 0, .int .i64 1] 3)).alloc (Obj.cells #[.int .i64 0, .int .i64 2] 3)).alloc (Obj.cells #[.int .i64 2, .int .i64 0, .slice none 0 0, .int .i64 2, .int .i64 1, .slice none 0 0, .int .i64 3, .int .i64 0, .slice (some ⟨w1.heap.size, 0, none⟩) 2 2, .int .i64 4, .int .i64 0, .slice (some ⟨w1.heap.size + 1, 0, none⟩) 2 2, .int .i64 2, .int .i64 2, .slice none 0 0] 50)).setCell ⟨gb, 0, none⟩ (.slice (some ⟨w1.heap.size + 1 + 1, 0, none⟩) 5 5)).heap[w1.heap.size + 1]? = some (.cells #[.int .i64 0, .int .i64 2] 3 (0, 0)) := (Below.heap_setCell _ ⟨gb, 0, none⟩ _ _ (by show w1.heap.size + 1 ≠ gb; omega)).trans m2
  have s3 : ((((w1.alloc (Obj.cells #[.int .i64 0, .int .i64 1] 3)).alloc (Obj.cells #[.int .i64 0, .int .i64 2] 3)).alloc (Obj.cells #[.int .i64 2, .int .i64 0, .slice none 0 0, .int .i64 2, .int .i64 1, .slice none 0 0, .int .i64 3, .int .i64 0, .slice (some ⟨w1.heap.size, 0, none⟩) 2 2, .int .i64 4, .int .i64 0, .slice (some ⟨w1.heap.size + 1, 0, none⟩) 2 2, .int .i64 2, .int .i64 2, .slice none 0 0] 50)).setCell ⟨gb, 0, none⟩ (.slice (some ⟨w1.heap.size + 1 + 1, 0, none⟩) 5 5)).heap[w1.heap.size + 1 + 1]? = some (.cells #[.int .i64 2, .int .i64 0, .slice none 0 0, .int .i64 2, .int .i64 1, .slice none 0 0, .int .i64 3, .int .i64 0, .slice (some ⟨w1.heap.size, 0, none⟩) 2 2, .int .i64 4, .int .i64 0, .slice (some ⟨w1.heap.size + 1, 0, none⟩) 2 2, .int .i64 2, .int .i64 2, .slice none 0 0] 50 (0, 0)) := (Below.heap_setCell _ ⟨gb, 0, none⟩ _ _ (by show w1.heap.size + 1 + 1 ≠ gb; omega)).trans n3
  refine bodyPost_ret (results_cell_row rfl _ _ gb 24 #[.slice (some ⟨w1.heap.size + 1 + 1, 0, none⟩) 5 5] (0, 0) _ rfl (blk_put (cs := #[.slice none 0 0]) BX3 0 _ rfl) Tryd.underlying24 rfl (by kernel_rfl)) rfl ?_
  generalize ((((w1.alloc (Obj.cells #[.int .i64 0, .int .i64 1] 3)).alloc (Obj.cells #[.int .i64 0, .int .i64 2] 3)).alloc (Obj.cells #[.int .i64 2, .int .i64 0, .slice none 0 0, .int .i64 2, .int .i64 1, .slice none 0 0, .int .i64 3, .int .i64 0, .slice (some ⟨w1.heap.size, 0, none⟩) 2 2, .int .i64 4, .int .i64 0, .slice (some ⟨w1.heap.size + 1, 0, none⟩) 2 2, .int .i64 2, .int .i64 2, .slice none 0 0] 50)).setCell ⟨gb, 0, none⟩ (.slice (some ⟨w1.heap.size + 1 + 1, 0, none⟩) 5 5)) = W9 at *
  refine ⟨_, rfl, ?_, B3'⟩
  have k1 := C_ints [0, 1] s1 (by decide)
  have k2 := C_ints [0, 2] s2 (by decide)
  have row : ∀ j p, sampleG[j]? = some p → ∃ c : List Value, c.length = 3 ∧ k50.K W9 p c ∧ ∀ i u, c[i]? = some u → W9.cell? ⟨w1.heap.size + 1 + 1, j * 3 + i, none⟩ = some u := by
    intro j p hj
    have nil : Kd.C (Kd.int .i64) W9 none ([] : List Int).length [] := Kd.C_nil _ _
    match j with
    | 0 => cases hj; exact ⟨_, rfl, k50_mk W9 ⟨2, 0, []⟩ (A2 := none) (c2 := 0) (Nat.zero_le _) nil, fun i u hu => by rw [blk_cell s3]; match i with | 0 => exact hu | 1 => exact hu | 2 => exact hu | i + 3 => simp at hu⟩
    | 1 => cases hj; exact ⟨_, rfl, k50_mk W9 ⟨2, 1, []⟩ (A2 := none) (c2 := 0) (Nat.zero_le _) nil, fun i u hu => by rw [blk_cell s3]; match i with | 0 => exact hu | 1 => exact hu | 2 => exact hu | i + 3 => simp at hu⟩
    | 2 => cases hj; exact ⟨_, rfl, k50_mk W9 ⟨3, 0, [0, 1]⟩ (c2 := 2) (Nat.le_refl _) k1, fun i u hu => by rw [blk_cell s3]; match i with | 0 => exact hu | 1 => exact hu | 2 => exact hu | i + 3 => simp at hu⟩
    | 3 => cases hj; exact ⟨_, rfl, k50_mk W9 ⟨4, 0, [0, 2]⟩ (c2 := 2) (Nat.le_refl _) k2, fun i u hu => by rw [blk_cell s3]; match i with | 0 => exact hu | 1 => exact hu | 2 => exact hu | i + 3 => simp at hu⟩
    | 4 => cases hj; exact ⟨_, rfl, k50_mk W9 ⟨2, 2, []⟩ (A2 := none) (c2 := 0) (Nat.zero_le _) nil, fun i u hu => by rw [blk_cell s3]; match i with | 0 => exact hu | 1 => exact hu | 2 => exact hu | i + 3 => simp at hu⟩
    | j + 5 => simp [sampleG] at hj
  refine ⟨rfl, by decide, fun _ => ⟨_, rfl, fun j p hj => ?_⟩⟩
  obtain ⟨c, h1, h2, h3⟩ := row j p hj
  refine ⟨c, h1, h2, fun i u hu => ?_⟩
  have e : (⟨w1.heap.size + 1 + 1, 0, none⟩ : Addr).add (j * k50.sz + i) = ⟨w1.heap.size + 1 + 1, j * 3 + i, none⟩ := by
    show (⟨w1.heap.size + 1 + 1, 0, none⟩ : Addr).add (j * 3 + i) = _
    unfold Addr.add
    by_cases h0 : j * 3 + i = 0
    · rw [if_pos h0, h0]
    · rw [if_neg h0]; simp
  rw [e]
  exact h3 i u hu
end Go.Proofs.YtcafgpfecfocnaaDoor.P
