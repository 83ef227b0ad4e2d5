/-
  ReapFew: for every circuit and every list of roots the law answers true, and both read afterwards as they did.
  Its conditions are the row's own: the three listed tables of the library hold at the start what the program's text lays (tied by the card).
-/
import Derived.Test.YtcafgpfecfocnaaDoorRa1
import Derived.ChangeSlices
import Derived.Deep.Strs
import Derived.Test.YtcafgpfecfocnaaDoorRaPx2
import Derived.Test.YtcafgpfecfocnaaDoorRaPx5
import Derived.Test.YtcafgpfecfocnaaDoorRaPx6
import Derived.Test.YtcafgpfecfocnaaDoorRaPx7
import Derived.Test.YtcafgpfecfocnaaDoorCards
import Derived.Test.YtcafgpfecfocnaaDoorTie
import Derived.WalkKit
import Derived.ProofKit
import Derived.OpenShut
import Derived.Carry
import Derived.Deep.DeepHandedRow
import Derived.Lib.LaidTab
import Derived.Stop.LaidErr
/- What comes in as an argument, laid open: lists of numbers, circuits. -/
namespace Go.Proofs.YtcafgpfecfocnaaDoor.P
open Go.RowKit Go.ChangeShapes Go.WideShapes Go.Deep Go.Proofs.YtcafgpfecfocnaaDoorW.PrintWords
set_option linter.unusedVariables false
set_option linter.unusedSimpArgs false

section
variable {H : Type} {enc : TypeId × Value → H} {w : World} {base : Nat} {spare : Nat → Bool} {held : Bool}
theorem wf_in64 {n : Int} (h : (Lit.int .i64 n).wf = true) : in64 n := by
  simp only [Lit.wf, Bool.and_eq_true, decide_eq_true_eq] at h
  have h1 : IntKind.min .i64 = -9223372036854775808 := rfl
  have h2 : IntKind.max .i64 = 9223372036854775807 := rfl
  rw [h1, h2] at h
  exact h
theorem maxLen_le {c : Nat} (h : c ≤ maxLen) : c ≤ 9223372036854775807 := h
theorem open_list64 {t e : TypeId} {fuel : Nat} {a : Option Addr} {len cap : Nat} {x : DataW H × List MemPlace} (ht : Tryd.prog.underlying t = some (.slice e)) (he : Tryd.prog.underlying e = some (.int .i64)) (hc : Tryd.prog.cellsOf e = 1)
    (h : DataW.trod enc Tryd.prog w base spare held fuel t [.slice a len cap] = some x) : ∃ l : List Int, l.length = len ∧ len ≤ cap ∧ Kd.C (Kd.int .i64) w a len l ∧ ∀ k ∈ l, in64 k := by
  rcases open_ints ht he hc h with ⟨hcs, _⟩ | ⟨ad, len', cap', zs, hcs, _, hl, hm, hz, _, hcell, hw⟩
  · simp at hcs
    obtain ⟨rfl, rfl, rfl⟩ := hcs
    exact ⟨[], rfl, Nat.le_refl _, ⟨rfl, by decide, fun h => absurd h (by decide)⟩, fun k hk => by simp at hk⟩
  · simp at hcs
    obtain ⟨rfl, rfl, rfl⟩ := hcs
    have hlz : len ≤ zs.length := by rw [hz]; split <;> omega
    have hlen : (zs.take len).length = len := by rw [List.length_take]; omega
    have hcap := maxLen_le hm
    refine ⟨zs.take len, hlen, hl, ⟨hlen, by omega, fun _ => ⟨ad, rfl, fun j p hj => ?_⟩⟩, fun k hk => wf_in64 (hw k (List.mem_of_mem_take hk))⟩
    obtain ⟨hjl, hjp⟩ := List.getElem?_eq_some_iff.1 hj
    rw [List.getElem_take] at hjp
    refine ⟨[.int .i64 p], rfl, rfl, fun i u hu => ?_⟩
    match i with
    | 0 =>
      have h2 := hcell j (by omega)
      rw [List.getD_eq_getElem?_getD, List.getElem?_eq_getElem (by omega), Option.getD_some, hjp] at h2
      show w.cell? (ad.add (j * 1 + 0)) = some u
      rw [Nat.mul_one, Nat.add_zero, h2]
      simpa using hu
    | i + 1 => simp at hu
/-- A gate's numbers. -/
def goodG (g : S50) : Prop := in64 g.f0 ∧ in64 g.f1 ∧ ∀ k ∈ g.f2, in64 k
theorem three {cs : List Value} (h : cs.length = 3) : ∃ c0 c1 c2, cs = [c0, c1, c2] := by
  match cs, h with
  | [c0, c1, c2], _ => exact ⟨_, _, _, rfl⟩
theorem open_gate {fuel : Nat} {cs : List Value} {x : DataW H × List MemPlace} (h : DataW.trod enc Tryd.prog w base spare held fuel 50 cs = some x) : ∃ g : S50, k50.K w g cs ∧ goodG g := by
  obtain ⟨y0, y1, y2, n, _, hl, h0, h1, h2⟩ := trod_struct3 Tryd.underlying50 h
  have c3 : Tryd.prog.cellsOf 50 = 3 := by kernel_rfl
  have d3 : Tryd.prog.cellsOf 3 = 1 := by kernel_rfl
  have d25 : Tryd.prog.cellsOf 25 = 1 := by kernel_rfl
  have hl3 : cs.length = 3 := hl.trans c3
  clear hl
  obtain ⟨c0, c1, c2, rfl⟩ := three hl3
  rw [d3] at h0 h1
  rw [d25] at h2
  have e0 : DataW.trod enc Tryd.prog w base spare held n 3 [c0] = some y0 := h0
  have e1 : DataW.trod enc Tryd.prog w base spare held n 3 [c1] = some y1 := h1
  have e2 : DataW.trod enc Tryd.prog w base spare held n 25 [c2] = some y2 := h2
  obtain ⟨n0, hn0, _, hw0⟩ := DataW.trod_int Tryd.underlying3 e0
  obtain ⟨n1, hn1, _, hw1⟩ := DataW.trod_int Tryd.underlying3 e1
  obtain rfl : c0 = .int .i64 n0 := by simpa using hn0
  obtain rfl : c1 = .int .i64 n1 := by simpa using hn1
  have hs : ∃ a len cap, c2 = .slice a len cap := by
    rcases open_ints Tryd.underlying25 Tryd.underlying3 (by kernel_rfl) e2 with ⟨hcs, _⟩ | ⟨ad, len', cap', zs, hcs, _⟩
    · exact ⟨_, _, _, by simpa using hcs⟩
    · exact ⟨_, _, _, by simpa using hcs⟩
  obtain ⟨a, len, cap, rfl⟩ := hs
  obtain ⟨l, hll, hlc, hC, hin⟩ := open_list64 Tryd.underlying25 Tryd.underlying3 (by kernel_rfl) e2
  subst hll
  exact ⟨⟨n0, n1, l⟩, k50_mk w ⟨n0, n1, l⟩ (A2 := a) (c2 := cap) hlc hC, wf_in64 hw0, wf_in64 hw1, hin⟩
theorem open_gates {t : TypeId} {fuel : Nat} {a : Option Addr} {len cap : Nat} {x : DataW H × List MemPlace} (ht : Tryd.prog.underlying t = some (.slice 50))
    (h : DataW.trod enc Tryd.prog w base spare held fuel t [.slice a len cap] = some x) : ∃ gs : List S50, gs.length = len ∧ len ≤ cap ∧ Kd.C k50 w a len gs ∧ ∀ g ∈ gs, goodG g := by
  rcases open_slice ht h with ⟨hcs, _⟩ | ⟨ad, len', cap', m, n, D, Pl, hcs, _, hl, hm, hmm, _, hx⟩
  · simp at hcs
    obtain ⟨rfl, rfl, rfl⟩ := hcs
    exact ⟨[], rfl, Nat.le_refl _, ⟨rfl, by decide, fun h => absurd h (by decide)⟩, fun k hk => by simp at hk⟩
  · simp at hcs
    obtain ⟨rfl, rfl, rfl⟩ := hcs
    have hlm : len ≤ m := by rw [hmm]; split <;> omega
    have hcap := maxLen_le hm
    have c3 : Tryd.prog.cellsOf 50 = 3 := by kernel_rfl
    letI : Inhabited S50 := ⟨z50⟩
    obtain ⟨G, hG⟩ := choose_lt (α := S50) (n := len) (p := fun j g => (∃ c : List Value, c.length = 3 ∧ k50.K w g c ∧ ∀ i u, c[i]? = some u → w.cell? (ad.add (j * 3 + i)) = some u) ∧ goodG g) (fun j hj => by
      obtain ⟨cs', h1, h2⟩ := hx j (by omega)
      rw [c3] at h1
      obtain ⟨_, hlen, hcell⟩ := World.cells?_some h1
      obtain ⟨g, hg1, hg2⟩ := open_gate h2
      refine ⟨g, ⟨cs', hlen, hg1, fun i u hu => ?_⟩, hg2⟩
      have hi : i < 3 := by
        have := (List.getElem?_eq_some_iff.1 hu).1
        omega
      have h3 := hcell i hi
      rw [Go.Deep.add_add] at h3
      rw [h3, hu])
    have hlen : ((List.range len).map G).length = len := by simp
    refine ⟨(List.range len).map G, hlen, hl, ⟨hlen, by omega, fun _ => ⟨ad, rfl, fun j p hj => ?_⟩⟩, fun g hg => ?_⟩
    · obtain ⟨hjl, hjp⟩ := List.getElem?_eq_some_iff.1 hj
      simp at hjp
      subst hjp
      exact (hG j (by omega)).1
    · obtain ⟨j, hj, rfl⟩ := List.mem_map.1 hg
      exact (hG j (by simpa using hj)).2
end
end Go.Proofs.YtcafgpfecfocnaaDoor.P

/- What the reference's small functions answer (the printed functions, plainly): Equal, Few. -/
namespace Go.Proofs.YtcafgpfecfocnaaDoor.P
open Go.RowKit Go.Proofs.YtcafgpfecfocnaaDoorW.PrintWords
set_option linter.unusedVariables false
set_option linter.unusedSimpArgs false

theorem wrap_nat {i : Nat} (h : i ≤ 4611686018427387904) : wrap64 ((i : Int) + 1) = ((i + 1 : Nat) : Int) := by unfold wrap64; omega
theorem rd_get (l : List Int) (j : Nat) (h : j < l.length) : rd l (j : Int) = l[j] := by
  unfold rd
  rw [Int.toNat_natCast, List.getD_eq_getElem?_getD, List.getElem?_eq_getElem h]
  rfl
theorem rd_ext {l m : List Int} (hl : l.length = m.length) (h : ∀ j : Nat, j < l.length → rd l (j : Int) = rd m (j : Int)) : l = m := by
  refine List.ext_getElem hl fun j h1 h2 => ?_
  have := h j h1
  rwa [rd_get l j h1, rd_get m j h2] at this
theorem equal_l0 (a b c e : Int) (l m : List Int) (hl : l.length = m.length) (hb : l.length ≤ 1099511627776) : ∀ (d i k : Nat), l.length = i + d → d < k → (∀ j : Nat, j < i → rd l (j : Int) = rd m (j : Int)) → cleanseref16_Equal.l0 k (i : Int) a b l c e m = some (decide (l = m))
  | 0, i, k, hi, hk, hall => by
    obtain ⟨k, rfl⟩ : ∃ k', k = k' + 1 := ⟨k - 1, by omega⟩
    unfold cleanseref16_Equal.l0
    rw [if_neg (by omega), decide_eq_true (rd_ext hl (fun j hj => hall j (by omega)))]
  | d + 1, i, k, hi, hk, hall => by
    obtain ⟨k, rfl⟩ : ∃ k', k = k' + 1 := ⟨k - 1, by omega⟩
    unfold cleanseref16_Equal.l0
    rw [if_pos (by omega), if_pos (by omega), if_pos (by omega)]
    by_cases he : rd l (i : Int) = rd m (i : Int)
    · rw [if_pos he, wrap_nat (by omega)]
      exact equal_l0 a b c e l m hl hb d (i + 1) k (by omega) (by omega) (fun j hj => by
        by_cases e : j = i
        · subst e; exact he
        · exact hall j (by omega))
    · rw [if_neg he, decide_eq_false (fun h => he (by rw [h]))]
/-- Equal: two gates are equal. -/
theorem equal_f (k : Nat) (a b c e : Int) (l m : List Int) (hb : l.length ≤ 1099511627776) (hk : l.length + 1 < k) : cleanseref16_Equal.f k a b l c e m = some (decide (a = c ∧ b = e ∧ l = m)) := by
  obtain ⟨k, rfl⟩ : ∃ k', k = k' + 1 := ⟨k - 1, by omega⟩
  have j0 : ∀ x : Bool, x = true → cleanseref16_Equal.j0 (k + 1) x a b l c e m = some false := fun x hx => by
    simp only [cleanseref16_Equal.j0]
    rw [if_pos hx]
  unfold cleanseref16_Equal.f
  by_cases h1 : a = c
  · by_cases h2 : b = e
    · rw [if_pos h1, if_pos h2]
      by_cases h3 : l.length = m.length
      · simp only [cleanseref16_Equal.j0]
        rw [if_neg (by simp [h3]), show (0 : Int) = ((0 : Nat) : Int) from rfl, equal_l0 a b c e l m h3 hb l.length 0 k (by omega) (by omega) (fun j hj => by omega)]
        simp [h1, h2]
      · rw [j0 _ (by simp; omega), decide_eq_false (fun h => h3 (by rw [h.2.2]))]
    · rw [if_pos h1, if_neg h2, j0 true rfl, decide_eq_false (fun h => h2 h.2.1)]
  · rw [if_neg h1, j0 true rfl, decide_eq_false (fun h => h1 h.1)]
/-- Few: how many gates, and each with at most 20 kids. -/
def fewS (gs : List S50) (n : Int) : Bool := !decide ((gs.length : Int) > n) && decide (∀ i : Nat, i < gs.length → (rd_T50 gs (i : Int)).f2.length ≤ 20)
theorem few_l0 (gs : List S50) (hb : gs.length ≤ 1099511627776) : ∀ (d i k : Nat), gs.length = i + d → d < k → (∀ j : Nat, j < i → (rd_T50 gs (j : Int)).f2.length ≤ 20) → cleanseref16_Few.l0 k (i : Int) gs = some (decide (∀ i : Nat, i < gs.length → (rd_T50 gs (i : Int)).f2.length ≤ 20))
  | 0, i, k, hi, hk, hall => by
    obtain ⟨k, rfl⟩ : ∃ k', k = k' + 1 := ⟨k - 1, by omega⟩
    unfold cleanseref16_Few.l0
    rw [if_neg (by omega), decide_eq_true (fun j hj => hall j (by omega))]
  | d + 1, i, k, hi, hk, hall => by
    obtain ⟨k, rfl⟩ : ∃ k', k = k' + 1 := ⟨k - 1, by omega⟩
    unfold cleanseref16_Few.l0
    rw [if_pos (by omega), if_pos (by omega)]
    by_cases he : ((rd_T50 gs (i : Int)).f2.length : Int) > 20
    · rw [if_pos he, decide_eq_false (fun h => by have := h i (by omega); omega)]
    · rw [if_neg he, wrap_nat (by omega)]
      exact few_l0 gs hb d (i + 1) k (by omega) (by omega) (fun j hj => by
        by_cases e : j = i
        · subst e; omega
        · exact hall j (by omega))
theorem few_f (k : Nat) (gs : List S50) (n : Int) (hn : n ≤ 1099511627776) (hk : gs.length < k) : cleanseref16_Few.f k gs n = some (fewS gs n) := by
  unfold cleanseref16_Few.f fewS
  by_cases h : (gs.length : Int) > n
  · rw [if_pos h]; simp [h]
  · rw [if_neg h, show (0 : Int) = ((0 : Nat) : Int) from rfl, few_l0 gs (by omega) gs.length 0 k (by omega) hk (fun j hj => by omega)]
    simp [h]
end Go.Proofs.YtcafgpfecfocnaaDoor.P

/- What a sweep marks: what the roots reach. -/
namespace Go.Proofs.YtcafgpfecfocnaaDoor.P
open Go.Proofs.YtcafgpfecfocnaaDoorW.PrintWords
set_option linter.unusedVariables false
set_option linter.unusedSimpArgs false

/-- What the roots reach. -/
inductive Reach (gs : List S50) (rs : List Int) : Int → Prop
  | root (r : Int) : r ∈ rs → Reach gs rs r
  | kid (i k : Int) : Reach gs rs i → k ∈ (rd_T50 gs i).f2 → Reach gs rs k

theorem mkPut_true {mk : Int → Bool} {i j : Int} : mkPut mk i j = true ↔ j = i ∨ mk j = true := by
  unfold mkPut
  by_cases e : j = i <;> simp [e]
theorem waitPut_mem {mk : Int → Bool} {w : List Int} {i j : Int} : j ∈ waitPut mk w i ↔ j ∈ w ∨ (j = i ∧ mk i = false) := by
  unfold waitPut
  by_cases h : mk i = true
  · simp [h]
  · simp [h]
theorem pushAll_mark (l : List Int) : ∀ (s : St) (j : Int), (s.pushAll l).mark j = true ↔ s.mark j = true ∨ j ∈ l := by
  induction l with
  | nil => intro s j; simp [St.pushAll]
  | cons i l ih =>
    intro s j
    show ((s.push i).pushAll l).mark j = true ↔ _
    rw [ih]
    show (mkPut s.mark i j = true ∨ j ∈ l) ↔ _
    rw [mkPut_true]
    simp only [List.mem_cons]
    constructor
    · rintro ((h | h) | h)
      · exact .inr (.inl h)
      · exact .inl h
      · exact .inr (.inr h)
    · rintro (h | h | h)
      · exact .inl (.inr h)
      · exact .inl (.inl h)
      · exact .inr h
/-- What waits behind pushes: what waited, and what was not marked. -/
theorem pushAll_wait (l : List Int) : ∀ (s : St) (j : Int), j ∈ (s.pushAll l).wait ↔ j ∈ s.wait ∨ (j ∈ l ∧ s.mark j = false) := by
  induction l with
  | nil => intro s j; simp [St.pushAll]
  | cons i l ih =>
    intro s j
    show j ∈ ((s.push i).pushAll l).wait ↔ _
    rw [ih]
    show (j ∈ waitPut s.mark s.wait i ∨ (j ∈ l ∧ mkPut s.mark i j = false)) ↔ _
    rw [waitPut_mem]
    have hm : mkPut s.mark i j = false ↔ j ≠ i ∧ s.mark j = false := by
      unfold mkPut
      by_cases e : j = i <;> simp [e]
    rw [hm]
    simp only [List.mem_cons]
    constructor
    · rintro ((h | ⟨h, h2⟩) | ⟨h, h2, h3⟩)
      · exact .inl h
      · subst h; exact .inr ⟨.inl rfl, h2⟩
      · exact .inr ⟨.inr h, h3⟩
    · rintro (h | ⟨h | h, h2⟩)
      · exact .inl (.inl h)
      · subst h; exact .inl (.inr ⟨rfl, h2⟩)
      · by_cases e : j = i
        · subst e; exact .inl (.inr ⟨rfl, h2⟩)
        · exact .inr ⟨h, e, h2⟩

/-- The invariant of a sweep. -/
structure Inv (gs : List S50) (rs : List Int) (s : St) : Prop where
  roots : ∀ r ∈ rs, s.mark r = true
  wait : ∀ i ∈ s.wait, s.mark i = true
  closed : ∀ i, s.mark i = true → i ∈ s.wait ∨ ∀ k ∈ (rd_T50 gs i).f2, s.mark k = true
  reach : ∀ i, s.mark i = true → Reach gs rs i
theorem Inv.start (gs : List S50) (rs : List Int) : Inv gs rs (St.pushAll ⟨fun _ => false, []⟩ rs) where
  roots := fun r hr => (pushAll_mark rs _ r).2 (.inr hr)
  wait := fun i hi => by
    rcases (pushAll_wait rs _ i).1 hi with h | ⟨h, _⟩
    · simp at h
    · exact (pushAll_mark rs _ i).2 (.inr h)
  closed := fun i hi => by
    rcases (pushAll_mark rs _ i).1 hi with h | h
    · simp at h
    · exact .inl ((pushAll_wait rs _ i).2 (.inr ⟨h, rfl⟩))
  reach := fun i hi => by
    rcases (pushAll_mark rs _ i).1 hi with h | h
    · simp at h
    · exact .root i h
theorem Inv.step {gs : List S50} {rs : List Int} {s : St} (h : Inv gs rs s) : Inv gs rs (s.step gs) := by
  unfold St.step
  cases hw : s.wait with
  | nil => exact h
  | cons i r =>
    have hi : s.mark i = true := h.wait i (by rw [hw]; simp)
    show Inv gs rs (St.pushAll ⟨s.mark, r⟩ (rd_T50 gs i).f2)
    exact
    { roots := fun x hx => (pushAll_mark _ _ x).2 (.inl (h.roots x hx))
      wait := fun x hx => by
        rcases (pushAll_wait _ _ x).1 hx with h1 | ⟨h1, _⟩
        · exact (pushAll_mark _ _ x).2 (.inl (h.wait x (by rw [hw]; simp [show x ∈ r from h1])))
        · exact (pushAll_mark _ _ x).2 (.inr h1)
      closed := fun x hx => by
        rcases (pushAll_mark _ _ x).1 hx with h1 | h1
        · rcases h.closed x h1 with h2 | h2
          · rw [hw] at h2
            rcases List.mem_cons.1 h2 with h3 | h3
            · subst h3
              exact .inr fun k hk => (pushAll_mark _ _ k).2 (.inr hk)
            · exact .inl ((pushAll_wait _ _ x).2 (.inl h3))
          · exact .inr fun k hk => (pushAll_mark _ _ k).2 (.inl (h2 k hk))
        · by_cases hm : s.mark x = true
          · rcases h.closed x hm with h2 | h2
            · rw [hw] at h2
              rcases List.mem_cons.1 h2 with h3 | h3
              · subst h3
                exact .inr fun k hk => (pushAll_mark _ _ k).2 (.inr hk)
              · exact .inl ((pushAll_wait _ _ x).2 (.inl h3))
            · exact .inr fun k hk => (pushAll_mark _ _ k).2 (.inl (h2 k hk))
          · exact .inl ((pushAll_wait _ _ x).2 (.inr ⟨h1, by simpa using hm⟩))
      reach := fun x hx => by
        rcases (pushAll_mark _ _ x).1 hx with h1 | h1
        · exact h.reach x h1
        · exact .kid i x (h.reach i hi) h1 }
theorem Inv.steps {gs : List S50} {rs : List Int} : ∀ (n : Nat) {s : St}, Inv gs rs s → Inv gs rs (s.steps gs n)
  | 0, s, h => h
  | n + 1, s, h => by
    simp only [St.steps]
    split
    · exact h
    · exact Inv.steps n h.step
/-- When nothing waits, what is marked is what the roots reach. -/
theorem Inv.done {gs : List S50} {rs : List Int} {s : St} (h : Inv gs rs s) (hw : s.wait = []) (i : Int) : s.mark i = true ↔ Reach gs rs i := by
  refine ⟨h.reach i, fun hr => ?_⟩
  induction hr with
  | root r hr => exact h.roots r hr
  | kid i k _ hk ih =>
    rcases h.closed i ih with h2 | h2
    · rw [hw] at h2; simp at h2
    · exact h2 k hk
end Go.Proofs.YtcafgpfecfocnaaDoor.P

/- Names of gates are names of one gate. -/
namespace Go.Proofs.YtcafgpfecfocnaaDoor.P
set_option linter.unusedVariables false
set_option linter.unusedSimpArgs false

def decVal (l : List UInt8) : Nat := l.foldl (fun a c => a * 10 + (c.toNat - 48)) 0
theorem decVal_snoc (l : List UInt8) (c : UInt8) : decVal (l ++ [c]) = decVal l * 10 + (c.toNat - 48) := by
  unfold decVal
  rw [List.foldl_append]
  rfl
theorem digit_nat {d : Nat} (h : d < 10) : (UInt8.ofNat (48 + d)).toNat = 48 + d := by
  simp only [UInt8.toNat_ofNat']
  omega
theorem decVal_dec (u : Nat) : decVal (Lib.decDigits u) = u := by
  induction u using Nat.strongRecOn with
  | ind u ih =>
    rw [Lib.decDigits]
    by_cases h : u < 10
    · rw [dif_pos h]
      show 0 * 10 + ((UInt8.ofNat (48 + u)).toNat - 48) = u
      rw [digit_nat h]; omega
    · rw [dif_neg h, decVal_snoc, ih (u / 10) (by omega), digit_nat (by omega)]
      omega
theorem dec_chars (u : Nat) : ∀ c ∈ Lib.decDigits u, 48 ≤ c.toNat ∧ c.toNat ≤ 57 := by
  induction u using Nat.strongRecOn with
  | ind u ih =>
    rw [Lib.decDigits]
    by_cases h : u < 10
    · rw [dif_pos h]
      intro c hc
      rw [List.mem_singleton.1 hc, digit_nat h]; omega
    · rw [dif_neg h]
      intro c hc
      rcases List.mem_append.1 hc with hc | hc
      · exact ih (u / 10) (by omega) c hc
      · rw [List.mem_singleton.1 hc, digit_nat (by omega)]; omega
theorem itoa_chars (n : Int) : ∀ c ∈ Lib.itoa n, c.toNat = 45 ∨ (48 ≤ c.toNat ∧ c.toNat ≤ 57) := by
  unfold Lib.itoa
  split
  · intro c hc
    rcases List.mem_cons.1 hc with rfl | hc
    · exact .inl rfl
    · exact .inr (dec_chars _ c hc)
  · intro c hc
    exact .inr (dec_chars _ c hc)
theorem itoa_inj {a b : Int} (h : Lib.itoa a = Lib.itoa b) : a = b := by
  have key : ∀ (u v : Nat), Lib.decDigits u = Lib.decDigits v → u = v := fun u v h => by rw [← decVal_dec u, h, decVal_dec]
  have head : ∀ (u v : Nat), Lib.decDigits u = 45 :: Lib.decDigits v → False := fun u v h => by
    have := (dec_chars u 45 (by rw [h]; simp)).1
    simp at this
  unfold Lib.itoa at h
  by_cases ha : a < 0 <;> by_cases hb : b < 0
  · rw [if_pos ha, if_pos hb] at h
    have := key _ _ (List.cons.inj h).2
    omega
  · rw [if_pos ha, if_neg hb] at h
    exact (head _ _ h.symm).elim
  · rw [if_neg ha, if_pos hb] at h
    exact (head _ _ h).elim
  · rw [if_neg ha, if_neg hb] at h
    have := key _ _ h
    omega
/-- A list that is cut at its first s. -/
theorem cut_at {α : Type} {s : α} : ∀ {a b x y : List α}, s ∉ a → s ∉ b → a ++ s :: x = b ++ s :: y → a = b ∧ x = y
  | [], [], x, y, _, _, h => ⟨rfl, (List.cons.inj h).2⟩
  | [], c :: b, x, y, _, hb, h => by
    have := (List.cons.inj h).1
    exact absurd (by rw [this]; simp) hb
  | c :: a, [], x, y, ha, _, h => by
    have := (List.cons.inj h).1
    exact absurd (by rw [← this]; simp) ha
  | c :: a, d :: b, x, y, ha, hb, h => by
    obtain ⟨h1, h2⟩ := List.cons.inj h
    obtain ⟨h3, h4⟩ := cut_at (fun hm => ha (by simp [hm])) (fun hm => hb (by simp [hm])) h2
    exact ⟨by rw [h1, h3], h4⟩
theorem not_in_itoa (n : Int) {c : UInt8} (h : c = 44 ∨ c = 46) : c ∉ Lib.itoa n := by
  intro hm
  have := itoa_chars n c hm
  rcases h with rfl | rfl
  · simp at this
  · simp at this
/-- The end of a number: nothing, or a comma. -/
theorem num_tail {a b : Int} : ∀ {k l : List Int}, Lib.itoa a ++ nameK k = Lib.itoa b ++ nameK l → a = b ∧ nameK k = nameK l
  | [], [], h => by
    simp [nameK] at h
    exact ⟨itoa_inj h, rfl⟩
  | [], d :: l, h => by
    have e : nameK (d :: l) = 44 :: (Lib.itoa d ++ nameK l) := by simp [nameK]
    rw [e] at h
    have : (44 : UInt8) ∈ Lib.itoa a := by
      have e2 : nameK [] = [] := rfl
      rw [e2, List.append_nil] at h
      rw [h]; simp
    exact absurd this (not_in_itoa a (.inl rfl))
  | c :: k, [], h => by
    have e : nameK (c :: k) = 44 :: (Lib.itoa c ++ nameK k) := by simp [nameK]
    rw [e] at h
    have : (44 : UInt8) ∈ Lib.itoa b := by
      have e2 : nameK [] = [] := rfl
      rw [e2, List.append_nil] at h
      rw [← h]; simp
    exact absurd this (not_in_itoa b (.inl rfl))
  | c :: k, d :: l, h => by
    have e : ∀ (c : Int) k, nameK (c :: k) = 44 :: (Lib.itoa c ++ nameK k) := fun c k => by simp [nameK]
    rw [e, e] at h
    obtain ⟨h1, h2⟩ := cut_at (not_in_itoa a (.inl rfl)) (not_in_itoa b (.inl rfl)) h
    exact ⟨itoa_inj h1, by rw [e, e, h2]⟩
theorem nameK_inj : ∀ {k l : List Int}, nameK k = nameK l → k = l
  | [], [], _ => rfl
  | [], d :: l, h => by simp [nameK] at h
  | c :: k, [], h => by simp [nameK] at h
  | c :: k, d :: l, h => by
    have e : ∀ (c : Int) k, nameK (c :: k) = 44 :: (Lib.itoa c ++ nameK k) := fun c k => by simp [nameK]
    rw [e, e] at h
    obtain ⟨h1, h2⟩ := num_tail (List.cons.inj h).2
    rw [h1, nameK_inj h2]
theorem nameS_inj {a b x y : Int} {k l : List Int} (h : nameS a x k = nameS b y l) : a = b ∧ x = y ∧ k = l := by
  unfold nameS at h
  simp only [List.append_assoc, List.cons_append, List.nil_append] at h
  obtain ⟨h1, h2⟩ := cut_at (not_in_itoa a (.inr rfl)) (not_in_itoa b (.inr rfl)) h
  obtain ⟨h3, h4⟩ := num_tail h2
  exact ⟨itoa_inj h1, h3, nameK_inj h4⟩
end Go.Proofs.YtcafgpfecfocnaaDoor.P

/- The gates that are kept: where they stand. -/
namespace Go.Proofs.YtcafgpfecfocnaaDoor.P
open Go.Proofs.YtcafgpfecfocnaaDoorW.PrintWords
set_option linter.unusedVariables false
set_option linter.unusedSimpArgs false

theorem cnt_mono {mk : Int → Bool} {m n : Nat} (h : m ≤ n) : cnt mk m ≤ cnt mk n := by
  induction n with
  | zero => obtain rfl : m = 0 := by omega
            exact Nat.le_refl _
  | succ n ih =>
    by_cases e : m = n + 1
    · subst e; exact Nat.le_refl _
    · have := ih (by omega)
      simp only [cnt]
      omega
theorem cnt_lt {mk : Int → Bool} {m n : Nat} (h : m < n) (hm : mk (m : Int) = true) : cnt mk m < cnt mk n := by
  have h1 : cnt mk (m + 1) = cnt mk m + 1 := by simp only [cnt]; rw [if_pos hm]
  have h2 := cnt_mono (mk := mk) (show m + 1 ≤ n by omega)
  omega
/-- Each place is a marked gate's. -/
theorem cnt_onto {mk : Int → Bool} {n j : Nat} (h : j < cnt mk n) : ∃ i, i < n ∧ mk (i : Int) = true ∧ cnt mk i = j := by
  induction n with
  | zero => simp [cnt] at h
  | succ n ih =>
    simp only [cnt] at h
    by_cases hm : mk (n : Int) = true
    · rw [if_pos hm] at h
      by_cases e : j = cnt mk n
      · exact ⟨n, by omega, hm, e.symm⟩
      · obtain ⟨i, h1, h2⟩ := ih (by omega)
        exact ⟨i, by omega, h2⟩
    · rw [if_neg hm] at h
      obtain ⟨i, h1, h2⟩ := ih h
      exact ⟨i, by omega, h2⟩
theorem resG_at {gs : List S50} {mk : Int → Bool} {n i : Nat} (hi : i < n) (hm : mk (i : Int) = true) : (resG gs mk n)[cnt mk i]? = some (movedG gs mk i) := by
  induction n with
  | zero => omega
  | succ n ih =>
    simp only [resG]
    by_cases e : i = n
    · subst e
      rw [if_pos hm, List.getElem?_append_right (by rw [resG_length]; exact Nat.le_refl _), resG_length]
      simp
    · have h1 := ih (by omega)
      rw [List.getElem?_append_left (by rw [resG_length]; exact cnt_lt (by omega) hm)]
      exact h1
theorem resG_rd {gs : List S50} {mk : Int → Bool} {n i : Nat} (hi : i < n) (hm : mk (i : Int) = true) : rd_T50 (resG gs mk n) (cnt mk i : Int) = movedG gs mk i := by
  unfold rd_T50
  rw [Int.toNat_natCast, List.getD_eq_getElem?_getD, resG_at hi hm]
  rfl
end Go.Proofs.YtcafgpfecfocnaaDoor.P

/- The kept circuit is valid. -/
namespace Go.Proofs.YtcafgpfecfocnaaDoor.P
open Go.Proofs.YtcafgpfecfocnaaDoorW.PrintWords
set_option linter.unusedVariables false
set_option linter.unusedSimpArgs false

/-- Marks that are closed under kids. -/
def Closed (gs : List S50) (mk : Int → Bool) : Prop := ∀ i : Nat, i < gs.length → mk (i : Int) = true → ∀ k ∈ (rd_T50 gs (i : Int)).f2, mk k = true
theorem plOf_lt {mk : Int → Bool} {a b : Int} (h0 : 0 ≤ a) (h : a < b) (ha : mk a = true) (hb : mk b = true) : plOf mk a < plOf mk b := by
  unfold plOf
  rw [if_pos ha, if_pos hb]
  have e : ((a.toNat : Nat) : Int) = a := Int.toNat_of_nonneg h0
  have := cnt_lt (mk := mk) (m := a.toNat) (n := b.toNat) (by omega) (by rw [e]; exact ha)
  omega
theorem plOf_inj {mk : Int → Bool} {a b : Int} (h0 : 0 ≤ a) (h1 : 0 ≤ b) (ha : mk a = true) (hb : mk b = true) (h : plOf mk a = plOf mk b) : a = b := by
  rcases Int.lt_trichotomy a b with h2 | h2 | h2
  · have := plOf_lt h0 h2 ha hb; omega
  · exact h2
  · have := plOf_lt h1 h2 hb ha; omega
theorem map_inj {mk : Int → Bool} : ∀ {k l : List Int}, (∀ x ∈ k, 0 ≤ x ∧ mk x = true) → (∀ x ∈ l, 0 ≤ x ∧ mk x = true) → k.map (plOf mk) = l.map (plOf mk) → k = l
  | [], [], _, _, _ => rfl
  | [], d :: l, _, _, h => by simp at h
  | c :: k, [], _, _, h => by simp at h
  | c :: k, d :: l, hk, hl, h => by
    simp only [List.map_cons, List.cons.injEq] at h
    have h1 := hk c (by simp)
    have h2 := hl d (by simp)
    rw [plOf_inj h1.1 h2.1 h1.2 h2.2 h.1, map_inj (fun x hx => hk x (by simp [hx])) (fun x hx => hl x (by simp [hx])) h.2]

theorem resG_kind {gs : List S50} {mk : Int → Bool} {k : Int} (h0 : 0 ≤ k) (h1 : k < gs.length) (hm : mk k = true) : rd_T50 (resG gs mk gs.length) (plOf mk k) = movedG gs mk k.toNat := by
  have e : ((k.toNat : Nat) : Int) = k := Int.toNat_of_nonneg h0
  unfold plOf
  rw [if_pos hm]
  exact resG_rd (by omega) (by rw [e]; exact hm)

theorem formed_moved {kind var : Int} {kids : List Int} {mk : Int → Bool} {i : Nat} (hf : formedS kind var kids i = true) (hk : ∀ k ∈ kids, mk k = true) (hi : mk (i : Int) = true) : formedS kind var (kids.map (plOf mk)) (cnt mk i : Int) = true := by
  have hin := formed_kids hf (Int.le_refl _)
  have ha : (kids.map (plOf mk)).any (outside (cnt mk i : Int)) = false := by
    rw [List.any_eq_false]
    intro x hx
    obtain ⟨k, hkm, rfl⟩ := List.mem_map.1 hx
    have h1 := hin k hkm
    have h2 := plOf_lt h1.1 h1.2 (hk k hkm) hi
    have h3 : 0 ≤ plOf mk k := by unfold plOf; split <;> omega
    have h4 : plOf mk (i : Int) = (cnt mk i : Int) := by unfold plOf; rw [if_pos hi, Int.toNat_natCast]
    unfold outside
    simp
    omega
  unfold formedS at hf ⊢
  rw [if_neg (by rw [ha]; decide), List.length_map]
  by_cases h : kids.any (outside i) = true
  · rw [if_pos h] at hf; cases hf
  · rw [if_neg h] at hf; exact hf
theorem rd_map (f : Int → Int) (l : List Int) (j : Nat) (h : j < l.length) : rd (l.map f) (j : Int) = f (rd l (j : Int)) := by
  unfold rd
  rw [Int.toNat_natCast, List.getD_eq_getElem?_getD, List.getD_eq_getElem?_getD, List.getElem?_map, List.getElem?_eq_getElem h]
  rfl
theorem sortedTo_map {mk : Int → Bool} {l : List Int} (hk : ∀ x ∈ l, 0 ≤ x ∧ mk x = true) : ∀ j : Nat, (j < l.length ∨ j = 0) → sortedTo l j = true → sortedTo (l.map (plOf mk)) j = true
  | 0, _, _ => rfl
  | j + 1, hj, h => by
    have hj1 : j + 1 < l.length := by omega
    simp only [sortedTo] at h ⊢
    rw [rd_map _ l (j + 1) hj1, rd_map _ l j (by omega)]
    by_cases hlt : rd l ((j + 1 : Nat) : Int) < rd l (j : Int)
    · rw [if_pos hlt] at h; cases h
    · rw [if_neg hlt] at h
      have m1 := hk _ (rd_mem l (j + 1) hj1)
      have m0 := hk _ (rd_mem l j (by omega))
      rw [if_neg ?_]
      · exact sortedTo_map hk j (.inl (by omega)) h
      · intro hc
        by_cases e : rd l (j : Int) = rd l ((j + 1 : Nat) : Int)
        · rw [e] at hc; omega
        · have := plOf_lt m0.1 (show rd l (j : Int) < rd l ((j + 1 : Nat) : Int) by omega) m0.2 m1.2
          omega
theorem badKids_moved {kind : Int} {kids : List Int} {gs : List S50} {mk : Int → Bool} (hk : ∀ x ∈ kids, (0 ≤ x ∧ x < gs.length) ∧ mk x = true) (h : badKids kind kids gs = false) : badKids kind (kids.map (plOf mk)) (resG gs mk gs.length) = false := by
  simp only [badKids, Bool.or_eq_false_iff, Bool.not_eq_false', decide_eq_false_iff_not, List.length_map] at h ⊢
  refine ⟨h.1, ?_, ?_⟩
  · have h1 := h.2.1
    unfold sortedS at h1 ⊢
    rw [List.length_map]
    refine sortedTo_map (fun x hx => ⟨(hk x hx).1.1, (hk x hx).2⟩) _ ?_ h1
    omega
  · rw [List.any_eq_false]
    intro y hy
    obtain ⟨x, hx, rfl⟩ := List.mem_map.1 hy
    have h1 := List.any_eq_false.1 h.2.2 x hx
    unfold dropsKid at h1 ⊢
    have hg := hk x hx
    rw [resG_kind hg.1.1 hg.1.2 hg.2]
    have e : ((x.toNat : Nat) : Int) = x := Int.toNat_of_nonneg hg.1.1
    show ¬ (!keptS kind (rd_T50 gs (x.toNat : Int)).f0) = true
    rw [e]
    exact h1
theorem badGate_moved {gs : List S50} {mk : Int → Bool} (hv : validS gs = true) (hc : Closed gs mk) {i : Nat} (hi : i < gs.length) (hm : mk (i : Int) = true) : badGate (resG gs mk gs.length) (cnt mk i) = false := by
  simp only [validS, Bool.and_eq_true] at hv
  have hb := (okTo_at hv.2 hi).1
  have hlow := valid_low (gs := gs) (by simp only [validS, Bool.and_eq_true]; exact hv) i hi
  simp only [badGate, Bool.or_eq_false_iff, Bool.not_eq_false', Bool.and_eq_false_imp] at hb ⊢
  unfold gateAt at hb ⊢
  rw [resG_rd hi hm]
  refine ⟨formed_moved hb.1 (hc i hi hm) hm, fun hin => badKids_moved (fun x hx => ⟨⟨(hlow x hx).1, by have := (hlow x hx).2; omega⟩, hc i hi hm x hx⟩) (hb.2 hin)⟩
theorem name_moved {gs : List S50} {mk : Int → Bool} (hv : validS gs = true) (hc : Closed gs mk) {i j : Nat} (hi : i < gs.length) (hj : j < gs.length) (hmi : mk (i : Int) = true) (hmj : mk (j : Int) = true) (h : nameAt (resG gs mk gs.length) (cnt mk i) = nameAt (resG gs mk gs.length) (cnt mk j)) : nameAt gs i = nameAt gs j := by
  have hlow := valid_low hv
  unfold nameAt gateAt at h ⊢
  rw [resG_rd hi hmi, resG_rd hj hmj] at h
  obtain ⟨h1, h2, h3⟩ := nameS_inj h
  have h4 := map_inj (mk := mk) (fun x hx => ⟨(hlow i hi x hx).1, hc i hi hmi x hx⟩) (fun x hx => ⟨(hlow j hj x hx).1, hc j hj hmj x hx⟩) h3
  have h1' : (rd_T50 gs (i : Int)).f0 = (rd_T50 gs (j : Int)).f0 := h1
  have h2' : (rd_T50 gs (i : Int)).f1 = (rd_T50 gs (j : Int)).f1 := h2
  rw [h1', h2', h4]
theorem okTo_of {gs : List S50} : ∀ m : Nat, (∀ n, n < m → badGate gs n = false ∧ nameAt gs n ∉ namesTo gs n) → okTo gs m = true
  | 0, _ => rfl
  | m + 1, h => by
    simp only [okTo, Bool.and_eq_true, Bool.not_eq_true', decide_eq_false_iff_not]
    exact ⟨okTo_of m (fun n hn => h n (by omega)), h m (by omega)⟩
/-- Behind reap.Keep the circuit is valid. -/
theorem resG_valid {gs : List S50} {mk : Int → Bool} (hv : validS gs = true) (hc : Closed gs mk) : validS (resG gs mk gs.length) = true := by
  have hlen := valid_len hv
  simp only [validS, Bool.and_eq_true, decide_eq_true_eq]
  refine ⟨by rw [resG_length]; have := cnt_le mk gs.length; omega, okTo_of _ fun n hn => ?_⟩
  rw [resG_length] at hn
  obtain ⟨i, hi, hm, rfl⟩ := cnt_onto hn
  refine ⟨badGate_moved hv hc hi hm, fun hmem => ?_⟩
  unfold namesTo at hmem
  obtain ⟨j, hj, he⟩ := List.mem_map.1 hmem
  have hj' := List.mem_range.1 hj
  obtain ⟨i', hi', hm', rfl⟩ := cnt_onto (mk := mk) (n := gs.length) (show j < cnt mk gs.length by omega)
  have hlt : i' < i := by
    rcases Nat.lt_or_ge i' i with h | h
    · exact h
    · have := cnt_mono (mk := mk) h; omega
  have hnm := name_moved hv hc hi' hi hm' hm he
  simp only [validS, Bool.and_eq_true] at hv
  refine (okTo_at hv.2 hi).2 ?_
  unfold namesTo
  exact List.mem_map.2 ⟨i', List.mem_range.2 hlt, hnm⟩
theorem marks_inv {gs : List S50} {rs : List Int} (h : startS gs rs = true) : Inv gs rs ((st0 rs).steps gs gs.length) := Inv.steps _ (Inv.start gs rs)
theorem marks_iff {gs : List S50} {rs : List Int} (h : startS gs rs = true) (i : Int) : marksS gs rs i = true ↔ Reach gs rs i := by
  obtain ⟨hv, hin⟩ := start_in h
  exact (marks_inv h).done (steps_done (low_in (valid_low hv)) gs.length (st0_good hin) (st0_mu hin)) i
theorem marks_closed {gs : List S50} {rs : List Int} (h : startS gs rs = true) : Closed gs (marksS gs rs) := fun i hi hm k hk =>
  (marks_iff h k).2 (.kid i k ((marks_iff h i).1 hm) hk)
/-- What the roots reach are gates. -/
theorem reach_in {gs : List S50} {rs : List Int} (h : startS gs rs = true) {i : Int} (hr : Reach gs rs i) : inRange gs.length i := by
  obtain ⟨hv, hin⟩ := start_in h
  induction hr with
  | root r hr => exact hin r hr
  | kid i k _ hk ih => exact low_in (valid_low hv) _ (rd_mem50 gs i ih) k hk
theorem plOf_cnt {mk : Int → Bool} {i : Int} (hm : mk i = true) : plOf mk i = (cnt mk i.toNat : Int) := by unfold plOf; rw [if_pos hm]
/-- The kept circuit's gates are reached by the new roots. -/
theorem reach_moved {gs : List S50} {rs : List Int} (h : startS gs rs = true) {i : Int} (hr : Reach gs rs i) : Reach (resG gs (marksS gs rs) gs.length) (rs.map (plOf (marksS gs rs))) (plOf (marksS gs rs) i) := by
  induction hr with
  | root r hr => exact .root _ (List.mem_map.2 ⟨r, hr, rfl⟩)
  | kid i k hi hk ih =>
    refine .kid _ _ ih ?_
    have hin := reach_in h hi
    have hm := (marks_iff h i).2 hi
    rw [resG_kind hin.1 hin.2 hm]
    have e : ((i.toNat : Nat) : Int) = i := Int.toNat_of_nonneg hin.1
    show plOf _ k ∈ (rd_T50 gs (i.toNat : Int)).f2.map _
    rw [e]
    exact List.mem_map.2 ⟨k, hk, rfl⟩
theorem start_again {gs : List S50} {rs : List Int} (h : startS gs rs = true) : startS (resG gs (marksS gs rs) gs.length) (rs.map (plOf (marksS gs rs))) = true := by
  obtain ⟨hv, hin⟩ := start_in h
  simp only [startS, Bool.and_eq_true, Bool.not_eq_true']
  refine ⟨resG_valid hv (marks_closed h), ?_⟩
  rw [List.any_eq_false]
  intro x hx
  obtain ⟨r, hr, rfl⟩ := List.mem_map.1 hx
  have hri := hin r hr
  have hm := (marks_iff h r).2 (.root r hr)
  have e : ((r.toNat : Nat) : Int) = r := Int.toNat_of_nonneg hri.1
  have h1 : cnt (marksS gs rs) r.toNat < cnt (marksS gs rs) gs.length := cnt_lt (by have := hri.2; omega) (by rw [e]; exact hm)
  rw [plOf_cnt hm, resG_length]
  unfold outside
  simp
  omega
/-- Every kept gate is marked when keeping again. -/
theorem marks_again {gs : List S50} {rs : List Int} (h : startS gs rs = true) (j : Nat) (hj : j < (resG gs (marksS gs rs) gs.length).length) : marksS (resG gs (marksS gs rs) gs.length) (rs.map (plOf (marksS gs rs))) (j : Int) = true := by
  rw [resG_length] at hj
  obtain ⟨i, hi, hm, rfl⟩ := cnt_onto hj
  rw [marks_iff (start_again h)]
  have h2 := reach_moved h ((marks_iff h i).1 hm)
  rw [plOf_cnt hm, Int.toNat_natCast] at h2
  exact h2
theorem cnt_all {mk : Int → Bool} : ∀ n : Nat, (∀ j : Nat, j < n → mk (j : Int) = true) → cnt mk n = n
  | 0, _ => rfl
  | n + 1, h => by
    simp only [cnt]
    rw [cnt_all n (fun j hj => h j (by omega)), if_pos (h n (by omega))]
theorem plOf_all {mk : Int → Bool} {n : Nat} (h : ∀ j : Nat, j < n → mk (j : Int) = true) {k : Int} (h0 : 0 ≤ k) (h1 : k < n) : plOf mk k = k := by
  have e : ((k.toNat : Nat) : Int) = k := Int.toNat_of_nonneg h0
  rw [plOf_cnt (by have := h k.toNat (by omega); rw [e] at this; exact this), cnt_all k.toNat (fun j hj => h j (by omega)), e]
theorem resG_all {gs : List S50} {mk : Int → Bool} (hk : kidsLow gs) (h : ∀ j : Nat, j < gs.length → mk (j : Int) = true) : ∀ n : Nat, n ≤ gs.length → resG gs mk n = gs.take n
  | 0, _ => by simp [resG]
  | n + 1, hn => by
    simp only [resG]
    rw [resG_all hk h n (by omega), if_pos (h n (by omega)), List.take_succ_eq_append_getElem (by omega)]
    congr 1
    have hm : movedG gs mk n = gs[n] := by
      have hg : rd_T50 gs (n : Int) = gs[n] := by
        unfold rd_T50
        rw [Int.toNat_natCast, List.getD_eq_getElem?_getD, List.getElem?_eq_getElem (by omega)]
        rfl
      unfold movedG
      have hid : (rd_T50 gs (n : Int)).f2.map (plOf mk) = (rd_T50 gs (n : Int)).f2 := by
        conv => rhs; rw [← List.map_id (rd_T50 gs (n : Int)).f2]
        refine List.map_congr_left fun k hkk => ?_
        have := hk n (by omega) k hkk
        exact plOf_all h this.1 (by omega)
      rw [hid, hg]
    rw [hm]
/-- Keeping again changes nothing. -/
theorem keep_again {gs : List S50} {rs : List Int} (h : startS gs rs = true) : keepS (resG gs (marksS gs rs) gs.length) (rs.map (plOf (marksS gs rs))) = (resG gs (marksS gs rs) gs.length, rs.map (plOf (marksS gs rs)), 0) := by
  have h2 := start_again h
  have hall := marks_again h
  obtain ⟨hv2, hin2⟩ := start_in h2
  unfold keepS
  rw [if_pos h2, resG_all (valid_low hv2) hall _ (Nat.le_refl _), List.take_length]
  congr 2
  conv => rhs; rw [← List.map_id (rs.map (plOf (marksS gs rs)))]
  refine List.map_congr_left fun x hx => ?_
  have := hin2 x hx
  exact plOf_all hall this.1 this.2
end Go.Proofs.YtcafgpfecfocnaaDoor.P

/- The reference's Valid answers true where circuit.Valid does (the printed functions, plainly). -/
namespace Go.Proofs.YtcafgpfecfocnaaDoor.P
open Go.RowKit Go.Proofs.YtcafgpfecfocnaaDoorW.PrintWords
set_option linter.unusedVariables false
set_option linter.unusedSimpArgs false

/-- From some fuel on the answer is r. -/
def Ev {α : Type} (f : Nat → Option α) (r : α) : Prop := ∃ K, ∀ k, K ≤ k → f k = some r
theorem Ev.succ {α : Type} {f : Nat → Option α} {r : α} (h : Ev (fun k => f (k + 1)) r) : Ev f r := by
  obtain ⟨K, hK⟩ := h
  refine ⟨K + 1, fun k hk => ?_⟩
  obtain ⟨k, rfl⟩ : ∃ k', k = k' + 1 := ⟨k - 1, by omega⟩
  exact hK k (by omega)
theorem formed_end {kind var n : Int} {kids : List Int} (h : formedS kind var kids n = true) : (if kind = 2 then (if (kids.length : Int) = 0 then (if var ≥ 0 then (some (decide (var < 4000))) else (some false)) else (some false)) else (if var = 0 then ((cleanseref16_inner.f kind).bind fun t119 => (if t119 = true then (some true) else (if (kids.length : Int) = 0 then (if kind = 0 then (some true) else (some (kind == 1))) else (some false)))) else (some false))) = some true := by
  unfold formedS at h
  by_cases ha : kids.any (outside n) = true
  · rw [if_pos ha] at h; cases h
  · rw [if_neg ha] at h
    by_cases h2 : kind = 2
    · rw [if_pos h2] at h ⊢
      simp only [Bool.and_eq_true, decide_eq_true_eq] at h
      rw [if_pos (by omega), if_pos h.2.1, decide_eq_true h.2.2]
    · rw [if_neg h2] at h ⊢
      by_cases h0 : kind = 0 ∨ kind = 1
      · rw [if_pos h0] at h
        simp only [Bool.and_eq_true, decide_eq_true_eq, beq_iff_eq] at h
        rw [if_pos h.2]
        unfold cleanseref16_inner.f
        rcases h0 with rfl | rfl <;> simp [h.1]
      · rw [if_neg h0] at h
        simp only [Bool.and_eq_true, beq_iff_eq, innerS, Bool.or_eq_true] at h
        rw [if_pos h.2]
        unfold cleanseref16_inner.f
        rcases h.1 with rfl | rfl <;> simp
theorem formed_l0 {kind var n : Int} {kids : List Int} (h : formedS kind var kids n = true) (hb : kids.length ≤ 1099511627776) : ∀ (d i k : Nat), kids.length = i + d → d < k → cleanseref16_formed.l0 k n (i : Int) kind var kids = some true
  | 0, i, k, hi, hk => by
    obtain ⟨k, rfl⟩ : ∃ k', k = k' + 1 := ⟨k - 1, by omega⟩
    unfold cleanseref16_formed.l0
    rw [if_neg (by omega)]
    exact formed_end h
  | d + 1, i, k, hi, hk => by
    obtain ⟨k, rfl⟩ : ∃ k', k = k' + 1 := ⟨k - 1, by omega⟩
    have hin := formed_kids h (Int.le_refl _) _ (rd_mem kids i (by omega))
    unfold cleanseref16_formed.l0
    rw [if_pos (by omega), if_pos (by omega), if_neg (by omega), if_neg (by omega), wrap_nat (by omega)]
    exact formed_l0 h hb d (i + 1) k (by omega) (by omega)
theorem formed_f {kind var n : Int} {kids : List Int} (h : formedS kind var kids n = true) (hb : kids.length ≤ 1099511627776) (k : Nat) (hk : kids.length < k) : cleanseref16_formed.f k kind var kids n = some true :=
  formed_l0 h hb kids.length 0 k (by omega) hk
theorem inner_f (kind : Int) : cleanseref16_inner.f kind = some (innerS kind) := by
  unfold cleanseref16_inner.f innerS
  by_cases h : kind = 3
  · subst h; rfl
  · rw [if_neg h, beq_eq_false_iff_ne.2 h]; rfl
theorem refv_l2 {gs : List S50} (hv : validS gs = true) (hw : ∀ g ∈ gs, g.f2.length ≤ 1099511627776) {i : Nat} (hi : i < gs.length) (hn : Ev (fun k => cleanseref16_Valid.l0 k ((i + 1 : Nat) : Int) gs) true) : ∀ (d j : Nat), i = j + d → Ev (fun k => cleanseref16_Valid.l2 k (i : Int) (j : Int) gs (rd_T50 gs (i : Int)).f0 (rd_T50 gs (i : Int)).f1 (rd_T50 gs (i : Int)).f2) true
  | 0, j, hj => by
    have hlen := valid_len hv
    obtain ⟨K, hK⟩ := hn
    refine Ev.succ ⟨K, fun k hk => ?_⟩
    show cleanseref16_Valid.l2 (k + 1) _ _ _ _ _ _ = _
    simp only [cleanseref16_Valid.l2]
    rw [if_neg (by omega), wrap_nat (by omega)]
    exact hK k hk
  | d + 1, j, hj => by
    have hlen := valid_len hv
    obtain ⟨K, hK⟩ := refv_l2 hv hw hi hn d (j + 1) (by omega)
    have hj1 : j < gs.length := by omega
    have hg := hw _ (rd_mem50 gs (j : Int) ⟨by omega, by omega⟩)
    refine Ev.succ ⟨K + (rd_T50 gs (j : Int)).f2.length + 2, fun k hk => ?_⟩
    show cleanseref16_Valid.l2 (k + 1) _ _ _ _ _ _ = _
    simp only [cleanseref16_Valid.l2]
    rw [if_pos (by omega), if_pos (by omega), if_pos (by omega), equal_f k _ _ _ _ _ _ hg (by omega), wrap_nat (by omega)]
    have hne : ¬ ((rd_T50 gs (j : Int)).f0 = (rd_T50 gs (i : Int)).f0 ∧ (rd_T50 gs (j : Int)).f1 = (rd_T50 gs (i : Int)).f1 ∧ (rd_T50 gs (j : Int)).f2 = (rd_T50 gs (i : Int)).f2) := by
      rintro ⟨h1, h2, h3⟩
      simp only [validS, Bool.and_eq_true] at hv
      refine (okTo_at hv.2 hi).2 ?_
      unfold namesTo
      refine List.mem_map.2 ⟨j, List.mem_range.2 (by omega), ?_⟩
      unfold nameAt gateAt
      rw [h1, h2, h3]
    rw [decide_eq_false hne]
    show (if false = true then some false else _) = _
    rw [if_neg (by decide)]
    exact hK k (by omega)
/-- Kids' order and kinds, gate by gate. -/
theorem sortedTo_le {l : List Int} : ∀ j : Nat, sortedTo l j = true → ∀ i : Nat, i < j → ¬ rd l ((i + 1 : Nat) : Int) < rd l (i : Int)
  | 0, _, i, hi => by omega
  | j + 1, h, i, hi => by
    simp only [sortedTo] at h
    by_cases hlt : rd l ((j + 1 : Nat) : Int) < rd l (j : Int)
    · rw [if_pos hlt] at h; cases h
    · rw [if_neg hlt] at h
      by_cases e : i = j
      · subst e; exact hlt
      · exact sortedTo_le j h i (by omega)
theorem wrap_pred {j : Nat} (h : 0 < j) (h2 : j ≤ 4611686018427387904) : wrap64 ((j : Int) - 1) = ((j - 1 : Nat) : Int) := by unfold wrap64; omega
theorem refv_j3 {gs : List S50} {i j : Nat} {b : Bool} {f0 f1 : Int} {l : List Int} (hb : b = false) (hj : j ≤ 1099511627776) {k : Nat} (h : cleanseref16_Valid.l1 k (i : Int) ((j + 1 : Nat) : Int) gs f0 f1 l = some true) : cleanseref16_Valid.j3 (k + 1) (i : Int) (j : Int) b gs f0 f1 l = some true := by
  subst hb
  simp only [cleanseref16_Valid.j3]
  rw [if_neg (by decide), wrap_nat (by omega)]
  exact h
theorem refv_l1 {gs : List S50} {i : Nat} {f0 f1 : Int} {l : List Int} (hlen : l.length ≤ 1099511627776) (hin : ∀ x ∈ l, 0 ≤ x ∧ x < gs.length) (hs : ∀ j : Nat, j + 1 < l.length → ¬ rd l ((j + 1 : Nat) : Int) < rd l (j : Int)) (hk0 : ∀ x ∈ l, (rd_T50 gs x).f0 ≠ 0) (hk1 : f0 = 4 → ∀ x ∈ l, (rd_T50 gs x).f0 ≠ 1)
    (hn : Ev (fun k => cleanseref16_Valid.l2 k (i : Int) 0 gs f0 f1 l) true) : ∀ (d j : Nat), l.length = j + d → Ev (fun k => cleanseref16_Valid.l1 k (i : Int) (j : Int) gs f0 f1 l) true
  | 0, j, hj => by
    obtain ⟨K, hK⟩ := hn
    refine Ev.succ ⟨K, fun k hk => ?_⟩
    show cleanseref16_Valid.l1 (k + 1) _ _ _ _ _ _ = _
    simp only [cleanseref16_Valid.l1]
    rw [if_neg (by omega)]
    exact hK k hk
  | d + 1, j, hj => by
    obtain ⟨K, hK⟩ := refv_l1 hlen hin hs hk0 hk1 hn d (j + 1) (by omega)
    have hmem := rd_mem l j (by omega)
    have h0 := hin _ hmem
    refine Ev.succ ⟨K + 1, fun k hk => ?_⟩
    obtain ⟨k, rfl⟩ : ∃ k', k = k' + 1 := ⟨k - 1, by omega⟩
    have hj3 : ∀ b : Bool, b = false → cleanseref16_Valid.j3 (k + 1) (i : Int) (j : Int) b gs f0 f1 l = some true := fun b hb => refv_j3 hb (by omega) (hK k (by omega))
    have ht : (if ((rd_T50 gs (rd l (j : Int))).f0) = 0 then (cleanseref16_Valid.j3 (k + 1) (i : Int) (j : Int) true gs f0 f1 l) else (if f0 = 4 then (cleanseref16_Valid.j3 (k + 1) (i : Int) (j : Int) (((rd_T50 gs (rd l (j : Int))).f0) == 1) gs f0 f1 l) else (cleanseref16_Valid.j3 (k + 1) (i : Int) (j : Int) false gs f0 f1 l))) = some true := by
      rw [if_neg (hk0 _ hmem)]
      by_cases h4 : f0 = 4
      · rw [if_pos h4]
        exact hj3 _ (beq_eq_false_iff_ne.2 (hk1 h4 _ hmem))
      · rw [if_neg h4]
        exact hj3 _ rfl
    show cleanseref16_Valid.l1 (k + 1 + 1) _ _ _ _ _ _ = _
    simp only [cleanseref16_Valid.l1]
    rw [if_pos (by omega), if_pos (by omega), if_pos h0.1, if_pos h0.2]
    by_cases hz : j = 0
    · rw [if_neg (by omega)]
      exact ht
    · have hs' := hs (j - 1) (by omega)
      rw [show j - 1 + 1 = j by omega] at hs'
      rw [if_pos (by omega), wrap_pred (by omega) (by omega), if_pos (by omega), if_pos (by omega), if_neg hs']
      exact ht
/-- What a good gate's kids are. -/
theorem good_kids {gs : List S50} {i : Nat} (h : badGate gs i = false) (hi : i < gs.length) : (∀ x ∈ (rd_T50 gs (i : Int)).f2, 0 ≤ x ∧ x < i) ∧ (∀ j : Nat, j + 1 < (rd_T50 gs (i : Int)).f2.length → ¬ rd (rd_T50 gs (i : Int)).f2 ((j + 1 : Nat) : Int) < rd (rd_T50 gs (i : Int)).f2 (j : Int)) ∧ (∀ x ∈ (rd_T50 gs (i : Int)).f2, (rd_T50 gs x).f0 ≠ 0) ∧ ((rd_T50 gs (i : Int)).f0 = 4 → ∀ x ∈ (rd_T50 gs (i : Int)).f2, (rd_T50 gs x).f0 ≠ 1) ∧ (innerS (rd_T50 gs (i : Int)).f0 = true → 2 ≤ (rd_T50 gs (i : Int)).f2.length) := by
  simp only [badGate, Bool.or_eq_false_iff, Bool.not_eq_false', Bool.and_eq_false_imp, gateAt] at h
  obtain ⟨hf, hb⟩ := h
  have hlow := formed_kids hf (Int.le_refl _)
  by_cases hin : innerS (rd_T50 gs (i : Int)).f0 = true
  · have hbk := hb hin
    simp only [badKids, Bool.or_eq_false_iff, Bool.not_eq_false', decide_eq_false_iff_not] at hbk
    obtain ⟨h2, hs, hd⟩ := hbk
    have hd' : ∀ x ∈ (rd_T50 gs (i : Int)).f2, keptS (rd_T50 gs (i : Int)).f0 (rd_T50 gs x).f0 = true := fun x hx => by
      have := List.any_eq_false.1 hd x hx
      unfold dropsKid at this
      simpa using this
    refine ⟨hlow, fun j hj => sortedTo_le _ hs j (by omega), fun x hx => ?_, fun h4 x hx => ?_, fun _ => by omega⟩
    · have := hd' x hx
      simp only [keptS, Bool.and_eq_true, bne_iff_ne] at this
      exact this.1
    · have := hd' x hx
      rw [h4] at this
      simp [keptS] at this
      exact this.2
  · have hnil : (rd_T50 gs (i : Int)).f2 = [] := by
      have hl : (rd_T50 gs (i : Int)).f2.length = 0 := by
        unfold formedS at hf
        by_cases ha : (rd_T50 gs (i : Int)).f2.any (outside i) = true
        · rw [if_pos ha] at hf; cases hf
        · rw [if_neg ha] at hf
          by_cases h2 : (rd_T50 gs (i : Int)).f0 = 2
          · rw [if_pos h2] at hf
            simp only [Bool.and_eq_true, decide_eq_true_eq] at hf
            exact hf.1
          · rw [if_neg h2] at hf
            by_cases h0 : (rd_T50 gs (i : Int)).f0 = 0 ∨ (rd_T50 gs (i : Int)).f0 = 1
            · rw [if_pos h0] at hf
              simp only [Bool.and_eq_true, decide_eq_true_eq] at hf
              exact hf.1
            · rw [if_neg h0] at hf
              simp only [Bool.and_eq_true] at hf
              exact absurd hf.1 hin
      exact List.eq_nil_of_length_eq_zero hl
    refine ⟨hlow, fun j hj => ?_, fun x hx => ?_, fun _ x hx => ?_, fun h => absurd h hin⟩
    · rw [hnil] at hj; simp at hj
    · rw [hnil] at hx; simp at hx
    · rw [hnil] at hx; simp at hx
theorem refv_l0 {gs : List S50} (hv : validS gs = true) (hw : ∀ g ∈ gs, g.f2.length ≤ 1099511627776) : ∀ (d i : Nat), gs.length = i + d → Ev (fun k => cleanseref16_Valid.l0 k (i : Int) gs) true
  | 0, i, hi => by
    refine Ev.succ ⟨0, fun k hk => ?_⟩
    show cleanseref16_Valid.l0 (k + 1) _ _ = _
    simp only [cleanseref16_Valid.l0]
    rw [if_neg (by omega)]
  | d + 1, i, hi => by
    have hn := refv_l0 hv hw d (i + 1) (by omega)
    have hlt : i < gs.length := by omega
    have hok : okTo gs gs.length = true := by
      simp only [validS, Bool.and_eq_true] at hv
      exact hv.2
    obtain ⟨hbad, _⟩ := okTo_at hok hlt
    obtain ⟨hlow, hs, hk0, hk1, h2⟩ := good_kids hbad hlt
    have hf : formedS (rd_T50 gs (i : Int)).f0 (rd_T50 gs (i : Int)).f1 (rd_T50 gs (i : Int)).f2 i = true := by
      simp only [badGate, Bool.or_eq_false_iff, Bool.not_eq_false', gateAt] at hbad
      exact hbad.1
    have hg := hw _ (rd_mem50 gs (i : Int) ⟨by omega, by omega⟩)
    have h2l := refv_l2 hv hw hlt hn i 0 (by omega)
    obtain ⟨K, hK⟩ := refv_l1 hg (fun x hx => ⟨(hlow x hx).1, by have := (hlow x hx).2; omega⟩) hs hk0 hk1 h2l _ 0 (Nat.zero_add _).symm
    refine Ev.succ ⟨K + (rd_T50 gs (i : Int)).f2.length + 2, fun k hk => ?_⟩
    obtain ⟨k, rfl⟩ : ∃ k', k = k' + 1 := ⟨k - 1, by omega⟩
    have hj1 : ∀ b : Bool, b = false → cleanseref16_Valid.j1 (k + 1) (i : Int) b gs (rd_T50 gs (i : Int)).f0 (rd_T50 gs (i : Int)).f1 (rd_T50 gs (i : Int)).f2 = some true := fun b hb => by
      subst hb
      simp only [cleanseref16_Valid.j1]
      rw [if_neg (by decide)]
      exact hK k (by omega)
    show cleanseref16_Valid.l0 (k + 1 + 1) _ _ = _
    simp only [cleanseref16_Valid.l0]
    rw [if_pos (by omega), if_pos (by omega), formed_f hf hg (k + 1) (by omega), Option.bind_some, if_pos rfl, inner_f, Option.bind_some]
    by_cases hin : innerS (rd_T50 gs (i : Int)).f0 = true
    · rw [if_pos hin]
      exact hj1 _ (decide_eq_false (by have := h2 hin; omega))
    · rw [if_neg hin]
      exact hj1 _ rfl
theorem refv_f {gs : List S50} (hv : validS gs = true) (hw : ∀ g ∈ gs, g.f2.length ≤ 1099511627776) : Ev (fun k => cleanseref16_Valid.f k gs) true := by
  have hlen := valid_len hv
  obtain ⟨K, hK⟩ := refv_l0 hv hw gs.length 0 (Nat.zero_add _).symm
  refine ⟨K, fun k hk => ?_⟩
  show cleanseref16_Valid.f k gs = _
  unfold cleanseref16_Valid.f
  rw [if_neg (by omega)]
  exact hK k hk
end Go.Proofs.YtcafgpfecfocnaaDoor.P

/- The reference's Right and Kept (the printed functions, plainly): what the roots reach. -/
namespace Go.Proofs.YtcafgpfecfocnaaDoor.P
open Go.RowKit Go.Proofs.YtcafgpfecfocnaaDoorW.PrintWords
set_option linter.unusedVariables false
set_option linter.unusedSimpArgs false

theorem right_l0 {gs : List S50} {rs : List Int} (hin : ∀ r ∈ rs, inRange gs.length r) (hl : rs.length ≤ 1099511627776) (hv : Ev (fun k => cleanseref16_Valid.f k gs) true) : ∀ (d i : Nat), rs.length = i + d → Ev (fun k => cleanseref18_Right.l0 k rs (i : Int) gs) true
  | 0, i, hi => by
    obtain ⟨K, hK⟩ := hv
    refine Ev.succ ⟨K, fun k hk => ?_⟩
    show cleanseref18_Right.l0 (k + 1) _ _ _ = _
    simp only [cleanseref18_Right.l0]
    have := hK k hk
    rw [if_neg (by omega), show cleanseref16_Valid.f k gs = some true from this]
    rfl
  | d + 1, i, hi => by
    obtain ⟨K, hK⟩ := right_l0 hin hl hv d (i + 1) (by omega)
    have h0 := hin _ (rd_mem rs i (by omega))
    unfold inRange at h0
    refine Ev.succ ⟨K, fun k hk => ?_⟩
    show cleanseref18_Right.l0 (k + 1) _ _ _ = _
    simp only [cleanseref18_Right.l0]
    rw [if_pos (by omega), if_pos (by omega), if_neg (by omega), if_neg (by omega), wrap_nat (by omega)]
    exact hK k hk
theorem right_f {gs : List S50} {rs : List Int} (h : startS gs rs = true) (hw : ∀ g ∈ gs, g.f2.length ≤ 1099511627776) (hl : rs.length ≤ 1099511627776) : Ev (fun k => cleanseref18_Right.f k gs rs) true := by
  obtain ⟨hv, hin⟩ := start_in h
  exact right_l0 hin hl (refv_f hv hw) rs.length 0 (Nat.zero_add _).symm

theorem flag_set {out : List Bool} {p j : Nat} (hp : p < out.length) : rdOf false (out.set p true) (j : Int) = true ↔ j = p ∨ rdOf false out (j : Int) = true := by
  unfold rdOf
  rw [Int.toNat_natCast, List.getD_eq_getElem?_getD, List.getD_eq_getElem?_getD, List.getElem?_set]
  by_cases e : p = j
  · subst e
    rw [if_pos rfl, if_pos hp]
    simp
  · rw [if_neg e]
    constructor
    · exact .inr
    · rintro (h | h)
      · exact absurd h.symm e
      · exact h
theorem flag_setI {out : List Bool} {p j : Int} (h0 : 0 ≤ p) (hp : p < out.length) (hj : 0 ≤ j) : rdOf false (out.set p.toNat true) j = true ↔ j = p ∨ rdOf false out j = true := by
  have h := flag_set (out := out) (p := p.toNat) (j := j.toNat) (by omega)
  rw [Int.toNat_of_nonneg hj] at h
  rw [h]
  constructor
  · rintro (h | h)
    · exact .inl (by omega)
    · exact .inr h
  · rintro (h | h)
    · exact .inl (by omega)
    · exact .inr h
theorem mem_at {l : List Int} {x : Int} (h : x ∈ l) : ∃ q : Nat, q < l.length ∧ rd l (q : Int) = x := by
  obtain ⟨q, hq, rfl⟩ := List.getElem_of_mem h
  exact ⟨q, hq, rd_get l q hq⟩
/-- The flags, when the gates from k on are done. -/
structure KF (gs : List S50) (rs : List Int) (k : Nat) (out : List Bool) : Prop where
  len : out.length = gs.length
  roots : ∀ r ∈ rs, rdOf false out r = true
  sound : ∀ j : Int, 0 ≤ j → rdOf false out j = true → Reach gs rs j
  closed : ∀ j : Nat, k ≤ j → j < gs.length → rdOf false out (j : Int) = true → ∀ x ∈ (rd_T50 gs (j : Int)).f2, rdOf false out x = true
theorem KF.iff {gs : List S50} {rs : List Int} {out : List Bool} (h : KF gs rs 0 out) (hin : ∀ i, Reach gs rs i → inRange gs.length i) (j : Int) (hj : 0 ≤ j) : rdOf false out j = true ↔ Reach gs rs j := by
  refine ⟨h.sound j hj, fun hr => ?_⟩
  clear hj
  induction hr with
  | root r hr => exact h.roots r hr
  | kid i k hi hk ih =>
    have hr := hin i hi
    unfold inRange at hr
    have e : ((i.toNat : Nat) : Int) = i := Int.toNat_of_nonneg hr.1
    exact h.closed i.toNat (Nat.zero_le _) (by omega) (by rw [e]; exact ih) k (by rw [e]; exact hk)
theorem kept_l2 {gs : List S50} {rs : List Int} (hlow : kidsLow gs) (hw : ∀ g ∈ gs, g.f2.length ≤ 1099511627776) (hlen : gs.length ≤ 1099511627776) (hin : ∀ r ∈ rs, inRange gs.length r) {k : Nat} (hk : k < gs.length)
    (next : ∀ out, KF gs rs k out → ∃ out', Ev (fun f => cleanseref18_Kept.l1 f out ((k : Int) - 1) gs) out' ∧ KF gs rs 0 out') :
    ∀ (d m : Nat) (out : List Bool), (rd_T50 gs (k : Int)).f2.length = m + d → KF gs rs (k + 1) out → (rdOf false out (k : Int) = true → ∀ q : Nat, q < m → rdOf false out (rd (rd_T50 gs (k : Int)).f2 (q : Int)) = true) → ∃ out', Ev (fun f => cleanseref18_Kept.l2 f out (k : Int) (m : Int) gs) out' ∧ KF gs rs 0 out'
  | 0, m, out, hm, h, hset => by
    obtain ⟨out', ⟨K, hK⟩, hf⟩ := next out ⟨h.len, h.roots, h.sound, fun j h1 h2 h3 x hx => by
      by_cases e : j = k
      · subst e
        obtain ⟨q, hq, rfl⟩ := mem_at hx
        exact hset h3 q (by omega)
      · exact h.closed j (by omega) h2 h3 x hx⟩
    refine ⟨out', Ev.succ ⟨K, fun f hf => ?_⟩, hf⟩
    show cleanseref18_Kept.l2 (f + 1) _ _ _ _ = _
    simp only [cleanseref18_Kept.l2]
    rw [if_pos (by omega), if_pos (by omega), if_neg (by omega), show wrap64 ((k : Int) - 1) = (k : Int) - 1 by unfold wrap64; omega]
    exact hK f hf
  | d + 1, m, out, hm, h, hset => by
    have hg := hw _ (rd_mem50 gs (k : Int) ⟨by omega, by omega⟩)
    by_cases hflag : rdOf false out (k : Int) = true
    · have hmem := rd_mem (rd_T50 gs (k : Int)).f2 m (by omega)
      have hx := hlow k hk _ hmem
      have hl := h.len
      obtain ⟨x, hxe⟩ : ∃ x, rd (rd_T50 gs (k : Int)).f2 (m : Int) = x := ⟨_, rfl⟩
      rw [hxe] at hmem hx
      have far : ∀ j : Int, 0 ≤ j → rdOf false out j = true → rdOf false (out.set x.toNat true) j = true := fun j hj hjt => (flag_setI hx.1 (by omega) hj).2 (.inr hjt)
      have h2 : KF gs rs (k + 1) (out.set x.toNat true) := by
        refine ⟨by rw [List.length_set]; exact hl, fun r hr => far r (hin r hr).1 (h.roots r hr), fun j hj hjt => ?_, fun j h1 h2 h3 y hy => ?_⟩
        · rcases (flag_setI hx.1 (by omega) hj).1 hjt with rfl | h4
          · exact .kid (k : Int) _ (h.sound _ (by omega) hflag) hmem
          · exact h.sound j hj h4
        · have h4 : rdOf false out (j : Int) = true := by
            rcases (flag_setI hx.1 (by omega) (by omega)).1 h3 with h5 | h5
            · omega
            · exact h5
          exact far y (hlow j h2 y hy).1 (h.closed j h1 h2 h4 y hy)
      obtain ⟨out', ⟨K, hK⟩, hf⟩ := kept_l2 hlow hw hlen hin hk next d (m + 1) _ (by omega) h2 (fun _ q hq => by
        have hqm := rd_mem (rd_T50 gs (k : Int)).f2 q (by omega)
        by_cases e : q = m
        · subst e
          rw [hxe]
          exact (flag_setI hx.1 (by omega) hx.1).2 (.inl rfl)
        · exact far _ (hlow k hk _ hqm).1 (hset hflag q (by omega)))
      refine ⟨out', Ev.succ ⟨K, fun f hf => ?_⟩, hf⟩
      show cleanseref18_Kept.l2 (f + 1) _ _ _ _ = _
      simp only [cleanseref18_Kept.l2]
      rw [hxe, if_pos (by omega), if_pos (by omega), if_pos (by omega), if_pos (by omega), if_pos hflag, if_pos (by omega), if_pos hx.1, if_pos (by omega), wrap_nat (by omega)]
      exact hK f hf
    · obtain ⟨out', ⟨K, hK⟩, hf⟩ := next out ⟨h.len, h.roots, h.sound, fun j h1 h2 h3 x hx => by
        by_cases e : j = k
        · subst e; exact absurd h3 hflag
        · exact h.closed j (by omega) h2 h3 x hx⟩
      have hl := h.len
      refine ⟨out', Ev.succ ⟨K, fun f hf => ?_⟩, hf⟩
      show cleanseref18_Kept.l2 (f + 1) _ _ _ _ = _
      simp only [cleanseref18_Kept.l2]
      rw [if_pos (by omega), if_pos (by omega), if_pos (by omega), if_pos (by omega), if_neg hflag, show wrap64 ((k : Int) - 1) = (k : Int) - 1 by unfold wrap64; omega]
      exact hK f hf
theorem kept_l1 {gs : List S50} {rs : List Int} (hlow : kidsLow gs) (hw : ∀ g ∈ gs, g.f2.length ≤ 1099511627776) (hlen : gs.length ≤ 1099511627776) (hin : ∀ r ∈ rs, inRange gs.length r) : ∀ (k : Nat) (out : List Bool), k ≤ gs.length → KF gs rs k out → ∃ out', Ev (fun f => cleanseref18_Kept.l1 f out ((k : Int) - 1) gs) out' ∧ KF gs rs 0 out'
  | 0, out, _, h => by
    refine ⟨out, Ev.succ ⟨0, fun f _ => ?_⟩, h⟩
    show cleanseref18_Kept.l1 (f + 1) _ _ _ = _
    simp only [cleanseref18_Kept.l1]
    rw [if_neg (by omega)]
  | k + 1, out, hk, h => by
    obtain ⟨out', ⟨K, hK⟩, hf⟩ := kept_l2 hlow hw hlen hin (show k < gs.length by omega) (fun o ho => kept_l1 hlow hw hlen hin k o (by omega) ho) _ 0 out (Nat.zero_add _).symm h (fun _ q hq => by omega)
    refine ⟨out', Ev.succ ⟨K, fun f hf => ?_⟩, hf⟩
    show cleanseref18_Kept.l1 (f + 1) _ _ _ = _
    simp only [cleanseref18_Kept.l1]
    rw [if_pos (by omega), show (((k + 1 : Nat) : Int) - 1) = (k : Int) by omega]
    exact hK f hf
theorem kept_l0 {gs : List S50} {rs : List Int} (hlow : kidsLow gs) (hw : ∀ g ∈ gs, g.f2.length ≤ 1099511627776) (hlen : gs.length ≤ 1099511627776) (hin : ∀ r ∈ rs, inRange gs.length r) (hl : rs.length ≤ 1099511627776) : ∀ (d i : Nat) (out : List Bool), rs.length = i + d → out.length = gs.length → (∀ q : Nat, q < i → rdOf false out (rd rs (q : Int)) = true) → (∀ j : Int, 0 ≤ j → rdOf false out j = true → Reach gs rs j) → ∃ out', Ev (fun f => cleanseref18_Kept.l0 f rs out (i : Int) gs) out' ∧ KF gs rs 0 out'
  | 0, i, out, hi, ho, hq, hs => by
    obtain ⟨out', ⟨K, hK⟩, hf⟩ := kept_l1 hlow hw hlen hin gs.length out (Nat.le_refl _) ⟨ho, fun r hr => by
      obtain ⟨q, hq2, rfl⟩ := mem_at hr
      exact hq q (by omega), hs, fun j h1 h2 => by omega⟩
    refine ⟨out', Ev.succ ⟨K, fun f hf => ?_⟩, hf⟩
    show cleanseref18_Kept.l0 (f + 1) _ _ _ _ = _
    simp only [cleanseref18_Kept.l0]
    rw [if_neg (by omega), ho, show wrap64 ((gs.length : Int) - 1) = (gs.length : Int) - 1 by unfold wrap64; omega]
    exact hK f hf
  | d + 1, i, out, hi, ho, hq, hs => by
    have hmem := rd_mem rs i (by omega)
    have hx := hin _ hmem
    unfold inRange at hx
    obtain ⟨x, hxe⟩ : ∃ x, rd rs (i : Int) = x := ⟨_, rfl⟩
    rw [hxe] at hmem hx
    obtain ⟨out', ⟨K, hK⟩, hf⟩ := kept_l0 hlow hw hlen hin hl d (i + 1) (out.set x.toNat true) (by omega) (by rw [List.length_set]; exact ho) (fun q hq2 => by
      have hqm := hin _ (rd_mem rs q (by omega))
      by_cases e : q = i
      · subst e
        rw [hxe]
        exact (flag_setI hx.1 (by omega) hx.1).2 (.inl rfl)
      · exact (flag_setI hx.1 (by omega) hqm.1).2 (.inr (hq q (by omega)))) (fun j hj hjt => by
      rcases (flag_setI hx.1 (by omega) hj).1 hjt with rfl | h4
      · exact .root _ hmem
      · exact hs j hj h4)
    refine ⟨out', Ev.succ ⟨K, fun f hf => ?_⟩, hf⟩
    show cleanseref18_Kept.l0 (f + 1) _ _ _ _ = _
    simp only [cleanseref18_Kept.l0]
    rw [hxe, if_pos (by omega), if_pos (by omega), if_pos hx.1, if_pos (by omega), wrap_nat (by omega)]
    exact hK f hf
/-- Kept: the marks. -/
theorem kept_f {gs : List S50} {rs : List Int} (h : startS gs rs = true) (hw : ∀ g ∈ gs, g.f2.length ≤ 1099511627776) (hl : rs.length ≤ 1099511627776) : ∃ out : List Bool, Ev (fun f => cleanseref18_Kept.f f gs rs) out ∧ out.length = gs.length ∧ ∀ j : Int, 0 ≤ j → rdOf false out j = marksS gs rs j := by
  obtain ⟨hv, hin⟩ := start_in h
  have hlen := valid_len hv
  have hrep : ∀ j : Int, rdOf false (List.replicate gs.length false) j = false := fun j => by
    unfold rdOf
    rw [List.getD_eq_getElem?_getD, List.getElem?_replicate]
    split <;> rfl
  obtain ⟨out', ⟨K, hK⟩, hf⟩ := kept_l0 (valid_low hv) hw (by omega) hin hl rs.length 0 (List.replicate gs.length false) (Nat.zero_add _).symm (by simp) (fun q hq => by omega) (fun j hj hjt => by rw [hrep] at hjt; cases hjt)
  refine ⟨out', ⟨K, fun f hf => ?_⟩, hf.len, fun j hj => ?_⟩
  · show cleanseref18_Kept.f f gs rs = _
    unfold cleanseref18_Kept.f
    rw [if_pos (by omega), Int.toNat_natCast, if_pos (by omega)]
    exact hK f hf
  · have h1 := hf.iff (fun i hi => reach_in h hi) j hj
    have h2 := marks_iff h j
    rw [Bool.eq_iff_iff, h1, h2]
end Go.Proofs.YtcafgpfecfocnaaDoor.P

/- Same and Ints of a thing and itself (the printed functions, plainly); what wf a kept circuit is. -/
namespace Go.Proofs.YtcafgpfecfocnaaDoor.P
open Go.RowKit Go.Proofs.YtcafgpfecfocnaaDoorW.PrintWords
set_option linter.unusedVariables false
set_option linter.unusedSimpArgs false

theorem ints_l0 {l : List Int} (hb : l.length ≤ 1099511627776) : ∀ (d i : Nat), l.length = i + d → Ev (fun k => cleanseref06_Ints.l0 k l l (i : Int)) true
  | 0, i, hi => by
    refine Ev.succ ⟨0, fun k _ => ?_⟩
    show cleanseref06_Ints.l0 (k + 1) _ _ _ = _
    simp only [cleanseref06_Ints.l0]
    rw [if_neg (by omega)]
  | d + 1, i, hi => by
    obtain ⟨K, hK⟩ := ints_l0 hb d (i + 1) (by omega)
    refine Ev.succ ⟨K, fun k hk => ?_⟩
    show cleanseref06_Ints.l0 (k + 1) _ _ _ = _
    simp only [cleanseref06_Ints.l0]
    rw [if_pos (by omega), if_pos (by omega), if_pos (by omega), if_pos trivial, wrap_nat (by omega)]
    exact hK k hk
theorem ints_f {l : List Int} (hb : l.length ≤ 1099511627776) : Ev (fun k => cleanseref06_Ints.f k l l) true := by
  obtain ⟨K, hK⟩ := ints_l0 hb l.length 0 (Nat.zero_add _).symm
  refine ⟨K, fun k hk => ?_⟩
  show cleanseref06_Ints.f k l l = _
  unfold cleanseref06_Ints.f
  rw [if_pos rfl]
  exact hK k hk
theorem same_l0 {gs : List S50} (hlen : gs.length ≤ 1099511627776) (hw : ∀ g ∈ gs, g.f2.length ≤ 1099511627776) : ∀ (d i : Nat), gs.length = i + d → Ev (fun k => cleanseref16_Same.l0 k (i : Int) gs gs) true
  | 0, i, hi => by
    refine Ev.succ ⟨0, fun k _ => ?_⟩
    show cleanseref16_Same.l0 (k + 1) _ _ _ = _
    simp only [cleanseref16_Same.l0]
    rw [if_neg (by omega)]
  | d + 1, i, hi => by
    obtain ⟨K, hK⟩ := same_l0 hlen hw d (i + 1) (by omega)
    have hg := hw _ (rd_mem50 gs (i : Int) ⟨by omega, by omega⟩)
    refine Ev.succ ⟨K + (rd_T50 gs (i : Int)).f2.length + 2, fun k hk => ?_⟩
    show cleanseref16_Same.l0 (k + 1) _ _ _ = _
    simp only [cleanseref16_Same.l0]
    rw [if_pos (by omega), if_pos (by omega), if_pos (by omega), equal_f k _ _ _ _ _ _ hg (by omega), Option.bind_some, if_pos (by simp), wrap_nat (by omega)]
    exact hK k (by omega)
theorem same_f {gs : List S50} (hlen : gs.length ≤ 1099511627776) (hw : ∀ g ∈ gs, g.f2.length ≤ 1099511627776) : Ev (fun k => cleanseref16_Same.f k gs gs) true := by
  obtain ⟨K, hK⟩ := same_l0 hlen hw gs.length 0 (Nat.zero_add _).symm
  refine ⟨K, fun k hk => ?_⟩
  show cleanseref16_Same.f k gs gs = _
  unfold cleanseref16_Same.f
  rw [if_pos rfl]
  exact hK k hk
/-- Few gates are wf. -/
theorem few_wf {gs : List S50} {n : Int} (hf : fewS gs n = true) (hg : ∀ g ∈ gs, goodG g) : ∀ g ∈ gs, wfG g := by
  intro g hm
  obtain ⟨i, hi, rfl⟩ := mem_rd hm
  simp only [fewS, Bool.and_eq_true, decide_eq_true_eq] at hf
  have h1 := hf.2 i hi
  obtain ⟨a, b, c⟩ := hg _ hm
  exact ⟨a, b, c, by omega⟩
theorem plOf_in {gs : List S50} {mk : Int → Bool} {k : Int} (hlen : gs.length ≤ 1099511627776) (h0 : 0 ≤ k) (hk : k < gs.length) : 0 ≤ plOf mk k ∧ plOf mk k ≤ 1099511627776 := by
  unfold plOf
  split
  · have := cnt_le mk k.toNat
    omega
  · omega
theorem mem_resG {gs : List S50} {mk : Int → Bool} {n : Nat} {g : S50} (h : g ∈ resG gs mk n) : ∃ i, i < n ∧ mk (i : Int) = true ∧ g = movedG gs mk i := by
  induction n with
  | zero => simp [resG] at h
  | succ n ih =>
    simp only [resG, List.mem_append] at h
    rcases h with h | h
    · obtain ⟨i, h1, h2⟩ := ih h
      exact ⟨i, by omega, h2⟩
    · by_cases hm : mk (n : Int) = true
      · rw [if_pos hm] at h
        exact ⟨n, by omega, hm, by simpa using h⟩
      · rw [if_neg hm] at h; simp at h
/-- The kept circuit's numbers. -/
theorem resG_wf {gs : List S50} {mk : Int → Bool} (hv : validS gs = true) (hw : ∀ g ∈ gs, wfG g) : ∀ g ∈ resG gs mk gs.length, wfG g := by
  intro g hg
  have hlen := valid_len hv
  obtain ⟨i, hi, _, rfl⟩ := mem_resG hg
  obtain ⟨a, b, c, d⟩ := hw _ (rd_mem50 gs (i : Int) ⟨by omega, by omega⟩)
  refine ⟨a, b, fun k hk => ?_, by show ((rd_T50 gs (i : Int)).f2.map _).length ≤ _; rw [List.length_map]; exact d⟩
  obtain ⟨x, hx, rfl⟩ := List.mem_map.1 hk
  have h2 := valid_low hv i hi x hx
  have h3 := plOf_in (gs := gs) (mk := mk) (k := x) (by omega) h2.1 (by omega)
  unfold in64
  omega
theorem wf_kids {gs : List S50} (hw : ∀ g ∈ gs, wfG g) : ∀ g ∈ gs, g.f2.length ≤ 1099511627776 := fun g hg => (hw g hg).2.2.2
end Go.Proofs.YtcafgpfecfocnaaDoor.P

/- ReapFew's plain law: the printed law answers true. -/
namespace Go.Proofs.YtcafgpfecfocnaaDoor.P
open Go.RowKit Go.Proofs.YtcafgpfecfocnaaDoorW.PrintWords
set_option linter.unusedVariables false
set_option linter.unusedSimpArgs false

theorem rf_j4 (k : Nat) : cleanselaw18_ReapFew.j4 (k + 1) true = some true := by
  simp only [cleanselaw18_ReapFew.j4]
section
variable {gs d : List S50} {l : List Int} {out : List Bool} {mk : Int → Bool}
theorem rf_l1 (hlen : gs.length ≤ 100000) (hout : out.length = d.length) {i p : Nat} (hi : i < d.length) (hp : p < gs.length) (hflag : rdOf false out (i : Int) = true)
    (h0 : (rd_T50 gs (p : Int)).f0 = (rd_T50 d (i : Int)).f0) (h1 : (rd_T50 gs (p : Int)).f1 = (rd_T50 d (i : Int)).f1) (h2 : (rd_T50 gs (p : Int)).f2.length = (rd_T50 d (i : Int)).f2.length) (hd : d.length ≤ 100000)
    (next : ∀ a : Nat, a ≤ p → Ev (fun k => cleanselaw18_ReapFew.l0 k true l out ((a + 1 : Nat) : Int) ((i + 1 : Nat) : Int) gs d) true) :
    ∀ (n a : Nat), p = a + n → Ev (fun k => cleanselaw18_ReapFew.l1 k true l out (a : Int) (i : Int) gs d) true := by
  have stop : ∀ a : Nat, a ≤ p → Ev (fun k => cleanselaw18_ReapFew.j3 k true l out (a : Int) (i : Int) false gs d) true := fun a ha => by
    obtain ⟨K, hK⟩ := next a ha
    refine Ev.succ ⟨K, fun k hk => ?_⟩
    show cleanselaw18_ReapFew.j3 (k + 1) _ _ _ _ _ _ _ _ = _
    simp only [cleanselaw18_ReapFew.j3]
    rw [if_neg (by decide), if_pos (by omega), if_pos (by omega), if_pos hflag, if_neg (by omega), wrap_nat (by omega), wrap_nat (by omega)]
    exact hK k hk
  intro n
  induction n with
  | zero =>
    intro a ha
    obtain rfl : p = a := by omega
    obtain ⟨K, hK⟩ := stop p (Nat.le_refl _)
    refine Ev.succ ⟨K, fun k hk => ?_⟩
    show cleanselaw18_ReapFew.l1 (k + 1) _ _ _ _ _ _ _ = _
    simp only [cleanselaw18_ReapFew.l1]
    rw [if_pos (by omega), if_pos (by omega), if_pos (by omega), if_pos (by omega), if_pos h0, if_pos h1, h2, show ((((rd_T50 d (i : Int)).f2.length : Int) != ((rd_T50 d (i : Int)).f2.length : Int)) = false) by simp]
    exact hK k hk
  | succ n ih =>
    intro a ha
    obtain ⟨K1, hK1⟩ := ih (a + 1) (by omega)
    obtain ⟨K2, hK2⟩ := stop a (by omega)
    have hj3 : ∀ (b : Bool) (k : Nat), K1 + K2 + 1 ≤ k → cleanselaw18_ReapFew.j3 k true l out (a : Int) (i : Int) b gs d = some true := fun b k hk => by
      obtain ⟨k, rfl⟩ : ∃ k', k = k' + 1 := ⟨k - 1, by omega⟩
      cases b with
      | false => exact hK2 (k + 1) (by omega)
      | true =>
        simp only [cleanselaw18_ReapFew.j3]
        rw [if_pos trivial, wrap_nat (by omega)]
        exact hK1 k (by omega)
    refine Ev.succ ⟨K1 + K2 + 1, fun k hk => ?_⟩
    show cleanselaw18_ReapFew.l1 (k + 1) _ _ _ _ _ _ _ = _
    simp only [cleanselaw18_ReapFew.l1]
    rw [if_pos (by omega), if_pos (by omega), if_pos (by omega), if_pos (by omega)]
    split
    · split
      · exact hj3 _ k hk
      · exact hj3 _ k hk
    · exact hj3 _ k hk
theorem rf_l0 (hlen : gs.length ≤ 100000) (hde : d = resG gs mk gs.length) (hout : out.length = d.length) (hflag : ∀ i : Nat, i < d.length → rdOf false out (i : Int) = true) (hd : d.length ≤ 100000)
    (hend : Ev (fun k => ((reap_Keep.f d l).bind fun bt169 => (if (true : Bool) = true then (if bt169.2.2 = 0 then ((cleanseref16_Same.f k bt169.1 d).bind fun t177 => (if t177 = true then ((cleanseref06_Ints.f k bt169.2.1 l).bind fun t178 => (cleanselaw18_ReapFew.j4 k t178)) else (cleanselaw18_ReapFew.j4 k false))) else (cleanselaw18_ReapFew.j4 k false)) else (cleanselaw18_ReapFew.j4 k false)))) true) :
    ∀ (n i a : Nat), d.length = i + n → (∀ p : Nat, p < gs.length → mk (p : Int) = true → i ≤ cnt mk p → a ≤ p) → Ev (fun k => cleanselaw18_ReapFew.l0 k true l out (a : Int) (i : Int) gs d) true := by
  intro n
  induction n with
  | zero =>
    intro i a hi ha
    obtain ⟨K, hK⟩ := hend
    refine Ev.succ ⟨K, fun k hk => ?_⟩
    show cleanselaw18_ReapFew.l0 (k + 1) _ _ _ _ _ _ _ = _
    simp only [cleanselaw18_ReapFew.l0]
    rw [if_neg (by omega)]
    exact hK k hk
  | succ n ih =>
    intro i a hi ha
    have hic : i < cnt mk gs.length := by
      have := congrArg List.length hde
      rw [resG_length] at this
      omega
    obtain ⟨p, hp, hm, hcnt⟩ := cnt_onto hic
    have hap := ha p hp hm (by omega)
    have hg := resG_rd (gs := gs) hp hm
    rw [hcnt, ← hde] at hg
    obtain ⟨K, hK⟩ := rf_l1 (l := l) hlen hout (show i < d.length by omega) hp (hflag i (by omega)) (by rw [hg]; rfl) (by rw [hg]; rfl) (by rw [hg]; exact (List.length_map ..).symm) hd
      (fun a' ha' => ih (i + 1) (a' + 1) (by omega) (fun q hq hmq hcq => by
        rcases Nat.lt_or_ge p q with h | h
        · omega
        · have := cnt_mono (mk := mk) h; omega)) (p - a) a (by omega)
    refine Ev.succ ⟨K, fun k hk => ?_⟩
    show cleanselaw18_ReapFew.l0 (k + 1) _ _ _ _ _ _ _ = _
    simp only [cleanselaw18_ReapFew.l0]
    rw [if_pos (by omega)]
    exact hK k hk
end
theorem reapFew_pure (gs : List S50) (rs : List Int) (hg : ∀ g ∈ gs, goodG g) : ∃ k, cleanselaw18_ReapFew.f k gs rs = some true := by
  have few0 : ∀ k, gs.length < k → cleanselaw18_few.f k gs rs [] = some (fewS gs 60 && decide (rs.length ≤ 60)) := fun k hk => by
    unfold cleanselaw18_few.f
    rw [few_f k gs 60 (by omega) hk, Option.bind_some]
    cases fewS gs 60 with
    | false => rfl
    | true =>
      rw [if_pos rfl]
      by_cases h : rs.length ≤ 60
      · rw [if_pos (by omega)]; simp [h]
      · rw [if_neg (by omega)]; simp [h]
  by_cases hfew : fewS gs 60 = true ∧ rs.length ≤ 60
  · obtain ⟨hf, hrl⟩ := hfew
    have hw := few_wf hf hg
    have hkf : ∀ (a : List S50) (b : List Int), (∀ g ∈ a, wfG g) → b.length ≤ 1099511627776 → reap_Keep.f a b = some (keepS a b) := fun a b h1 h2 => by
      unfold reap_Keep.f
      rw [if_pos ⟨h1, h2⟩]
    cases hs : startS gs rs with
    | false =>
      refine ⟨gs.length + 1, ?_⟩
      unfold cleanselaw18_ReapFew.f cleanselaw18_head.f
      have e : keepS gs rs = ([], [], 1) := by unfold keepS; rw [if_neg (by rw [hs]; decide)]
      rw [Option.bind_some, few0 _ (by omega), Option.bind_some, if_pos (by rw [hf]; simp [hrl]), hkf gs rs hw (by omega), Option.bind_some, e]
      rfl
    | true =>
      obtain ⟨hv, hin⟩ := start_in hs
      have hlen := valid_len hv
      obtain ⟨mk, hmk⟩ : ∃ mk, marksS gs rs = mk := ⟨_, rfl⟩
      obtain ⟨d, hd⟩ : ∃ d, resG gs mk gs.length = d := ⟨_, rfl⟩
      obtain ⟨l, hl⟩ : ∃ l, rs.map (plOf mk) = l := ⟨_, rfl⟩
      have e : keepS gs rs = (d, l, 0) := by unfold keepS; rw [if_pos hs, hmk, hd, hl]
      have hagain := start_again hs
      have hka := keep_again hs
      have hma := marks_again hs
      rw [hmk, hd, hl] at hagain hka
      rw [hmk, hd, hl] at hma
      have hwd : ∀ g ∈ d, wfG g := by rw [← hd]; exact resG_wf hv hw
      obtain ⟨hvd, hind⟩ := start_in hagain
      have hdl := valid_len hvd
      have hll : l.length = rs.length := by rw [← hl, List.length_map]
      obtain ⟨K1, hK1⟩ := right_f hagain (wf_kids hwd) (by omega)
      obtain ⟨out, ⟨K2, hK2⟩, hout, hoj⟩ := kept_f hagain (wf_kids hwd) (by omega)
      obtain ⟨K4, hK4⟩ := same_f (gs := d) (by omega) (wf_kids hwd)
      obtain ⟨K5, hK5⟩ := ints_f (l := l) (by omega)
      obtain ⟨K3, hK3⟩ := rf_l0 (l := l) hlen hd.symm hout (fun i hi => by rw [hoj _ (by omega)]; exact hma i hi) hdl ⟨K4 + K5 + 1, fun k hk => by
        obtain ⟨k, rfl⟩ : ∃ k', k = k' + 1 := ⟨k - 1, by omega⟩
        have h4 := hK4 (k + 1) (by omega)
        have h5 := hK5 (k + 1) (by omega)
        show ((reap_Keep.f d l).bind _) = _
        rw [hkf d l hwd (by omega), Option.bind_some, hka, if_pos rfl]
        show (if (0 : Int) = 0 then ((cleanseref16_Same.f (k + 1) d d).bind fun t177 => (if t177 = true then ((cleanseref06_Ints.f (k + 1) l l).bind fun t178 => (cleanselaw18_ReapFew.j4 (k + 1) t178)) else (cleanselaw18_ReapFew.j4 (k + 1) false))) else _) = _
        rw [if_pos rfl, show cleanseref16_Same.f (k + 1) d d = some true from h4, Option.bind_some, if_pos rfl, show cleanseref06_Ints.f (k + 1) l l = some true from h5, Option.bind_some]
        exact rf_j4 k⟩ d.length 0 0 (Nat.zero_add _).symm (fun _ _ _ _ => Nat.zero_le _)
      refine ⟨gs.length + K1 + K2 + K3 + 2, ?_⟩
      generalize hkk : gs.length + K1 + K2 + K3 + 2 = k
      obtain ⟨k, rfl⟩ : ∃ k', k = k' + 1 := ⟨k - 1, by omega⟩
      have h1 : cleanseref18_Right.f (k + 1) d l = some true := hK1 _ (by omega)
      have h2 : cleanseref18_Kept.f k d l = some out := hK2 _ (by omega)
      have h3 : cleanselaw18_ReapFew.l0 k true l out 0 0 gs d = some true := hK3 _ (by omega)
      have hvf : circuit_Valid.f d = some true := by
        unfold circuit_Valid.f
        rw [if_pos hwd, hvd]
      unfold cleanselaw18_ReapFew.f cleanselaw18_head.f
      rw [Option.bind_some, few0 _ (by omega), Option.bind_some, if_pos (by rw [hf]; simp [hrl]), hkf gs rs hw (by omega), Option.bind_some, e]
      show (if (0 : Int) = 0 then ((circuit_Valid.f d).bind fun t157 => (if t157 = true then (if (l.length : Int) = (rs.length : Int) then ((cleanseref18_Right.f (k + 1) d l).bind fun t158 => (cleanselaw18_ReapFew.j0 (k + 1) true l (!t158) gs d)) else _) else _)) else _) = some true
      rw [if_pos rfl, hvf, Option.bind_some, if_pos rfl, if_pos (by omega), h1, Option.bind_some]
      show cleanselaw18_ReapFew.j0 (k + 1) true l false gs d = _
      simp only [cleanselaw18_ReapFew.j0]
      rw [if_neg (by decide), h2, Option.bind_some]
      exact h3
  · refine ⟨gs.length + 1, ?_⟩
    unfold cleanselaw18_ReapFew.f cleanselaw18_head.f
    rw [Option.bind_some, few0 _ (by omega), Option.bind_some, if_neg]
    intro h
    simp only [Bool.and_eq_true, decide_eq_true_eq] at h
    exact hfew h
end Go.Proofs.YtcafgpfecfocnaaDoor.P

/- What the rows of the laws about sweeps share: the table out of the row's list, a world that holds the listed tables, an argument laid open. -/
namespace Go.Proofs.YtcafgpfecfocnaaDoor.RowBits
open Go.ChangeShapes Go.WideShapes Go.ChangeAt Go.RowKit Go.Proofs.YtcafgpfecfocnaaDoor.P Go.Proofs.YtcafgpfecfocnaaDoorW.PrintWords
set_option linter.unusedVariables false
set_option linter.unusedSimpArgs false

theorem own : ownKnob Tryd.prog.godebug = none := by kernel_rfl
theorem laidOut : laidOutB Tryd.prog = true := by kernel_rfl
theorem gPow : Tryd.prog.globalNamed "internal/strconv.uint64pow10" = some 0 := by kernel_rfl
theorem gPowType : (Tryd.prog.globals[0]?).map (·.type) = some 165 := by kernel_rfl
theorem cells165 : Tryd.prog.cellsOf 165 = 20 := by kernel_rfl
theorem cellsU64 : Tryd.prog.cellsOf 148 = 1 := by kernel_rfl
theorem powData : (Rows.laid_internal_strconv_uint64pow10 : DataW Unit) = Lib.tabData .u64 Lib.pow10Tab := by kernel_rfl

/-- What the rows list. -/
abbrev laid : List (String × DataW Unit) := [("math/bits.deBruijn32tab", Rows.laid_math_bits_deBruijn32tab), ("math/bits.deBruijn64tab", Rows.laid_math_bits_deBruijn64tab), ("internal/strconv.uint64pow10", Rows.laid_internal_strconv_uint64pow10)]
theorem table {W : World} (h : laidMetH Tryd.prog laid W) : Tabs W := by
  have h1 : laidMet Tryd.prog laid W := h
  have h2 := laidMet.tail (laidMet.tail h1)
  rw [powData] at h2
  exact Lib.tabIs_of_head gPow gPowType Tryd.underlying165 Tryd.underlying148 cellsU64 cells165 h2

def put (cs : Array Value) : Obj → Obj
  | .cells _ t frozen => .cells cs t frozen
  | o => o
def litVal : DataW Unit → Value
  | .lit (.int k n) => .int k n
  | _ => .bool false
def cellsOfD : DataW Unit → Array Value
  | .agg l => (l.map litVal).toArray
  | _ => #[]
/-- A world for the witness: the settled one, the tables holding what their initialisers lay. -/
noncomputable def laidWorld (os : Os) : World :=
  { World.holding Tryd.prog os ⟨#[], #[], []⟩ with heap := (((World.holding Tryd.prog os ⟨#[], #[], []⟩).heap.modify 0 (put (cellsOfD Rows.laid_internal_strconv_uint64pow10))).modify 2 (put (cellsOfD Rows.laid_math_bits_deBruijn32tab))).modify 3 (put (cellsOfD Rows.laid_math_bits_deBruijn64tab)) }
theorem laid_met (os : Os) (args : Array Value) : laidMet Tryd.prog laid ((laidWorld os).forCall (fun _ _ => 0) ⟨#[], args, []⟩).memory :=
  laidMet_of_run' 8 (by kernel_rfl) (by kernel_rfl)

section
variable {H : Type} {enc : TypeId × Value → H} {W : World} {base : Nat}
set_option maxRecDepth 100000 in
/-- A circuit that came in. -/
theorem open_circuit {spare : Nat → Bool} {held : Bool} {v : Value} {d : DataW H} {p : List MemPlace} (hval : Value.okWide Tryd.prog W .any base 24 v) (h : DataW.Trod enc Tryd.prog W 0 spare held 24 v d p) :
    ∃ A c, ∃ gs : List S50, v = .agg #[.slice A gs.length c] ∧ gs.length ≤ c ∧ Kd.C k50 W A gs.length gs ∧ ∀ g ∈ gs, goodG g := by
  have c24 : Tryd.prog.cellsOf 24 = 1 := by kernel_rfl
  have c22 : Tryd.prog.cellsOf 22 = 1 := by kernel_rfl
  obtain ⟨cs, rfl, hs⟩ := okWide_struct Tryd.underlying24 hval
  obtain ⟨fuel, hf⟩ := h
  obtain ⟨y0, n, _, hl, h0⟩ := trod_struct1 Tryd.underlying24 hf
  rw [c24] at hl hs
  rw [c22] at h0
  obtain ⟨c0, rfl⟩ : ∃ c0, cs = #[c0] := by
    obtain ⟨l⟩ := cs
    match l, hs with
    | [c0], _ => exact ⟨c0, rfl⟩
  have e0 : DataW.trod enc Tryd.prog W 0 spare held n 22 [c0] = some y0 := h0
  have hs : ∃ a len cap, c0 = .slice a len cap := by
    rcases Go.Deep.open_slice Tryd.underlying22 e0 with ⟨hcs, _⟩ | ⟨ad, len', cap', m, n, D, Pl, hcs, _⟩
    · exact ⟨_, _, _, by simpa using hcs⟩
    · exact ⟨_, _, _, by simpa using hcs⟩
  obtain ⟨a, len, cap, rfl⟩ := hs
  obtain ⟨gs, hll, hlc, hC, hin⟩ := open_gates Tryd.underlying22 e0
  subst hll
  exact ⟨a, cap, gs, rfl, hlc, hC, hin⟩
set_option maxRecDepth 100000 in
/-- Numbers that came in. -/
theorem open_nums {spare : Nat → Bool} {held : Bool} {v : Value} {d : DataW H} {p : List MemPlace} (hval : Value.okWide Tryd.prog W .any base 25 v) (h : DataW.Trod enc Tryd.prog W 0 spare held 25 v d p) :
    ∃ A c, ∃ l : List Int, v = .slice A l.length c ∧ l.length ≤ c ∧ Kd.C (Kd.int .i64) W A l.length l ∧ ∀ k ∈ l, in64 k := by
  obtain ⟨a, len, cap, rfl⟩ := okWide_slice Tryd.underlying25 hval
  obtain ⟨fuel, hf⟩ := h
  obtain ⟨l, hll, hlc, hC, hin⟩ := open_list64 Tryd.underlying25 Tryd.underlying3 (by kernel_rfl) hf
  subst hll
  exact ⟨a, cap, l, rfl, hlc, hC, hin⟩
end
end Go.Proofs.YtcafgpfecfocnaaDoor.RowBits

namespace Go.Proofs.YtcafgpfecfocnaaDoor.reapFew
open Go.ChangeShapes Go.WideShapes Go.ChangeAt Go.RowKit Go.Proofs.YtcafgpfecfocnaaDoor.P Go.Proofs.YtcafgpfecfocnaaDoorW.PrintWords Go.Proofs.YtcafgpfecfocnaaDoor.RowBits

theorem walk (A0 : Option Addr) (c0 : Nat) (gs : List S50) (A1 : Option Addr) (c1 : Nat) (rs : List Int) (W : World) (hT : Tabs W) (h0 : Kd.C k50 W A0 gs.length gs) (hc0 : gs.length ≤ c0) (h1 : Kd.C (Kd.int .i64) W A1 rs.length rs) (hc1 : rs.length ≤ c1) (hg : ∀ g ∈ gs, goodG g) :
    Calls Tryd.prog 4 #[.agg #[.slice A0 gs.length c0], .slice A1 rs.length c1] W fun e W' => e = .returned (.bool true) ∧ Below W.heap.size W W' := by
  obtain ⟨k, hk⟩ := reapFew_pure gs rs hg
  exact cleanselaw18_ReapFew.calls k A0 c0 gs A1 c1 rs true W hT h0 hc0 h1 hc1 hk
set_option maxRecDepth 100000 in
theorem contract (H : Type) (enc : TypeId × Value → H) (W : World) (base : Nat) (args : Array Value) (ds gs : List (DataW H)) (before : List MemPlace)
    (hval : ∀ (j : Nat) t v, Tryd.f4.params[j]? = some t → args[j]? = some v → Value.okWide Tryd.prog W .any base t v)
    (hW : DataW.Whole enc Tryd.prog Tryd.f4.params.toList Rows.reapFewSpec.vars false W args.toList ds gs before) (hL : laidMetH Tryd.prog Rows.reapFewRow.laid W) :
    Calls Tryd.prog 4 args W fun e W' => ∃ v, e = .returned v ∧ Rows.reapFewSpec.post enc Tryd.prog Tryd.f4 false true false false W args v W' := by
  have hW' := hW
  obtain ⟨p, q, hA0, hV, rfl, hfz, hnd⟩ := hW
  have hA : DataW.TrodAll enc Tryd.prog W 0 (fun _ => true) true Tryd.f4.params.toList args.toList ds p := hA0
  rw [Tryd.params4] at hA hval
  obtain ⟨v0, vs0, d0, ds0, p0, q0, hargs, rfl, rfl, h0, r0⟩ := trodAll_cons hA
  obtain ⟨v1, vs1, d1, ds1, p1, q1, rfl, rfl, rfl, h1, r1⟩ := trodAll_cons r0
  obtain ⟨rfl, rfl, rfl⟩ := trodAll_nil r1
  obtain rfl : args = #[v0, v1] := by cases args; simp_all
  obtain ⟨rfl, rfl⟩ := trodVars_none hV
  have k0 := h0
  have k1 := h1
  have lt0 : ∀ x ∈ p0, x.block < W.heap.size := by obtain ⟨m, hm⟩ := k0; exact DataW.trod_lt m _ _ _ hm
  have lt1 : ∀ x ∈ p1, x.block < W.heap.size := by obtain ⟨m, hm⟩ := k1; exact DataW.trod_lt m _ _ _ hm
  obtain ⟨A0, c0, cs, rfl, hc0, hC0, hg⟩ := open_circuit (hval 0 24 v0 rfl rfl) h0
  obtain ⟨A1, c1, rs, rfl, hc1, hC1, _⟩ := open_nums (hval 1 25 v1 rfl rfl) h1
  clear hA0
  refine (walk A0 c0 cs A1 c1 rs W (table hL) hC0 hc0 hC1 hc1 hg).mono fun e W' ⟨he, bel⟩ => ?_
  subst he
  exact ⟨_, rfl, _, _, _, [], _, [], hW', trodAll_mk1 (shut_bool Tryd.underlying4 _), (trodAll_cons_mk (Below.trod laidOut (by kernel_rfl) (of_decide_eq_true (by kernel_rfl)) k0 bel lt0) (trodAll_cons_mk (Below.trod laidOut (by kernel_rfl) (of_decide_eq_true (by kernel_rfl)) k1 bel lt1) trodAll_mk0)), rfl, bel.frame _, fun h => by cases h⟩
theorem reads (os : Os) {H : Type} (enc : TypeId × Value → H) : ∃ places, DataW.whole enc Tryd.prog ((laidWorld os).forCall (fun _ _ => 0) ⟨#[], #[.agg #[.slice none 0 0], .slice none 0 0], []⟩).memory Tryd.f4.params.toList Rows.reapFewSpec.vars false #[Value.agg #[.slice none 0 0], Value.slice none 0 0].toList 8 = some ([.agg [.nil], .nil], [], places) :=
  ⟨[], by kernel_rfl⟩
set_option maxRecDepth 100000 in
theorem lifted (os : Os) (started : os.Started) (H : Type) (enc : TypeId × Value → H) (F : Stop.Interp) :
    ReturnsInHanded {} Tryd.checked os 4 .any ((OpenSpec.ofChange Rows.reapFewSpec).preRow enc Tryd.prog Tryd.f4 Rows.reapFewRow.domain false Rows.reapFewRow.laid) (((OpenSpec.ofChange Rows.reapFewSpec).at F).post enc Tryd.prog Tryd.f4 false true false false) := by
  obtain ⟨places, hx⟩ := reads os enc
  refine returnsInHanded_of_row (C := Tryd.checked) (s := OpenSpec.ofChange Rows.reapFewSpec) own started (by kernel_rfl) Tryd.func4
    (witness_row_at (enc := enc) (C := Tryd.checked) false (laidWorld os) #[.agg #[.slice none 0 0], .slice none 0 0] rfl (by kernel_rfl) (by kernel_rfl) (by kernel_rfl)
      (OpenSpec.preRow_of_cond 8 hx (by kernel_rfl) (fun k hk => by cases hk) (by kernel_rfl) (laid_met os _))) ?_
  intro W base args ds gs before hval hW _ _ _ hL _ _
  exact contract H enc W base args ds gs before hval hW hL
theorem said : Rows.ReapFewSaid :=
  OpenClaim.holds_of_cond 4 Tryd.f4 rfl rfl rfl rfl rfl rfl rfl ⟨rfl, rfl, rfl, rfl, rfl⟩ rfl rfl rfl rfl rfl (by kernel_rfl) Tryd.func4 (by kernel_rfl)
    (of_decide_eq_true (by kernel_rfl)) (by unfold Func.isWrapper; first | (rw [if_pos (by decide +kernel)]; kernel_rfl) | (rw [if_neg (by decide +kernel)]; exact ⟨rfl, rfl⟩))
    (fun os started H enc _ F => by rw [OpenClaim.pre_eq_preRow]; exact lifted os started H enc F)
theorem plain (f : FuncId) (fn : Func) (hf : Tryd.pinned.checked.prog.funcNamed "cleanse/cleanselaw18.ReapFew" = some f) (hfn : Tryd.pinned.checked.prog.funcs[f]? = some fn) :
    false = Tryd.pinned.checked.prog.looks [] ∧ ∀ (j : Nat) t, fn.params[j]? = some t → Tryd.pinned.checked.prog.wantsStandIn t = false := by
  obtain rfl : f = 4 := Option.some.inj ((show Tryd.prog.funcNamed "cleanse/cleanselaw18.ReapFew" = some 4 by kernel_rfl).symm.trans hf) |>.symm
  obtain rfl : fn = Tryd.f4 := (Option.some.inj (Tryd.func4.symm.trans hfn)).symm
  refine ⟨by kernel_rfl, fun j t ht => ?_⟩
  rw [Tryd.params4] at ht
  have hm := Array.mem_of_getElem? ht
  simp only [List.mem_toArray, List.mem_cons, List.not_mem_nil, or_false] at hm
  rcases hm with rfl | rfl
  · exact (show Tryd.prog.wantsStandIn 24 = false by kernel_rfl)
  · exact (show Tryd.prog.wantsStandIn 25 = false by kernel_rfl)
/-- The card. -/
theorem card : Rows.ReapFewCardSaid :=
  Claim7.holds_tied_plain_at .later [] _ _ _ _ said (fun _ h => by cases h) (by kernel_rfl) (fun _ h => by cases h) reapFew_row_tie rfl ⟨rfl, rfl⟩ (by kernel_rfl) rfl plain (by kernel_rfl)
end Go.Proofs.YtcafgpfecfocnaaDoor.reapFew
namespace Go.Proofs.YtcafgpfecfocnaaDoor
theorem reapFew_holds : Rows.ReapFewCardSaid := reapFew.card
end Go.Proofs.YtcafgpfecfocnaaDoor
