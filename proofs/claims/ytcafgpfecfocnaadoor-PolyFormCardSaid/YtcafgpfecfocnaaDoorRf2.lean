/- What the claim's proof needs: Open, PureName, PureOrd, PolySort, PolySort2, PolyTimes, PureText, PolyRes, PolyRes2, PolyRes3, PureVal, PureFac, PureSum, PolyPut, HPolyAdd, HPolyEval, PolyMulP, HPolyMul. -/
import Derived.Test.YtcafgpfecfocnaaDoorRf1
import Derived.ChangeSlices
import Derived.Deep.Strs
import Derived.Sort.Statements
import Derived.Lib.Join
import Derived.Lib.ItoaLen
import Derived.Test.YtcafgpfecfocnaaDoorRfPx9
import Derived.Test.YtcafgpfecfocnaaDoorRfPx10
/- What comes in as an argument, laid open: lists of numbers, circuits. -/
namespace Go.Proofs.YtcafgpfecfocnaaDoor.P
open Go.RowKit Go.ChangeShapes Go.WideShapes Go.Deep Go.Proofs.YtcafgpfecfocnaaDoorW.PrintWords
set_option linter.unusedVariables false
set_option linter.unusedSimpArgs false

section
variable {H : Type} {enc : TypeId × Value → H} {w : World} {base : Nat} {spare : Nat → Bool} {held : Bool}
theorem wf_in64 {n : Int} (h : (Lit.int .i64 n).wf = true) : in64 n := by
  simp only [Lit.wf, Bool.and_eq_true, decide_eq_true_eq] at h
  have h1 : IntKind.min .i64 = -9223372036854775808 := rfl
  have h2 : IntKind.max .i64 = 9223372036854775807 := rfl
  rw [h1, h2] at h
  exact h
theorem maxLen_le {c : Nat} (h : c ≤ maxLen) : c ≤ 9223372036854775807 := h
end
end Go.Proofs.YtcafgpfecfocnaaDoor.P

/- Names of gates are names of one gate. -/
namespace Go.Proofs.YtcafgpfecfocnaaDoor.P
set_option linter.unusedVariables false
set_option linter.unusedSimpArgs false

def decVal (l : List UInt8) : Nat := l.foldl (fun a c => a * 10 + (c.toNat - 48)) 0
theorem decVal_snoc (l : List UInt8) (c : UInt8) : decVal (l ++ [c]) = decVal l * 10 + (c.toNat - 48) := by
  unfold decVal
  rw [List.foldl_append]
  rfl
theorem digit_nat {d : Nat} (h : d < 10) : (UInt8.ofNat (48 + d)).toNat = 48 + d := by
  simp only [UInt8.toNat_ofNat']
  omega
theorem decVal_dec (u : Nat) : decVal (Lib.decDigits u) = u := by
  induction u using Nat.strongRecOn with
  | ind u ih =>
    rw [Lib.decDigits]
    by_cases h : u < 10
    · rw [dif_pos h]
      show 0 * 10 + ((UInt8.ofNat (48 + u)).toNat - 48) = u
      rw [digit_nat h]; omega
    · rw [dif_neg h, decVal_snoc, ih (u / 10) (by omega), digit_nat (by omega)]
      omega
theorem dec_chars (u : Nat) : ∀ c ∈ Lib.decDigits u, 48 ≤ c.toNat ∧ c.toNat ≤ 57 := by
  induction u using Nat.strongRecOn with
  | ind u ih =>
    rw [Lib.decDigits]
    by_cases h : u < 10
    · rw [dif_pos h]
      intro c hc
      rw [List.mem_singleton.1 hc, digit_nat h]; omega
    · rw [dif_neg h]
      intro c hc
      rcases List.mem_append.1 hc with hc | hc
      · exact ih (u / 10) (by omega) c hc
      · rw [List.mem_singleton.1 hc, digit_nat (by omega)]; omega
theorem itoa_chars (n : Int) : ∀ c ∈ Lib.itoa n, c.toNat = 45 ∨ (48 ≤ c.toNat ∧ c.toNat ≤ 57) := by
  unfold Lib.itoa
  split
  · intro c hc
    rcases List.mem_cons.1 hc with rfl | hc
    · exact .inl rfl
    · exact .inr (dec_chars _ c hc)
  · intro c hc
    exact .inr (dec_chars _ c hc)
theorem itoa_inj {a b : Int} (h : Lib.itoa a = Lib.itoa b) : a = b := by
  have key : ∀ (u v : Nat), Lib.decDigits u = Lib.decDigits v → u = v := fun u v h => by rw [← decVal_dec u, h, decVal_dec]
  have head : ∀ (u v : Nat), Lib.decDigits u = 45 :: Lib.decDigits v → False := fun u v h => by
    have := (dec_chars u 45 (by rw [h]; simp)).1
    simp at this
  unfold Lib.itoa at h
  by_cases ha : a < 0 <;> by_cases hb : b < 0
  · rw [if_pos ha, if_pos hb] at h
    have := key _ _ (List.cons.inj h).2
    omega
  · rw [if_pos ha, if_neg hb] at h
    exact (head _ _ h.symm).elim
  · rw [if_neg ha, if_pos hb] at h
    exact (head _ _ h).elim
  · rw [if_neg ha, if_neg hb] at h
    have := key _ _ h
    omega
/-- A list that is cut at its first s. -/
theorem cut_at {α : Type} {s : α} : ∀ {a b x y : List α}, s ∉ a → s ∉ b → a ++ s :: x = b ++ s :: y → a = b ∧ x = y
  | [], [], x, y, _, _, h => ⟨rfl, (List.cons.inj h).2⟩
  | [], c :: b, x, y, _, hb, h => by
    have := (List.cons.inj h).1
    exact absurd (by rw [this]; simp) hb
  | c :: a, [], x, y, ha, _, h => by
    have := (List.cons.inj h).1
    exact absurd (by rw [← this]; simp) ha
  | c :: a, d :: b, x, y, ha, hb, h => by
    obtain ⟨h1, h2⟩ := List.cons.inj h
    obtain ⟨h3, h4⟩ := cut_at (fun hm => ha (by simp [hm])) (fun hm => hb (by simp [hm])) h2
    exact ⟨by rw [h1, h3], h4⟩
end Go.Proofs.YtcafgpfecfocnaaDoor.P

/- The order of powers is a strict total order (plain law). -/
namespace Go.Proofs.YtcafgpfecfocnaaDoor.P
set_option linter.unusedVariables false
set_option linter.unusedSimpArgs false

theorem s70_ext {x y : S70} (h0 : x.f0 = y.f0) (h1 : x.f1 = y.f1) : x = y := by cases x; cases y; simp at h0 h1; rw [h0, h1]
instance s70_dec : DecidableEq S70 := fun x y =>
  if h : x.f0 = y.f0 ∧ x.f1 = y.f1 then isTrue (s70_ext h.1 h.2) else isFalse (fun e => h ⟨by rw [e], by rw [e]⟩)
theorem s68_ext {x y : S68} (h0 : x.f0 = y.f0) (h1 : x.f1 = y.f1) : x = y := by cases x; cases y; simp at h0 h1; rw [h0, h1]
instance s68_dec : DecidableEq S68 := fun x y =>
  if h : x.f0 = y.f0 ∧ x.f1 = y.f1 then isTrue (s68_ext h.1 h.2) else isFalse (fun e => h ⟨by rw [e], by rw [e]⟩)
theorem compS_anti (a b : Int) : compS b a = - compS a b := by unfold compS; split <;> split <;> first | omega | (split <;> omega) | rfl
theorem compS_zero {a b : Int} : compS a b = 0 ↔ a = b := by unfold compS; split <;> (try split) <;> omega
theorem compS_neg {a b : Int} : compS a b < 0 ↔ a < b := by unfold compS; split <;> (try split) <;> omega
theorem compS_one (a b : Int) : compS a b = -1 ∨ compS a b = 0 ∨ compS a b = 1 := by unfold compS; split <;> (try split) <;> omega
theorem powS_one (x y : S70) : powS x y = -1 ∨ powS x y = 0 ∨ powS x y = 1 := by
  unfold powS
  split
  · exact compS_one _ _
  · exact compS_one _ _
theorem powS_anti (x y : S70) : powS y x = - powS x y := by
  unfold powS
  rw [compS_anti x.f0 y.f0, compS_anti x.f1 y.f1]
  by_cases h : compS x.f0 y.f0 = 0
  · rw [if_neg (by omega), if_neg (by omega)]
  · rw [if_pos (by omega), if_pos h]
theorem powS_zero {x y : S70} : powS x y = 0 ↔ x = y := by
  unfold powS
  constructor
  · intro h
    by_cases h0 : compS x.f0 y.f0 = 0
    · rw [if_neg (by omega)] at h
      exact s70_ext (compS_zero.1 h0) (compS_zero.1 h)
    · rw [if_pos h0] at h; exact absurd h h0
  · rintro rfl
    rw [compS_zero.2 rfl, compS_zero.2 rfl]
    simp
theorem powS_neg {x y : S70} : powS x y < 0 ↔ x.f0 < y.f0 ∨ (x.f0 = y.f0 ∧ x.f1 < y.f1) := by
  unfold powS
  have h1 := @compS_neg x.f0 y.f0
  have h2 := @compS_neg x.f1 y.f1
  have h3 := @compS_zero x.f0 y.f0
  split <;> omega
theorem powS_trans {x y z : S70} (h : powS x y < 0) (k : powS y z < 0) : powS x z < 0 := by
  rw [powS_neg] at *
  omega
theorem orderS_one : ∀ a b, orderS a b = -1 ∨ orderS a b = 0 ∨ orderS a b = 1
  | [], [] => by simp [orderS]
  | [], y :: b => by simp [orderS]
  | x :: a, [] => by simp [orderS]
  | x :: a, y :: b => by
    unfold orderS
    split
    · exact powS_one x y
    · exact orderS_one a b
theorem orderS_anti : ∀ a b, orderS b a = - orderS a b
  | [], [] => rfl
  | [], y :: b => rfl
  | x :: a, [] => rfl
  | x :: a, y :: b => by
    unfold orderS
    rw [powS_anti x y, orderS_anti a b]
    by_cases h : powS x y = 0
    · rw [if_neg (by omega), if_neg (by omega)]
    · rw [if_pos (by omega), if_pos h]
theorem orderS_zero : ∀ {a b}, orderS a b = 0 ↔ a = b
  | [], [] => by simp [orderS]
  | [], y :: b => by simp [orderS]
  | x :: a, [] => by simp [orderS]
  | x :: a, y :: b => by
    unfold orderS
    by_cases h : powS x y = 0
    · rw [if_neg (by omega), orderS_zero, powS_zero.1 h]
      simp
    · rw [if_pos h]
      constructor
      · intro h0; exact absurd h0 h
      · intro e; exact absurd (powS_zero.2 (List.cons.inj e).1) h
theorem orderS_trans : ∀ {a b c}, orderS a b < 0 → orderS b c < 0 → orderS a c < 0
  | [], [], _ => by intro h; simp [orderS] at h
  | [], _ :: _, [] => by intro _ h; simp [orderS] at h
  | [], _ :: _, _ :: _ => by intro _ _; simp [orderS]
  | _ :: _, [], _ => by intro h; simp [orderS] at h
  | _ :: _, _ :: _, [] => by intro _ h; simp [orderS] at h
  | x :: a, y :: b, z :: c => by
    unfold orderS
    intro h k
    by_cases h0 : powS x y = 0
    · rw [if_neg (by omega)] at h
      have e := powS_zero.1 h0
      subst e
      by_cases k0 : powS x z = 0
      · rw [if_neg (by omega)] at k ⊢
        exact orderS_trans h k
      · rw [if_pos k0] at k ⊢
        exact k
    · rw [if_pos h0] at h
      by_cases k0 : powS y z = 0
      · have e := powS_zero.1 k0
        subst e
        rw [if_pos h0]; exact h
      · rw [if_pos k0] at k
        have := powS_trans h k
        rw [if_pos (by omega)]; exact this
theorem orderS_self (a : List S70) : orderS a a = 0 := orderS_zero.2 rfl
theorem orderS_pos {a b : List S70} : 0 < orderS a b ↔ orderS b a < 0 := by rw [orderS_anti a b]; omega
theorem orderS_ntrans {a b c : List S70} (h : ¬ orderS a b < 0) (k : ¬ orderS b c < 0) : ¬ orderS a c < 0 := by
  rcases Int.lt_trichotomy (orderS a b) 0 with h1 | h1 | h1
  · exact absurd h1 h
  · rw [orderS_zero.1 h1]; exact k
  · rcases Int.lt_trichotomy (orderS b c) 0 with k1 | k1 | k1
    · exact absurd k1 k
    · rw [← orderS_zero.1 k1]; exact h
    · have := orderS_trans (orderS_pos.1 k1) (orderS_pos.1 h1)
      have := orderS_pos.2 this
      omega
end Go.Proofs.YtcafgpfecfocnaaDoor.P

/- slices.SortFunc over raw monomials, with the closure of (sum).result: the row is permuted and lies in order. -/
namespace Go.Proofs.YtcafgpfecfocnaaDoor.P
open Go.RowKit Go.Maps Go.Proofs.YtcafgpfecfocnaaDoorW.PrintWords Go.Proofs.YtcafgpfecfocnaaDoorW.PrintLast Go.Proofs.YtcafgpfecfocnaaDoorW.PrintMore
set_option linter.unusedVariables false
set_option linter.unusedSimpArgs false

theorem eg88 : ∀ args w, (callFunc 88 args).run Tryd.prog w = .ok (.enter 88 args) w := enters_of Tryd.func88 (by kernel_rfl) rfl
def encM (x : M2) : List Value := [.int .i64 x.c, x.v]
set_option maxRecDepth 100000 in
set_option maxHeartbeats 4000000 in
theorem clos88 (x y : M2) (a b : S68) (W : World) (ok : Nat → Prop) (hx : Mono W ok x a) (hy : Mono W ok y b) :
    Calls Tryd.prog 88 #[.agg #[.int .i64 x.c, x.v], .agg #[.int .i64 y.c, y.v]] W fun e W' => e = .returned (.int .i64 (orderS a.f1 b.f1)) ∧ Grw W W' := by
  obtain ⟨xc, xv⟩ := x
  obtain ⟨yc, yv⟩ := y
  obtain ⟨_, A, c, rfl, hA, hFA⟩ := hx
  obtain ⟨_, B, d, rfl, hB, hFB⟩ := hy
  have HX := Aside0.mk (Kd.F_now hFA)
  have HY := Aside0.mk (Kd.F_now hFB)
  have HA := Aside0.mk hA
  have HB := Aside0.mk hB
  generalize a.f1 = l at *
  generalize b.f1 = m at *
  clear hFA hFB hA hB
  go_enter Tryd.func88, Tryd.ntmps88
  go_wp2_with (first
    | (go_at_call 69; (with_reducible refine (order_calls A c l B d m _ (Kd.C_below HX.out (below_alloc (below_alloc (Below.refl _ _) _) _)) HA.out (Kd.C_below HY.out (below_alloc (below_alloc (Below.refl _ _) _) _)) HB.out).mono ?_); rintro e w1 ⟨rfl, hb⟩; have HW := Aside0.mk hb; clear hb))
  go_ret
  exact ⟨rfl, ((((Grw.refl _).alloc _).alloc _).trans HW.out)⟩
section
variable {α : Type} [Inhabited α]
theorem sortW_size (enc : α → List Value) (k : Nat) (w : World) (blk off n : Nat) (d : Array α) (os : Array Obj) : (sortWorldK enc k w blk off n d os).heap.size = w.heap.size + os.size := by
  unfold sortWorldK Sort.putRowK Sort.putRow Sort.mapBlock Sort.grow Sort.ahead
  simp
theorem sortW_heap (enc : α → List Value) (k : Nat) (w : World) (blk off n : Nat) (d : Array α) (os : Array Obj) (i : Nat) (hi : i < w.heap.size) : (sortWorldK enc k w blk off n d os).heap[i]? = if blk = i then (w.heap[i]?).map (Sort.onCells (Sort.putCells id off (Sort.flatK enc k d))) else w.heap[i]? := by
  unfold sortWorldK Sort.putRowK Sort.putRow Sort.mapBlock Sort.grow Sort.ahead
  show ((w.heap.modify blk _) ++ os)[i]? = _
  rw [Array.getElem?_append_left (by simpa using hi), Array.getElem?_modify]
theorem sortW_grown (enc : α → List Value) (k : Nat) (w : World) (blk off n : Nat) (d : Array α) (os : Array Obj) : w.grownBy (sortWorldK enc k w blk off n d os) (some blk) :=
  ⟨rfl, rfl, rfl, by rw [sortW_size]; omega, fun i hi hne => by rw [sortW_heap _ _ _ _ _ _ _ _ i hi, if_neg (fun h => hne (by rw [h]))]⟩
end
/-- A row of raw monomials, its block known. -/
theorem kM2_block {w : World} {base blk cap : Nat} {ok : Nat → Prop} {xs : List M2} {n : Nat} (h : kM2.R 68 w base ok (.slice (some ⟨blk, 0, none⟩) n cap) xs) :
    n = xs.length ∧ base ≤ blk ∧ n ≤ cap ∧ cap ≤ maxLen ∧ (∀ x ∈ xs, x.v.oneCell' = true) ∧ ∃ cur, w.heap[blk]? = some (.cells cur 68 (0, 0)) ∧ cur.size = cap * 2 ∧ ∀ (i : Nat) x, xs[i]? = some x → cur[i * 2]? = some (.int .i64 x.c) ∧ cur[i * 2 + 1]? = some x.v := by
  obtain ⟨_, inner, ⟨hl, ho⟩, hr⟩ := h
  rcases ho with ⟨h1, _⟩ | ⟨g, cp, cur, e, hb, hh, h1, h2, h3, h4⟩
  · cases h1
  · simp only [Value.slice.injEq, Option.some.injEq, Addr.mk.injEq] at e
    obtain ⟨⟨rfl, _, _⟩, hn, rfl⟩ := e
    refine ⟨hn, hb, by omega, h2, fun x hx => ?_, cur, hh, h3, fun i x hx => ?_⟩
    · obtain ⟨i, hi, rfl⟩ := List.getElem_of_mem hx
      exact (hr.2 i _ (List.getElem?_eq_getElem hi)).2
    · have hi : i < xs.length := (List.getElem?_eq_some_iff.1 hx).1
      have hp := (hr.2 i x hx).1
      have h5 : ∀ q, q < 2 → inner[i * 2 + q]? = ([.int .i64 x.c, x.v] : List Value)[q]? := by
        intro q hq
        rw [← hp, List.getElem?_take]
        show _ = if q < 2 then _ else _
        rw [if_pos hq, List.getElem?_drop]
        rfl
      have h6 : ∀ q, q < 2 → cur[i * 2 + q]? = ([.int .i64 x.c, x.v] : List Value)[q]? := by
        intro q hq
        rw [← h5 q hq, ← h4, List.getElem?_take]
        have h7 : i * 2 + q < xs.length * kM2.sz := by show _ < _ * 2; omega
        rw [if_pos h7]
        simp
      exact ⟨h6 0 (by omega), h6 1 (by omega)⟩
section
variable {α : Type} [Inhabited α]
theorem div_two (i q : Nat) (hq : q < 2) : (i * 2 + q) / 2 = i ∧ (i * 2 + q) % 2 = q := by omega
theorem flat_get (enc : α → List Value) (d : Array α) (i q : Nat) (hi : i < d.size) (hq : q < 2) : (Sort.flatK enc 2 d)[i * 2 + q]! = (enc d[i]!)[q]! := by
  rw [Sort.get_flatK _ _ _ _ (by omega), (div_two i q hq).1, (div_two i q hq).2]
/-- The row's cells hold d. -/
theorem holds_of_block {w : World} {blk : Nat} {cur : Array Value} (pr : α → M2) (d : Array α) (hb : w.heap[blk]? = some (.cells cur 68 (0, 0))) (h : ∀ (i : Nat) x, i < d.size → pr d[i]! = x → cur[i * 2]? = some (.int .i64 x.c) ∧ cur[i * 2 + 1]? = some x.v) :
    Sort.HoldsK (fun a => encM (pr a)) 2 w blk 0 d := by
  intro j hj
  rw [Sort.size_flatK] at hj
  obtain ⟨i, q, hq, rfl⟩ : ∃ i q, q < 2 ∧ j = i * 2 + q := ⟨j / 2, j % 2, by omega, by omega⟩
  rw [flat_get _ _ _ _ (by omega) hq, Nat.zero_add]
  refine ⟨?_, blk_frozen hb _⟩
  obtain ⟨h0, h1⟩ := h i _ (by omega) rfl
  refine (blk_cell hb _).trans ?_
  match q, hq with
  | 0, _ => exact h0
  | 1, _ => exact h1
/-- Behind the sort the row is owned as before, and holds d. -/
theorem row_of_sort {w : World} {base blk cap n : Nat} {cur : Array Value} (pr : α → M2) (d : Array α) (os : Array Obj) (hb : w.heap[blk]? = some (.cells cur 68 (0, 0))) (hbase : base ≤ blk) (hn : d.size ≤ cap) (hmax : cap ≤ maxLen) (hcur : cur.size = cap * 2) (h1 : ∀ i, i < d.size → (pr d[i]!).v.oneCell' = true) :
    kM2.R 68 (sortWorldK (fun a => encM (pr a)) 2 w blk 0 n d os) base (fun _ => True) (.slice (some ⟨blk, 0, none⟩) d.size cap) (d.toList.map pr) := by
  have hlt := blk_lt hb
  have hh : (sortWorldK (fun a => encM (pr a)) 2 w blk 0 n d os).heap[blk]? = some (.cells (Sort.putCells id 0 (Sort.flatK (fun a => encM (pr a)) 2 d) cur) 68 (0, 0)) := by
    rw [sortW_heap _ _ _ _ _ _ _ _ _ hlt, if_pos rfl, hb]
    rfl
  have hsz : (Sort.putCells id 0 (Sort.flatK (fun a => encM (pr a)) 2 d) cur).size = cur.size := by simp [Sort.putCells]
  have hget : ∀ t, t < d.size * 2 → (Sort.putCells id 0 (Sort.flatK (fun a => encM (pr a)) 2 d) cur)[t]? = some ((Sort.flatK (fun a => encM (pr a)) 2 d)[t]!) := by
    intro t ht
    unfold Sort.putCells
    rw [Array.getElem?_mapIdx]
    have : t < cur.size := by omega
    rw [Array.getElem?_eq_getElem this, Option.map_some, if_pos ⟨Nat.zero_le _, by rw [Sort.size_flatK]; omega⟩]
    rfl
  refine ⟨fun _ _ => trivial, (Sort.putCells id 0 (Sort.flatK (fun a => encM (pr a)) 2 d) cur).toList.take (d.size * 2), ⟨?_, .inr ⟨blk, cap, _, ?_, hbase, hh, ?_, hmax, by rw [hsz, hcur]; rfl, ?_⟩⟩, ?_⟩
  · rw [List.length_take, Array.length_toList, hsz, hcur, List.length_map, Array.length_toList]
    show min (d.size * 2) (cap * 2) = d.size * 2
    omega
  · rw [List.length_map, Array.length_toList]
  · rw [List.length_map, Array.length_toList]; exact hn
  · rw [List.length_map, Array.length_toList]; rfl
  · refine ⟨?_, fun i x hx => ?_⟩
    · rw [List.length_take, Array.length_toList, hsz, hcur, List.length_map, Array.length_toList]
      show min (d.size * 2) (cap * 2) = d.size * 2
      omega
    · rw [List.getElem?_map] at hx
      obtain ⟨a, ha, rfl⟩ := Option.map_eq_some_iff.1 hx
      rw [Array.getElem?_toList] at ha
      obtain ⟨hi, ha⟩ := Array.getElem?_eq_some_iff.1 ha
      have e : d[i]! = a := by rw [getElem!_pos d i hi, ha]
      refine ⟨?_, by rw [← e]; exact h1 i hi⟩
      have h5 : ∀ q, q < 2 → ((((Sort.putCells id 0 (Sort.flatK (fun a => encM (pr a)) 2 d) cur).toList.take (d.size * 2)).drop (i * 2)).take 2)[q]? = (encM (pr a))[q]? := by
        intro q hq
        rw [List.getElem?_take, if_pos hq, List.getElem?_drop, List.getElem?_take, if_pos (by omega), Array.getElem?_toList, hget _ (by omega), flat_get _ _ _ _ hi hq, e]
        match q, hq with
        | 0, _ => rfl
        | 1, _ => rfl
      apply List.ext_getElem?
      intro q
      by_cases hq : q < 2
      · exact h5 q hq
      · rw [List.getElem?_eq_none (by rw [List.length_take]; show min 2 _ ≤ q; omega), List.getElem?_eq_none (by show 2 ≤ q; omega)]
end
end Go.Proofs.YtcafgpfecfocnaaDoor.P

/- slices.SortFunc over raw monomials: the walk. -/
namespace Go.Proofs.YtcafgpfecfocnaaDoor.P
open Go.RowKit Go.Maps Go.Proofs.YtcafgpfecfocnaaDoorW.PrintWords Go.Proofs.YtcafgpfecfocnaaDoorW.PrintLast Go.Proofs.YtcafgpfecfocnaaDoorW.PrintMore
set_option linter.unusedVariables false
set_option linter.unusedSimpArgs false

/-- A raw monomial with what it reads es. -/
def MP (W : World) (ok : Nat → Prop) : Type := { p : M2 × S68 // Mono W ok p.1 p.2 }
instance MP_inh (W : World) (ok : Nat → Prop) : Inhabited (MP W ok) := ⟨⟨(⟨0, .slice none 0 0⟩, ⟨0, []⟩), rfl, Pw.nil W ok⟩⟩
def MP.raw {W : World} {ok : Nat → Prop} (a : MP W ok) : M2 := a.1.1
def MP.mon {W : World} {ok : Nat → Prop} (a : MP W ok) : S68 := a.1.2
def cfM {W : World} {ok : Nat → Prop} (a b : MP W ok) : Int := orderS a.mon.f1 b.mon.f1
theorem cfM_swo (W : World) (ok : Nat → Prop) : Sort.SWO (ltOf (cfM (W := W) (ok := ok))) where
  irrefl := fun x => by unfold ltOf cfM; rw [orderS_self]; rfl
  trans := fun x y z h k => by
    unfold ltOf cfM at *
    rw [decide_eq_true_iff] at *
    exact orderS_trans h k
  ntrans := fun x y z h k => by
    unfold ltOf cfM at *
    rw [decide_eq_false_iff_not] at *
    exact orderS_ntrans h k
set_option maxRecDepth 100000 in
set_option maxHeartbeats 4000000 in
theorem sortfunc_walk {α : Type} [Inhabited α] (enc : α → List Value) (cf : α → α → Int) (hO : Sort.SWO (ltOf cf)) (hk : ∀ x, (enc x).length = 2) (h1 : ∀ x, ∀ v ∈ enc x, v.oneCell' = true) (blk cap : Nat) (d : Array α) (w : World)
    (hcmp : CmpLays Tryd.prog 88 #[] enc 2 cf blk 0 d.size w) (hH : Sort.HoldsK enc 2 w blk 0 d) (hblk : blk < w.heap.size) (hsz : d.size < 4611686018427387904) :
    Calls Tryd.prog 87 #[.slice (some ⟨blk, 0, none⟩) d.size cap, .func (.func 88) #[] #[]] w fun e w' => e = .returned (.tuple #[]) ∧ ∃ n os d', w' = sortWorldK enc 2 w blk 0 n d' os ∧ Sort.PermIn 0 d.size d d' ∧ Sort.SortedIn (ltOf cf) 0 d.size d' := by
  have hlim : Lib.bitLen d.size < 4611686018427387904 := Nat.lt_of_le_of_lt (Lib.bitLen_le d.size 62 (by omega) (by omega)) (by omega)
  have hp : Calls Tryd.prog 103 #[.slice (some ⟨blk, 0, none⟩) d.size cap, .int .i64 0, .int .i64 d.size, .int .i64 (Lib.bitLen d.size : Nat), .func (.func 88) #[] #[]] w fun e w' => e = .returned (.tuple #[]) ∧ SWK enc 2 w blk 0 (Sort.pdq (ltOf cf) d 0 d.size (Lib.bitLen d.size) true true) w' :=
    AnyQ.pdqsortCmpFunc_all Tryd.pdqM 2 Tryd.isAgg68 Tryd.sizeOf68 enc cf 88 #[] hO blk 0 cap d w eg88 hcmp ⟨hk, h1, hH, hblk⟩ (d.size + 1) 0 d.size (Lib.bitLen d.size) d w (by omega) rfl (SWK.start hH) (Nat.zero_le _) (Nat.le_refl _) hsz hlim (Or.inl rfl)
  have hl : Calls Tryd.prog 104 #[.int .u64 (d.size : Int)] w fun e w' => e = .returned (.int .i64 (Lib.bitLen d.size : Nat)) ∧ w' = w := by
    have h := Any.bits_Len (SlLaysF0.n15.bits (P := Tryd.prog) (ρ := Tryd.lenM_ren) { Tryd.lenM with }) (d.size : Int) w (by omega) (by omega)
    rwa [Int.toNat_natCast] at h
  have wr : IntKind.u64.wrap (d.size : Int) = d.size := by simp [IntKind.wrap, IntKind.bits, IntKind.signed]; omega
  have HS := Aside0.mk (Sort.pdq_sorts (ltOf cf) hO d 0 d.size (Lib.bitLen d.size) true true (Nat.zero_le _) (Nat.le_refl _) (Or.inl rfl))
  have HP := Aside0.mk hp
  have HL := Aside0.mk hl
  clear hH hcmp hk h1 hp hl hO
  go_enter Tryd.func87, Tryd.ntmps87
  go_wp2_with (first
    | (go_at_call 104; (with_reducible refine HL.out.mono ?_); rintro e w' ⟨rfl, rfl⟩)
    | (go_at_call 103; (with_reducible refine HP.out.mono ?_); rintro e w' ⟨rfl, n, os, rfl⟩))
  go_end0
  exact ⟨rfl, n, os, _, rfl, HS.out.1, HS.out.2⟩
theorem map_of_get {α β : Type} {f : α → β} {es : List α} {bs : List β} (hl : es.length = bs.length) (h : ∀ (i : Nat) a, es[i]? = some a → bs[i]? = some (f a)) : es.map f = bs := by
  apply List.ext_getElem?
  intro i
  rw [List.getElem?_map]
  rcases Nat.lt_or_ge i es.length with hi | hi
  · rw [List.getElem?_eq_getElem hi, Option.map_some, h i _ (List.getElem?_eq_getElem hi)]
  · rw [List.getElem?_eq_none hi, List.getElem?_eq_none (by omega)]; rfl
theorem pairs_of {w : World} {ok : Nat → Prop} {xs : List M2} {l : List S68} (h : Mons w ok xs l) : ∃ es : List (MP w ok), es.length = xs.length ∧ es.map MP.raw = xs ∧ es.map MP.mon = l := by
  obtain ⟨es, hl, ha⟩ := pick_list (P := fun i (a : MP w ok) => xs[i]? = some a.raw ∧ l[i]? = some a.mon) xs.length (fun i hi => by
    have h1 := List.getElem?_eq_getElem hi
    have h2 := List.getElem?_eq_getElem (show i < l.length by rw [← h.1]; exact hi)
    exact ⟨⟨(xs[i], l[i]'(by rw [← h.1]; exact hi)), h.2 i _ _ h1 h2⟩, h1, h2⟩)
  exact ⟨es, hl, map_of_get hl (fun i a hi => (ha i a hi).1), map_of_get (hl.trans h.1) (fun i a hi => (ha i a hi).2)⟩
theorem mons_of_pairs {w w' : World} {ok ok' : Nat → Prop} (es : List (MP w ok)) (h : ∀ (x : M2) (m : S68), Mono w ok x m → Mono w' ok' x m) : Mons w' ok' (es.map MP.raw) (es.map MP.mon) := by
  refine ⟨by simp, fun i x m h1 h2 => ?_⟩
  rw [List.getElem?_map] at h1 h2
  obtain ⟨a, ha, rfl⟩ := Option.map_eq_some_iff.1 h1
  rw [ha] at h2
  obtain rfl := Option.some.inj h2
  exact h _ _ a.2
theorem Mono.step {w w' : World} {ok : Nat → Prop} {x : M2} {m : S68} (h : Mono w ok x m) (hm : ∀ k, ok k → k < w.heap.size → w'.heap[k]? = w.heap[k]?) : Mono w' ok x m := ⟨h.1, h.2.step hm⟩
/-- slices.SortFunc over a row of monomials that the call owns. -/
theorem sort_calls (base blk cap : Nat) (xs : List M2) (l : List S68) (w : World) (hR : kM2.R 68 w base (fun _ => True) (.slice (some ⟨blk, 0, none⟩) xs.length cap) xs) (ok : Nat → Prop) (hok : ∀ k, ok k → k ≠ blk) (hM : Mons w ok xs l) (hsz : xs.length < 4611686018427387904) :
    Calls Tryd.prog 87 #[.slice (some ⟨blk, 0, none⟩) xs.length cap, .func (.func 88) #[] #[]] w fun e w' => e = .returned (.tuple #[]) ∧ ∃ ys m, kM2.R 68 w' base (fun _ => True) (.slice (some ⟨blk, 0, none⟩) xs.length cap) ys ∧ ys.length = xs.length ∧ Mons w' ok ys m ∧ m.Perm l ∧ m.Pairwise (fun a b => ¬ orderS b.f1 a.f1 < 0) ∧ w.grownBy w' (some blk) := by
  obtain ⟨_, hbase, hn, hmax, hone, cur, hb, hcur, hcells⟩ := kM2_block hR
  obtain ⟨es, hal, hraw, hmon⟩ := pairs_of hM
  have hds : es.toArray.size = xs.length := by simp [hal]
  have hget : ∀ i, i < es.toArray.size → ∃ a, es.toArray[i]! = a ∧ xs[i]? = some a.raw ∧ a ∈ es := by
    intro i hi
    have hi' : i < es.length := by simpa using hi
    refine ⟨es[i], by simp [hi'], ?_, List.getElem_mem hi'⟩
    rw [← hraw, List.getElem?_map, List.getElem?_eq_getElem hi']
    rfl
  have hH : Sort.HoldsK (fun a : MP w ok => encM a.raw) 2 w blk 0 es.toArray := holds_of_block MP.raw es.toArray hb (fun i x hi hx => by
    obtain ⟨a, e, hxi, _⟩ := hget i hi
    rw [e] at hx
    subst hx
    exact hcells i _ hxi)
  have hcmp : CmpLays Tryd.prog 88 #[] (fun a : MP w ok => encM a.raw) 2 cfM blk 0 es.toArray.size w := by
    intro m os dk hdk x y
    have hst : ∀ (p : M2) (q : S68), Mono w ok p q → Mono (sortWorldK (fun a : MP w ok => encM a.raw) 2 w blk 0 m dk os) ok p q := fun p q h => h.step (fun k hk hlt => (sortW_grown _ _ _ _ _ _ _ _).block k hlt (fun e => hok k hk (Option.some.inj e)))
    refine (clos88 x.raw y.raw x.mon y.mon _ _ (hst _ _ x.2) (hst _ _ y.2)).mono ?_
    rintro e w' ⟨rfl, hg⟩
    obtain ⟨q, os', e⟩ := hg.form
    exact ⟨rfl, q, os', e⟩
  have hwalk := sortfunc_walk (fun a : MP w ok => encM a.raw) cfM (cfM_swo _ _) (fun _ => rfl) (fun a v hv => by
    rcases List.mem_cons.1 hv with rfl | hv
    · rfl
    · rcases List.mem_cons.1 hv with rfl | hv
      · exact a.2.2.one
      · cases hv) blk cap es.toArray w hcmp hH (blk_lt hb) (by rw [hds]; exact hsz)
  rw [hds] at hwalk
  refine hwalk.mono ?_
  rintro e w' ⟨rfl, n, os, d', rfl, hperm, hsort⟩
  have hd' : d'.size = xs.length := hperm.1.trans hds
  have hp2 : d'.toList.Perm es := by
    have := hperm.2.2
    rw [show d'.extract 0 xs.length = d' by rw [← hd']; simp, show es.toArray.extract 0 xs.length = es.toArray by rw [← hds]; simp] at this
    simpa using this
  refine ⟨rfl, d'.toList.map MP.raw, d'.toList.map MP.mon, ?_, by simp [hd'], ?_, ?_, ?_, sortW_grown _ _ _ _ _ _ _ _⟩
  · rw [← hd']
    exact row_of_sort MP.raw d' os hb hbase (by omega) hmax hcur (fun i hi => (d'[i]!).2.2.one)
  · exact mons_of_pairs _ (fun x m h => h.step (fun k hk hlt => (sortW_grown _ _ _ _ _ _ _ _).block k hlt (fun e => hok k hk (Option.some.inj e))))
  · rw [← hmon]
    exact hp2.map _
  · rw [List.pairwise_map, List.pairwise_iff_getElem]
    intro i j hi hj hij
    have hi' : i < d'.size := by simpa using hi
    have hj' : j < d'.size := by simpa using hj
    have h3 := hsort i j (Nat.zero_le _) hij (by omega)
    rw [getElem!_pos d' i hi', getElem!_pos d' j hj'] at h3
    unfold ltOf cfM at h3
    rw [decide_eq_false_iff_not] at h3
    exact h3
set_option maxHeartbeats 2000000 in
theorem insertion_nil (p : Option Addr) (cap : Nat) (fv : Value) (w : World) : Calls Tryd.prog 111 #[.slice p 0 cap, .int .i64 0, .int .i64 0, fv] w fun e w' => e = .returned (.tuple #[]) ∧ w' = w := by
  go_enter Tryd.func111, Tryd.ntmps111
  go_wp2
  refine wp_loop_rounds 1 ?_
  rw [rounds_succ]
  go_wp2
  go_end0
  exact ⟨rfl, rfl⟩
set_option maxRecDepth 100000 in
set_option maxHeartbeats 2000000 in
theorem pdq_nil (p : Option Addr) (cap : Nat) (lim : Int) (fv : Value) (w : World) : Calls Tryd.prog 103 #[.slice p 0 cap, .int .i64 0, .int .i64 0, .int .i64 lim, fv] w fun e w' => e = .returned (.tuple #[]) ∧ w' = w := by
  go_enter Tryd.func103, Tryd.ntmps103
  go_wp2
  refine wp_loop_rounds 1 ?_
  rw [rounds_succ]
  go_wp2_with (go_at_call 111; refine (insertion_nil p cap fv _).mono ?_; rintro e w' ⟨rfl, rfl⟩)
  (try simp only [Exit.inBlock, Exit.then]); refine bodyPost_ret (results_none rfl _ _ _) rfl ?_
  exact ⟨rfl, rfl⟩
set_option maxHeartbeats 2000000 in
/-- slices.SortFunc at no element. -/
theorem sort_nil (p : Option Addr) (cap : Nat) (fv : Value) (w : World) : Calls Tryd.prog 87 #[.slice p 0 cap, fv] w fun e w' => e = .returned (.tuple #[]) ∧ w' = w := by
  have hl : ∀ W, Calls Tryd.prog 104 #[.int .u64 0] W fun e w' => e = .returned (.int .i64 (Lib.bitLen 0 : Nat)) ∧ w' = W := fun W => by
    have h := Any.bits_Len (SlLaysF0.n15.bits (P := Tryd.prog) (ρ := Tryd.lenM_ren) { Tryd.lenM with }) 0 W (by omega) (by omega)
    exact h
  go_enter Tryd.func87, Tryd.ntmps87
  go_wp2_with (first | (go_at_call 104; refine (hl _).mono ?_; rintro e w' ⟨rfl, rfl⟩) | (go_at_call 103; refine (pdq_nil p cap _ fv _).mono ?_; rintro e w' ⟨rfl, rfl⟩))
  go_end0
  exact ⟨rfl, rfl⟩
end Go.Proofs.YtcafgpfecfocnaaDoor.P

/- poly.times: the walk. -/
namespace Go.Proofs.YtcafgpfecfocnaaDoor.P
open Go.RowKit Go.Maps Go.Proofs.YtcafgpfecfocnaaDoorW.PrintWords Go.Proofs.YtcafgpfecfocnaaDoorW.PrintLast Go.Proofs.YtcafgpfecfocnaaDoorW.PrintMore
set_option linter.unusedVariables false
set_option linter.unusedSimpArgs false

def mergeP (x : S70) (a : List S70) (f : List S70 → List S70) : List S70 → List S70
  | [] => x :: a
  | y :: b => if x.f0 < y.f0 then x :: f (y :: b) else if y.f0 < x.f0 then y :: mergeP x a f b else ⟨x.f0, x.f1 + y.f1⟩ :: f b
/-- The powers of a product. -/
def timesS : List S70 → List S70 → List S70
  | [] => fun b => b
  | x :: a => mergeP x a (timesS a)
theorem timesS_nil (b : List S70) : timesS [] b = b := rfl
theorem timesS_nil_right (a : List S70) : timesS a [] = a := by cases a <;> rfl
theorem timesS_cons (x y : S70) (a b : List S70) : timesS (x :: a) (y :: b) = if x.f0 < y.f0 then x :: timesS a (y :: b) else if y.f0 < x.f0 then y :: timesS (x :: a) b else ⟨x.f0, x.f1 + y.f1⟩ :: timesS a b := rfl
theorem head_T70 {w : World} {A : Option Addr} {x : S70} {r : List S70} (h : Kd.C k70 w A (x :: r).length (x :: r)) : ∃ ad, A = some ad ∧ w.cell? ad = some (.int .i64 x.f0) ∧ w.cell? ⟨ad.block, ad.off + 1, none⟩ = some (.int .i64 x.f1) := by
  obtain ⟨ad, e, x0, x1⟩ := at_T70 h 0 (by omega) (by simp)
  have e0 : ad.add ((0 : Int).toNat * 2) = ad := by unfold Addr.add; rw [if_pos (by decide)]
  rw [e0] at x0 x1
  exact ⟨ad, e, x0, x1⟩
theorem eg65 : ∀ args w, (callFunc 65 args).run Tryd.prog w = .ok (.enter 65 args) w := enters_of Tryd.func65 (by kernel_rfl) rfl
theorem parts_get3 {α : Type} (p q r : Part α) (hd : Addr) (W : World) (h0 : W.cell? (hd.add 0) = some p.val) (h1 : W.cell? (hd.add 1) = some q.val) (h2 : W.cell? (hd.add 2) = some r.val) : ∀ (i : Nat) s, [p, q, r][i]? = some s → W.cell? (hd.add i) = some s.val := by
  intro i s h
  match i, h with
  | 0, h => obtain rfl := Option.some.inj h; exact h0
  | 1, h => obtain rfl := Option.some.inj h; exact h1
  | 2, h => obtain rfl := Option.some.inj h; exact h2
  | i + 3, h => simp at h
theorem conc_three (w : World) (g : Nat) (hg : w.heap.size = g) (A0 : Option Addr) (c0 : Nat) (xs : List S70) (A1 : Option Addr) (c1 : Nat) (ys : List S70) (A2 : Option Addr) (c2 : Nat) (zs : List S70) (h0 : Kd.C k70 w A0 xs.length xs) (hc0 : xs.length ≤ c0) (h1 : Kd.C k70 w A1 ys.length ys) (hc1 : ys.length ≤ c1) (h2 : Kd.C k70 w A2 zs.length zs) (hc2 : zs.length ≤ c2) (hl : (xs.length + (ys.length + zs.length)) * 16 ≤ 140737488355328) :
    Calls Tryd.prog 89 #[.slice (some ⟨g, 0, none⟩) 3 3] (w.alloc (.cells #[.slice A0 xs.length c0, .slice A1 ys.length c1, .slice A2 zs.length c2] 66)) fun e w' => ∃ v, e = .returned v ∧ k70.R 70 w' (g + 1) (fun _ => True) v (xs ++ (ys ++ zs)) ∧ Below (g + 1) (w.alloc (.cells #[.slice A0 xs.length c0, .slice A1 ys.length c1, .slice A2 zs.length c2] 66)) w' := by
  subst hg
  have hb := heap_alloc_new w (.cells #[.slice A0 xs.length c0, .slice A1 ys.length c1, .slice A2 zs.length c2] 66)
  have hsz : (w.alloc (.cells #[.slice A0 xs.length c0, .slice A1 ys.length c1, .slice A2 zs.length c2] 66)).heap.size = w.heap.size + 1 := by simp
  have hw := below_alloc (Below.refl w.heap.size w) (.cells #[.slice A0 xs.length c0, .slice A1 ys.length c1, .slice A2 zs.length c2] 66)
  have h := conc70_calls ⟨w.heap.size, 0, none⟩ [⟨A0, c0, xs⟩, ⟨A1, c1, ys⟩, ⟨A2, c2, zs⟩] (w.alloc (.cells #[.slice A0 xs.length c0, .slice A1 ys.length c1, .slice A2 zs.length c2] 66))
    (parts_get3 _ _ _ _ _ (by rw [add_plain]; exact (blk_cell hb 0).trans rfl) (by rw [add_plain]; exact (blk_cell hb 1).trans rfl) (by rw [add_plain]; exact (blk_cell hb 2).trans rfl))
    (fun p hp => by
      rcases List.mem_cons.1 hp with rfl | hp
      · exact ⟨Kd.C_below h0 hw, hc0⟩
      · rcases List.mem_cons.1 hp with rfl | hp
        · exact ⟨Kd.C_below h1 hw, hc1⟩
        · rcases List.mem_cons.1 hp with rfl | hp
          · exact ⟨Kd.C_below h2 hw, hc2⟩
          · cases hp) (by simp) (by show (xs.length + (ys.length + (zs.length + 0))) * 16 ≤ _; omega)
  rw [show partAll [⟨A0, c0, xs⟩, ⟨A1, c1, ys⟩, ⟨A2, c2, zs⟩] = xs ++ (ys ++ zs) by simp [partAll], hsz] at h
  exact h
set_option maxRecDepth 100000 in
set_option maxHeartbeats 8000000 in
theorem times_walk (A0 : Option Addr) (c0 : Nat) (a0 : List S70) (A1 : Option Addr) (c1 : Nat) (b0 : List S70) (W : World) (h0 : Kd.C k70 W A0 a0.length a0) (hc0 : a0.length ≤ c0) (h1 : Kd.C k70 W A1 b0.length b0) (hc1 : b0.length ≤ c1) (hl0 : a0.length ≤ 1000000) (hl1 : b0.length ≤ 1000000) (he0 : ∀ x ∈ a0, 0 ≤ x.f1 ∧ x.f1 ≤ 1000000) (he1 : ∀ x ∈ b0, 0 ≤ x.f1 ∧ x.f1 ≤ 1000000) :
    Calls Tryd.prog 65 #[.slice A0 a0.length c0, .slice A1 b0.length c1] W fun e w' => ∃ v, e = .returned v ∧ k70.R 70 w' W.heap.size (fun _ => True) v (timesS a0 b0) ∧ Below W.heap.size W w' := by
  have H0 := Aside0.mk h0
  have H1 := Aside0.mk h1
  have HC0 := Aside0.mk hc0
  have HC1 := Aside0.mk hc1
  have HX := Aside0.mk (And.intro he0 he1)
  clear h0 h1 hc0 hc1 he0 he1
  go_enter Tryd.func65, Tryd.ntmps65
  go_wp2
  go_loopg [0, 1, 5] (a0.length + b0.length) (fun gg s0 s1 s5 wr => ∃ (A : Option Addr) (c : Nat) (la : List S70) (B : Option Addr) (d : Nat) (lb : List S70) (os : List S70), s0 = .slice A la.length c ∧ s1 = .slice B lb.length d ∧ la.length + lb.length ≤ gg ∧ la.length ≤ 1000000 ∧ lb.length ≤ 1000000 ∧ os.length + la.length + lb.length ≤ 2000000 ∧ Aside0 (la.length ≤ c ∧ lb.length ≤ d) ∧ Aside0 (Kd.C k70 W A la.length la) ∧ Aside0 (Kd.C k70 W B lb.length lb) ∧ Aside0 (k70.R 70 wr W.heap.size (fun _ => True) s5 os) ∧ Aside0 (Below W.heap.size W wr) ∧ Aside0 (timesS a0 b0 = os ++ timesS la lb) ∧ Aside0 ((∀ x ∈ la, 0 ≤ x.f1 ∧ x.f1 ≤ 1000000) ∧ ∀ x ∈ lb, 0 ≤ x.f1 ∧ x.f1 ≤ 1000000))
  case atStart => exact ⟨A0, c0, a0, A1, c1, b0, [], rfl, rfl, Nat.le_refl _, hl0, hl1, by simp; omega, Aside0.mk ⟨HC0.out, HC1.out⟩, H0, H1, Aside0.mk (Kd.R_nil _ _ _ _ _), Aside0.mk (Below.refl _ _), Aside0.mk rfl, HX⟩
  case round =>
    clear H0 H1 HC0 HC1 HX
    obtain ⟨A, c, la, B, d, lb, os, rfl, rfl, hgg, hla, hlb, hos, HC, HA, HB, HO, HW, HE, HEX⟩ := hrel
    match la, lb with
    | [], lb =>
      obtain ⟨A5, c5, rfl⟩ := Kd.R_slice HO.out
      have HZ := Aside0.mk (show timesS a0 b0 = os ++ (([] : List S70) ++ lb) by rw [HE.out]; rfl)
      have HR5 := Aside0.mk (Kd.R_reads' HO.out)
      have HCALL := Aside0.mk (conc_three wr wr.heap.size rfl A5 c5 os A c ([] : List S70) B d lb HR5.out.2.2 HR5.out.2.1 (Kd.C_below HA.out HW.out) HC.out.1 (Kd.C_below HB.out HW.out) HC.out.2 (by simp at hos ⊢; omega))
      clear HE
      go_wp2_with (go_at_call 89; (refine HCALL.out.mono ?_); rintro e w5 ⟨v, rfl, hv, hb⟩; have HV := Aside0.mk hv; have HB5 := Aside0.mk hb; clear hv hb)
      go_ret
      exact ⟨_, rfl, by rw [HZ.out]; exact Kd.R_lower HV.out (Nat.le_succ_of_le HW.out.size), (below_alloc HW.out _).trans (HB5.out.mono (Nat.le_succ_of_le HW.out.size))⟩
    | x :: ra, [] =>
      obtain ⟨A5, c5, rfl⟩ := Kd.R_slice HO.out
      have HZ := Aside0.mk (show timesS a0 b0 = os ++ ((x :: ra) ++ ([] : List S70)) by rw [HE.out]; rw [timesS_nil_right, List.append_nil])
      have HR5 := Aside0.mk (Kd.R_reads' HO.out)
      have HCALL := Aside0.mk (conc_three wr wr.heap.size rfl A5 c5 os A c (x :: ra) B d ([] : List S70) HR5.out.2.2 HR5.out.2.1 (Kd.C_below HA.out HW.out) HC.out.1 (Kd.C_below HB.out HW.out) HC.out.2 (by simp at hos ⊢; omega))
      clear HE
      go_wp2_with (go_at_call 89; (refine HCALL.out.mono ?_); rintro e w5 ⟨v, rfl, hv, hb⟩; have HV := Aside0.mk hv; have HB5 := Aside0.mk hb; clear hv hb)
      go_ret
      exact ⟨_, rfl, by rw [HZ.out]; exact Kd.R_lower HV.out (Nat.le_succ_of_le HW.out.size), (below_alloc HW.out _).trans (HB5.out.mono (Nat.le_succ_of_le HW.out.size))⟩
    | x :: ra, y :: rb =>
      obtain ⟨ad, e, x0, x1⟩ := head_T70 (Kd.C_below HA.out HW.out)
      cases e
      obtain ⟨bd, e, y0, y1⟩ := head_T70 (Kd.C_below HB.out HW.out)
      cases e
      have hp0 : (0 : Int) < ((x :: ra).length : Int) := by simp
      have hp1 : (0 : Int) < ((y :: rb).length : Int) := by simp
      obtain ⟨na, hna⟩ : ∃ na, na = (x :: ra).length := ⟨_, rfl⟩
      obtain ⟨nb, hnb⟩ : ∃ nb, nb = (y :: rb).length := ⟨_, rfl⟩
      rw [← hna] at hp0 hgg hla hos HA HC ⊢
      rw [← hnb] at hp1 hgg hlb hos HB HC ⊢
      have HNA := Aside0.mk hna
      have HNB := Aside0.mk hnb
      clear hna hnb
      have hx1 := (HEX.out.1 x (by simp)).1
      have hx2 := (HEX.out.1 x (by simp)).2
      have hy1 := (HEX.out.2 y (by simp)).1
      have hy2 := (HEX.out.2 y (by simp)).2
      have HEA := Aside0.mk (And.intro (fun z (hz : z ∈ ra) => HEX.out.1 z (by simp [hz])) HEX.out.2)
      have HEB := Aside0.mk (And.intro HEX.out.1 (fun z (hz : z ∈ rb) => HEX.out.2 z (by simp [hz])))
      have HEC := Aside0.mk (And.intro (fun z (hz : z ∈ ra) => HEX.out.1 z (by simp [hz])) (fun z (hz : z ∈ rb) => HEX.out.2 z (by simp [hz])))
      have HW2g := Aside0.mk (fun n => pw_below_drewN HW.out n)
      have hsz16 : (os.length + 1) * 16 ≤ 140737488355328 := by omega
      have HL16 := Aside0.mk hsz16
      clear hsz16
      obtain ⟨i66, hi66, hz66⟩ := Option.map_eq_some_iff.1 info70
      simp only [Prod.mk.injEq] at hz66
      have ha1 := cut_from (P := Tryd.prog) 66 70 .i64 Tryd.underlying66 hi66 2 hz66.2.1 (some ad) na c 1 (by omega) (by omega)
      have hb1 := cut_from (P := Tryd.prog) 66 70 .i64 Tryd.underlying66 hi66 2 hz66.2.1 (some bd) nb d 1 (by omega) (by omega)
      have HA1 := Aside0.mk (show Kd.C k70 W (if c = (1 : Int).toNat then some ad else (some ad).map (·.add ((1 : Int).toNat * 2))) ra.length ra from Kd.C_drop (m := 1) (by rw [HNA.out] at HA; exact HA.out) (by simp) (by rw [← HNA.out]; exact HC.out.1))
      have HB1 := Aside0.mk (show Kd.C k70 W (if d = (1 : Int).toNat then some bd else (some bd).map (·.add ((1 : Int).toNat * 2))) rb.length rb from Kd.C_drop (m := 1) (by rw [HNB.out] at HB; exact HB.out) (by simp) (by rw [← HNB.out]; exact HC.out.2))
      obtain ⟨Aa, hAa⟩ : ∃ Aa, Aa = (if c = (1 : Int).toNat then some ad else (some ad).map (·.add ((1 : Int).toNat * 2))) := ⟨_, rfl⟩
      obtain ⟨Bb, hBb⟩ : ∃ Bb, Bb = (if d = (1 : Int).toNat then some bd else (some bd).map (·.add ((1 : Int).toNat * 2))) := ⟨_, rfl⟩
      rw [← hAa] at ha1 HA1
      rw [← hBb] at hb1 HB1
      rw [show na - (1 : Int).toNat = ra.length by rw [HNA.out]; simp, show c - (1 : Int).toNat = c - 1 from rfl] at ha1
      rw [show nb - (1 : Int).toNat = rb.length by rw [HNB.out]; simp, show d - (1 : Int).toNat = d - 1 from rfl] at hb1
      clear hAa hBb hi66 hz66
      have hna2 : na = ra.length + 1 := by rw [HNA.out]; simp
      have hnb2 : nb = rb.length + 1 := by rw [HNB.out]; simp
      have HN2 := Aside0.mk (And.intro hna2 hnb2)
      have HAx := Aside0.mk (show Kd.C k70 W (some ad) (x :: ra).length (x :: ra) by rw [← HNA.out]; exact HA.out)
      have HBx := Aside0.mk (show Kd.C k70 W (some bd) (y :: rb).length (y :: rb) by rw [← HNB.out]; exact HB.out)
      have HCN := Aside0.mk (show ra.length ≤ c - 1 ∧ rb.length ≤ d - 1 ∧ (x :: ra).length ≤ c ∧ (y :: rb).length ≤ d by have := HC.out; simp; omega)
      have HGG := Aside0.mk hgg
      have HSZ := Aside0.mk (And.intro hla (And.intro hlb hos))
      clear hna2 hnb2
      by_cases hlt : x.f0 < y.f0
      · go_wp2
        go_quiet (fail)
        all_goals go_wp2
        have HELDa := x0
        have HELDb := x1
        have HO2 := Aside0.mk (Kd.R_drew (Kd.R_drewN HO.out nq))
        have HW2 := Aside0.mk (below_drew (HW2g.out nq))
        have HELD := Aside0.mk (show (wr.drewN nq).drew.cell? ad = some (.int .i64 x.f0) ∧ (wr.drewN nq).drew.cell? ⟨ad.block, ad.off + 1, none⟩ = some (.int .i64 x.f1) from ⟨HELDa, HELDb⟩)
        refine start_ (n := 10) (S := fun w' => w'.cell? ad = some (.int .i64 x.f0) ∧ w'.cell? ⟨ad.block, ad.off + 1, none⟩ = some (.int .i64 x.f1)) (ds := [5]) #[false, false, false, false, false, false, false, false, false, false] (by kernel_rfl) rfl rfl HELD.out (fun hHeld => ?_)
        refine pure_ (i := 0) (N := some 45) (v := ?_) (a' := ?_) #[true, false, false, false, false, false, false, false, false, false] rfl rfl (by kernel_rfl) (fun _ _ _ h => h) (Or.inl ⟨by rfl, ?_⟩) ?_ ?_
        rotate_left
        · intro w'
          go_simp
          with_reducible rfl
        rotate_left
        · simp only [Act.put, List.setIfInBounds_toArray, List.set_cons_zero, List.set_cons_succ, i64_w, i32_w]
          rfl
        refine pure_ (i := 1) (N := some 46) (v := ?_) (a' := ?_) #[true, true, false, false, false, false, false, false, false, false] rfl rfl (by kernel_rfl) (fun _ _ _ h => h) (Or.inl ⟨by rfl, ?_⟩) ?_ ?_
        rotate_left
        · intro w'
          go_simp
          with_reducible rfl
        rotate_left
        · simp only [Act.put, List.setIfInBounds_toArray, List.set_cons_zero, List.set_cons_succ, i64_w, i32_w]
          rfl
        refine pure_ (i := 2) (N := some 47) (v := ?_) (a' := ?_) #[true, true, true, false, false, false, false, false, false, false] rfl rfl (by kernel_rfl) (fun _ _ _ h => h) (Or.inl ⟨by rfl, ?_⟩) ?_ ?_
        rotate_left
        · intro w'
          go_simp
          with_reducible rfl
        rotate_left
        · simp only [Act.put, List.setIfInBounds_toArray, List.set_cons_zero, List.set_cons_succ, i64_w, i32_w]
          rfl
        refine pure_ (i := 6) (N := some 51) (v := ?_) (a' := ?_) #[true, true, true, false, false, false, true, false, false, false] rfl rfl (by kernel_rfl) (fun _ _ _ h => h) (Or.inl ⟨by rfl, ?_⟩) ?_ ?_
        rotate_left
        · intro w'
          go_simp
          with_reducible rfl
        rotate_left
        · simp only [Act.put, List.setIfInBounds_toArray, List.set_cons_zero, List.set_cons_succ, i64_w, i32_w]
          rfl
        refine pure_ (i := 7) (N := some 52) (v := ?_) (a' := ?_) #[true, true, true, false, false, false, true, true, false, false] rfl rfl (by kernel_rfl) (fun _ _ _ h => h) (Or.inl ⟨by rfl, ?_⟩) ?_ ?_
        rotate_left
        · intro w'
          go_simp
          with_reducible rfl
        rotate_left
        · simp only [Act.put, List.setIfInBounds_toArray, List.set_cons_zero, List.set_cons_succ, i64_w, i32_w]
          rfl
        refine take_ (i := 3) (N := some 48) (v := ?_) (a' := ?_) #[true, true, true, true, false, false, true, true, false, false] rfl rfl (by kernel_rfl) (fun _ _ _ h => h) (Or.inl ⟨by rfl, ?_⟩) hHeld ?_ ?_
        rotate_left
        · rintro w' ⟨s0, s1⟩
          go_simp
          with_reducible rfl
        rotate_left
        · simp only [Act.put, List.setIfInBounds_toArray, List.set_cons_zero, List.set_cons_succ, i64_w, i32_w]
          rfl
        refine one_ (i := 4) (N := some 49) #[true, true, true, true, true, false, true, true, false, false] rfl rfl (by kernel_rfl) (by decide) (fun K hK => ?_)
        refine value_ (w1 := ((wr.drewN nq).drew).alloc (.cells #[.int .i64 x.f0, .int .i64 x.f1] 70)) (v := .slice (some ⟨((wr.drewN nq).drew).heap.size, 0, none⟩) 1 1) (by rfl) rfl ?_ ?_
        · first | (go_simp; done) | (go_simp; rfl)
        refine hK.out _ _ (And.intro ((World.cell?_alloc_lt _ _ _ (World.block_lt_of_cell? _ _ hHeld.1)).trans hHeld.1) ((World.cell?_alloc_lt _ _ _ (World.block_lt_of_cell? _ _ hHeld.2)).trans hHeld.2)) (fun hHeld => ?_)
        clear hK K
        refine norm_ (a' := ?_) ?_ ?_
        rotate_left
        · show Act.put _ (some 49) _ = _
          simp only [Act.put, List.setIfInBounds_toArray, List.set_cons_zero, List.set_cons_succ, i64_w, i32_w]
          rfl
        refine last_ (i := 5) (N := some 50) #[true, true, true, true, true, true, true, true, false, false] rfl rfl (by kernel_rfl) (by decide) (fun K hK => ?_)
        refine Kd.R_append_step k70 (w0 := W) W.heap.size (by rfl) (.tmp 45) (.tmp 49) 66 70 (.agg #[.int .i64 0, .int .i64 0]) 16 rfl Tryd.underlying66 info70 rfl (by decide) (by decide) u5 os x [.int .i64 x.f0, .int .i64 x.f1] (fun _ => True) (fun _ => False) rfl rfl (k70_mkM _ _ _ _) (fun _ hk => hk.elim) (fun _ _ => trivial) HO2.out HW2.out HW2.out.size HL16.out ?_
        intro v1 w1 ho hb hg hat
        have HO3 := Aside0.mk ho
        have HW3 := Aside0.mk hb
        clear ho hb hg hat
        refine hK.out _ _ ?_
        clear hK K
        refine norm_ (a' := ?_) ?_ ?_
        rotate_left
        · show Act.put _ (some 50) _ = _
          simp only [Act.put, List.setIfInBounds_toArray, List.set_cons_zero, List.set_cons_succ, i64_w, i32_w]
          rfl
        refine pure_ (i := 8) (N := some 5) (v := ?_) (a' := ?_) #[true, true, true, true, true, true, true, true, true, false] rfl rfl (by kernel_rfl) (fun _ _ _ h => h) (Or.inl ⟨by rfl, ?_⟩) ?_ ?_
        rotate_left
        · intro w'
          go_simp
          with_reducible rfl
        rotate_left
        · simp only [Act.put, List.setIfInBounds_toArray, List.set_cons_zero, List.set_cons_succ, i64_w, i32_w]
          rfl
        refine pure_ (i := 9) (N := some 0) (v := ?_) (a' := ?_) #[true, true, true, true, true, true, true, true, true, true] rfl rfl (by kernel_rfl) (fun _ _ _ h => h) (Or.inl ⟨by rfl, ?_⟩) ?_ ?_
        rotate_left
        · intro w'
          go_simp
          with_reducible rfl
        rotate_left
        · simp only [Act.put, List.setIfInBounds_toArray, List.set_cons_zero, List.set_cons_succ, i64_w, i32_w]
          rfl
        refine done_ (by kernel_rfl) ?_
        have HE2 := Aside0.mk (show timesS a0 b0 = (os ++ [x]) ++ timesS ra (y :: rb) by rw [HE.out, timesS_cons]; rw [if_pos hlt]; simp)
        go_wp2
        go_roundg (ra.length + nb)
        case measure => have := HGG.out; have := HN2.out; (try simp only [List.length_cons]); omega
        case rel => exact ⟨Aa, c - 1, ra, some bd, d, (y :: rb), os ++ [x], rfl, by rw [HNB.out], by have := HN2.out; (try simp only [List.length_cons]); omega, by have := HN2.out; have := HSZ.out; (try simp only [List.length_cons]); omega, by have := HN2.out; have := HSZ.out; (try simp only [List.length_cons]); omega, by have := HN2.out; have := HSZ.out; (try simp only [List.length_cons, List.length_append, List.length_nil]); omega, Aside0.mk ⟨HCN.out.1, HCN.out.2.2.2⟩, HA1, HBx, HO3, HW3, HE2, HEA⟩
      · by_cases hgt : y.f0 < x.f0
        · go_wp2
          go_quiet (fail)
          have HO1 := Aside0.mk (Kd.R_drewN HO.out nq)
          have HW1 := Aside0.mk (HW2g.out nq)
          have HX0 : (wr.drewN nq).cell? ad = some (.int .i64 x.f0) := x0
          have HX1 : (wr.drewN nq).cell? ⟨ad.block, ad.off + 1, none⟩ = some (.int .i64 x.f1) := x1
          have HY0 : (wr.drewN nq).cell? bd = some (.int .i64 y.f0) := y0
          have HY1 : (wr.drewN nq).cell? ⟨bd.block, bd.off + 1, none⟩ = some (.int .i64 y.f1) := y1
          clear x0 x1 y0 y1 HO HW HW2g
          generalize wr.drewN nq = w4 at HO1 HW1 HX0 HX1 HY0 HY1 ⊢
          go_wp2
          go_quiet (fail)
          all_goals go_wp2
          have HO2 := Aside0.mk (Kd.R_drew (Kd.R_drewN HO1.out nq))
          have HW2 := Aside0.mk (below_drew (pw_below_drewN HW1.out nq))
          have HELDa := HY0
          have HELDb := HY1
          have HELD := Aside0.mk (show (w4.drewN nq).drew.cell? bd = some (.int .i64 y.f0) ∧ (w4.drewN nq).drew.cell? ⟨bd.block, bd.off + 1, none⟩ = some (.int .i64 y.f1) from ⟨HELDa, HELDb⟩)
          refine start_ (n := 10) (S := fun w' => w'.cell? bd = some (.int .i64 y.f0) ∧ w'.cell? ⟨bd.block, bd.off + 1, none⟩ = some (.int .i64 y.f1)) (ds := [5]) #[false, false, false, false, false, false, false, false, false, false] (by kernel_rfl) rfl rfl HELD.out (fun hHeld => ?_)
          refine pure_ (i := 0) (N := some 63) (v := ?_) (a' := ?_) #[true, false, false, false, false, false, false, false, false, false] rfl rfl (by kernel_rfl) (fun _ _ _ h => h) (Or.inl ⟨by rfl, ?_⟩) ?_ ?_
          rotate_left
          · intro w'
            go_simp
            with_reducible rfl
          rotate_left
          · simp only [Act.put, List.setIfInBounds_toArray, List.set_cons_zero, List.set_cons_succ, i64_w, i32_w]
            rfl
          refine pure_ (i := 1) (N := some 64) (v := ?_) (a' := ?_) #[true, true, false, false, false, false, false, false, false, false] rfl rfl (by kernel_rfl) (fun _ _ _ h => h) (Or.inl ⟨by rfl, ?_⟩) ?_ ?_
          rotate_left
          · intro w'
            go_simp
            with_reducible rfl
          rotate_left
          · simp only [Act.put, List.setIfInBounds_toArray, List.set_cons_zero, List.set_cons_succ, i64_w, i32_w]
            rfl
          refine pure_ (i := 2) (N := some 65) (v := ?_) (a' := ?_) #[true, true, true, false, false, false, false, false, false, false] rfl rfl (by kernel_rfl) (fun _ _ _ h => h) (Or.inl ⟨by rfl, ?_⟩) ?_ ?_
          rotate_left
          · intro w'
            go_simp
            with_reducible rfl
          rotate_left
          · simp only [Act.put, List.setIfInBounds_toArray, List.set_cons_zero, List.set_cons_succ, i64_w, i32_w]
            rfl
          refine pure_ (i := 6) (N := some 69) (v := ?_) (a' := ?_) #[true, true, true, false, false, false, true, false, false, false] rfl rfl (by kernel_rfl) (fun _ _ _ h => h) (Or.inl ⟨by rfl, ?_⟩) ?_ ?_
          rotate_left
          · intro w'
            go_simp
            with_reducible rfl
          rotate_left
          · simp only [Act.put, List.setIfInBounds_toArray, List.set_cons_zero, List.set_cons_succ, i64_w, i32_w]
            rfl
          refine pure_ (i := 7) (N := some 70) (v := ?_) (a' := ?_) #[true, true, true, false, false, false, true, true, false, false] rfl rfl (by kernel_rfl) (fun _ _ _ h => h) (Or.inl ⟨by rfl, ?_⟩) ?_ ?_
          rotate_left
          · intro w'
            go_simp
            with_reducible rfl
          rotate_left
          · simp only [Act.put, List.setIfInBounds_toArray, List.set_cons_zero, List.set_cons_succ, i64_w, i32_w]
            rfl
          refine take_ (i := 3) (N := some 66) (v := ?_) (a' := ?_) #[true, true, true, true, false, false, true, true, false, false] rfl rfl (by kernel_rfl) (fun _ _ _ h => h) (Or.inl ⟨by rfl, ?_⟩) hHeld ?_ ?_
          rotate_left
          · rintro w' ⟨s0, s1⟩
            go_simp
            with_reducible rfl
          rotate_left
          · simp only [Act.put, List.setIfInBounds_toArray, List.set_cons_zero, List.set_cons_succ, i64_w, i32_w]
            rfl
          refine one_ (i := 4) (N := some 67) #[true, true, true, true, true, false, true, true, false, false] rfl rfl (by kernel_rfl) (by decide) (fun K hK => ?_)
          refine value_ (w1 := ((w4.drewN nq).drew).alloc (.cells #[.int .i64 y.f0, .int .i64 y.f1] 70)) (v := .slice (some ⟨((w4.drewN nq).drew).heap.size, 0, none⟩) 1 1) (by rfl) rfl ?_ ?_
          · first | (go_simp; done) | (go_simp; rfl)
          refine hK.out _ _ (And.intro ((World.cell?_alloc_lt _ _ _ (World.block_lt_of_cell? _ _ hHeld.1)).trans hHeld.1) ((World.cell?_alloc_lt _ _ _ (World.block_lt_of_cell? _ _ hHeld.2)).trans hHeld.2)) (fun hHeld => ?_)
          clear hK K
          refine norm_ (a' := ?_) ?_ ?_
          rotate_left
          · show Act.put _ (some 67) _ = _
            simp only [Act.put, List.setIfInBounds_toArray, List.set_cons_zero, List.set_cons_succ, i64_w, i32_w]
            rfl
          refine last_ (i := 5) (N := some 68) #[true, true, true, true, true, true, true, true, false, false] rfl rfl (by kernel_rfl) (by decide) (fun K hK => ?_)
          refine Kd.R_append_step k70 (w0 := W) W.heap.size (by rfl) (.tmp 63) (.tmp 67) 66 70 (.agg #[.int .i64 0, .int .i64 0]) 16 rfl Tryd.underlying66 info70 rfl (by decide) (by decide) u5 os y [.int .i64 y.f0, .int .i64 y.f1] (fun _ => True) (fun _ => False) rfl rfl (k70_mkM _ _ _ _) (fun _ hk => hk.elim) (fun _ _ => trivial) HO2.out HW2.out HW2.out.size HL16.out ?_
          intro v1 w1 ho hb hg hat
          have HO3 := Aside0.mk ho
          have HW3 := Aside0.mk hb
          clear ho hb hg hat
          refine hK.out _ _ ?_
          clear hK K
          refine norm_ (a' := ?_) ?_ ?_
          rotate_left
          · show Act.put _ (some 68) _ = _
            simp only [Act.put, List.setIfInBounds_toArray, List.set_cons_zero, List.set_cons_succ, i64_w, i32_w]
            rfl
          refine pure_ (i := 8) (N := some 5) (v := ?_) (a' := ?_) #[true, true, true, true, true, true, true, true, true, false] rfl rfl (by kernel_rfl) (fun _ _ _ h => h) (Or.inl ⟨by rfl, ?_⟩) ?_ ?_
          rotate_left
          · intro w'
            go_simp
            with_reducible rfl
          rotate_left
          · simp only [Act.put, List.setIfInBounds_toArray, List.set_cons_zero, List.set_cons_succ, i64_w, i32_w]
            rfl
          refine pure_ (i := 9) (N := some 1) (v := ?_) (a' := ?_) #[true, true, true, true, true, true, true, true, true, true] rfl rfl (by kernel_rfl) (fun _ _ _ h => h) (Or.inl ⟨by rfl, ?_⟩) ?_ ?_
          rotate_left
          · intro w'
            go_simp
            with_reducible rfl
          rotate_left
          · simp only [Act.put, List.setIfInBounds_toArray, List.set_cons_zero, List.set_cons_succ, i64_w, i32_w]
            rfl
          refine done_ (by kernel_rfl) ?_
          have HE2 := Aside0.mk (show timesS a0 b0 = (os ++ [y]) ++ timesS (x :: ra) rb by rw [HE.out, timesS_cons]; rw [if_neg (show ¬ x.f0 < y.f0 by omega), if_pos hgt]; simp)
          go_wp2
          go_roundg (na + rb.length)
          case measure => have := HGG.out; have := HN2.out; (try simp only [List.length_cons]); omega
          case rel => exact ⟨some ad, c, (x :: ra), Bb, d - 1, rb, os ++ [y], by rw [HNA.out], rfl, by have := HN2.out; (try simp only [List.length_cons]); omega, by have := HN2.out; have := HSZ.out; (try simp only [List.length_cons]); omega, by have := HN2.out; have := HSZ.out; (try simp only [List.length_cons]); omega, by have := HN2.out; have := HSZ.out; (try simp only [List.length_cons, List.length_append, List.length_nil]); omega, Aside0.mk ⟨HCN.out.2.2.1, HCN.out.2.1⟩, HAx, HB1, HO3, HW3, HE2, HEB⟩
        · go_wp2
          go_quiet (fail)
          have HO1 := Aside0.mk (Kd.R_drewN HO.out nq)
          have HW1 := Aside0.mk (HW2g.out nq)
          have HX0 : (wr.drewN nq).cell? ad = some (.int .i64 x.f0) := x0
          have HX1 : (wr.drewN nq).cell? ⟨ad.block, ad.off + 1, none⟩ = some (.int .i64 x.f1) := x1
          have HY0 : (wr.drewN nq).cell? bd = some (.int .i64 y.f0) := y0
          have HY1 : (wr.drewN nq).cell? ⟨bd.block, bd.off + 1, none⟩ = some (.int .i64 y.f1) := y1
          clear x0 x1 y0 y1 HO HW HW2g
          generalize wr.drewN nq = w4 at HO1 HW1 HX0 HX1 HY0 HY1 ⊢
          go_wp2
          go_quiet (fail)
          all_goals go_wp2
          have HO2 := Aside0.mk (Kd.R_drew (Kd.R_drewN HO1.out nq))
          have HW2 := Aside0.mk (below_drew (pw_below_drewN HW1.out nq))
          have HELDa := HX0
          have HELDb := HX1
          have HELDc := HY0
          have HELDd := HY1
          have hwr : wrap64 (x.f1 + y.f1) = x.f1 + y.f1 := by unfold wrap64; omega
          have HELD := Aside0.mk (show (w4.drewN nq).drew.cell? ad = some (.int .i64 x.f0) ∧ (w4.drewN nq).drew.cell? ⟨ad.block, ad.off + 1, none⟩ = some (.int .i64 x.f1) ∧ (w4.drewN nq).drew.cell? bd = some (.int .i64 y.f0) ∧ (w4.drewN nq).drew.cell? ⟨bd.block, bd.off + 1, none⟩ = some (.int .i64 y.f1) from ⟨HELDa, HELDb, HELDc, HELDd⟩)
          refine start_ (n := 18) (S := fun w' => w'.cell? ad = some (.int .i64 x.f0) ∧ w'.cell? ⟨ad.block, ad.off + 1, none⟩ = some (.int .i64 x.f1) ∧ w'.cell? bd = some (.int .i64 y.f0) ∧ w'.cell? ⟨bd.block, bd.off + 1, none⟩ = some (.int .i64 y.f1)) (ds := [16]) #[false, false, false, false, false, false, false, false, false, false, false, false, false, false, false, false, false, false] (by kernel_rfl) rfl rfl HELD.out (fun hHeld => ?_)
          refine pure_ (i := 0) (N := some 14) (v := ?_) (a' := ?_) #[true, false, false, false, false, false, false, false, false, false, false, false, false, false, false, false, false, false] rfl rfl (by kernel_rfl) (fun _ _ _ h => h) (Or.inl ⟨by rfl, ?_⟩) ?_ ?_
          rotate_left
          · intro w'
            go_simp
            with_reducible rfl
          rotate_left
          · simp only [Act.put, List.setIfInBounds_toArray, List.set_cons_zero, List.set_cons_succ, i64_w, i32_w]
            rfl
          refine pure_ (i := 1) (N := some 15) (v := ?_) (a' := ?_) #[true, true, false, false, false, false, false, false, false, false, false, false, false, false, false, false, false, false] rfl rfl (by kernel_rfl) (fun _ _ _ h => h) (Or.inl ⟨by rfl, ?_⟩) ?_ ?_
          rotate_left
          · intro w'
            go_simp
            with_reducible rfl
          rotate_left
          · simp only [Act.put, List.setIfInBounds_toArray, List.set_cons_zero, List.set_cons_succ, i64_w, i32_w]
            rfl
          refine pure_ (i := 2) (N := some 16) (v := ?_) (a' := ?_) #[true, true, true, false, false, false, false, false, false, false, false, false, false, false, false, false, false, false] rfl rfl (by kernel_rfl) (fun _ _ _ h => h) (Or.inl ⟨by rfl, ?_⟩) ?_ ?_
          rotate_left
          · intro w'
            go_simp
            with_reducible rfl
          rotate_left
          · simp only [Act.put, List.setIfInBounds_toArray, List.set_cons_zero, List.set_cons_succ, i64_w, i32_w]
            rfl
          refine pure_ (i := 3) (N := some 17) (v := ?_) (a' := ?_) #[true, true, true, true, false, false, false, false, false, false, false, false, false, false, false, false, false, false] rfl rfl (by kernel_rfl) (fun _ _ _ h => h) (Or.inl ⟨by rfl, ?_⟩) ?_ ?_
          rotate_left
          · intro w'
            go_simp
            with_reducible rfl
          rotate_left
          · simp only [Act.put, List.setIfInBounds_toArray, List.set_cons_zero, List.set_cons_succ, i64_w, i32_w]
            rfl
          refine pure_ (i := 5) (N := some 19) (v := ?_) (a' := ?_) #[true, true, true, true, false, true, false, false, false, false, false, false, false, false, false, false, false, false] rfl rfl (by kernel_rfl) (fun _ _ _ h => h) (Or.inl ⟨by rfl, ?_⟩) ?_ ?_
          rotate_left
          · intro w'
            go_simp
            with_reducible rfl
          rotate_left
          · simp only [Act.put, List.setIfInBounds_toArray, List.set_cons_zero, List.set_cons_succ, i64_w, i32_w]
            rfl
          refine pure_ (i := 6) (N := some 20) (v := ?_) (a' := ?_) #[true, true, true, true, false, true, true, false, false, false, false, false, false, false, false, false, false, false] rfl rfl (by kernel_rfl) (fun _ _ _ h => h) (Or.inl ⟨by rfl, ?_⟩) ?_ ?_
          rotate_left
          · intro w'
            go_simp
            with_reducible rfl
          rotate_left
          · simp only [Act.put, List.setIfInBounds_toArray, List.set_cons_zero, List.set_cons_succ, i64_w, i32_w]
            rfl
          refine pure_ (i := 7) (N := some 21) (v := ?_) (a' := ?_) #[true, true, true, true, false, true, true, true, false, false, false, false, false, false, false, false, false, false] rfl rfl (by kernel_rfl) (fun _ _ _ h => h) (Or.inl ⟨by rfl, ?_⟩) ?_ ?_
          rotate_left
          · intro w'
            go_simp
            with_reducible rfl
          rotate_left
          · simp only [Act.put, List.setIfInBounds_toArray, List.set_cons_zero, List.set_cons_succ, i64_w, i32_w]
            rfl
          refine pure_ (i := 9) (N := some 23) (v := ?_) (a' := ?_) #[true, true, true, true, false, true, true, true, false, true, false, false, false, false, false, false, false, false] rfl rfl (by kernel_rfl) (fun _ _ _ h => h) (Or.inl ⟨by rfl, ?_⟩) ?_ ?_
          rotate_left
          · intro w'
            go_simp
            with_reducible rfl
          rotate_left
          · simp only [Act.put, List.setIfInBounds_toArray, List.set_cons_zero, List.set_cons_succ, i64_w, i32_w]
            rfl
          refine pure_ (i := 10) (N := some 24) (v := ?_) (a' := ?_) #[true, true, true, true, false, true, true, true, false, true, true, false, false, false, false, false, false, false] rfl rfl (by kernel_rfl) (fun _ _ _ h => h) (Or.inl ⟨by rfl, ?_⟩) ?_ ?_
          rotate_left
          · intro w'
            go_simp
            with_reducible rfl
          rotate_left
          · simp only [Act.put, List.setIfInBounds_toArray, List.set_cons_zero, List.set_cons_succ, i64_w, i32_w]
            rfl
          refine pure_ (i := 11) (N := some 25) (v := ?_) (a' := ?_) #[true, true, true, true, false, true, true, true, false, true, true, true, false, false, false, false, false, false] rfl rfl (by kernel_rfl) (fun _ _ _ h => h) (Or.inl ⟨by rfl, ?_⟩) ?_ ?_
          rotate_left
          · intro w'
            go_simp
            with_reducible rfl
          rotate_left
          · simp only [Act.put, List.setIfInBounds_toArray, List.set_cons_zero, List.set_cons_succ, i64_w, i32_w]
            rfl
          refine take_ (i := 4) (N := some 18) (v := ?_) (a' := ?_) #[true, true, true, true, true, true, true, true, false, true, true, true, false, false, false, false, false, false] rfl rfl (by kernel_rfl) (fun _ _ _ h => h) (Or.inl ⟨by rfl, ?_⟩) hHeld ?_ ?_
          rotate_left
          · rintro w' ⟨s0, s1, s2, s3⟩
            go_simp
            with_reducible rfl
          rotate_left
          · simp only [Act.put, List.setIfInBounds_toArray, List.set_cons_zero, List.set_cons_succ, i64_w, i32_w]
            rfl
          refine take_ (i := 8) (N := some 22) (v := ?_) (a' := ?_) #[true, true, true, true, true, true, true, true, true, true, true, true, false, false, false, false, false, false] rfl rfl (by kernel_rfl) (fun _ _ _ h => h) (Or.inl ⟨by rfl, ?_⟩) hHeld ?_ ?_
          rotate_left
          · rintro w' ⟨s0, s1, s2, s3⟩
            go_simp
            with_reducible rfl
          rotate_left
          · simp only [Act.put, List.setIfInBounds_toArray, List.set_cons_zero, List.set_cons_succ, i64_w, i32_w]
            rfl
          refine take_ (i := 12) (N := some 26) (v := ?_) (a' := ?_) #[true, true, true, true, true, true, true, true, true, true, true, true, true, false, false, false, false, false] rfl rfl (by kernel_rfl) (fun _ _ _ h => h) (Or.inl ⟨by rfl, ?_⟩) hHeld ?_ ?_
          rotate_left
          · rintro w' ⟨s0, s1, s2, s3⟩
            go_simp
            with_reducible rfl
          rotate_left
          · simp only [Act.put, List.setIfInBounds_toArray, List.set_cons_zero, List.set_cons_succ, i64_w, i32_w]
            rfl
          refine pure_ (i := 13) (N := some 27) (v := ?_) (a' := ?_) #[true, true, true, true, true, true, true, true, true, true, true, true, true, true, false, false, false, false] rfl rfl (by kernel_rfl) (fun _ _ _ h => h) (Or.inl ⟨by rfl, ?_⟩) ?_ ?_
          rotate_left
          · intro w'
            go_simp
            with_reducible rfl
          rotate_left
          · simp only [Act.put, List.setIfInBounds_toArray, List.set_cons_zero, List.set_cons_succ, i64_w, i32_w]
            rfl
          refine pure_ (i := 14) (N := some 28) (v := ?_) (a' := ?_) #[true, true, true, true, true, true, true, true, true, true, true, true, true, true, true, false, false, false] rfl rfl (by kernel_rfl) (fun _ _ _ h => h) (Or.inl ⟨by rfl, ?_⟩) ?_ ?_
          rotate_left
          · intro w'
            go_simp
            with_reducible rfl
          rotate_left
          · simp only [Act.put, List.setIfInBounds_toArray, List.set_cons_zero, List.set_cons_succ, i64_w, i32_w]
            rfl
          refine one_ (i := 15) (N := some 29) #[true, true, true, true, true, true, true, true, true, true, true, true, true, true, true, true, false, false] rfl rfl (by kernel_rfl) (by decide) (fun K hK => ?_)
          refine value_ (w1 := ((w4.drewN nq).drew).alloc (.cells #[.int .i64 x.f0, .int .i64 (x.f1 + y.f1)] 70)) (v := .slice (some ⟨((w4.drewN nq).drew).heap.size, 0, none⟩) 1 1) (by rfl) rfl ?_ ?_
          · first | (go_simp; done) | (go_simp; rfl)
          refine hK.out _ _ (And.intro ((World.cell?_alloc_lt _ _ _ (World.block_lt_of_cell? _ _ hHeld.1)).trans hHeld.1) (And.intro ((World.cell?_alloc_lt _ _ _ (World.block_lt_of_cell? _ _ hHeld.2.1)).trans hHeld.2.1) (And.intro ((World.cell?_alloc_lt _ _ _ (World.block_lt_of_cell? _ _ hHeld.2.2.1)).trans hHeld.2.2.1) ((World.cell?_alloc_lt _ _ _ (World.block_lt_of_cell? _ _ hHeld.2.2.2)).trans hHeld.2.2.2)))) (fun hHeld => ?_)
          clear hK K
          refine norm_ (a' := ?_) ?_ ?_
          rotate_left
          · show Act.put _ (some 29) _ = _
            simp only [Act.put, List.setIfInBounds_toArray, List.set_cons_zero, List.set_cons_succ, i64_w, i32_w]
            rfl
          refine last_ (i := 16) (N := some 30) #[true, true, true, true, true, true, true, true, true, true, true, true, true, true, true, true, true, false] rfl rfl (by kernel_rfl) (by decide) (fun K hK => ?_)
          refine Kd.R_append_step k70 (w0 := W) W.heap.size (by rfl) (.tmp 14) (.tmp 29) 66 70 (.agg #[.int .i64 0, .int .i64 0]) 16 rfl Tryd.underlying66 info70 rfl (by decide) (by decide) u5 os ⟨x.f0, x.f1 + y.f1⟩ [.int .i64 x.f0, .int .i64 (x.f1 + y.f1)] (fun _ => True) (fun _ => False) rfl rfl (k70_mkM _ _ _ _) (fun _ hk => hk.elim) (fun _ _ => trivial) HO2.out HW2.out HW2.out.size HL16.out ?_
          intro v1 w1 ho hb hg hat
          have HO3 := Aside0.mk ho
          have HW3 := Aside0.mk hb
          clear ho hb hg hat
          refine hK.out _ _ ?_
          clear hK K
          refine norm_ (a' := ?_) ?_ ?_
          rotate_left
          · show Act.put _ (some 30) _ = _
            simp only [Act.put, List.setIfInBounds_toArray, List.set_cons_zero, List.set_cons_succ, i64_w, i32_w]
            rfl
          refine pure_ (i := 17) (N := some 5) (v := ?_) (a' := ?_) #[true, true, true, true, true, true, true, true, true, true, true, true, true, true, true, true, true, true] rfl rfl (by kernel_rfl) (fun _ _ _ h => h) (Or.inl ⟨by rfl, ?_⟩) ?_ ?_
          rotate_left
          · intro w'
            go_simp
            with_reducible rfl
          rotate_left
          · simp only [Act.put, List.setIfInBounds_toArray, List.set_cons_zero, List.set_cons_succ, i64_w, i32_w]
            rfl
          refine done_ (by kernel_rfl) ?_
          clear hwr
          have HE2 := Aside0.mk (show timesS a0 b0 = (os ++ [⟨x.f0, x.f1 + y.f1⟩]) ++ timesS ra rb by rw [HE.out, timesS_cons]; rw [if_neg (show ¬ x.f0 < y.f0 by omega), if_neg (show ¬ y.f0 < x.f0 by omega)]; simp)
          go_wp2
          go_quiet (fail)
          all_goals go_wp2
          go_roundg (ra.length + rb.length)
          case measure => have := HGG.out; have := HN2.out; (try simp only [List.length_cons]); omega
          case rel => exact ⟨Aa, c - 1, ra, Bb, d - 1, rb, os ++ [⟨x.f0, x.f1 + y.f1⟩], rfl, rfl, by have := HN2.out; (try simp only [List.length_cons]); omega, by have := HN2.out; have := HSZ.out; (try simp only [List.length_cons]); omega, by have := HN2.out; have := HSZ.out; (try simp only [List.length_cons]); omega, by have := HN2.out; have := HSZ.out; (try simp only [List.length_cons, List.length_append, List.length_nil]); omega, Aside0.mk ⟨HCN.out.1, HCN.out.2.1⟩, HA1, HB1, Aside0.mk (Kd.R_drewN HO3.out nq), Aside0.mk (pw_below_drewN HW3.out nq), HE2, HEC⟩
end Go.Proofs.YtcafgpfecfocnaaDoor.P

/- The texts of powers and of polynomials, and that they tell them apart. -/
namespace Go.Proofs.YtcafgpfecfocnaaDoor.P
open Go.RowKit
set_option linter.unusedVariables false
set_option linter.unusedSimpArgs false

def pieceP (x : S70) : List UInt8 := 120 :: (Lib.itoa x.f0 ++ (if x.f1 = 1 then [] else 94 :: Lib.itoa x.f1))
/-- The text of powers. -/
def ftext (l : List S70) : List UInt8 := Lib.join (l.map pieceP) [42]
def pieceM (m : S68) : List UInt8 := if m.f1 = [] then Lib.itoa m.f0 else if m.f0 = 1 then ftext m.f1 else Lib.itoa m.f0 ++ 42 :: ftext m.f1
/-- The text of a polynomial. -/
def textP (l : List S68) : List UInt8 := if l = [] then [48] else Lib.join (l.map pieceM) [32, 43, 32]
theorem itoa_not {n : Int} {c : UInt8} (h : c.toNat < 45 ∨ (45 < c.toNat ∧ c.toNat < 48) ∨ 57 < c.toNat) : c ∉ Lib.itoa n := by
  intro hm
  have := itoa_chars n c hm
  omega
theorem pieceP_inj {x y : S70} (h : pieceP x = pieceP y) : x = y := by
  unfold pieceP at h
  replace h := (List.cons.inj h).2
  have n94 : ∀ n : Int, (94 : UInt8) ∉ Lib.itoa n := fun n => itoa_not (by decide)
  by_cases hx : x.f1 = 1 <;> by_cases hy : y.f1 = 1
  · rw [if_pos hx, if_pos hy, List.append_nil, List.append_nil] at h
    exact s70_ext (itoa_inj h) (by rw [hx, hy])
  · rw [if_pos hx, if_neg hy, List.append_nil] at h
    exact absurd (show (94 : UInt8) ∈ Lib.itoa x.f0 by rw [h]; simp) (n94 _)
  · rw [if_neg hx, if_pos hy, List.append_nil] at h
    exact absurd (show (94 : UInt8) ∈ Lib.itoa y.f0 by rw [← h]; simp) (n94 _)
  · rw [if_neg hx, if_neg hy] at h
    obtain ⟨h1, h2⟩ := cut_at (n94 _) (n94 _) h
    exact s70_ext (itoa_inj h1) (itoa_inj h2)
theorem pieceP_ne (x : S70) : pieceP x ≠ [] := by simp [pieceP]
theorem pieceP_not {c : UInt8} (hc : c = 42 ∨ c = 32) (x : S70) : c ∉ pieceP x := by
  have h1 : c ∉ Lib.itoa x.f0 := itoa_not (by rcases hc with rfl | rfl <;> decide)
  have h2 : c ∉ Lib.itoa x.f1 := itoa_not (by rcases hc with rfl | rfl <;> decide)
  unfold pieceP
  intro hm
  rcases List.mem_cons.1 hm with rfl | hm
  · rcases hc with hc | hc <;> exact absurd hc (by decide)
  · rcases List.mem_append.1 hm with hm | hm
    · exact h1 hm
    · by_cases h : x.f1 = 1
      · rw [if_pos h] at hm; cases hm
      · rw [if_neg h] at hm
        rcases List.mem_cons.1 hm with rfl | hm
        · rcases hc with hc | hc <;> exact absurd hc (by decide)
        · exact h2 hm
theorem joinTail_cons (s y : List UInt8) (r : List (List UInt8)) : Lib.joinTail s (y :: r) = s ++ (y ++ Lib.joinTail s r) := by simp [Lib.joinTail]
/-- What is joined by a sign that its pieces do not have tells the pieces. -/
theorem joinTail_inj {s : UInt8} {t : List UInt8} : ∀ {xs ys : List (List UInt8)}, (∀ x ∈ xs, s ∉ x) → (∀ y ∈ ys, s ∉ y) → Lib.joinTail (s :: t) xs = Lib.joinTail (s :: t) ys → xs = ys
  | [], [], _, _, _ => rfl
  | [], y :: ys, _, _, h => by rw [joinTail_cons] at h; simp [Lib.joinTail] at h
  | x :: xs, [], _, _, h => by rw [joinTail_cons] at h; simp [Lib.joinTail] at h
  | x :: xs, y :: ys, hx, hy, h => by
    rw [joinTail_cons, joinTail_cons] at h
    have h0 := List.append_cancel_left h
    have hxx := hx x (by simp)
    have hyy := hy y (by simp)
    have key : x = y ∧ Lib.joinTail (s :: t) xs = Lib.joinTail (s :: t) ys := by
      match xs, ys, h0 with
      | [], [], h0 => exact ⟨by simpa [Lib.joinTail] using h0, rfl⟩
      | [], y2 :: ys, h0 =>
        rw [joinTail_cons] at h0
        exact absurd (show s ∈ x by have h1 : x = y ++ (s :: t ++ (y2 ++ Lib.joinTail (s :: t) ys)) := by simpa [Lib.joinTail] using h0
                                    rw [h1]; simp) hxx
      | x2 :: xs, [], h0 =>
        rw [joinTail_cons] at h0
        exact absurd (show s ∈ y by have h1 : x ++ (s :: t ++ (x2 ++ Lib.joinTail (s :: t) xs)) = y := by simpa [Lib.joinTail] using h0
                                    rw [← h1]; simp) hyy
      | x2 :: xs, y2 :: ys, h0 =>
        rw [joinTail_cons, joinTail_cons] at h0
        obtain ⟨h1, h2⟩ := cut_at hxx hyy h0
        exact ⟨h1, by rw [joinTail_cons, joinTail_cons]; exact congrArg (s :: ·) h2⟩
    rw [key.1, joinTail_inj (fun x hm => hx x (by simp [hm])) (fun y hm => hy y (by simp [hm])) key.2]
theorem join_inj {s : UInt8} {t : List UInt8} : ∀ {xs ys : List (List UInt8)}, (∀ x ∈ xs, x ≠ [] ∧ s ∉ x) → (∀ y ∈ ys, y ≠ [] ∧ s ∉ y) → Lib.join xs (s :: t) = Lib.join ys (s :: t) → xs = ys
  | [], [], _, _, _ => rfl
  | [], y :: ys, _, hy, h => by
    rw [Lib.join_cons, Lib.join_nil] at h
    exact absurd (List.append_eq_nil_iff.1 h.symm).1 (hy y (by simp)).1
  | x :: xs, [], hx, _, h => by
    rw [Lib.join_cons, Lib.join_nil] at h
    exact absurd (List.append_eq_nil_iff.1 h).1 (hx x (by simp)).1
  | x :: xs, y :: ys, hx, hy, h => by
    rw [Lib.join_cons, Lib.join_cons] at h
    have h1 : Lib.joinTail (s :: t) (x :: xs) = Lib.joinTail (s :: t) (y :: ys) := by rw [joinTail_cons, joinTail_cons, h]
    exact joinTail_inj (fun x hm => (hx x hm).2) (fun y hm => (hy y hm).2) h1
theorem map_inj {α β : Type} {f : α → β} (hf : ∀ x y, f x = f y → x = y) : ∀ {l m : List α}, l.map f = m.map f → l = m
  | [], [], _ => rfl
  | [], _ :: _, h => by simp at h
  | _ :: _, [], h => by simp at h
  | x :: l, y :: m, h => by
    obtain ⟨h1, h2⟩ := List.cons.inj h
    rw [hf _ _ h1, map_inj hf h2]
theorem ftext_inj {l m : List S70} (h : ftext l = ftext m) : l = m := by
  refine map_inj (f := pieceP) (fun _ _ => pieceP_inj) (join_inj (s := 42) (t := []) ?_ ?_ h) <;>
  · intro x hx
    obtain ⟨p, _, rfl⟩ := List.mem_map.1 hx
    exact ⟨pieceP_ne p, pieceP_not (.inl rfl) p⟩
theorem ftext_nil : ftext [] = [] := rfl
theorem ftext_ne {l : List S70} (h : l ≠ []) : ftext l ≠ [] := fun e => h (ftext_inj (e.trans ftext_nil.symm))
end Go.Proofs.YtcafgpfecfocnaaDoor.P

/- (sum).result: the monomials of a map, in order. -/
namespace Go.Proofs.YtcafgpfecfocnaaDoor.P
open Go.RowKit Go.Maps Go.Proofs.YtcafgpfecfocnaaDoorW.PrintWords Go.Proofs.YtcafgpfecfocnaaDoorW.PrintLast Go.Proofs.YtcafgpfecfocnaaDoorW.PrintMore
set_option linter.unusedVariables false
set_option linter.unusedSimpArgs false

/-- Block r is on its way over the map in block b (which holds g); es has been seen; at most cnt are to come. -/
def MapR (w : World) (b r n : Nat) (g : List UInt8 → Option M2) (es : List (List UInt8 × M2)) (cnt : Nat) : Prop :=
  ∃ D left, w.ranges Tryd.prog 9 readM b r n D left cnt ∧ (∀ s, has D (.string s) = (g s).isSome) ∧ (∀ s z, D.atKey (.string s) z = ((g s).map fun x => DataW.held (mkM x)).getD z) ∧
    (∀ s x, g s = some x → left (.string s) = true ∨ (s, x) ∈ es) ∧ (∀ p ∈ es, g p.1 = some p.2 ∧ left (.string p.1) = false) ∧ (es.map (·.1)).Nodup ∧ ∀ s, left (.string s) = true → (g s).isSome = true
section
variable {w w' : World} {b r n cnt : Nat} {g : List UInt8 → Option M2} {es : List (List UInt8 × M2)}
theorem MapR.grown (h : MapR w b r n g es cnt) {row : Option Nat} (hg : w.grownBy w' row) (hb : some b ≠ row) (hr : some r ≠ row) : MapR w' b r n g es cnt := by
  obtain ⟨D, left, h1, h2⟩ := h
  exact ⟨D, left, h1.kept hg hb hr, h2⟩
theorem MapR.below (h : MapR w b r n g es cnt) (hb : Below w.heap.size w w') : MapR w' b r n g es cnt := h.grown (grown_of_below hb none) (by simp) (by simp)
theorem MapR.seen (h : MapR w b r n g es cnt) : ∀ p ∈ es, g p.1 = some p.2 := by
  obtain ⟨D, left, _, _, _, _, h1, _⟩ := h
  exact fun p hp => (h1 p hp).1
theorem MapR.nodup (h : MapR w b r n g es cnt) : (es.map (·.1)).Nodup := by
  obtain ⟨D, left, _, _, _, _, _, h1, _⟩ := h
  exact h1
end
section
variable {w : World} {ops : Array Oper} {rest : List Oper} {o : Oper} {a : Act} {Q : Exit → Act → World → Prop}
theorem MapM.wp_range (hg : o.guard = none) (m : Operand) (hop : o.op = Op.range 90 m) (b n : Nat) (g : List UInt8 → Option M2) (hm : a.eval m = .map (some b)) (h : MapM w b n g)
    (hK : ∀ w' cnt, MapR w' b w.heap.size n g [] cnt → w.grownBy w' none → w'.heap.size = w.heap.size + 1 → wpList Tryd.prog ops Q rest (a.put o.dst (.pointer (some ⟨w.heap.size, 0, none⟩))) w') : wpList Tryd.prog ops Q (o :: rest) a w := by
  obtain ⟨D, h1, h2, h3, h4⟩ := h
  exact wpList_range_own w hg m 90 hop 9 68 K9 Tryd.underlying90 readM b n D hm h1 fun w' hr hgr hsz => hK w' _ ⟨D, _, hr, h2, h3, (fun s x hx => .inl (by rw [h2, hx]; rfl)), (fun p hp => by cases hp), List.nodup_nil, fun s hs => by rw [← h2]; exact hs⟩ hgr hsz
theorem MapR.wp_next (hg : o.guard = none) (it : Operand) (hop : o.op = Op.next it false) (b r n : Nat) (g : List UInt8 → Option M2) (es : List (List UInt8 × M2)) (cnt : Nat) (hit : a.eval it = .pointer (some ⟨r, 0, none⟩)) (h : MapR w b r n g es cnt)
    (hDone : (∀ s x, g s = some x → (s, x) ∈ es) → wpList Tryd.prog ops Q rest (a.put o.dst (.tuple #[.bool false])) w)
    (hMore : ∀ (s : ByteArray) (x : M2) (w' : World) (cnt' : Nat), g s.data.toList = some x → MapR w' b r n g (es ++ [(s.data.toList, x)]) cnt' → cnt' < cnt → w.grownBy w' (some r) → w'.heap.size = w.heap.size →
      (Instr.entry (.pointer (some ⟨r, 0, none⟩))).run Tryd.prog w' = .ok (.tuple #[.string s, .agg #[.int .i64 x.c, x.v]]) w' → wpList Tryd.prog ops Q rest (a.put o.dst (.tuple #[.bool true, .string s, .agg #[.int .i64 x.c, x.v]])) w') :
    wpList Tryd.prog ops Q (o :: rest) a w := by
  obtain ⟨D, left, h1, h2, h3, h4, h5, h6, h7⟩ := h
  refine wpList_next_ranges w hg it hop 9 K9 readM (mkK := Value.string) (mkV := mkM) (fun key kl hk => by obtain ⟨s, e, _⟩ := Go.WideMaps.string_of_keyOf Tryd.underlying9 hk; exact ⟨s, e⟩) (fun v y hv => by obtain ⟨x, e, _⟩ := readM_inv hv; exact ⟨x, e⟩) b r n D left cnt hit h1 (fun _ hl => hDone fun s x hx => ?_) (fun s x kl y w' cnt' hk hl hv hat hrg hlt hgr hsz hen => ?_)
  · rcases h4 s x hx with h | h
    · rw [hl] at h; cases h
    · exact h
  · obtain ⟨s2, e, rfl, hs2⟩ := Go.WideMaps.string_of_keyOf Tryd.underlying9 hk
    obtain rfl : s = s2 := by injection e
    obtain ⟨x2, e2, hx2, rfl⟩ := readM_inv hv
    have hgx : g s.data.toList = some x := by
      have h8 := hat (.nil)
      rw [h3] at h8
      have h9 := h7 _ hl
      cases hgs : g s.data.toList with
      | none => rw [hgs] at h9; cases h9
      | some z =>
        rw [hgs] at h8
        have h10 : DataW.held (mkM z) = DataW.held (mkM x) := h8
        rw [mkM_inj (DataW.held.inj h10)]
    have hnot : ∀ p ∈ es, p.1 ≠ s.data.toList := fun p hp e => by
      have := (h5 p hp).2
      rw [e, hl] at this; cases this
    refine hMore s x w' cnt' hgx ⟨D, _, hrg, h2, h3, fun t z hz => ?_, fun p hp => ?_, ?_, fun t ht => ?_⟩ hlt hgr hsz hen
    · by_cases e : t = s.data.toList
      · subst e
        rw [hgx] at hz
        obtain rfl := Option.some.inj hz
        exact .inr (by simp)
      · rcases h4 t z hz with h | h
        · refine .inl ?_
          rw [h, sameKey_ne (fun h => e (by injection h))]
          rfl
        · exact .inr (by simp [h])
    · rcases List.mem_append.1 hp with hp | hp
      · refine ⟨(h5 p hp).1, ?_⟩
        rw [(h5 p hp).2]; rfl
      · rw [List.mem_singleton.1 hp]
        exact ⟨hgx, by simp [Lit.sameKey]⟩
    · rw [List.map_append, List.nodup_append]
      refine ⟨h6, by simp, fun a ha b hb => ?_⟩
      obtain ⟨p, hp, rfl⟩ := List.mem_map.1 ha
      have : b = s.data.toList := by simpa using hb
      rw [this]
      exact hnot p hp
    · simp only [Bool.and_eq_true] at ht
      exact h7 t ht.1
end
end Go.Proofs.YtcafgpfecfocnaaDoor.P

/- (sum).result: the walk. -/
namespace Go.Proofs.YtcafgpfecfocnaaDoor.P
open Go.RowKit Go.Maps Go.Proofs.YtcafgpfecfocnaaDoorW.PrintWords Go.Proofs.YtcafgpfecfocnaaDoorW.PrintLast Go.Proofs.YtcafgpfecfocnaaDoorW.PrintMore
set_option linter.unusedVariables false
set_option linter.unusedSimpArgs false

def badM (m : S68) : Bool := decide (1000000000 < m.f0) || m.f1.any tooHigh
/-- What a sum comes to. -/
def resS (acc : List S68) : List S68 × Int := if acc.any badM then ([], 2) else if 400 < acc.length then ([], 3) else (acc, 0)
def Sorted68 (l : List S68) : Prop := l.Pairwise fun a b => orderS a.f1 b.f1 < 0
/-- The map tells the monomials acc. -/
structure RepM (w : World) (ok : Nat → Prop) (g : List UInt8 → Option M2) (acc : List S68) : Prop where
  has : ∀ m ∈ acc, ∃ x, g (ftext m.f1) = some x ∧ Mono w ok x m
  only : ∀ s x, g s = some x → ∃ m ∈ acc, s = ftext m.f1
theorem RepM.at_ {w : World} {ok : Nat → Prop} {g : List UInt8 → Option M2} {acc : List S68} (h : RepM w ok g acc) {s : List UInt8} {x : M2} (hx : g s = some x) : ∃ m ∈ acc, s = ftext m.f1 ∧ Mono w ok x m := by
  obtain ⟨m, hm, rfl⟩ := h.only s x hx
  obtain ⟨y, hy, hmo⟩ := h.has m hm
  obtain rfl : y = x := by rw [hx] at hy; exact (Option.some.inj hy).symm
  exact ⟨m, hm, rfl, hmo⟩
theorem nodup_len {α : Type} [DecidableEq α] : ∀ (l m : List α), l.Nodup → (∀ x ∈ l, x ∈ m) → l.length ≤ m.length
  | [], m, _, _ => Nat.zero_le _
  | x :: l, m, hn, hs => by
    have h1 := nodup_len l (m.erase x) (List.nodup_cons.1 hn).2 (fun y hy => (List.mem_erase_of_ne (fun e => (List.nodup_cons.1 hn).1 (by rw [← e]; exact hy))).2 (hs y (by simp [hy])))
    have h2 := List.length_erase_of_mem (hs x (by simp))
    have h3 : 0 < m.length := List.length_pos_of_mem (hs x (by simp))
    rw [List.length_cons]
    omega
theorem sorted_nodup {acc : List S68} (h : Sorted68 acc) : acc.Nodup := h.imp fun h e => by rw [e, orderS_self] at h; omega
theorem sorted_eq : ∀ {m acc : List S68}, m.Perm acc → Sorted68 acc → m.Pairwise (fun a b => ¬ orderS b.f1 a.f1 < 0) → m = acc
  | m, [], hp, _, _ => hp.eq_nil
  | [], a :: r, hp, _, _ => by have := hp.length_eq; simp at this
  | x :: t, a :: r, hp, ha, hm => by
    have e : x = a := by
      have h1 : x ∈ a :: r := hp.mem_iff.1 (by simp)
      have h2 : a ∈ x :: t := hp.mem_iff.2 (by simp)
      rcases List.mem_cons.1 h1 with h1 | h1
      · exact h1
      · rcases List.mem_cons.1 h2 with h2 | h2
        · exact h2.symm
        · exact absurd ((List.pairwise_cons.1 ha).1 x h1) ((List.pairwise_cons.1 hm).1 a h2)
    subst e
    rw [sorted_eq (List.perm_cons _ |>.1 hp) (List.pairwise_cons.1 ha).2 (List.pairwise_cons.1 hm).2]
section
variable {W : World} {ok : Nat → Prop} {g : List UInt8 → Option M2} {acc : List S68} {es : List (List UInt8 × M2)}
theorem seen_le (h : RepM W ok g acc) (hs : ∀ p ∈ es, g p.1 = some p.2) (hn : (es.map (·.1)).Nodup) : es.length ≤ acc.length := by
  have := nodup_len (es.map (·.1)) (acc.map (fun m => ftext m.f1)) hn (fun s hs' => by
    obtain ⟨p, hp, rfl⟩ := List.mem_map.1 hs'
    obtain ⟨m, hm, e⟩ := h.only _ _ (hs p hp)
    exact List.mem_map.2 ⟨m, hm, e.symm⟩)
  simpa using this
/-- All entries, as monomials: those of acc in some order. -/
theorem seen_perm (h : RepM W ok g acc) (ha : Sorted68 acc) (hs : ∀ p ∈ es, g p.1 = some p.2) (hn : (es.map (·.1)).Nodup) (hall : ∀ s x, g s = some x → (s, x) ∈ es) : ∃ l : List S68, Mons W ok (es.map (·.2)) l ∧ l.Perm acc := by
  obtain ⟨l, hl, hx⟩ := pick_list (P := fun i (m : S68) => ∃ p, es[i]? = some p ∧ m ∈ acc ∧ p.1 = ftext m.f1 ∧ Mono W ok p.2 m) es.length (fun i hi => by
    have h1 := List.getElem?_eq_getElem hi
    obtain ⟨m, hm, e, hmo⟩ := h.at_ (hs _ (List.getElem_mem hi))
    exact ⟨m, _, h1, hm, e, hmo⟩)
  have hmap : l.map (fun m => ftext m.f1) = es.map (·.1) := by
    apply List.ext_getElem?
    intro i
    rw [List.getElem?_map, List.getElem?_map]
    rcases Nat.lt_or_ge i l.length with hi | hi
    · obtain ⟨p, hp, _, e, _⟩ := hx i _ (List.getElem?_eq_getElem hi)
      rw [List.getElem?_eq_getElem hi, hp]
      simp [e]
    · rw [List.getElem?_eq_none hi, List.getElem?_eq_none (by omega)]; rfl
  have hnd : l.Nodup := by
    have h1 : (l.map (fun m => ftext m.f1)).Nodup := by rw [hmap]; exact hn
    exact List.Pairwise.imp (fun hne e => hne (by rw [e])) (List.pairwise_map.1 h1)
  refine ⟨l, ⟨by simp [hl], fun i x m h1 h2 => ?_⟩, ?_⟩
  · obtain ⟨p, hp, _, _, hmo⟩ := hx i m h2
    rw [List.getElem?_map, hp] at h1
    obtain rfl := Option.some.inj h1
    exact hmo
  · refine (List.perm_ext_iff_of_nodup hnd (sorted_nodup ha)).2 fun m => ⟨fun hm => ?_, fun hm => ?_⟩
    · obtain ⟨i, hi, rfl⟩ := List.getElem_of_mem hm
      obtain ⟨p, _, hm', _⟩ := hx i _ (List.getElem?_eq_getElem hi)
      exact hm'
    · obtain ⟨x, hgx, _⟩ := h.has m hm
      have := hall _ _ hgx
      have h2 : ftext m.f1 ∈ l.map (fun m => ftext m.f1) := by rw [hmap]; exact List.mem_map.2 ⟨_, this, rfl⟩
      obtain ⟨m', hm', e⟩ := List.mem_map.1 h2
      obtain ⟨i, hi, rfl⟩ := List.getElem_of_mem hm'
      obtain ⟨p, _, hma, _⟩ := hx i _ (List.getElem?_eq_getElem hi)
      have ef := ftext_inj e
      have : l[i] = m := by
        rcases Classical.em (l[i] = m) with h | h
        · exact h
        · obtain ⟨j, hj, ej⟩ := List.getElem_of_mem hma
          obtain ⟨q, hq, eq⟩ := List.getElem_of_mem hm
          have hpw := List.pairwise_iff_getElem.1 ha
          rcases Nat.lt_trichotomy j q with h3 | h3 | h3
          · have := hpw j q hj hq h3
            rw [ej, eq, ef, orderS_self] at this; omega
          · subst h3; rw [ej] at eq; exact absurd eq h
          · have := hpw q j hq hj h3
            rw [ej, eq, ef, orderS_self] at this; omega
      rw [← this]; exact hm'
end
end Go.Proofs.YtcafgpfecfocnaaDoor.P

/- (sum).result: the walk. -/
namespace Go.Proofs.YtcafgpfecfocnaaDoor.P
open Go.RowKit Go.Maps Go.Proofs.YtcafgpfecfocnaaDoorW.PrintWords Go.Proofs.YtcafgpfecfocnaaDoorW.PrintLast Go.Proofs.YtcafgpfecfocnaaDoorW.PrintMore
set_option linter.unusedVariables false
set_option linter.unusedSimpArgs false

theorem below_of_none {w w' : World} (h : w.grownBy w' none) : Below w.heap.size w w' := ⟨h.os, h.tape, h.output, h.size, fun i hi => h.block i hi (by simp)⟩
theorem below_of_new {B : Nat} {w0 w w' : World} {r : Nat} (hb : Below B w0 w) (hB : B ≤ w.heap.size) (h : w.grownBy w' (some r)) (hr : B ≤ r) : Below B w0 w' := pw_below_grown hb (some r) hB h (fun k hk => by injection hk with hk; omega)
theorem kM2_form {w : World} {base : Nat} {ok : Nat → Prop} {v : Value} {xs : List M2} (h : kM2.R 68 w base ok v xs) : (v = .slice none 0 0 ∧ xs = []) ∨ ∃ blk cap, v = .slice (some ⟨blk, 0, none⟩) xs.length cap := by
  obtain ⟨_, inner, ⟨_, ho⟩, _⟩ := h
  rcases ho with ⟨h1, h2⟩ | ⟨g, cp, cur, e, _⟩
  · exact .inl ⟨h1, List.eq_nil_of_length_eq_zero h2⟩
  · exact .inr ⟨g, cp, e⟩
theorem V_of_R {w : World} {base base' : Nat} {ok ok1 : Nat → Prop} {A : Option Addr} {n cap : Nat} {xs : List M2} {l : List S68} (h : kM2.R 68 w base ok1 (.slice A n cap) xs) (hm : Mons w ok xs l) : Kd.V k68 68 w base' (fun k => ok k ∨ ok1 k) (.slice A n cap) l := by
  obtain ⟨h1, h2, h3⟩ := Kd.R_reads' h
  subst h1
  have e := hm.1
  have hF := F_of_raw (l := l) (by rw [← e]; exact Kd.R_F h) hm
  rw [e] at h2 ⊢
  exact Kd.V_mk h2 hF
theorem Mons.old {W w' : World} {ok : Nat → Prop} {xs : List M2} {l : List S68} (h : Mons W ok xs l) (hb : Below W.heap.size W w') : Mons w' (fun k => ok k ∧ k < W.heap.size) xs l :=
  ⟨h.1, fun i x m h1 h2 => ⟨(h.2 i x m h1 h2).1, (h.2 i x m h1 h2).2.bound.below hb⟩⟩
theorem resS_big {acc : List S68} (h : acc.any badM = false) (h2 : 400 < acc.length) : resS acc = ([], 3) := by
  unfold resS
  rw [h, if_neg (by simp), if_pos h2]
theorem resS_ok {acc : List S68} (h : acc.any badM = false) (h2 : acc.length ≤ 400) : resS acc = (acc, 0) := by
  unfold resS
  rw [h, if_neg (by simp), if_neg (by omega)]
theorem resS_bad {acc : List S68} {m : S68} (hm : m ∈ acc) (h : badM m = true) : resS acc = ([], 2) := by
  unfold resS
  rw [if_pos (List.any_eq_true.2 ⟨m, hm, h⟩)]
set_option maxRecDepth 100000 in
set_option maxHeartbeats 8000000 in
/-- (sum).result. -/
theorem result_calls (b n : Nat) (g : List UInt8 → Option M2) (acc : List S68) (W : World) (ok : Nat → Prop) (hM : MapM W b n g) (hRep : RepM W ok g acc) (hacc : Sorted68 acc) (hn : acc.length ≤ 1000000) :
    Calls Tryd.prog 62 #[.map (some b)] W fun e w' => ∃ v, e = .returned (.tuple #[v, .int .i64 (resS acc).2]) ∧ Kd.V k68 68 w' W.heap.size (fun k => ok k ∨ W.heap.size ≤ k) v (resS acc).1 ∧ Below W.heap.size W w' := by
  have HM := Aside0.mk hM
  have HRep := Aside0.mk hRep
  have HAcc := Aside0.mk hacc
  have HN := Aside0.mk hn
  have hblt := hM.lt
  have HBLT := Aside0.mk hblt
  clear hM hRep hacc hn hblt
  obtain ⟨rs, hrs⟩ : ∃ rs, rs = resS acc := ⟨_, rfl⟩
  rw [← hrs]
  have HRS := Aside0.mk hrs
  clear hrs
  obtain ⟨rl, rc⟩ := rs
  go_enter Tryd.func62, Tryd.ntmps62
  go_wp2_with (first
    | (at_range; refine MapM.wp_range rfl (.tmp 7) rfl b n g rfl HM.out ?_; intro w1 cnt hr hg hz; have HR1 := Aside0.mk hr; have HB1 := Aside0.mk (below_of_none hg); have HZ1 := Aside0.mk hz; clear hr hg hz))
  go_frame
  go_loopg [4] cnt (fun gg s4 wr => ∃ (es : List (List UInt8 × M2)) (ct : Nat), ct ≤ gg ∧ Aside0 (MapR wr b W.heap.size n g es ct) ∧ Aside0 (kM2.R 68 wr (W.heap.size + 1) (fun _ => True) s4 (es.map (·.2))) ∧ Aside0 (Below W.heap.size W wr ∧ W.heap.size + 1 ≤ wr.heap.size) ∧ Aside0 (∀ p ∈ es, ∀ m ∈ acc, p.1 = ftext m.f1 → badM m = false))
  case atStart => exact ⟨[], cnt, Nat.le_refl _, HR1, Aside0.mk (Kd.R_nil _ _ _ _ _), Aside0.mk ⟨HB1.out, by rw [HZ1.out]; exact Nat.le_refl _⟩, Aside0.mk (fun p hp => by cases hp)⟩
  case round =>
    clear HR1 HB1 HZ1
    obtain ⟨es, ct, hct, HR, HO, HB, HG⟩ := hrel
    have HFD := Aside0.mk (fun (hd : ∀ s x, g s = some x → (s, x) ∈ es) => seen_perm HRep.out HAcc.out HR.out.seen HR.out.nodup hd)
    have HNB := Aside0.mk (show (∀ s x, g s = some x → (s, x) ∈ es) → acc.any badM = false from fun hd => by
      rw [List.any_eq_false]
      intro m hm hb
      obtain ⟨x, hx, _⟩ := HRep.out.has m hm
      rw [HG.out _ (hd _ _ hx) m hm rfl] at hb
      cases hb)
    have HLEN := Aside0.mk (show (es.map (·.2)).length ≤ 1000000 by rw [List.length_map]; exact Nat.le_trans (seen_le HRep.out HR.out.seen HR.out.nodup) HN.out)
    have HESN := Aside0.mk (show es.map (·.2) = [] → es = [] from fun h => List.map_eq_nil_iff.1 h)
    obtain ⟨xs, hxs⟩ : ∃ xs, xs = es.map (·.2) := ⟨_, rfl⟩
    rw [← hxs] at HO HFD HLEN HESN
    have HXS := Aside0.mk hxs
    clear hxs
    go_wp2_with (at_next; refine MapR.wp_next rfl (.tmp 8) rfl b W.heap.size n g es ct rfl HR.out ?_ ?_)
    · intro hdone
      obtain ⟨l, hl1, hl2⟩ := HFD.out hdone
      have HL1 := Aside0.mk hl1
      have HL2 := Aside0.mk hl2
      have HB0 := Aside0.mk (HNB.out hdone)
      have HLL := Aside0.mk (hl1.1.trans hl2.length_eq)
      clear hdone hl1 hl2
      rcases kM2_form HO.out with ⟨rfl, he⟩ | ⟨blk, cap, rfl⟩
      · have he2 : acc = [] := by
          have h1 := HLL.out
          rw [he] at h1
          exact List.eq_nil_of_length_eq_zero h1.symm
        have e := HRS.out
        rw [he2] at e
        obtain ⟨rfl, rfl⟩ := Prod.mk.inj (e.trans (show resS [] = ([], 0) from rfl))
        clear he he2 e
        go_wp2_with (go_at_call 87; (refine (sort_nil none 0 _ _).mono ?_); rintro e w' ⟨rfl, rfl⟩)
        go_ret2
        exact ⟨_, rfl, Kd.V_nil _ _ _ _ _, HB.out.1⟩
      · by_cases h4 : (400 : Int) < (xs.length : Int)
        · obtain ⟨rfl, rfl⟩ := Prod.mk.inj (HRS.out.trans (resS_big HB0.out (by rw [← HLL.out]; omega)))
          go_wp2
          go_ret2
          exact ⟨_, rfl, Kd.V_nil _ _ _ _ _, HB.out.1⟩
        · obtain ⟨rfl, rfl⟩ := Prod.mk.inj (HRS.out.trans (resS_ok HB0.out (by rw [← HLL.out]; omega)))
          have HBLK := Aside0.mk (kM2_block HO.out).2.1
          have HMS := Aside0.mk (HL1.out.old HB.out.1)
          have hlim : xs.length < 4611686018427387904 := by have := HLEN.out; omega
          have HCALL := Aside0.mk (sort_calls (W.heap.size + 1) blk cap xs l wr HO.out _ (fun k hk e => by have h1 := HBLK.out; have h2 := hk.2; omega) HMS.out hlim)
          clear hlim
          go_wp2_with (go_at_call 87; ((with_reducible refine HCALL.out.mono ?_); rintro e w4 ⟨rfl, ys, m', h5, h6, h7, h8, h9, h10⟩); have H5 := Aside0.mk h5; have H6 := Aside0.mk h6; have H7 := Aside0.mk h7; have H8 := Aside0.mk h8; have H9 := Aside0.mk h9; have H10 := Aside0.mk h10; clear h5 h6 h7 h8 h9 h10)
          have e := sorted_eq (H8.out.trans HL2.out) HAcc.out (H9.out.imp (fun h => by omega))
          subst e
          go_ret2
          exact ⟨_, rfl, Kd.V_mono (V_of_R (Kd.R_bound H5.out) H7.out) (fun k hk => hk.elim (fun h => .inl h.1) (fun h => .inr (Nat.le_of_succ_le h.2.1))), below_of_new HB.out.1 (Nat.le_trans (Nat.le_succ _) HB.out.2) H10.out (by have := HBLK.out; omega)⟩
    · intro s x w2 ct2 hgx hr2 hlt hgr hsz hen
      have HX := Aside0.mk hgx
      have HR2 := Aside0.mk hr2
      obtain ⟨m, hm, hs, hmo⟩ := HRep.out.at_ hgx
      obtain ⟨xc, xv⟩ := x
      obtain ⟨hc, A, cp, hxv, hle, hF⟩ := hmo
      simp only at hc hxv
      subst hxv
      have HMEM := Aside0.mk hm
      have HS := Aside0.mk hs
      have HC := Aside0.mk hc
      have HLE := Aside0.mk hle
      have HLT := Aside0.mk hlt
      have HGR := Aside0.mk (And.intro (below_of_new HB.out.1 (Nat.le_trans (Nat.le_succ _) HB.out.2) hgr (Nat.le_refl _)) (Nat.le_trans HB.out.2 (Nat.le_of_eq hsz.symm)))
      have HO2 := Aside0.mk (Kd.R_mono (ok' := fun _ => True) (Kd.R_grown (Kd.R_bound HO.out) hgr (fun k hk e => by have := hk.2.1; injection e with e; omega)) (fun _ _ => trivial))
      have HKC := Aside0.mk (Kd.C_below (Kd.F_now hF) HGR.out.1)
      clear hgx hr2 hm hs hc hF hle hlt hgr hsz
      by_cases h1 : 1000000000 < xc
      · obtain ⟨rfl, rfl⟩ := Prod.mk.inj (HRS.out.trans (resS_bad HMEM.out (by unfold badM; rw [← HC.out, decide_eq_true h1]; rfl)))
        go_wp2
        go_ret2
        exact ⟨_, rfl, Kd.V_nil _ _ _ _ _, HGR.out.1.alloc (Nat.le_trans (Nat.le_succ _) HGR.out.2) _⟩
      · cases hq : m.f1.any tooHigh with
        | true =>
          obtain ⟨rfl, rfl⟩ := Prod.mk.inj (HRS.out.trans (resS_bad HMEM.out (by unfold badM; rw [hq, Bool.or_true])))
          have HCALL := Aside0.mk (fun W' (hb : Below w2.heap.size w2 W') => hq ▸ containsFuncP 86 #[] eg86 tooHigh A cp m.f1 W' (Kd.C_below HKC.out hb) (gives86 _ _))
          clear hq
          go_wp2_with (go_at_call 85; ((refine (HCALL.out _ (below_alloc (Below.refl _ _) _)).mono ?_); rintro e w3 ⟨rfl, hb⟩); have HB3 := Aside0.mk hb; clear hb)
          go_ret2
          exact ⟨_, rfl, Kd.V_nil _ _ _ _ _, (HGR.out.1.alloc (Nat.le_trans (Nat.le_succ _) HGR.out.2) _).trans (HB3.out.mono (by have := HGR.out.2; simp; omega))⟩
        | false =>
          have HCALL := Aside0.mk (fun W' (hb : Below w2.heap.size w2 W') => hq ▸ containsFuncP 86 #[] eg86 tooHigh A cp m.f1 W' (Kd.C_below HKC.out hb) (gives86 _ _))
          have HQ := Aside0.mk hq
          clear hq
          have HBASE := Aside0.mk (fun k (hk : u4.ownBlock = some k) => ((Kd.R_bound HO2.out).1 k hk).2.1)
          have hlen : (xs.length + 1) * 32 ≤ 140737488355328 := by have := HLEN.out; omega
          have HL32 := Aside0.mk hlen
          clear hlen
          go_wp2_with (first
            | (go_at_call 85; ((refine (HCALL.out _ (below_alloc (Below.refl _ _) _)).mono ?_); rintro e w3 ⟨rfl, hb⟩); have HB3 := Aside0.mk hb; have hblk := (hb.block w2.heap.size (by simp)).trans (heap_alloc_new w2 _); have hz := blk_lt hblk; have c0 := (blk_cell hblk 0).trans rfl; have c1 := (blk_cell hblk 1).trans rfl; have HO3 := Aside0.mk (Kd.R_below (Kd.R_below HO2.out (below_alloc (Below.refl _ _) _)) hb); have HR3 := Aside0.mk ((HR2.out.below (below_alloc (Below.refl _ _) _)).below hb); have HBW := Aside0.mk ((HGR.out.1.alloc (Nat.le_trans (Nat.le_succ _) HGR.out.2) _).trans (hb.mono (by have := HGR.out.2; simp; omega))); have HSZ3 := Aside0.mk (show W.heap.size + 1 ≤ w3.heap.size from Nat.le_trans HGR.out.2 (Nat.le_of_lt hz)); clear hb hblk)
            | (at_builtin; refine Kd.R_append kM2 (w0 := w3) (W.heap.size + 1) rfl (.tmp 21) (.tmp 23) 53 68 (.agg #[.int .i64 0, .slice none 0 0]) 32 rfl Tryd.underlying53 info68 rfl (by decide) (by decide) u4 xs ⟨xc, .slice A m.f1.length cp⟩ [.int .i64 xc, .slice A m.f1.length cp] (fun _ => True) (fun _ => False) rfl rfl ⟨rfl, rfl⟩ (fun _ hk => hk.elim) (fun _ _ => trivial) HO3.out (Below.refl _ _) HSZ3.out HL32.out ?_; intro v1 w5 ho hb hg hat; have HO5 := Aside0.mk ho; have HB5 := Aside0.mk (HBW.out.trans (hb.mono (Nat.le_succ _))); have HR5 := Aside0.mk (HR3.out.grown hg (fun e => by have := HBASE.out _ e.symm; have := HBLT.out; omega) (fun e => by have := HBASE.out _ e.symm; omega)); have HSZ5 := Aside0.mk (Nat.le_trans HSZ3.out hb.size); clear ho hb hg hat))
          go_roundg ct2
          case measure => exact Nat.lt_of_lt_of_le HLT.out hct
          case rel => exact ⟨es ++ [(s.data.toList, ⟨xc, .slice A m.f1.length cp⟩)], ct2, Nat.le_refl _, HR5, Aside0.mk (by rw [List.map_append, ← HXS.out]; exact HO5.out), Aside0.mk ⟨HB5.out, HSZ5.out⟩, Aside0.mk (fun p hp m' hm' e => by
            rcases List.mem_append.1 hp with hp | hp
            · exact HG.out p hp m' hm' e
            · rw [List.mem_singleton.1 hp] at e
              have e2 := ftext_inj (HS.out.symm.trans e)
              have e3 : m = m' := by
                have h1 := HMEM.out
                obtain ⟨i, hi, ei⟩ := List.getElem_of_mem h1
                obtain ⟨j, hj, ej⟩ := List.getElem_of_mem hm'
                have hpw := List.pairwise_iff_getElem.1 HAcc.out
                rcases Nat.lt_trichotomy i j with h3 | h3 | h3
                · have := hpw i j hi hj h3
                  rw [ei, ej, e2, orderS_self] at this; omega
                · subst h3; rw [← ei, ← ej]
                · have := hpw j i hj hi h3
                  rw [ei, ej, e2, orderS_self] at this; omega
              subst e3
              unfold badM
              rw [HQ.out, ← HC.out, decide_eq_false (by omega)]
              rfl)⟩
end Go.Proofs.YtcafgpfecfocnaaDoor.P

/- poly.Valid, plainly. -/
namespace Go.Proofs.YtcafgpfecfocnaaDoor.P
open Go.RowKit Go.Proofs.YtcafgpfecfocnaaDoorW.PrintWords
set_option linter.unusedVariables false
set_option linter.unusedSimpArgs false

theorem ev_succ {α : Type} {f : Nat → Option α} {r : α} (h : Ev (fun k => f (k + 1)) r) : Ev f r := Ev.step (fun _ => rfl) h
theorem wrap_n {i : Nat} (h : i ≤ 4611686018427387904) : wrap64 ((i : Int) + 1) = ((i + 1 : Nat) : Int) := by unfold wrap64; omega
/-- Powers in normal form, the variables above one. -/
def okPow (last : Int) : List S70 → Bool
  | [] => true
  | x :: r => decide (last < x.f0) && decide (x.f0 < 4000) && decide (1 ≤ x.f1) && decide (x.f1 ≤ 100) && okPow x.f0 r
def okMon (prev : Option (List S70)) (m : S68) : Bool :=
  decide (1 ≤ m.f0) && decide (m.f0 ≤ 1000000000) && (match prev with | none => true | some l => decide (orderS l m.f1 < 0)) && okPow (-1) m.f1
def okMons : Option (List S70) → List S68 → Bool
  | _, [] => true
  | prev, m :: r => okMon prev m && okMons (some m.f1) r
/-- A polynomial in normal form. -/
def validP (l : List S68) : Bool := okMons none l && decide (l.length ≤ 400)
def smallP (l : List S68) : Prop := l.length ≤ 1099511627776 ∧ ∀ m ∈ l, m.f1.length ≤ 1099511627776
instance smallP_dec (l : List S68) : Decidable (smallP l) := by unfold smallP; exact inferInstance
theorem rd68_at {l : List S68} {i : Nat} (h : i < l.length) : rd_T68 l (i : Int) = l[i] := by
  unfold rd_T68
  rw [Int.toNat_natCast, List.getD_eq_getElem?_getD, List.getElem?_eq_getElem h]; rfl
theorem rd70_at {l : List S70} {i : Nat} (h : i < l.length) : rd_T70 l (i : Int) = l[i] := by
  unfold rd_T70
  rw [Int.toNat_natCast, List.getD_eq_getElem?_getD, List.getElem?_eq_getElem h]; rfl
theorem drop68 {l : List S68} {i : Nat} (h : i < l.length) : l.drop i = rd_T68 l (i : Int) :: l.drop (i + 1) := by
  rw [rd68_at h]; exact List.drop_eq_getElem_cons h
theorem dropA70 {l : List S70} {i : Nat} (h : i < l.length) : l.drop i = rd_T70 l (i : Int) :: l.drop (i + 1) := by
  rw [rd70_at h]; exact List.drop_eq_getElem_cons h
theorem okPow_cons (last : Int) (x : S70) (r : List S70) : okPow last (x :: r) = (decide (last < x.f0) && decide (x.f0 < 4000) && decide (1 ≤ x.f1) && decide (x.f1 ≤ 100) && okPow x.f0 r) := rfl
theorem val_l1 {l : List S68} {x8 : List S68} {x9 x10 : Int} {pw : List S70} (hb : pw.length ≤ 1099511627776) {r : Bool} : ∀ (d i : Nat) (last : Int), pw.length = i + d →
    Ev (fun k => if okPow last (pw.drop i) = true then poly_Valid.l0 k l x8 x9 (wrap64 (x10 + 1)) else some false) r → Ev (fun k => poly_Valid.l1 k l last x8 x9 x10 pw (pw.length : Int) (i : Int)) r
  | 0, i, last, hi, h => by
    obtain ⟨K, hK⟩ := h
    refine ev_succ ⟨K, fun k hk => ?_⟩
    show poly_Valid.l1 (k + 1) _ _ _ _ _ _ _ _ = _
    have h2 := hK k hk
    simp only at h2
    rw [List.drop_eq_nil_of_le (by omega), if_pos (show okPow last [] = true from rfl)] at h2
    simp only [poly_Valid.l1]
    rw [if_neg (by omega)]
    exact h2
  | d + 1, i, last, hi, h => by
    have hlt : i < pw.length := by omega
    rw [dropA70 hlt, okPow_cons] at h
    by_cases h1 : last < (rd_T70 pw (i : Int)).f0 ∧ (rd_T70 pw (i : Int)).f0 < 4000 ∧ 1 ≤ (rd_T70 pw (i : Int)).f1 ∧ (rd_T70 pw (i : Int)).f1 ≤ 100
    · rw [decide_eq_true h1.1, decide_eq_true h1.2.1, decide_eq_true h1.2.2.1, decide_eq_true h1.2.2.2] at h
      obtain ⟨K, hK⟩ := val_l1 hb d (i + 1) (rd_T70 pw (i : Int)).f0 (by omega) h
      refine ev_succ ⟨K, fun k hk => ?_⟩
      show poly_Valid.l1 (k + 1) _ _ _ _ _ _ _ _ = _
      simp only [poly_Valid.l1]
      rw [if_pos (by omega), if_pos (by omega), if_pos (by omega), if_neg (by omega), if_neg (by omega), if_neg (by omega), if_neg (by omega), wrap_n (by omega)]
      exact hK k hk
    · have e : (decide (last < (rd_T70 pw (i : Int)).f0) && decide ((rd_T70 pw (i : Int)).f0 < 4000) && decide (1 ≤ (rd_T70 pw (i : Int)).f1) && decide ((rd_T70 pw (i : Int)).f1 ≤ 100) && okPow (rd_T70 pw (i : Int)).f0 (pw.drop (i + 1))) = false := by
        rw [Bool.eq_false_iff]
        intro h2
        simp only [Bool.and_eq_true, decide_eq_true_eq] at h2
        exact h1 ⟨h2.1.1.1.1, h2.1.1.1.2, h2.1.1.2, h2.1.2⟩
      rw [e] at h
      obtain ⟨K, hK⟩ := h
      refine ev_succ ⟨K, fun k hk => ?_⟩
      show poly_Valid.l1 (k + 1) _ _ _ _ _ _ _ _ = _
      have h2 := hK k hk
      simp only at h2
      rw [if_neg (by simp)] at h2
      simp only [poly_Valid.l1]
      rw [if_pos (by omega), if_pos (by omega), if_pos (by omega)]
      by_cases c1 : (rd_T70 pw (i : Int)).f0 ≤ last
      · rw [if_pos c1]; exact h2
      · rw [if_neg c1]
        by_cases c2 : (rd_T70 pw (i : Int)).f0 ≥ 4000
        · rw [if_pos c2]; exact h2
        · rw [if_neg c2]
          by_cases c3 : (rd_T70 pw (i : Int)).f1 < 1
          · rw [if_pos c3]; exact h2
          · rw [if_neg c3, if_pos (by omega)]; exact h2
def prevP (l : List S68) (i : Nat) : Option (List S70) := if i = 0 then none else some (rd_T68 l ((i - 1 : Nat) : Int)).f1
theorem val_l0 {l : List S68} (hs : smallP l) : ∀ (d i : Nat), l.length = i + d → Ev (fun k => poly_Valid.l0 k l l (l.length : Int) (i : Int)) (okMons (prevP l i) (l.drop i) && decide (l.length ≤ 400))
  | 0, i, hi => by
    refine ev_succ ⟨0, fun k hk => ?_⟩
    show poly_Valid.l0 (k + 1) _ _ _ _ = _
    simp only [poly_Valid.l0]
    rw [if_neg (by omega), List.drop_eq_nil_of_le (by omega)]
    show some (decide ((l.length : Int) ≤ 400)) = some (true && decide (l.length ≤ 400))
    rw [Bool.true_and]
    congr 1
    exact decide_eq_decide.2 (by omega)
  | d + 1, i, hi => by
    have hlt : i < l.length := by omega
    have hlen := hs.1
    obtain ⟨m, hm⟩ : ∃ m, m = rd_T68 l (i : Int) := ⟨_, rfl⟩
    have hmem : m ∈ l := by rw [hm, rd68_at hlt]; exact List.getElem_mem hlt
    have hrec := val_l0 hs d (i + 1) (by omega)
    have hprev : prevP l (i + 1) = some m.f1 := by rw [hm]; unfold prevP; rw [if_neg (by omega)]; rfl
    rw [hprev] at hrec
    rw [drop68 hlt, ← hm]
    -- the test, then the powers
    have hj : ∀ c : Bool, (c = !(decide (1 ≤ m.f0) && decide (m.f0 ≤ 1000000000) && (match prevP l i with | none => true | some q => decide (orderS q m.f1 < 0)))) → Ev (fun k => poly_Valid.j1 k l l (l.length : Int) (i : Int) c m.f0 m.f1) (okMons (prevP l i) (m :: l.drop (i + 1)) && decide (l.length ≤ 400)) := by
      intro c hc
      show Ev _ ((okMon (prevP l i) m && okMons (some m.f1) (l.drop (i + 1))) && decide (l.length ≤ 400))
      unfold okMon
      cases c with
      | true =>
        have e := (Bool.not_eq_true' _).mp hc.symm
        rw [e]
        refine ev_succ ⟨0, fun k _ => ?_⟩
        show poly_Valid.j1 (k + 1) _ _ _ _ _ _ _ = _
        simp only [poly_Valid.j1]
        rfl
      | false =>
        have e := (Bool.not_eq_false' _).mp hc.symm
        rw [e]
        have h2 : Ev (fun k => poly_Valid.l1 k l (-1) l (l.length : Int) (i : Int) m.f1 (m.f1.length : Int) ((0 : Nat) : Int)) (((true && okPow (-1) m.f1) && okMons (some m.f1) (l.drop (i + 1))) && decide (l.length ≤ 400)) := by
          refine val_l1 (hs.2 m hmem) m.f1.length 0 (-1) (by omega) ?_
          rw [List.drop_zero]
          cases okPow (-1) m.f1 with
          | false => exact ⟨0, fun k _ => by simp⟩
          | true =>
            obtain ⟨K, hK⟩ := hrec
            refine ⟨K, fun k hk => ?_⟩
            simp only [if_true, wrap_n (show i ≤ 4611686018427387904 by omega)]
            exact hK k hk
        obtain ⟨K, hK⟩ := h2
        refine ev_succ ⟨K, fun k hk => ?_⟩
        show poly_Valid.j1 (k + 1) _ _ _ _ _ _ _ = _
        simp only [poly_Valid.j1]
        rw [if_neg (by simp)]
        exact hK k hk
    by_cases c1 : m.f0 < 1
    · obtain ⟨K, hK⟩ := hj true (by rw [decide_eq_false (show ¬ 1 ≤ m.f0 by omega)]; rfl)
      refine ev_succ ⟨K, fun k hk => ?_⟩
      show poly_Valid.l0 (k + 1) _ _ _ _ = _
      simp only [poly_Valid.l0]
      rw [← hm, if_pos (by omega), if_pos (by omega), if_pos (by omega), if_pos c1]
      exact hK k hk
    · by_cases c2 : m.f0 > 1000000000
      · obtain ⟨K, hK⟩ := hj true (by rw [decide_eq_false (show ¬ m.f0 ≤ 1000000000 by omega), Bool.and_false]; rfl)
        refine ev_succ ⟨K, fun k hk => ?_⟩
        show poly_Valid.l0 (k + 1) _ _ _ _ = _
        simp only [poly_Valid.l0]
        rw [← hm, if_pos (by omega), if_pos (by omega), if_pos (by omega), if_neg c1, if_pos c2]
        exact hK k hk
      · have t1 : decide (1 ≤ m.f0) = true := decide_eq_true (by omega)
        have t2 : decide (m.f0 ≤ 1000000000) = true := decide_eq_true (by omega)
        rcases Nat.eq_zero_or_pos i with h0 | h0
        · subst h0
          obtain ⟨K, hK⟩ := hj false (by rw [t1, t2]; rfl)
          refine ev_succ ⟨K, fun k hk => ?_⟩
          show poly_Valid.l0 (k + 1) _ _ _ _ = _
          simp only [poly_Valid.l0]
          rw [← hm, if_pos (by omega), if_pos (by omega), if_pos (by omega), if_neg c1, if_neg c2, if_neg (by omega)]
          exact hK k hk
        · have hp : prevP l i = some (rd_T68 l ((i - 1 : Nat) : Int)).f1 := by unfold prevP; rw [if_neg (by omega)]
          have hwr : wrap64 ((i : Int) - 1) = ((i - 1 : Nat) : Int) := by unfold wrap64; omega
          obtain ⟨K, hK⟩ := hj (decide (orderS (rd_T68 l ((i - 1 : Nat) : Int)).f1 m.f1 ≥ 0)) (by
            rw [t1, t2, hp]
            simp only [Bool.true_and]
            rw [← decide_not]
            exact decide_eq_decide.2 (by omega))
          refine ev_succ ⟨K, fun k hk => ?_⟩
          show poly_Valid.l0 (k + 1) _ _ _ _ = _
          simp only [poly_Valid.l0]
          rw [← hm, if_pos (by omega), if_pos (by omega), if_pos (by omega), if_neg c1, if_neg c2, if_pos (by omega), hwr, if_pos (by omega), if_pos (by omega)]
          unfold poly_order.f
          rw [Option.bind_some]
          exact hK k hk
theorem valid_f {l : List S68} (hs : smallP l) : Ev (fun k => poly_Valid.f k l) (validP l) := by
  obtain ⟨K, hK⟩ := val_l0 hs l.length 0 (by omega)
  exact ⟨K, fun k hk => hK k hk⟩
end Go.Proofs.YtcafgpfecfocnaaDoor.P

/- poly.factors, plainly. -/
namespace Go.Proofs.YtcafgpfecfocnaaDoor.P
open Go.RowKit Go.Proofs.YtcafgpfecfocnaaDoorW.PrintWords
set_option linter.unusedVariables false
set_option linter.unusedSimpArgs false

def bs (l : List UInt8) : ByteArray := ⟨l.toArray⟩
theorem bs_size (l : List UInt8) : (bs l).size = l.length := by show l.toArray.size = _; simp
theorem bs_list (l : List UInt8) : (bs l).data.toList = l := rfl
theorem bs_append (a b : List UInt8) : bs a ++ bs b = bs (a ++ b) := by
  apply ByteArray.ext
  show (bs a ++ bs b).data = _
  rw [ByteArray.data_append]
  show a.toArray ++ b.toArray = (a ++ b).toArray
  simp
theorem itoa_f {a : Int} (h : in64 a) : strconv_Itoa.f a = some (bs (Lib.itoa a)) := by unfold strconv_Itoa.f; rw [if_pos h]; rfl
theorem itoa_len {a : Int} (h : in64 a) : (Lib.itoa a).length ≤ 21 := Lib.itoa_length_le a h.1 h.2
def goodL (l : List S70) : Prop := ∀ x ∈ l, in64 x.f0 ∧ in64 x.f1
theorem pieceP_len {x : S70} (h : in64 x.f0 ∧ in64 x.f1) : (pieceP x).length ≤ 44 := by
  have h1 := itoa_len h.1
  have h2 := itoa_len h.2
  unfold pieceP
  split <;> simp <;> omega
theorem join_len {xs : List (List UInt8)} {sep : List UInt8} {c : Nat} (h : ∀ x ∈ xs, x.length ≤ c) : (Lib.join xs sep).length ≤ xs.length * (c + sep.length) := by
  have tl : ∀ r : List (List UInt8), (∀ x ∈ r, x.length ≤ c) → (Lib.joinTail sep r).length ≤ r.length * (c + sep.length) := by
    intro r
    induction r with
    | nil => intro _; simp [Lib.joinTail]
    | cons y r ih =>
      intro hr
      have h1 := ih (fun x hx => hr x (by simp [hx]))
      have h2 := hr y (by simp)
      rw [joinTail_cons, List.length_append, List.length_append, List.length_cons, Nat.add_mul, Nat.one_mul]
      omega
  cases xs with
  | nil => simp [Lib.join_nil]
  | cons y r =>
    have h1 := tl r (fun x hx => h x (by simp [hx]))
    have h2 := h y (by simp)
    rw [Lib.join_cons, List.length_append, List.length_cons, Nat.add_mul, Nat.one_mul]
    omega
theorem ftext_len {l : List S70} (h : goodL l) : (ftext l).length ≤ l.length * 45 := by
  unfold ftext
  have := join_len (xs := l.map pieceP) (sep := [42]) (c := 44) (fun x hx => by obtain ⟨p, hp, rfl⟩ := List.mem_map.1 hx; exact pieceP_len (h p hp))
  simpa using this
theorem take_map_snoc {α β : Type} (f : α → β) (l : List α) (i : Nat) (h : i < l.length) : (l.take (i + 1)).map f = (l.take i).map f ++ [f l[i]] := by
  rw [List.take_add_one, List.getElem?_eq_getElem h, List.map_append]; rfl
theorem fac_l0 {l : List S70} (hg : goodL l) (hlen : l.length ≤ 1000000) : ∀ (d i : Nat), l.length = i + d → Ev (fun k => poly_factors.l0 k ((l.take i).map fun x => bs (pieceP x)) l (l.length : Int) (i : Int)) (bs (ftext l))
  | 0, i, hi => by
    refine ev_succ ⟨0, fun k hk => ?_⟩
    show poly_factors.l0 (k + 1) _ _ _ _ = _
    simp only [poly_factors.l0]
    rw [if_neg (by omega), List.take_of_length_le (by omega)]
    have e : joinL (l.map fun x => bs (pieceP x)) (⟨#[42]⟩ : ByteArray) = ftext l := by
      unfold joinL ftext
      rw [List.map_map]
      rfl
    have hlen2 := ftext_len hg
    unfold strings_Join.f
    rw [e, if_pos ⟨by simp; omega, by omega⟩]
    rfl
  | d + 1, i, hi => by
    have hlt : i < l.length := by omega
    obtain ⟨K, hK⟩ := fac_l0 hg hlen d (i + 1) (by omega)
    rw [take_map_snoc _ _ _ hlt] at hK
    have hx := hg l[i] (List.getElem_mem hlt)
    have h1 := itoa_len hx.1
    have h2 := itoa_len hx.2
    refine ev_succ ⟨K, fun k hk => ?_⟩
    show poly_factors.l0 (k + 1) _ _ _ _ = _
    have h3 := hK k hk
    simp only [poly_factors.l0]
    rw [rd70_at hlt, if_pos (by omega), if_pos (by omega), if_pos (by omega), itoa_f hx.1, Option.bind_some, if_pos (by rw [bs_size]; omega), wrap_n (by omega)]
    have e120 : (⟨#[120]⟩ : ByteArray) = bs [120] := rfl
    have e94 : (⟨#[94]⟩ : ByteArray) = bs [94] := rfl
    by_cases c : l[i].f1 = 1
    · rw [if_pos c, if_pos (by simp; omega), e120, bs_append]
      have e : pieceP l[i] = [120] ++ Lib.itoa l[i].f0 := by unfold pieceP; rw [if_pos c]; simp
      rw [e] at h3
      exact h3
    · rw [if_neg c, itoa_f hx.2, Option.bind_some, if_pos (by rw [bs_size]; omega), e120, e94, bs_append, bs_append, if_pos (by rw [bs_size, bs_size]; simp; omega), if_pos (by simp; omega), bs_append]
      have e : pieceP l[i] = ([120] ++ Lib.itoa l[i].f0) ++ ([94] ++ Lib.itoa l[i].f1) := by unfold pieceP; rw [if_neg c]; simp
      rw [e] at h3
      exact h3
theorem factors_f {l : List S70} (hg : goodL l) (hlen : l.length ≤ 1000000) : Ev (fun k => poly_factors.f k l) (bs (ftext l)) := by
  obtain ⟨K, hK⟩ := fac_l0 hg hlen l.length 0 (by omega)
  exact ⟨K, fun k hk => hK k hk⟩
end Go.Proofs.YtcafgpfecfocnaaDoor.P

/- Sums of monomials as sorted lists, plainly. -/
namespace Go.Proofs.YtcafgpfecfocnaaDoor.P
open Go.RowKit Go.Proofs.YtcafgpfecfocnaaDoorW.PrintWords
set_option linter.unusedVariables false
set_option linter.unusedSimpArgs false

/-- A monomial put into a sorted list. -/
def insS (m : S68) : List S68 → List S68
  | [] => [m]
  | a :: r => if orderS m.f1 a.f1 < 0 then m :: a :: r else if orderS m.f1 a.f1 = 0 then ⟨min (m.f0 + a.f0) 1000000001, m.f1⟩ :: r else a :: insS m r
/-- The coefficient of powers. -/
def cfS : List S68 → List S70 → Int
  | [], _ => 0
  | a :: r, l => if a.f1 = l then a.f0 else cfS r l
theorem cfS_none {acc : List S68} {l : List S70} (h : ∀ m ∈ acc, m.f1 ≠ l) : cfS acc l = 0 := by
  induction acc with
  | nil => rfl
  | cons a r ih =>
    unfold cfS
    rw [if_neg (h a (by simp)), ih (fun m hm => h m (by simp [hm]))]
theorem cfS_or (acc : List S68) (l : List S70) : (∃ m ∈ acc, m.f1 = l ∧ cfS acc l = m.f0) ∨ ((∀ m ∈ acc, m.f1 ≠ l) ∧ cfS acc l = 0) := by
  induction acc with
  | nil => exact .inr ⟨fun m hm => (by cases hm), rfl⟩
  | cons a r ih =>
    unfold cfS
    by_cases e : a.f1 = l
    · rw [if_pos e]; exact .inl ⟨a, by simp, e, rfl⟩
    · rw [if_neg e]
      rcases ih with ⟨m, hm, h1, h2⟩ | ⟨h1, h2⟩
      · exact .inl ⟨m, by simp [hm], h1, h2⟩
      · refine .inr ⟨fun m hm => ?_, h2⟩
        rcases List.mem_cons.1 hm with rfl | hm
        · exact e
        · exact h1 m hm
theorem mem_ins {acc : List S68} (h : Sorted68 acc) (m x : S68) (hm : m.f0 ≤ 1000000001) : x ∈ insS m acc ↔ (x.f1 ≠ m.f1 ∧ x ∈ acc) ∨ x = ⟨min (m.f0 + cfS acc m.f1) 1000000001, m.f1⟩ := by
  induction acc with
  | nil =>
    have e : (⟨min (m.f0 + cfS [] m.f1) 1000000001, m.f1⟩ : S68) = m := s68_ext (by show min (m.f0 + 0) _ = _; omega) rfl
    rw [e]
    simp [insS]
  | cons a r ih =>
    obtain ⟨h1, h2⟩ := List.pairwise_cons.1 h
    unfold insS
    by_cases c1 : orderS m.f1 a.f1 < 0
    · rw [if_pos c1]
      have hne : ∀ y ∈ a :: r, y.f1 ≠ m.f1 := fun y hy e => by
        rcases List.mem_cons.1 hy with rfl | hy
        · rw [e, orderS_self] at c1; omega
        · have := orderS_trans c1 (h1 y hy)
          rw [e, orderS_self] at this; omega
      rw [cfS_none hne]
      have e : (⟨min (m.f0 + 0) 1000000001, m.f1⟩ : S68) = m := s68_ext (by show min (m.f0 + 0) _ = _; omega) rfl
      rw [e, List.mem_cons]
      constructor
      · rintro (rfl | hx)
        · exact .inr rfl
        · exact .inl ⟨hne x hx, hx⟩
      · rintro (⟨_, hx⟩ | rfl)
        · exact .inr hx
        · exact .inl rfl
    · rw [if_neg c1]
      by_cases c2 : orderS m.f1 a.f1 = 0
      · rw [if_pos c2]
        have ea := orderS_zero.1 c2
        have hne : ∀ y ∈ r, y.f1 ≠ m.f1 := fun y hy e => by
          have := h1 y hy
          rw [e, ea, orderS_self] at this; omega
        have hc : cfS (a :: r) m.f1 = a.f0 := by unfold cfS; rw [if_pos ea.symm]
        rw [hc, List.mem_cons]
        constructor
        · rintro (rfl | hx)
          · exact .inr rfl
          · exact .inl ⟨hne x hx, by simp [hx]⟩
        · rintro (⟨hx1, hx⟩ | rfl)
          · rcases List.mem_cons.1 hx with rfl | hx
            · exact absurd ea.symm hx1
            · exact .inr hx
          · exact .inl rfl
      · rw [if_neg c2]
        have ea : a.f1 ≠ m.f1 := fun e => c2 (by rw [e, orderS_self])
        have hc : cfS (a :: r) m.f1 = cfS r m.f1 := by rw [cfS, if_neg ea]
        rw [hc, List.mem_cons, ih h2]
        constructor
        · rintro (rfl | ⟨hx1, hx⟩ | rfl)
          · exact .inl ⟨ea, by simp⟩
          · exact .inl ⟨hx1, by simp [hx]⟩
          · exact .inr rfl
        · rintro (⟨hx1, hx⟩ | rfl)
          · rcases List.mem_cons.1 hx with rfl | hx
            · exact .inl rfl
            · exact .inr (.inl ⟨hx1, hx⟩)
          · exact .inr (.inr rfl)
theorem sorted_ins {acc : List S68} (h : Sorted68 acc) (m : S68) (hm : m.f0 ≤ 1000000001) : Sorted68 (insS m acc) := by
  induction acc with
  | nil => exact List.pairwise_singleton _ _
  | cons a r ih =>
    obtain ⟨h1, h2⟩ := List.pairwise_cons.1 h
    unfold insS
    by_cases c1 : orderS m.f1 a.f1 < 0
    · rw [if_pos c1]
      refine List.pairwise_cons.2 ⟨fun y hy => ?_, h⟩
      rcases List.mem_cons.1 hy with rfl | hy
      · exact c1
      · exact orderS_trans c1 (h1 y hy)
    · rw [if_neg c1]
      by_cases c2 : orderS m.f1 a.f1 = 0
      · rw [if_pos c2]
        have ea := orderS_zero.1 c2
        refine List.pairwise_cons.2 ⟨fun y hy => ?_, h2⟩
        show orderS m.f1 y.f1 < 0
        rw [ea]
        exact h1 y hy
      · rw [if_neg c2]
        refine List.pairwise_cons.2 ⟨fun y hy => ?_, ih h2⟩
        rcases (mem_ins h2 m y hm).1 hy with ⟨_, hy⟩ | rfl
        · exact h1 y hy
        · show orderS a.f1 m.f1 < 0
          exact orderS_pos.1 (by omega)
/-- What is put together. -/
def sumS (L : List S68) : List S68 := L.foldl (fun acc m => insS m acc) []
theorem sumS_snoc (L : List S68) (m : S68) : sumS (L ++ [m]) = insS m (sumS L) := by unfold sumS; rw [List.foldl_append]; rfl
/-- What a sum's monomials are. -/
structure AccOk (acc : List S68) : Prop where
  sorted : Sorted68 acc
  coef : ∀ m ∈ acc, 1 ≤ m.f0 ∧ m.f0 ≤ 1000000001
  good : ∀ m ∈ acc, goodL m.f1 ∧ m.f1.length ≤ 1000000
theorem AccOk.nil : AccOk [] := ⟨List.Pairwise.nil, fun m hm => (by cases hm), fun m hm => (by cases hm)⟩
theorem cfS_range {acc : List S68} (h : ∀ m ∈ acc, 1 ≤ m.f0 ∧ m.f0 ≤ 1000000001) (l : List S70) : 0 ≤ cfS acc l ∧ cfS acc l ≤ 1000000001 := by
  rcases cfS_or acc l with ⟨m, hm, _, h2⟩ | ⟨_, h2⟩
  · have := h m hm; omega
  · omega
theorem AccOk.ins {acc : List S68} (h : AccOk acc) {m : S68} (h0 : 1 ≤ m.f0) (h1 : m.f0 ≤ 1000000001) (h2 : goodL m.f1) (h3 : m.f1.length ≤ 1000000) : AccOk (insS m acc) := by
  refine ⟨sorted_ins h.sorted m h1, fun x hx => ?_, fun x hx => ?_⟩
  · rcases (mem_ins h.sorted m x h1).1 hx with ⟨_, hx⟩ | rfl
    · exact h.coef x hx
    · have := cfS_range h.coef m.f1
      show 1 ≤ min (m.f0 + cfS acc m.f1) 1000000001 ∧ min (m.f0 + cfS acc m.f1) 1000000001 ≤ 1000000001
      omega
  · rcases (mem_ins h.sorted m x h1).1 hx with ⟨_, hx⟩ | rfl
    · exact h.good x hx
    · exact ⟨h2, h3⟩
theorem ins_len (m : S68) (acc : List S68) : (insS m acc).length ≤ acc.length + 1 := by
  induction acc with
  | nil => simp [insS]
  | cons a r ih =>
    unfold insS
    split
    · simp
    · split
      · simp
      · simp only [List.length_cons]; omega
theorem atM_cf {w : World} {ok : Nat → Prop} {g : List UInt8 → Option M2} {acc : List S68} (h : RepM w ok g acc) (hs : Sorted68 acc) (l : List S70) : (atM g (ftext l)).c = cfS acc l := by
  rcases cfS_or acc l with ⟨m, hm, rfl, h2⟩ | ⟨h1, h2⟩
  · obtain ⟨x, hx, hmo⟩ := h.has m hm
    unfold atM
    rw [hx, h2]
    exact hmo.1
  · rw [h2]
    unfold atM
    cases hg : g (ftext l) with
    | none => rfl
    | some x =>
      obtain ⟨m, hm, e⟩ := h.only _ _ hg
      exact absurd (ftext_inj e).symm (h1 m hm)
theorem RepM.nil (w : World) (ok : Nat → Prop) : RepM w ok (fun _ => none) [] := ⟨fun m hm => (by cases hm), fun s x hx => (by cases hx)⟩
theorem RepM.put {w : World} {ok : Nat → Prop} {g : List UInt8 → Option M2} {acc : List S68} (h : RepM w ok g acc) (hs : Sorted68 acc) {m : S68} (hm : m.f0 ≤ 1000000001) {v : Value} (hv : Pw w ok v m.f1) :
    RepM w ok (updM g (ftext m.f1) ⟨min (m.f0 + (atM g (ftext m.f1)).c) 1000000001, v⟩) (insS m acc) := by
  have hc := atM_cf h hs m.f1
  refine ⟨fun x hx => ?_, fun s x hx => ?_⟩
  · unfold updM
    rcases (mem_ins hs m x hm).1 hx with ⟨h1, hx⟩ | rfl
    · rw [if_neg (fun e => h1 (ftext_inj e))]
      exact h.has x hx
    · rw [if_pos rfl, hc]
      exact ⟨_, rfl, rfl, hv⟩
  · unfold updM at hx
    by_cases e : s = ftext m.f1
    · subst e
      exact ⟨_, (mem_ins hs m _ hm).2 (.inr rfl), rfl⟩
    · rw [if_neg e] at hx
      obtain ⟨x', hx', rfl⟩ := h.only _ _ hx
      exact ⟨x', (mem_ins hs m _ hm).2 (.inl ⟨fun e' => e (by rw [e']), hx'⟩), rfl⟩
theorem RepM.step {w w' : World} {ok : Nat → Prop} {g : List UInt8 → Option M2} {acc : List S68} (h : RepM w ok g acc) (hm : ∀ k, ok k → k < w.heap.size → w'.heap[k]? = w.heap[k]?) : RepM w' ok g acc :=
  ⟨fun m hm' => by obtain ⟨x, hx, hmo⟩ := h.has m hm'; exact ⟨x, hx, hmo.1, hmo.2.step hm⟩, h.only⟩
def addS (p q : List S68) : List S68 × Int := if validP p = true ∧ validP q = true then resS (sumS (p ++ q)) else ([], 1)
end Go.Proofs.YtcafgpfecfocnaaDoor.P

/- What goes into a sum; (sum).put in monomials; poly.Valid. -/
namespace Go.Proofs.YtcafgpfecfocnaaDoor.P
open Go.RowKit Go.Maps Go.Proofs.YtcafgpfecfocnaaDoorW.PrintWords Go.Proofs.YtcafgpfecfocnaaDoorW.PrintLast Go.Proofs.YtcafgpfecfocnaaDoorW.PrintMore
set_option linter.unusedVariables false
set_option linter.unusedSimpArgs false

theorem valid_poly (A : Option Addr) (c : Nat) (l : List S68) (w : World) (h : Kd.C k68 w A l.length l) (hc : l.length ≤ c) (hs : smallP l) :
    Calls Tryd.prog 44 #[.slice A l.length c] w fun e w' => e = .returned (.bool (validP l)) ∧ Below w.heap.size w w' := by
  obtain ⟨K, hK⟩ := valid_f hs
  exact poly_Valid.calls K A c l (validP l) w h hc (hK K (Nat.le_refl _))
theorem okPow_all : ∀ {l : List S70} {last : Int}, okPow last l = true → ∀ x ∈ l, last < x.f0 ∧ x.f0 < 4000 ∧ 1 ≤ x.f1 ∧ x.f1 ≤ 100
  | [], _, _, x, hx => by cases hx
  | y :: r, last, h, x, hx => by
    rw [okPow_cons] at h
    simp only [Bool.and_eq_true, decide_eq_true_eq] at h
    rcases List.mem_cons.1 hx with rfl | hx
    · exact ⟨h.1.1.1.1, h.1.1.1.2, h.1.1.2, h.1.2⟩
    · have := okPow_all h.2 x hx
      omega
theorem okPow_len : ∀ {l : List S70} {last : Int}, okPow last l = true → -1 ≤ last → last < 4000 → (l.length : Int) ≤ 3999 - last
  | [], last, _, h0, h1 => by simp; omega
  | y :: r, last, h, h0, h1 => by
    rw [okPow_cons] at h
    simp only [Bool.and_eq_true, decide_eq_true_eq] at h
    have := okPow_len h.2 (by omega) (by omega)
    rw [List.length_cons]
    omega
theorem okMons_all : ∀ {l : List S68} {prev : Option (List S70)}, okMons prev l = true → ∀ m ∈ l, 1 ≤ m.f0 ∧ m.f0 ≤ 1000000000 ∧ okPow (-1) m.f1 = true
  | [], _, _, m, hm => by cases hm
  | a :: r, prev, h, m, hm => by
    unfold okMons okMon at h
    simp only [Bool.and_eq_true, decide_eq_true_eq] at h
    rcases List.mem_cons.1 hm with rfl | hm
    · exact ⟨h.1.1.1.1, h.1.1.1.2, h.1.2⟩
    · exact okMons_all h.2 m hm
theorem validP_all {l : List S68} (h : validP l = true) : ∀ m ∈ l, 1 ≤ m.f0 ∧ m.f0 ≤ 1000000000 ∧ okPow (-1) m.f1 = true := by
  unfold validP at h
  simp only [Bool.and_eq_true] at h
  exact okMons_all h.1
theorem validP_len {l : List S68} (h : validP l = true) : l.length ≤ 400 := by
  unfold validP at h
  simp only [Bool.and_eq_true, decide_eq_true_eq] at h
  exact h.2
theorem okPow_good {l : List S70} (h : okPow (-1) l = true) : goodL l ∧ l.length ≤ 4000 := by
  refine ⟨fun x hx => ?_, ?_⟩
  · have := okPow_all h x hx
    refine ⟨⟨?_, ?_⟩, ⟨?_, ?_⟩⟩ <;> omega
  · have := okPow_len h (by omega) (by omega)
    omega
/-- A monomial as it goes into a sum. -/
def putOk (m : S68) : Prop := 1 ≤ m.f0 ∧ m.f0 ≤ 1000000001 ∧ goodL m.f1 ∧ m.f1.length ≤ 1000000
theorem tells_of {W : World} {A : Option Addr} {c : Nat} {l : List S70} (hT : Tabs W) (h : Kd.C k70 W A l.length l) (hc : l.length ≤ c) (hg : goodL l) (hl : l.length ≤ 1000000) : Tells W (.slice A l.length c) (bs (ftext l)) := by
  intro W' hb
  obtain ⟨K, hK⟩ := factors_f hg hl
  exact poly_factors.calls K A c l _ W' (Tabs.below hT hb) (Kd.C_below h hb) hc (hK K (Nat.le_refl _))
/-- (sum).put, in monomials. -/
theorem put_mons (b n : Nat) (g : List UInt8 → Option M2) (acc : List S68) (m : S68) (v : Value) (W : World) (ok : Nat → Prop) (hT : Tabs W) (hM : MapM W b n g) (hn : n < maxLen) (hR : RepM W ok g acc) (hA : AccOk acc) (hm : putOk m) (hv : Pw W ok v m.f1) (hok : ∀ k, ok k → k ≠ b) :
    Calls Tryd.prog 61 #[.map (some b), .agg #[.int .i64 m.f0, v]] W fun e w' => e = .returned (.tuple #[]) ∧ W.grownBy w' (some b) ∧ ∃ g', MapM w' b (n + 1) g' ∧ RepM w' ok g' (insS m acc) := by
  obtain ⟨A, c, rfl, hc, hF⟩ := hv
  have hl := ftext_len hm.2.2.1
  have hks : (bs (ftext m.f1)).size ≤ maxLen := by rw [bs_size]; unfold maxLen; have := hm.2.2.2; omega
  have hcf := cfS_range hA.coef m.f1
  have hat := atM_cf hR hA.sorted m.f1
  refine (put_calls b n g m.f0 A m.f1.length c (bs (ftext m.f1)) W hM hn hks (by have := hm.1; omega) hm.2.1 (by rw [bs_list, hat]; exact hcf.1) (by rw [bs_list, hat]; exact hcf.2) (tells_of hT (Kd.F_now hF) hc hm.2.2.1 hm.2.2.2)).mono ?_
  rintro e w' ⟨rfl, h1, h2⟩
  refine ⟨rfl, h2, _, h1, ?_⟩
  rw [bs_list]
  exact (hR.put hA.sorted hm.2.1 ⟨A, c, rfl, hc, hF⟩).step (fun k hk hlt => h2.block k hlt (fun e => hok k hk (Option.some.inj e)))
theorem accOk_sum {L : List S68} (h : ∀ m ∈ L, putOk m) : AccOk (sumS L) ∧ (sumS L).length ≤ L.length := by
  have key : ∀ (L acc : List S68), (∀ m ∈ L, putOk m) → AccOk acc → AccOk (L.foldl (fun acc m => insS m acc) acc) ∧ (L.foldl (fun acc m => insS m acc) acc).length ≤ acc.length + L.length := by
    intro L
    induction L with
    | nil => intro acc _ h; exact ⟨h, Nat.le_refl _⟩
    | cons m L ih =>
      intro acc hL hacc
      have hm := hL m (by simp)
      have h1 := ih (insS m acc) (fun x hx => hL x (by simp [hx])) (hacc.ins hm.1 hm.2.1 hm.2.2.1 hm.2.2.2)
      have h2 := ins_len m acc
      refine ⟨h1.1, ?_⟩
      rw [List.foldl_cons, List.length_cons]
      omega
  have h2 := key L [] h AccOk.nil
  refine ⟨h2.1, ?_⟩
  have h3 := h2.2
  rw [List.length_nil, Nat.zero_add] at h3
  exact h3
theorem valid_putOk {m : S68} (h : 1 ≤ m.f0 ∧ m.f0 ≤ 1000000000 ∧ okPow (-1) m.f1 = true) : putOk m := ⟨h.1, by omega, (okPow_good h.2.2).1, by have := (okPow_good h.2.2).2; omega⟩
/-- A raw monomial in a row. -/
theorem at_M2 {w : World} {A : Option Addr} {n : Nat} {xs : List M2} (h : Kd.C kM2 w A n xs) (i : Nat) (hi : i < n) : ∃ ad x, A = some ad ∧ xs[i]? = some x ∧ w.cell? (ad.add (i * 2)) = some (.int .i64 x.c) ∧ w.cell? ⟨(ad.add (i * 2)).block, (ad.add (i * 2)).off + 1, none⟩ = some x.v := by
  obtain ⟨ad, c, e, _, hK, hc0⟩ := Kd.C_get h m2z (i : Int) (by omega) (by omega)
  rw [Int.toNat_natCast] at hK hc0
  have hc : ∀ j u, c[j]? = some u → w.cell? (ad.add (i * 2 + j)) = some u := hc0
  have hx : xs[i]? = some (xs.getD i m2z) := by
    have h1 : i < xs.length := by rw [h.1]; exact hi
    rw [List.getD_eq_getElem?_getD, List.getElem?_eq_getElem h1]; rfl
  obtain rfl := hK.1
  exact ⟨ad, xs.getD i m2z, e, hx, hc 0 _ rfl, by rw [← add_field _ _ 1 (by omega)]; exact hc 1 _ rfl⟩
theorem Mons.get {w : World} {ok : Nat → Prop} {xs : List M2} {l : List S68} (h : Mons w ok xs l) {i : Nat} {x : M2} (hx : xs[i]? = some x) : ∃ m, l[i]? = some m ∧ Mono w ok x m := by
  have hi : i < l.length := by rw [← h.1]; exact (List.getElem?_eq_some_iff.1 hx).1
  exact ⟨l[i], List.getElem?_eq_getElem hi, h.2 i x _ hx (List.getElem?_eq_getElem hi)⟩
end Go.Proofs.YtcafgpfecfocnaaDoor.P

/- poly.Add: the walk and its contract. -/
namespace Go.Proofs.YtcafgpfecfocnaaDoor.P
open Go.RowKit Go.Maps Go.Proofs.YtcafgpfecfocnaaDoorW.PrintWords Go.Proofs.YtcafgpfecfocnaaDoorW.PrintLast Go.Proofs.YtcafgpfecfocnaaDoorW.PrintMore
set_option linter.unusedVariables false
set_option linter.unusedSimpArgs false

theorem parts_get {α : Type} (p q : Part α) (hd : Addr) (W : World) (h0 : W.cell? (hd.add 0) = some p.val) (h1 : W.cell? (hd.add 1) = some q.val) : ∀ (i : Nat) r, [p, q][i]? = some r → W.cell? (hd.add i) = some r.val := by
  intro i r h
  match i, h with
  | 0, h => obtain rfl := Option.some.inj h; exact h0
  | 1, h => obtain rfl := Option.some.inj h; exact h1
  | i + 2, h => simp at h
theorem partAll_two {α : Type} (p q : Part α) : partAll [p, q] = p.l ++ q.l := by simp [partAll]
theorem conc_two (w : World) (g : Nat) (hg : w.heap.size = g) (A0 : Option Addr) (c0 : Nat) (xs : List M2) (A1 : Option Addr) (c1 : Nat) (ys : List M2) (h0 : Kd.C kM2 w A0 xs.length xs) (hc0 : xs.length ≤ c0) (h1 : Kd.C kM2 w A1 ys.length ys) (hc1 : ys.length ≤ c1) (hl : (xs.length + ys.length) * 32 ≤ 140737488355328) (zs : List M2) (hz : zs = xs ++ ys) :
    Calls Tryd.prog 60 #[.slice (some ⟨g, 0, none⟩) 2 2] (w.alloc (.cells #[.slice A0 xs.length c0, .slice A1 ys.length c1] 53)) fun e w' => ∃ v, e = .returned v ∧ kM2.R 68 w' (g + 1) (fun _ => True) v zs ∧ Below (g + 1) (w.alloc (.cells #[.slice A0 xs.length c0, .slice A1 ys.length c1] 53)) w' := by
  subst hg
  have hb := heap_alloc_new w (.cells #[.slice A0 xs.length c0, .slice A1 ys.length c1] 53)
  have hsz : (w.alloc (.cells #[.slice A0 xs.length c0, .slice A1 ys.length c1] 53)).heap.size = w.heap.size + 1 := by simp
  have hw := below_alloc (Below.refl w.heap.size w) (.cells #[.slice A0 xs.length c0, .slice A1 ys.length c1] 53)
  have h := conc68_calls ⟨w.heap.size, 0, none⟩ [⟨A0, c0, xs⟩, ⟨A1, c1, ys⟩] (w.alloc (.cells #[.slice A0 xs.length c0, .slice A1 ys.length c1] 53))
    (parts_get _ _ _ _ (by rw [add_plain]; exact (blk_cell hb 0).trans rfl) (by rw [add_plain]; exact (blk_cell hb 1).trans rfl))
    (fun p hp => by
      rcases List.mem_cons.1 hp with rfl | hp
      · exact ⟨Kd.C_below h0 hw, hc0⟩
      · rcases List.mem_cons.1 hp with rfl | hp
        · exact ⟨Kd.C_below h1 hw, hc1⟩
        · cases hp) (by simp) (by show (xs.length + (ys.length + 0)) * 32 ≤ _; omega)
  rw [partAll_two, hsz] at h
  rw [hz]
  exact h
set_option maxRecDepth 100000 in
set_option maxHeartbeats 8000000 in
theorem add_walk (P0 P1 : Nat → Prop) (A0 : Option Addr) (c0 : Nat) (p : List S68) (A1 : Option Addr) (c1 : Nat) (q : List S68) (W : World) (hT : Tabs W) (hF0 : Kd.F k68 W P0 A0 p.length p) (hc0 : p.length ≤ c0) (hF1 : Kd.F k68 W P1 A1 q.length q) (hc1 : q.length ≤ c1) (hs0 : smallP p) (hs1 : smallP q) :
    Calls Tryd.prog 33 #[.slice A0 p.length c0, .slice A1 q.length c1] W fun e w' => ∃ v, e = .returned (.tuple #[v, .int .i64 (addS p q).2]) ∧ Kd.V k68 68 w' W.heap.size (fun k => (P0 k ∨ P1 k) ∨ W.heap.size ≤ k) v (addS p q).1 ∧ Below W.heap.size W w' := by
  have h0 := Kd.F_now hF0
  have h1 := Kd.F_now hF1
  have HT := Aside0.mk hT
  have HV0 := Aside0.mk (fun (W' : World) (hb : Below W.heap.size W W') => valid_poly A0 c0 p W' (Kd.C_below h0 hb) hc0 hs0)
  have HV1 := Aside0.mk (fun (W' : World) (hb : Below W.heap.size W W') => valid_poly A1 c1 q W' (Kd.C_below h1 hb) hc1 hs1)
  obtain ⟨rs, hrs⟩ : ∃ rs, rs = addS p q := ⟨_, rfl⟩
  rw [← hrs]
  obtain ⟨rl, rc⟩ := rs
  by_cases hp : validP p = true
  · by_cases hq : validP q = true
    · -- the sum
      have e : addS p q = resS (sumS (p ++ q)) := by unfold addS; rw [if_pos ⟨hp, hq⟩]
      have HRS := Aside0.mk (hrs.trans e)
      have HPO := Aside0.mk (show ∀ m ∈ p ++ q, putOk m from fun m hm => by
        rcases List.mem_append.1 hm with hm | hm
        · exact valid_putOk (validP_all hp m hm)
        · exact valid_putOk (validP_all hq m hm))
      have HLP := Aside0.mk (validP_len hp)
      have HLQ := Aside0.mk (validP_len hq)
      have HV0' := Aside0.mk (fun W' hb => hp ▸ HV0.out W' hb)
      have HV1' := Aside0.mk (fun W' hb => hq ▸ HV1.out W' hb)
      obtain ⟨xs, hx1, hx2⟩ := raw_of_F (Kd.F_mono (ok' := fun k => (P0 k ∨ P1 k) ∧ k < W.heap.size) (Kd.F_bound hF0) (fun k hk => ⟨.inl hk.1, hk.2⟩))
      obtain ⟨ys, hy1, hy2⟩ := raw_of_F (Kd.F_mono (ok' := fun k => (P0 k ∨ P1 k) ∧ k < W.heap.size) (Kd.F_bound hF1) (fun k hk => ⟨.inr hk.1, hk.2⟩))
      have ex := hx2.1
      have ey := hy2.1
      have HMS := Aside0.mk (hx2.append hy2)
      have HX := Aside0.mk hx1
      have HY := Aside0.mk hy1
      have HC0 := Aside0.mk hc0
      have HC1 := Aside0.mk hc1
      rw [← ex] at HLP HX HC0 HV0' ⊢
      rw [← ey] at HLQ HY HC1 HV1' ⊢
      obtain ⟨zs, hzs⟩ : ∃ zs, zs = xs ++ ys := ⟨_, rfl⟩
      rw [← hzs] at HMS
      have hzl : zs.length = xs.length + ys.length := by rw [hzs, List.length_append]
      have HZS := Aside0.mk hzs
      have HZL := Aside0.mk hzl
      have hzb : zs.length ≤ 800 := by have := HLP.out; have := HLQ.out; omega
      have HTL := Aside0.mk (show ∀ (i : Nat) m, (p ++ q)[i]? = some m → sumS ((p ++ q).take (i + 1)) = insS m (sumS ((p ++ q).take i)) from fun i m h => by rw [List.take_add_one, h]; exact sumS_snoc _ _)
      have HACC := Aside0.mk (show ∀ i : Nat, AccOk (sumS ((p ++ q).take i)) ∧ (sumS ((p ++ q).take i)).length ≤ 800 from fun i => by
        have h1 := accOk_sum (L := (p ++ q).take i) (fun m hm => HPO.out m (List.mem_of_mem_take hm))
        refine ⟨h1.1, ?_⟩
        have h2 : ((p ++ q).take i).length ≤ zs.length := by rw [HMS.out.1]; exact List.length_take_le' _ _
        have := HLP.out; have := HLQ.out; have := h1.2
        omega)
      have HFIN := Aside0.mk (show (rl, rc) = resS (sumS ((p ++ q).take zs.length)) from by rw [HMS.out.1, List.take_length]; exact HRS.out)
      have HML := Aside0.mk HMS.out.1
      obtain ⟨L, hL⟩ : ∃ L, L = p ++ q := ⟨_, rfl⟩
      rw [← hL] at HMS HTL HACC HFIN HPO HML
      clear h0 h1 hF0 hF1 hc0 hc1 hs0 hs1 hT hp hq e hrs HV0 HV1 hx1 hx2 hy1 hy2 ex ey hzs hzl HRS hL
      have hmm := @run_makeMap Tryd.prog
      go_enter Tryd.func33, Tryd.ntmps33
      go_wp2_with (first
        | (go_at_call 44; (with_reducible refine (HV0'.out _ (Below.refl _ _)).mono ?_); rintro e w1 ⟨rfl, hb⟩; have HB := Aside0.mk hb; clear hb)
        | (go_at_call 44; (with_reducible refine (HV1'.out _ HB.out).mono ?_); rintro e w2 ⟨rfl, hb⟩; have HB2 := Aside0.mk (HB.out.trans (hb.mono HB.out.size)); clear hb)
        | (go_at_call 60; ((refine (conc_two (w2.alloc (.map #[] 0)) (w2.heap.size + 1) (by simp) A0 c0 xs A1 c1 ys (Kd.C_below HX.out (below_alloc HB2.out _)) HC0.out (Kd.C_below HY.out (below_alloc HB2.out _)) HC1.out (by have := HLP.out; have := HLQ.out; omega) zs HZS.out).mono ?_); rintro e w3 ⟨v, rfl, hv, hb⟩); have HV := Aside0.mk hv; have HB3 := Aside0.mk ((below_alloc (below_alloc HB2.out _) _).trans (hb.mono (Nat.le_trans HB2.out.size (Nat.le_trans (Nat.le_succ _) (Nat.le_succ _))))); have HSZ := Aside0.mk (show w2.heap.size < w3.heap.size by have := hb.size; simp at this; omega); have HMM := Aside0.mk (((MapM.made w2).alloc (.cells #[.slice A0 xs.length c0, .slice A1 ys.length c1] 53)).below (hb.mono (by simp))); clear hb hv; obtain ⟨Av, cv, rfl⟩ := Kd.R_slice HV.out))
      go_loopg [23] zs.length (fun gg s23 wr => ∃ (i : Nat) (g : List UInt8 → Option M2), i ≤ zs.length ∧ zs.length - i ≤ gg ∧ s23 = .int .i64 i ∧ Aside0 (MapM wr w2.heap.size i g) ∧ Aside0 (RepM wr (fun k => (P0 k ∨ P1 k) ∧ k < W.heap.size) g (sumS (L.take i))) ∧ Aside0 (w3.grownBy wr (some w2.heap.size)))
      case atStart => exact ⟨0, _, Nat.zero_le _, Nat.le_refl _, rfl, HMM, Aside0.mk (RepM.nil _ _), Aside0.mk ⟨rfl, rfl, rfl, Nat.le_refl _, fun _ _ _ => rfl⟩⟩
      case round =>
        clear HMM
        obtain ⟨i, g, hi, hgg, rfl, HM, HR, HG⟩ := hrel
        have HBW := Aside0.mk (pw_below_grown HB3.out (some w2.heap.size) HB3.out.size HG.out (fun k hk => by injection hk with hk; have := HB2.out.size; omega))
        by_cases hlt : i < zs.length
        · have HRV := Aside0.mk (Kd.R_grown (Kd.R_bound HV.out) HG.out (fun k hk e => by have := hk.2.1; injection e with e; omega))
          obtain ⟨ad, x, e, hx, x0, x1⟩ := at_M2 (Kd.R_reads' HRV.out).2.2 i hlt
          cases e
          obtain ⟨m, hm, hmo⟩ := HMS.out.get hx
          obtain ⟨xc, xv⟩ := x
          obtain ⟨hc, hpw⟩ := hmo
          simp only at hc hpw x0 x1
          subst hc
          have hpw2 := hpw.below HBW.out
          obtain ⟨Am, cm, rfl, _, _⟩ := hpw
          have HPW := Aside0.mk hpw2
          have HSUM := Aside0.mk (HTL.out i m hm)
          have HOK := Aside0.mk (HPO.out m (List.mem_of_getElem? hm))
          have hil : i < maxLen := by have := HLP.out; have := HLQ.out; have := HZL.out; unfold maxLen; omega
          have HCALL := Aside0.mk (fun o => put_mons w2.heap.size i g (sumS (L.take i)) m (.slice Am m.f1.length cm) (wr.alloc o) (fun k => (P0 k ∨ P1 k) ∧ k < W.heap.size) (Tabs.below HT.out (below_alloc HBW.out o)) (HM.out.alloc o) hil (HR.out.step (fun k _ hlt => (below_alloc (Below.refl _ wr) o).block k hlt)) (HACC.out i).1 HOK.out (HPW.out.below (below_alloc (Below.refl _ _) o)) (fun k hk => by have h1 := HB2.out.size; have h2 := hk.2; omega))
          have HI1 := Aside0.mk (show i + 1 ≤ zs.length from hlt)
          clear hx hm hpw2 hil
          go_wp2_with (go_at_call 61; (with_reducible refine (HCALL.out _).mono ?_); rintro e w5 ⟨rfl, hg5, g', hm5, hr5⟩; have HG5 := Aside0.mk hg5; have HM5 := Aside0.mk hm5; have HR5 := Aside0.mk hr5; clear hg5 hm5 hr5)
          go_roundg (zs.length - (i + 1))
          case measure => omega
          case rel => exact ⟨i + 1, g', HI1.out, Nat.le_refl _, by go_num, HM5, Aside0.mk (by rw [HSUM.out]; exact HR5.out), Aside0.mk ((HG.out.andThen (World.grownBy_alloc wr _ (some w2.heap.size)) (fun j hj => .inr hj)).andThen HG5.out (fun j hj => .inr hj))⟩
        · obtain rfl : i = zs.length := by omega
          have HCALL := Aside0.mk (result_calls w2.heap.size zs.length g (sumS (L.take zs.length)) wr _ HM.out HR.out (HACC.out zs.length).1.sorted (Nat.le_trans (HACC.out zs.length).2 (by omega)))
          obtain ⟨rfl, rfl⟩ := Prod.mk.inj (show (rl, rc) = ((resS (sumS (L.take zs.length))).1, (resS (sumS (L.take zs.length))).2) from HFIN.out)
          go_wp2_with (go_at_call 62; (with_reducible refine HCALL.out.mono ?_); rintro e w5 ⟨v, rfl, hv, hb⟩; have HV5 := Aside0.mk hv; have HB5 := Aside0.mk hb; clear hv hb)
          go_ret2
          exact ⟨_, rfl, Kd.V_lower (Kd.V_mono HV5.out (fun k hk => hk.elim (fun h => .inl h.1) (fun h => .inr (Nat.le_trans HBW.out.size h)))) HBW.out.size, HBW.out.trans (HB5.out.mono HBW.out.size)⟩
    · replace hq : validP q = false := by simpa using hq
      have e : addS p q = ([], 1) := by unfold addS; rw [if_neg (by rw [hq]; simp)]
      obtain ⟨rfl, rfl⟩ := Prod.mk.inj (hrs.trans e)
      have HV0' := Aside0.mk (fun W' hb => hp ▸ HV0.out W' hb)
      have HV1' := Aside0.mk (fun W' hb => hq ▸ HV1.out W' hb)
      clear h0 h1 hF0 hF1 hc0 hc1 hs0 hs1 hT hp hq e hrs HV0 HV1
      go_enter Tryd.func33, Tryd.ntmps33
      go_wp2_with (first
        | (go_at_call 44; (with_reducible refine (HV0'.out _ (Below.refl _ _)).mono ?_); rintro e w1 ⟨rfl, hb⟩; have HB := Aside0.mk hb; clear hb)
        | (go_at_call 44; (with_reducible refine (HV1'.out _ HB.out).mono ?_); rintro e w2 ⟨rfl, hb⟩; have HB2 := Aside0.mk (HB.out.trans (hb.mono HB.out.size)); clear hb))
      go_ret2
      exact ⟨_, rfl, Kd.V_nil _ _ _ _ _, HB2.out⟩
  · replace hp : validP p = false := by simpa using hp
    have e : addS p q = ([], 1) := by unfold addS; rw [if_neg (by rw [hp]; simp)]
    obtain ⟨rfl, rfl⟩ := Prod.mk.inj (hrs.trans e)
    have HV0' := Aside0.mk (fun W' hb => hp ▸ HV0.out W' hb)
    clear h0 h1 hF0 hF1 hc0 hc1 hs0 hs1 hT hp e hrs HV0 HV1
    go_enter Tryd.func33, Tryd.ntmps33
    go_wp2_with (go_at_call 44; (with_reducible refine (HV0'.out _ (Below.refl _ _)).mono ?_); rintro e w1 ⟨rfl, hb⟩; have HB := Aside0.mk hb; clear hb)
    go_ret2
    exact ⟨_, rfl, Kd.V_nil _ _ _ _ _, HB.out⟩
/-- What poly.Add answers. -/
def poly_Add.f (l0 l1 : List S68) : Option (List S68 × Int) := if smallP l0 ∧ smallP l1 then some (addS l0 l1) else none
theorem poly_Add.calls (P0 : Nat → Prop) (A0 : Option Addr) (c0 : Nat) (l0 : List S68) (P1 : Nat → Prop) (A1 : Option Addr) (c1 : Nat) (l1 : List S68) (r1 : List S68) (r2 : Int) (w : World) (hT : Tabs w) (hs0 : Kd.V k68 68 w w.heap.size P0 (.slice A0 l0.length c0) l0) (hs1 : Kd.V k68 68 w w.heap.size P1 (.slice A1 l1.length c1) l1) (h : poly_Add.f l0 l1 = some (r1, r2)) :
    Calls Tryd.prog 33 #[.slice A0 l0.length c0, .slice A1 l1.length c1] w fun e w' => ∃ v0_ : Value, e = .returned (.tuple #[v0_, .int .i64 r2]) ∧ Kd.V k68 68 w' w.heap.size (fun k_ => (P0 k_ ∨ P1 k_) ∨ w.heap.size ≤ k_) v0_ r1 ∧ Below w.heap.size w w' := by
  unfold poly_Add.f at h
  by_cases hs : smallP l0 ∧ smallP l1
  · rw [if_pos hs] at h
    have e := Option.some.inj h
    have hw := add_walk P0 P1 A0 c0 l0 A1 c1 l1 w hT (Kd.V_F hs0) (Kd.V_reads' hs0).2.1 (Kd.V_F hs1) (Kd.V_reads' hs1).2.1 hs.1 hs.2
    rw [e] at hw
    exact hw
  · rw [if_neg hs] at h; cases h
end Go.Proofs.YtcafgpfecfocnaaDoor.P

/- poly.Eval: the walk and its contract. -/
namespace Go.Proofs.YtcafgpfecfocnaaDoor.P
open Go.RowKit Go.Maps Go.Proofs.YtcafgpfecfocnaaDoorW.PrintWords Go.Proofs.YtcafgpfecfocnaaDoorW.PrintLast Go.Proofs.YtcafgpfecfocnaaDoorW.PrintMore
section
attribute [local go_sem] min2_int min_two
set_option linter.unusedVariables false
set_option linter.unusedSimpArgs false

def mulV (v : Int) : Nat → Int → Int
  | 0, p => p
  | e + 1, p => mulV v e (min (p * v) 1000000001)
def powV (vals : List Int) (p : Int) (x : S70) : Int := mulV (rd vals x.f0) x.f1.toNat (if rd vals x.f0 = 0 then 0 else p)
def monV (vals : List Int) (m : S68) : Int := m.f1.foldl (powV vals) m.f0
def totV (vals : List Int) (p : List S68) : Int := p.foldl (fun t m => min (t + monV vals m) 1000000001) 0
/-- The last variable has no value. -/
def badVar (n : Nat) (m : S68) : Bool := decide (0 < m.f1.length ∧ (n : Int) ≤ (rd_T70 m.f1 ((m.f1.length - 1 : Nat) : Int)).f0)
/-- What poly.Eval comes to. -/
def evalS (p : List S68) (vals : List Int) : Int × Int :=
  if validP p = true ∧ vals.any outVal = false then if p.any (badVar vals.length) = true then (0, 1) else if 1000000000 < totV vals p then (0, 2) else (totV vals p, 0) else (0, 1)
theorem any_of_mem {p : List S68} {f : S68 → Bool} {i : Nat} (hi : i < p.length) (h : f p[i] = true) : p.any f = true := List.any_eq_true.2 ⟨_, List.getElem_mem hi, h⟩
theorem any_none {p : List S68} {f : S68 → Bool} (h : ∀ k, (hk : k < p.length) → f p[k] = false) : p.any f = false := by
  rw [List.any_eq_false]
  intro m hm
  obtain ⟨k, hk, rfl⟩ := List.getElem_of_mem hm
  rw [h k hk]; simp
theorem rdI_mem (l : List Int) (i : Int) (h0 : 0 ≤ i) (h1 : i < (l.length : Int)) : rd l i ∈ l := by
  have hi : i.toNat < l.length := by omega
  unfold rd
  rw [List.getD_eq_getElem?_getD, List.getElem?_eq_getElem hi]
  exact List.getElem_mem hi
theorem okPow_mono : ∀ {l : List S70} {last : Int}, okPow last l = true → ∀ (i j : Nat) (hi : i < l.length) (hj : j < l.length), i ≤ j → l[i].f0 ≤ l[j].f0
  | [], _, _, i, j, hi, _, _ => absurd hi (Nat.not_lt_zero _)
  | y :: r, last, h, 0, 0, _, _, _ => Int.le_refl _
  | y :: r, last, h, 0, j + 1, _, hj, _ => by
    rw [okPow_cons] at h
    simp only [Bool.and_eq_true, decide_eq_true_eq] at h
    have := okPow_all h.2 _ (List.getElem_mem (show j < r.length by simpa using hj))
    show y.f0 ≤ (r[j]'(by simpa using hj)).f0
    omega
  | y :: r, last, h, i + 1, 0, _, _, hij => absurd hij (by omega)
  | y :: r, last, h, i + 1, j + 1, hi, hj, hij => by
    rw [okPow_cons] at h
    simp only [Bool.and_eq_true, decide_eq_true_eq] at h
    exact okPow_mono h.2 i j (by simpa using hi) (by simpa using hj) (by omega)
theorem evar_lt {m : S68} {n : Nat} (hv : okPow (-1) m.f1 = true) (hb : badVar n m = false) : ∀ x ∈ m.f1, 0 ≤ x.f0 ∧ x.f0 < (n : Int) ∧ 1 ≤ x.f1 ∧ x.f1 ≤ 100 := by
  intro x hx
  have h1 := okPow_all hv x hx
  obtain ⟨i, hi, rfl⟩ := List.getElem_of_mem hx
  unfold badVar at hb
  have h2 := of_decide_eq_false hb
  have h3 : m.f1.length - 1 < m.f1.length := by omega
  rw [rd70_at h3] at h2
  have h4 := okPow_mono hv i (m.f1.length - 1) hi h3 (by omega)
  have h5 : ¬ ((n : Int) ≤ (m.f1[m.f1.length - 1]'h3).f0) := fun h => h2 ⟨by omega, h⟩
  omega
set_option maxRecDepth 1000000 in
set_option maxHeartbeats 16000000 in
theorem eval_walk (A0 : Option Addr) (c0 : Nat) (p : List S68) (A1 : Option Addr) (c1 : Nat) (vals : List Int) (W : World) (h0 : Kd.C k68 W A0 p.length p) (hc0 : p.length ≤ c0) (h1 : Kd.C (Kd.int .i64) W A1 vals.length vals) (hc1 : vals.length ≤ c1) (hs0 : smallP p) (hs1 : vals.length ≤ 1099511627776) :
    Calls Tryd.prog 41 #[.slice A0 p.length c0, .slice A1 vals.length c1] W fun e w' => e = .returned (.tuple #[.int .i64 (evalS p vals).1, .int .i64 (evalS p vals).2]) ∧ Below W.heap.size W w' := by
  have HV0 := Aside0.mk (fun (W' : World) (hb : Below W.heap.size W W') => valid_poly A0 c0 p W' (Kd.C_below h0 hb) hc0 hs0)
  have HCF := Aside0.mk (fun (W' : World) (hb : Below W.heap.size W W') => containsFunc 67 #[] eg67 outVal A1 c1 vals W' (Kd.C_below h1 hb) (gives67 _ _))
  obtain ⟨rs, hrs⟩ : ∃ rs, rs = evalS p vals := ⟨_, rfl⟩
  rw [← hrs]
  obtain ⟨rv, rc⟩ := rs
  by_cases hp : validP p = true
  · by_cases hq : vals.any outVal = true
    · have e : evalS p vals = (0, 1) := by unfold evalS; rw [if_neg (by rw [hq]; simp)]
      obtain ⟨rfl, rfl⟩ := Prod.mk.inj (hrs.trans e)
      have HV0' := Aside0.mk (fun W' hb => hp ▸ HV0.out W' hb)
      have HCF' := Aside0.mk (fun W' hb => hq ▸ HCF.out W' hb)
      clear h0 h1 hc0 hc1 hs0 hs1 hp hq e hrs HV0 HCF
      go_enter Tryd.func41, Tryd.ntmps41
      go_wp2_with (first
        | (go_at_call 44; (with_reducible refine (HV0'.out _ (Below.refl _ _)).mono ?_); rintro e w1 ⟨rfl, hb⟩; have HB := Aside0.mk hb; clear hb)
        | (go_at_call 50; (with_reducible refine (HCF'.out _ HB.out).mono ?_); rintro e w2 ⟨rfl, hb⟩; have HB2 := Aside0.mk (HB.out.trans (hb.mono HB.out.size)); clear hb))
      go_ret2
      exact ⟨rfl, HB2.out⟩
    · replace hq : vals.any outVal = false := by simpa using hq
      have HRS := Aside0.mk (hrs.trans (show evalS p vals = if p.any (badVar vals.length) = true then (0, 1) else if 1000000000 < totV vals p then (0, 2) else (totV vals p, 0) by unfold evalS; rw [if_pos ⟨hp, hq⟩]))
      have HV0' := Aside0.mk (fun W' hb => hp ▸ HV0.out W' hb)
      have HCF' := Aside0.mk (fun W' hb => hq ▸ HCF.out W' hb)
      have HVP := Aside0.mk (validP_all hp)
      have hpl : p.length ≤ 400 := validP_len hp
      have H0 := Aside0.mk h0
      have H1 := Aside0.mk h1
      have HOV := Aside0.mk (List.any_eq_false.1 hq)
      clear h0 h1 hc0 hc1 hs0 hp hq hrs HV0 HCF
      go_enter Tryd.func41, Tryd.ntmps41
      go_wp2_with (first
        | (go_at_call 44; (with_reducible refine (HV0'.out _ (Below.refl _ _)).mono ?_); rintro e w1 ⟨rfl, hb⟩; have HB := Aside0.mk hb; clear hb)
        | (go_at_call 50; (with_reducible refine (HCF'.out _ HB.out).mono ?_); rintro e w2 ⟨rfl, hb⟩; have HB2 := Aside0.mk (HB.out.trans (hb.mono HB.out.size)); clear hb))
      go_loopg [24] p.length (fun gg s24 wr => ∃ i : Nat, i ≤ p.length ∧ p.length - i ≤ gg ∧ s24 = .int .i64 i ∧ Aside0 (Below W.heap.size W wr) ∧ Aside0 (∀ k, (hk : k < p.length) → k < i → badVar vals.length p[k] = false))
      case atStart => exact ⟨0, Nat.zero_le _, Nat.le_refl _, rfl, HB2, Aside0.mk (fun k _ hk => absurd hk (Nat.not_lt_zero _))⟩
      case round =>
        clear HB2 HB HV0' HCF'
        obtain ⟨i, hi, hgg, rfl, HB, HA⟩ := hrel
        by_cases hlt : i < p.length
        · have hlt' : (i : Int) < (p.length : Int) := by omega
          obtain ⟨ad, Am, cm, e, x0, x1, hcm, hFm⟩ := at_T68 (Kd.C_below H0.out HB.out) i (by omega) hlt'
          cases e
          rw [Int.toNat_natCast, rd68_at hlt] at x0 x1
          rw [rd68_at hlt] at hcm hFm
          have HCM := Aside0.mk hcm
          have HFM := Aside0.mk hFm
          obtain ⟨m, hm⟩ : ∃ m, m = p[i] := ⟨_, rfl⟩
          rw [← hm] at x0 x1 HCM HFM
          have HMM := Aside0.mk hm
          clear hm hcm hFm
          have hi1 := Aside0.mk (show i + 1 ≤ p.length from hlt)
          rcases Nat.eq_zero_or_pos m.f1.length with hz | hz
          · have HBV := Aside0.mk (show badVar vals.length m = false by unfold badVar; exact decide_eq_false (fun h => by omega))
            rw [hz] at x1
            clear hz
            go_wp2
            go_roundg (p.length - (i + 1))
            case measure => omega
            case rel => exact ⟨i + 1, hi1.out, Nat.le_refl _, by go_num, Aside0.mk (below_alloc HB.out _), Aside0.mk (fun k hk hki => by
              rcases Nat.lt_or_ge k i with h | h
              · exact HA.out k hk h
              · obtain rfl : k = i := by omega
                rw [← HMM.out]; exact HBV.out)⟩
          · obtain ⟨nl, hnl⟩ : ∃ nl, m.f1.length = nl + 1 := ⟨m.f1.length - 1, by omega⟩
            obtain ⟨ld, e, y0, y1⟩ := at_T70 HFM.out (nl : Int) (by omega) (by omega)
            cases e
            rw [Int.toNat_natCast] at y0
            clear y1
            have HBV := Aside0.mk (show badVar vals.length m = decide ((vals.length : Int) ≤ (rd_T70 m.f1 (nl : Int)).f0) by
              unfold badVar
              rw [hnl, Nat.add_sub_cancel]
              exact decide_eq_decide.2 ⟨fun h => h.2, fun h => ⟨Nat.succ_pos _, h⟩⟩)
            have hnl6 : nl ≤ 5000 := by
              have := (okPow_good (HVP.out m (by rw [HMM.out]; exact List.getElem_mem hlt)).2.2).2
              omega
            rw [hnl] at x1
            generalize (rd_T70 m.f1 (nl : Int)).f0 = lv at y0 HBV
            have y2 : (wr.alloc (.cells #[.int .i64 m.f0, .slice (some ld) (nl + 1) cm] 68)).cell? (ld.add (nl * 2)) = some (.int .i64 lv) := (World.cell?_alloc_lt _ _ _ (World.block_lt_of_cell? _ _ y0)).trans y0
            clear hz hnl y0
            by_cases hbv : (vals.length : Int) ≤ lv
            · obtain ⟨rfl, rfl⟩ := Prod.mk.inj (HRS.out.trans (show _ = ((0, 1) : Int × Int) from by rw [if_pos (any_of_mem hlt (by rw [← HMM.out, HBV.out]; exact decide_eq_true hbv))]))
              go_wp2
              go_ret2
              exact ⟨rfl, below_alloc HB.out _⟩
            · have HBF := Aside0.mk (show badVar vals.length m = false by rw [HBV.out]; exact decide_eq_false hbv)
              go_wp2
              go_roundg (p.length - (i + 1))
              case measure => omega
              case rel => exact ⟨i + 1, hi1.out, Nat.le_refl _, by go_num, Aside0.mk (below_alloc HB.out _), Aside0.mk (fun k hk hki => by
                rcases Nat.lt_or_ge k i with h | h
                · exact HA.out k hk h
                · obtain rfl : k = i := by omega
                  rw [← HMM.out]; exact HBF.out)⟩
        · obtain rfl : i = p.length := by omega
          have HNB := Aside0.mk (any_none (fun k hk => HA.out k hk hk))
          have HRS2 := Aside0.mk (HRS.out.trans (show _ = (if 1000000000 < totV vals p then ((0, 2) : Int × Int) else (totV vals p, 0)) from by rw [HNB.out, if_neg (by simp)]))
          have HVB := Aside0.mk (show ∀ k, (hk : k < p.length) → ∀ x ∈ p[k].f1, 0 ≤ x.f0 ∧ x.f0 < (vals.length : Int) ∧ 1 ≤ x.f1 ∧ x.f1 ≤ 100 from fun k hk x hx => evar_lt (HVP.out _ (List.getElem_mem hk)).2.2 (HA.out k hk hk) x hx)
          clear HRS HA HNB hlt hi hgg
          have HB9 := HB
          clear HB
          go_wp2
          go_loopg [9, 48] p.length (fun gg s9 s48 wr => ∃ (i : Nat) (t : Int), i ≤ p.length ∧ p.length - i ≤ gg ∧ s48 = .int .i64 i ∧ s9 = .int .i64 t ∧ 0 ≤ t ∧ t ≤ 1000000001 ∧ Aside0 (t = totV vals (p.take i)) ∧ Aside0 (Below W.heap.size W wr))
          case atStart => exact ⟨0, 0, Nat.zero_le _, Nat.le_refl _, rfl, rfl, by omega, by omega, Aside0.mk rfl, HB9⟩
          case round =>
            clear HB9
            obtain ⟨i, t, hi, hgg, rfl, rfl, ht0, ht1, HTT, HB⟩ := hrel
            by_cases hlt : i < p.length
            · have hlt' : (i : Int) < (p.length : Int) := by omega
              obtain ⟨ad, Am, cm, e, x0, x1, hcm, hFm⟩ := at_T68 (Kd.C_below H0.out HB.out) i (by omega) hlt'
              cases e
              rw [Int.toNat_natCast, rd68_at hlt] at x0 x1
              rw [rd68_at hlt] at hcm hFm
              have HCM := Aside0.mk hcm
              have HFM := Aside0.mk hFm
              have hmv := HVP.out _ (List.getElem_mem hlt)
              have HVM := Aside0.mk (HVB.out i hlt)
              have HTN := Aside0.mk (show totV vals (p.take (i + 1)) = min (totV vals (p.take i) + monV vals p[i]) 1000000001 by unfold totV; rw [List.take_add_one, List.getElem?_eq_getElem hlt, List.foldl_append]; rfl)
              generalize p[i] = m at x0 x1 HCM HFM hmv HVM HTN
              have HMV := Aside0.mk hmv
              have hm1 := hmv.1
              have hm2 := hmv.2.1
              have hml : m.f1.length ≤ 5000 := by have := (okPow_good hmv.2.2).2; omega
              have hi1 := Aside0.mk (show i + 1 ≤ p.length from hlt)
              clear hcm hFm hmv
              go_wp2
              obtain ⟨wo, hwo⟩ : ∃ wo, wo = wr := ⟨_, rfl⟩
              rw [← hwo] at HB HFM ⊢
              have HBo := Aside0.mk (below_alloc (Below.refl wo.heap.size wo) (.cells #[.int .i64 m.f0, .slice Am m.f1.length cm] 68))
              clear x0 x1 hwo
              go_loopg [12, 57] m.f1.length (fun gg s12 s57 ws => ∃ (k : Nat) (pr : Int), k ≤ m.f1.length ∧ m.f1.length - k ≤ gg ∧ s57 = .int .i64 k ∧ s12 = .int .i64 pr ∧ 0 ≤ pr ∧ pr ≤ 1000000001 ∧ Aside0 (pr = (m.f1.take k).foldl (powV vals) m.f0) ∧ Aside0 (Below wo.heap.size wo ws))
              case atStart => exact ⟨0, m.f0, Nat.zero_le _, Nat.le_refl _, rfl, rfl, by omega, by omega, Aside0.mk rfl, HBo⟩
              case round =>
                clear HBo
                obtain ⟨k, pr, hk, hgk, rfl, rfl, hp0, hp1, HPR, HBI⟩ := hrel
                by_cases hkl : k < m.f1.length
                · have hkl' : (k : Int) < (m.f1.length : Int) := by omega
                  obtain ⟨ld, e, x0, x1⟩ := at_T70 (Kd.C_below HFM.out HBI.out) k (by omega) hkl'
                  cases e
                  rw [Int.toNat_natCast, rd70_at hkl] at x0 x1
                  have hxv := HVM.out _ (List.getElem_mem hkl)
                  have HPN := Aside0.mk (show (m.f1.take (k + 1)).foldl (powV vals) m.f0 = powV vals ((m.f1.take k).foldl (powV vals) m.f0) m.f1[k] by rw [List.take_add_one, List.getElem?_eq_getElem hkl, List.foldl_append]; rfl)
                  generalize m.f1[k] = x at x0 x1 hxv HPN
                  obtain ⟨xv, xe⟩ := x
                  obtain ⟨hxv0, hxv1, hxe0, hxe1⟩ := hxv
                  simp only at x0 x1 hxv0 hxv1 hxe0 hxe1
                  have HBW := Aside0.mk (HB.out.trans (HBI.out.mono HB.out.size))
                  obtain ⟨vd, e, y0⟩ := Kd.at_int (Kd.C_below H1.out HBW.out) xv hxv0 hxv1
                  cases e
                  have hvr := HOV.out (rd vals xv) (rdI_mem vals xv hxv0 hxv1)
                  have HPW := Aside0.mk (show powV vals pr ⟨xv, xe⟩ = mulV (rd vals xv) xe.toNat (if rd vals xv = 0 then 0 else pr) from rfl)
                  generalize rd vals xv = v at y0 hvr HPW
                  have hv0 : 0 ≤ v := by unfold outVal at hvr; simp at hvr; omega
                  have hv1 : v ≤ 1000000000 := by unfold outVal at hvr; simp at hvr; omega
                  have hk1 := Aside0.mk (show k + 1 ≤ m.f1.length from hkl)
                  have y1 : (wr.alloc (.cells #[.int .i64 xv, .int .i64 xe] 70)).cell? (vd.add xv.toNat) = some (.int .i64 v) := (World.cell?_alloc_lt _ _ _ (World.block_lt_of_cell? _ _ y0)).trans y0
                  clear y0 hvr
                  obtain ⟨xn, rfl⟩ := Int.eq_ofNat_of_zero_le hxv0
                  obtain ⟨en, rfl⟩ := Int.eq_ofNat_of_zero_le (show 0 ≤ xe by omega)
                  rw [Int.toNat_natCast] at y1 HPW
                  by_cases hvz : v = 0
                  · have hvzb : (v == 0) = true := beq_iff_eq.mpr hvz
                    have HP0 := Aside0.mk (show powV vals pr ⟨(xn : Int), (en : Int)⟩ = mulV v en 0 by rw [HPW.out, if_pos hvz])
                    have HVZ := Aside0.mk hvz
                    clear hvz
                    go_wp2
                    go_loop [12, 69] (fun s12 s69 => ∃ (e : Nat) (q : Int), e ≤ en ∧ s69 = .int .i64 e ∧ s12 = .int .i64 q ∧ 0 ≤ q ∧ q ≤ 1000000001 ∧ Aside0 (powV vals pr ⟨(xn : Int), (en : Int)⟩ = mulV v (en - e) q)) (fun _ s69 => en - (intOf s69).toNat)
                    case atStart => exact ⟨0, 0, Nat.zero_le _, rfl, rfl, by omega, by omega, HP0⟩
                    case round =>
                      clear HP0
                      obtain ⟨e, q, he, rfl, rfl, hq0, hq1, HQ⟩ := hrel
                      by_cases hel : e < en
                      · have HQ2 := Aside0.mk (show powV vals pr ⟨(xn : Int), (en : Int)⟩ = mulV v (en - (e + 1)) (min (q * v) 1000000001) by rw [HQ.out, show en - e = (en - (e + 1)) + 1 by omega]; rfl)
                        have hb1 : q * v ≤ 1000000001 * 1000000000 := Int.mul_le_mul hq1 hv1 hv0 (by omega)
                        have hb0 : 0 ≤ q * v := Int.mul_nonneg hq0 hv0
                        by_cases hbig : q * v ≤ 1000000001
                        · have HQ3 := Aside0.mk (show powV vals pr ⟨(xn : Int), (en : Int)⟩ = mulV v (en - (e + 1)) (q * v) by rw [HQ2.out]; congr 1; omega)
                          go_wp2
                          go_round
                          case rel => exact ⟨e + 1, q * v, by omega, by go_num, rfl, hb0, hbig, HQ3⟩
                          case measure => simp [intOf]; omega
                        · have HQ3 := Aside0.mk (show powV vals pr ⟨(xn : Int), (en : Int)⟩ = mulV v (en - (e + 1)) 1000000001 by rw [HQ2.out]; congr 1; omega)
                          go_wp2
                          go_round
                          case rel => exact ⟨e + 1, 1000000001, by omega, by go_num, (by first | rfl | rw [if_pos (by omega)]), by omega, by omega, HQ3⟩
                          case measure => simp [intOf]; omega
                      · obtain rfl : e = en := by omega
                        have HQ4 := Aside0.mk (show q = (m.f1.take (k + 1)).foldl (powV vals) m.f0 by
                          rw [HPN.out, ← HPR.out, HQ.out, Nat.sub_self]; rfl)
                        go_wp2
                        go_roundg (m.f1.length - (k + 1))
                        case measure => omega
                        case rel => exact ⟨k + 1, q, hk1.out, Nat.le_refl _, by go_num, rfl, hq0, hq1, HQ4, Aside0.mk (HBI.out.trans (below_alloc (Below.refl _ _) _ |>.mono HBI.out.size))⟩
                  · have hvzb : (v == 0) = false := beq_eq_false_iff_ne.mpr hvz
                    have HP0 := Aside0.mk (show powV vals pr ⟨(xn : Int), (en : Int)⟩ = mulV v en pr by rw [HPW.out, if_neg hvz])
                    clear hvz
                    go_wp2
                    go_loop [12, 69] (fun s12 s69 => ∃ (e : Nat) (q : Int), e ≤ en ∧ s69 = .int .i64 e ∧ s12 = .int .i64 q ∧ 0 ≤ q ∧ q ≤ 1000000001 ∧ Aside0 (powV vals pr ⟨(xn : Int), (en : Int)⟩ = mulV v (en - e) q)) (fun _ s69 => en - (intOf s69).toNat)
                    case atStart => exact ⟨0, pr, Nat.zero_le _, rfl, rfl, by omega, by omega, HP0⟩
                    case round =>
                      clear HP0
                      obtain ⟨e, q, he, rfl, rfl, hq0, hq1, HQ⟩ := hrel
                      by_cases hel : e < en
                      · have HQ2 := Aside0.mk (show powV vals pr ⟨(xn : Int), (en : Int)⟩ = mulV v (en - (e + 1)) (min (q * v) 1000000001) by rw [HQ.out, show en - e = (en - (e + 1)) + 1 by omega]; rfl)
                        have hb1 : q * v ≤ 1000000001 * 1000000000 := Int.mul_le_mul hq1 hv1 hv0 (by omega)
                        have hb0 : 0 ≤ q * v := Int.mul_nonneg hq0 hv0
                        by_cases hbig : q * v ≤ 1000000001
                        · have HQ3 := Aside0.mk (show powV vals pr ⟨(xn : Int), (en : Int)⟩ = mulV v (en - (e + 1)) (q * v) by rw [HQ2.out]; congr 1; omega)
                          go_wp2
                          go_round
                          case rel => exact ⟨e + 1, q * v, by omega, by go_num, rfl, hb0, hbig, HQ3⟩
                          case measure => simp [intOf]; omega
                        · have HQ3 := Aside0.mk (show powV vals pr ⟨(xn : Int), (en : Int)⟩ = mulV v (en - (e + 1)) 1000000001 by rw [HQ2.out]; congr 1; omega)
                          go_wp2
                          go_round
                          case rel => exact ⟨e + 1, 1000000001, by omega, by go_num, (by first | rfl | rw [if_pos (by omega)]), by omega, by omega, HQ3⟩
                          case measure => simp [intOf]; omega
                      · obtain rfl : e = en := by omega
                        have HQ4 := Aside0.mk (show q = (m.f1.take (k + 1)).foldl (powV vals) m.f0 by
                          rw [HPN.out, ← HPR.out, HQ.out, Nat.sub_self]; rfl)
                        go_wp2
                        go_roundg (m.f1.length - (k + 1))
                        case measure => omega
                        case rel => exact ⟨k + 1, q, hk1.out, Nat.le_refl _, by go_num, rfl, hq0, hq1, HQ4, Aside0.mk (HBI.out.trans (below_alloc (Below.refl _ _) _ |>.mono HBI.out.size))⟩
                · obtain rfl : k = m.f1.length := by omega
                  have HMO := Aside0.mk (show pr = monV vals m by rw [HPR.out, List.take_length]; rfl)
                  have HBW := Aside0.mk (HB.out.trans (HBI.out.mono HB.out.size))
                  clear HPR
                  by_cases hbig : t + pr ≤ 1000000001
                  · have HT2 := Aside0.mk (show t + pr = totV vals (p.take (i + 1)) by rw [HTN.out, ← HTT.out, ← HMO.out]; omega)
                    go_wp2
                    go_roundg (p.length - (i + 1))
                    case measure => omega
                    case rel => exact ⟨i + 1, t + pr, hi1.out, Nat.le_refl _, by go_num, rfl, by omega, by omega, HT2, HBW⟩
                  · have HT2 := Aside0.mk (show 1000000001 = totV vals (p.take (i + 1)) by rw [HTN.out, ← HTT.out, ← HMO.out]; omega)
                    go_wp2
                    go_roundg (p.length - (i + 1))
                    case measure => omega
                    case rel => exact ⟨i + 1, 1000000001, hi1.out, Nat.le_refl _, by go_num, rfl, by omega, by omega, HT2, HBW⟩
            · obtain rfl : i = p.length := by omega
              have HT2 := Aside0.mk (show t = totV vals p by rw [HTT.out, List.take_length])
              by_cases hbig : 1000000000 < t
              · obtain ⟨rfl, rfl⟩ := Prod.mk.inj (HRS2.out.trans (show _ = ((0, 2) : Int × Int) by rw [← HT2.out, if_pos hbig]))
                go_wp2
                go_ret2
                exact ⟨rfl, HB.out⟩
              · obtain ⟨rfl, rfl⟩ := Prod.mk.inj (HRS2.out.trans (show _ = ((t, 0) : Int × Int) by rw [← HT2.out, if_neg hbig]))
                go_wp2
                go_ret2
                exact ⟨rfl, HB.out⟩
  · replace hp : validP p = false := by simpa using hp
    have e : evalS p vals = (0, 1) := by unfold evalS; rw [if_neg (by rw [hp]; simp)]
    obtain ⟨rfl, rfl⟩ := Prod.mk.inj (hrs.trans e)
    have HV0' := Aside0.mk (fun W' hb => hp ▸ HV0.out W' hb)
    clear h0 h1 hc0 hc1 hs0 hs1 hp e hrs HV0 HCF
    go_enter Tryd.func41, Tryd.ntmps41
    go_wp2_with (go_at_call 44; (with_reducible refine (HV0'.out _ (Below.refl _ _)).mono ?_); rintro e w1 ⟨rfl, hb⟩; have HB := Aside0.mk hb; clear hb)
    go_ret2
    exact ⟨rfl, HB.out⟩
/-- What poly.Eval answers. -/
def poly_Eval.f (l0 : List S68) (l1 : List Int) : Option (Int × Int) := if smallP l0 ∧ l1.length ≤ 1099511627776 then some (evalS l0 l1) else none
theorem poly_Eval.calls (A0 : Option Addr) (c0 : Nat) (l0 : List S68) (A1 : Option Addr) (c1 : Nat) (l1 : List Int) (r1 : Int) (r2 : Int) (w : World) (hr0 : Kd.C k68 w A0 l0.length l0) (hc0 : l0.length ≤ c0) (hr1 : Kd.C (Kd.int .i64) w A1 l1.length l1) (hc1 : l1.length ≤ c1) (h : poly_Eval.f l0 l1 = some (r1, r2)) :
    Calls Tryd.prog 41 #[.slice A0 l0.length c0, .slice A1 l1.length c1] w fun e w' => e = .returned (.tuple #[.int .i64 r1, .int .i64 r2]) ∧ Below w.heap.size w w' := by
  unfold poly_Eval.f at h
  by_cases hs : smallP l0 ∧ l1.length ≤ 1099511627776
  · rw [if_pos hs] at h
    have e := Option.some.inj h
    have hw := eval_walk A0 c0 l0 A1 c1 l1 w hr0 hc0 hr1 hc1 hs.1 hs.2
    rw [e] at hw
    exact hw
  · rw [if_neg hs] at h; cases h
end
end Go.Proofs.YtcafgpfecfocnaaDoor.P

/- Products of monomials, plainly. -/
namespace Go.Proofs.YtcafgpfecfocnaaDoor.P
open Go.RowKit Go.Proofs.YtcafgpfecfocnaaDoorW.PrintWords
set_option linter.unusedVariables false
set_option linter.unusedSimpArgs false

def mulM (m n : S68) : S68 := ⟨min (m.f0 * n.f0) 1000000001, timesS m.f1 n.f1⟩
def prodS (p q : List S68) : List S68 := p.flatMap fun m => q.map (mulM m)
def mulS (p q : List S68) : List S68 × Int := if validP p = true ∧ validP q = true then resS (sumS (prodS p q)) else ([], 1)
theorem times_mem : ∀ {a b : List S70} {x : S70}, x ∈ timesS a b → x ∈ a ∨ x ∈ b ∨ ∃ y ∈ a, ∃ z ∈ b, y.f0 = z.f0 ∧ x = ⟨y.f0, y.f1 + z.f1⟩
  | [], b, x, h => .inr (.inl h)
  | y :: a, [], x, h => .inl h
  | y :: a, z :: b, x, h => by
    rw [timesS_cons] at h
    split at h
    · rcases List.mem_cons.1 h with rfl | h
      · exact .inl (by simp)
      · rcases times_mem h with h | h | ⟨u, hu, v, hv, e, e2⟩
        · exact .inl (by simp [h])
        · exact .inr (.inl h)
        · exact .inr (.inr ⟨u, by simp [hu], v, hv, e, e2⟩)
    · split at h
      · rcases List.mem_cons.1 h with rfl | h
        · exact .inr (.inl (by simp))
        · rcases times_mem h with h | h | ⟨u, hu, v, hv, e, e2⟩
          · exact .inl h
          · exact .inr (.inl (by simp [h]))
          · exact .inr (.inr ⟨u, hu, v, by simp [hv], e, e2⟩)
      · rcases List.mem_cons.1 h with rfl | h
        · exact .inr (.inr ⟨y, by simp, z, by simp, by omega, rfl⟩)
        · rcases times_mem h with h | h | ⟨u, hu, v, hv, e, e2⟩
          · exact .inl (by simp [h])
          · exact .inr (.inl (by simp [h]))
          · exact .inr (.inr ⟨u, by simp [hu], v, by simp [hv], e, e2⟩)
  termination_by a b => a.length + b.length
theorem times_len : ∀ (a b : List S70), (timesS a b).length ≤ a.length + b.length
  | [], b => by simp [timesS_nil]
  | y :: a, [] => by simp [timesS_nil_right]
  | y :: a, z :: b => by
    rw [timesS_cons]
    have h1 := times_len a (z :: b)
    have h2 := times_len (y :: a) b
    have h3 := times_len a b
    simp only [List.length_cons] at *
    split
    · simp only [List.length_cons]; omega
    · split
      · simp only [List.length_cons]; omega
      · simp only [List.length_cons]; omega
  termination_by a b => a.length + b.length
theorem mulM_ok {m n : S68} (hm : 1 ≤ m.f0 ∧ m.f0 ≤ 1000000000 ∧ okPow (-1) m.f1 = true) (hn : 1 ≤ n.f0 ∧ n.f0 ≤ 1000000000 ∧ okPow (-1) n.f1 = true) : putOk (mulM m n) := by
  have h1 : 1 ≤ m.f0 * n.f0 := Int.mul_pos hm.1 hn.1
  refine ⟨by show 1 ≤ min (m.f0 * n.f0) 1000000001; omega, by show min (m.f0 * n.f0) 1000000001 ≤ 1000000001; omega, fun x hx => ?_, ?_⟩
  · rcases times_mem hx with h | h | ⟨y, hy, z, hz, e, rfl⟩
    · exact (okPow_good hm.2.2).1 x h
    · exact (okPow_good hn.2.2).1 x h
    · have a1 := okPow_all hm.2.2 y hy
      have a2 := okPow_all hn.2.2 z hz
      refine ⟨⟨?_, ?_⟩, ⟨?_, ?_⟩⟩
      · show -9223372036854775808 ≤ y.f0; omega
      · show y.f0 ≤ 9223372036854775807; omega
      · show -9223372036854775808 ≤ y.f1 + z.f1; omega
      · show y.f1 + z.f1 ≤ 9223372036854775807; omega
  · have := times_len m.f1 n.f1
    have a1 := (okPow_good hm.2.2).2
    have a2 := (okPow_good hn.2.2).2
    show (timesS m.f1 n.f1).length ≤ 1000000
    omega
theorem prodS_take (p q : List S68) (i : Nat) (m : S68) (h : p[i]? = some m) : prodS (p.take (i + 1)) q = prodS (p.take i) q ++ q.map (mulM m) := by
  unfold prodS
  rw [List.take_add_one, h, List.flatMap_append]
  simp
theorem row_take (q : List S68) (f : S68 → S68) (j : Nat) (n : S68) (h : q[j]? = some n) : (q.take (j + 1)).map f = (q.take j).map f ++ [f n] := by
  rw [List.take_add_one, h, List.map_append]
  rfl
theorem prodS_ok {p q : List S68} (hp : validP p = true) (hq : validP q = true) : ∀ x ∈ prodS p q, putOk x := by
  intro x hx
  obtain ⟨m, hm, hx⟩ := List.mem_flatMap.1 hx
  obtain ⟨n, hn, rfl⟩ := List.mem_map.1 hx
  exact mulM_ok (validP_all hp m hm) (validP_all hq n hn)
theorem prodS_len (p q : List S68) : (prodS p q).length = p.length * q.length := by
  unfold prodS
  induction p with
  | nil => simp
  | cons m p ih => rw [List.flatMap_cons, List.length_append, ih, List.length_map, List.length_cons, Nat.add_mul, Nat.one_mul]; omega
end Go.Proofs.YtcafgpfecfocnaaDoor.P

/- poly.Mul: the walk and its contract. Written by gen_mul.py out of HPolyMul.src. -/
namespace Go.Proofs.YtcafgpfecfocnaaDoor.P
open Go.RowKit Go.Maps Go.Proofs.YtcafgpfecfocnaaDoorW.PrintWords Go.Proofs.YtcafgpfecfocnaaDoorW.PrintLast Go.Proofs.YtcafgpfecfocnaaDoorW.PrintMore
section
attribute [local go_sem] min2_int min_two
set_option linter.unusedVariables false
set_option linter.unusedSimpArgs false

theorem okPow_exp {l : List S70} (h : okPow (-1) l = true) : ∀ x ∈ l, 0 ≤ x.f1 ∧ x.f1 ≤ 1000000 := fun x hx => by have := okPow_all h x hx; omega
theorem okPow_len6 {l : List S70} (h : okPow (-1) l = true) : l.length ≤ 1000000 := by have := (okPow_good h).2; omega
set_option maxRecDepth 100000 in
set_option maxHeartbeats 16000000 in
theorem mul_walk (A0 : Option Addr) (c0 : Nat) (p : List S68) (A1 : Option Addr) (c1 : Nat) (q : List S68) (W : World) (hT : Tabs W) (h0 : Kd.C k68 W A0 p.length p) (hc0 : p.length ≤ c0) (h1 : Kd.C k68 W A1 q.length q) (hc1 : q.length ≤ c1) (hs0 : smallP p) (hs1 : smallP q) :
    Calls Tryd.prog 35 #[.slice A0 p.length c0, .slice A1 q.length c1] W fun e w' => ∃ v, e = .returned (.tuple #[v, .int .i64 (mulS p q).2]) ∧ Kd.V k68 68 w' W.heap.size (fun k => W.heap.size ≤ k) v (mulS p q).1 ∧ Below W.heap.size W w' := by
  have HT := Aside0.mk hT
  have HV0 := Aside0.mk (fun (W' : World) (hb : Below W.heap.size W W') => valid_poly A0 c0 p W' (Kd.C_below h0 hb) hc0 hs0)
  have HV1 := Aside0.mk (fun (W' : World) (hb : Below W.heap.size W W') => valid_poly A1 c1 q W' (Kd.C_below h1 hb) hc1 hs1)
  obtain ⟨rs, hrs⟩ : ∃ rs, rs = mulS p q := ⟨_, rfl⟩
  rw [← hrs]
  obtain ⟨rl, rc⟩ := rs
  by_cases hp : validP p = true
  · by_cases hq : validP q = true
    · have e : mulS p q = resS (sumS (prodS p q)) := by unfold mulS; rw [if_pos ⟨hp, hq⟩]
      have HVP := Aside0.mk (validP_all hp)
      have HVQ := Aside0.mk (validP_all hq)
      have HLP := Aside0.mk (validP_len hp)
      have HLQ := Aside0.mk (validP_len hq)
      have HV0' := Aside0.mk (fun W' hb => hp ▸ HV0.out W' hb)
      have HV1' := Aside0.mk (fun W' hb => hq ▸ HV1.out W' hb)
      obtain ⟨xs, hx1, hx2⟩ := raw_of_F (Kd.C_F k68_heap h0)
      obtain ⟨ys, hy1, hy2⟩ := raw_of_F (Kd.C_F k68_heap h1)
      have ex := hx2.1
      have ey := hy2.1
      have HX := Aside0.mk hx1
      have HY := Aside0.mk hy1
      have HXM := Aside0.mk hx2
      have HYM := Aside0.mk hy2
      have HC0 := Aside0.mk hc0
      have HC1 := Aside0.mk hc1
      have hpl : p.length ≤ 400 := HLP.out
      have hql : q.length ≤ 400 := HLQ.out
      have HFIN := Aside0.mk (show (rl, rc) = ((resS (sumS (prodS p q))).1, (resS (sumS (prodS p q))).2) from hrs.trans e)
      have HACC := Aside0.mk (show ∀ L : List S68, (∀ x ∈ L, x ∈ prodS p q) → AccOk (sumS L) from fun L hL => (accOk_sum (fun m hm => prodS_ok hp hq m (hL m hm))).1)
      have HACL := Aside0.mk (show AccOk (sumS (prodS p q)) ∧ (sumS (prodS p q)).length ≤ 1000000 from by
        have h1 := accOk_sum (prodS_ok hp hq)
        refine ⟨h1.1, Nat.le_trans h1.2 ?_⟩
        rw [prodS_len]
        have := Nat.mul_le_mul hpl hql
        omega)
      have HPI := Aside0.mk (fun i m (h : p[i]? = some m) => prodS_take p q i m h)
      have HPM := Aside0.mk (show ∀ (i : Nat) m (j : Nat), p[i]? = some m → ∀ x ∈ prodS (p.take i) q ++ (q.take j).map (mulM m), x ∈ prodS p q from fun i m j hi x hx => by
        rcases List.mem_append.1 hx with hx | hx
        · obtain ⟨y, hy, hx⟩ := List.mem_flatMap.1 hx
          exact List.mem_flatMap.2 ⟨y, List.mem_of_mem_take hy, hx⟩
        · obtain ⟨n, hn, rfl⟩ := List.mem_map.1 hx
          exact List.mem_flatMap.2 ⟨m, List.mem_of_getElem? hi, List.mem_map.2 ⟨n, List.mem_of_mem_take hn, rfl⟩⟩)
      clear h0 h1 hc0 hc1 hs0 hs1 hT hp hq e hrs HV0 HV1 hx1 hx2 hy1 hy2 ex ey
      have hmm := @run_makeMap Tryd.prog
      go_enter Tryd.func35, Tryd.ntmps35
      go_wp2_with (first
        | (go_at_call 44; (with_reducible refine (HV0'.out _ (Below.refl _ _)).mono ?_); rintro e w1 ⟨rfl, hb⟩; have HB := Aside0.mk hb; clear hb)
        | (go_at_call 44; (with_reducible refine (HV1'.out _ HB.out).mono ?_); rintro e w2 ⟨rfl, hb⟩; have HB2 := Aside0.mk (HB.out.trans (hb.mono HB.out.size)); clear hb))
      have HB3 := Aside0.mk (below_alloc HB2.out (.map #[] 0))
      have HMM := Aside0.mk (MapM.made w2)
      have HSZ := Aside0.mk (show w2.heap.size < (w2.alloc (.map #[] 0)).heap.size by simp)
      have HLE2 := Aside0.mk HB2.out.size
      obtain ⟨b, hb⟩ : ∃ b, b = w2.heap.size := ⟨_, rfl⟩
      rw [← hb] at HMM HSZ HLE2 ⊢
      clear hb
      generalize w2.alloc (.map #[] 0) = w3 at HB3 HMM HSZ ⊢
      go_loopg [22] p.length (fun gg s22 wr => ∃ (i n : Nat) (g : List UInt8 → Option M2), i ≤ p.length ∧ p.length - i ≤ gg ∧ s22 = .int .i64 i ∧ n ≤ i * 400 ∧ Aside0 (MapM wr b n g) ∧ Aside0 (RepM wr (fun k => W.heap.size ≤ k ∧ k ≠ b) g (sumS (prodS (p.take i) q))) ∧ Aside0 (w3.grownBy wr (some b)))
      case atStart => exact ⟨0, 0, _, Nat.zero_le _, Nat.le_refl _, rfl, Nat.zero_le _, HMM, Aside0.mk (RepM.nil _ _), Aside0.mk ⟨rfl, rfl, rfl, Nat.le_refl _, fun _ _ _ => rfl⟩⟩
      case round =>
        clear HMM
        obtain ⟨i, n0, g, hi, hgg, rfl, hn0, HM, HR, HG⟩ := hrel
        have HBW := Aside0.mk (pw_below_grown HB3.out (some b) HB3.out.size HG.out (fun k hk => by injection hk with hk; have := HLE2.out; omega))
        by_cases hlt : i < p.length
        · obtain ⟨ad, x, e, hx, x0, x1⟩ := at_M2 (Kd.C_below HX.out HBW.out) i hlt
          cases e
          obtain ⟨m, hm, hmo⟩ := HXM.out.get hx
          obtain ⟨xc, xv⟩ := x
          obtain ⟨hc, hpw⟩ := hmo
          simp only at hc hpw x0 x1
          subst hc
          obtain ⟨Am, cm, rfl, hcm, hFm⟩ := hpw
          have HMO := Aside0.mk (HVP.out m (List.mem_of_getElem? hm))
          have HMC := Aside0.mk (Kd.F_now hFm)
          have HCM := Aside0.mk hcm
          have HMI := Aside0.mk hm
          have hm1 := HMO.out.1
          have hm2 := HMO.out.2.1
          clear hx hm hcm hFm
          go_wp2
          have HBo := Aside0.mk (below_alloc HBW.out (.cells #[.int .i64 m.f0, .slice Am m.f1.length cm] 68))
          have HMo := Aside0.mk (HM.out.alloc (.cells #[.int .i64 m.f0, .slice Am m.f1.length cm] 68))
          have HRo := Aside0.mk (HR.out.step (fun k _ hlt => (below_alloc (Below.refl _ wr) (.cells #[.int .i64 m.f0, .slice Am m.f1.length cm] 68)).block k hlt))
          have HGo := Aside0.mk (HG.out.andThen (World.grownBy_alloc wr (.cells #[.int .i64 m.f0, .slice Am m.f1.length cm] 68) (some b)) (fun j hj => .inr hj))
          have HBLK := Aside0.mk (heap_alloc_new wr (.cells #[.int .i64 m.f0, .slice Am m.f1.length cm] 68))
          have HNE := Aside0.mk (show wr.heap.size ≠ b by have := HM.out.lt; omega)
          obtain ⟨G, hG⟩ : ∃ G, G = wr.heap.size := ⟨_, rfl⟩
          rw [← hG] at HBLK HNE ⊢
          clear hG x0 x1 HM HR HG HBW
          generalize wr.alloc (.cells #[.int .i64 m.f0, .slice Am m.f1.length cm] 68) = w4 at HBo HMo HRo HGo HBLK ⊢
          go_loopg [28] q.length (fun gg s28 wr => ∃ (j n : Nat) (g : List UInt8 → Option M2), j ≤ q.length ∧ q.length - j ≤ gg ∧ s28 = .int .i64 j ∧ n ≤ i * 400 + j ∧ Aside0 (MapM wr b n g) ∧ Aside0 (RepM wr (fun k => W.heap.size ≤ k ∧ k ≠ b) g (sumS (prodS (p.take i) q ++ (q.take j).map (mulM m)))) ∧ Aside0 (w4.grownBy wr (some b)))
          case atStart => exact ⟨0, n0, g, Nat.zero_le _, Nat.le_refl _, rfl, by omega, HMo, Aside0.mk (by rw [List.take_zero, List.map_nil, List.append_nil]; exact HRo.out), Aside0.mk ⟨rfl, rfl, rfl, Nat.le_refl _, fun _ _ _ => rfl⟩⟩
          case round =>
            clear HMo HRo
            obtain ⟨j, n1, g1, hj, hgj, rfl, hn1, HM, HR, HG⟩ := hrel
            have HBW := Aside0.mk (pw_below_grown HBo.out (some b) HBo.out.size HG.out (fun k hk => by injection hk with hk; have := HLE2.out; omega))
            by_cases hjl : j < q.length
            · obtain ⟨ad, y, e, hy, y0, y1⟩ := at_M2 (Kd.C_below HY.out HBW.out) j hjl
              cases e
              obtain ⟨n, hn, hmo⟩ := HYM.out.get hy
              obtain ⟨yc, yv⟩ := y
              obtain ⟨hc, hpw⟩ := hmo
              simp only at hc hpw y0 y1
              subst hc
              obtain ⟨An, cn, rfl, hcn, hFn⟩ := hpw
              have HNO := Aside0.mk (HVQ.out n (List.mem_of_getElem? hn))
              have HNC := Aside0.mk (Kd.F_now hFn)
              have HCN := Aside0.mk hcn
              have HSUM := Aside0.mk (show sumS (prodS (p.take i) q ++ (q.take (j + 1)).map (mulM m)) = insS (mulM m n) (sumS (prodS (p.take i) q ++ (q.take j).map (mulM m))) by rw [row_take q _ j n hn, ← List.append_assoc, sumS_snoc])
              have HACJ := Aside0.mk (HACC.out _ (HPM.out i m j HMI.out))
              have HOK := Aside0.mk (mulM_ok HMO.out HNO.out)
              have hm3 := HNO.out.1
              have hm4 := HNO.out.2.1
              have hmul1 : 1 ≤ m.f0 * n.f0 := Int.mul_pos hm1 hm3
              have hmul2 : m.f0 * n.f0 ≤ 1000000000 * 1000000000 := Int.mul_le_mul hm2 hm4 (by omega) (by omega)
              have hj1 := Aside0.mk (show j + 1 ≤ q.length from hjl)
              clear hy hn hcn hFn
              go_wp2
              have HBo2 := Aside0.mk (below_alloc HBW.out (.cells #[.int .i64 n.f0, .slice An n.f1.length cn] 68))
              have HMo := Aside0.mk (HM.out.alloc (.cells #[.int .i64 n.f0, .slice An n.f1.length cn] 68))
              have HRo := Aside0.mk (HR.out.step (fun k _ hlt => (below_alloc (Below.refl _ wr) (.cells #[.int .i64 n.f0, .slice An n.f1.length cn] 68)).block k hlt))
              have HGo2 := Aside0.mk (HG.out.andThen (World.grownBy_alloc wr (.cells #[.int .i64 n.f0, .slice An n.f1.length cn] 68) (some b)) (fun j hj => .inr hj))
              have HBLM := Aside0.mk ((blk_grown HBLK.out HGo2.out (fun e => HNE.out (Option.some.inj e))))
              have HBLN := Aside0.mk (heap_alloc_new wr (.cells #[.int .i64 n.f0, .slice An n.f1.length cn] 68))
              obtain ⟨H, hH⟩ : ∃ H, H = wr.heap.size := ⟨_, rfl⟩
              rw [← hH] at HBLN ⊢
              clear hH y0 y1 HM HR HG HBW
              generalize wr.alloc (.cells #[.int .i64 n.f0, .slice An n.f1.length cn] 68) = w5 at HBo2 HMo HRo HGo2 HBLM HBLN ⊢
              have HWR := Aside0.mk (show wrap64 (m.f0 * n.f0) = m.f0 * n.f0 by unfold wrap64; omega)
              clear hmul2
              generalize hprod : m.f0 * n.f0 = mn at HWR hmul1
              have HPR := Aside0.mk hprod
              have hwr := HWR.out
              by_cases hbig : mn ≤ 1000000001
              · have HMC0 := Aside0.mk (show (mulM m n).f0 = mn by show min (m.f0 * n.f0) 1000000001 = mn; rw [HPR.out]; omega)
                have HELD := Aside0.mk (show w5.drew.cell? ⟨G, 0, none⟩ = some (.int .i64 m.f0) ∧ w5.drew.cell? ⟨G, 1, none⟩ = some (.slice Am m.f1.length cm) ∧ w5.drew.cell? ⟨H, 0, none⟩ = some (.int .i64 n.f0) ∧ w5.drew.cell? ⟨H, 1, none⟩ = some (.slice An n.f1.length cn) from ⟨(blk_cell HBLM.out 0).trans rfl, (blk_cell HBLM.out 1).trans rfl, (blk_cell HBLN.out 0).trans rfl, (blk_cell HBLN.out 1).trans rfl⟩)
                refine start_ (n := 14) (S := fun w' => w'.cell? ⟨G, 0, none⟩ = some (.int .i64 m.f0) ∧ w'.cell? ⟨G, 1, none⟩ = some (.slice Am m.f1.length cm) ∧ w'.cell? ⟨H, 0, none⟩ = some (.int .i64 n.f0) ∧ w'.cell? ⟨H, 1, none⟩ = some (.slice An n.f1.length cn)) (ds := [13]) #[false, false, false, false, false, false, false, false, false, false, false, false, false, false] (by kernel_rfl) rfl rfl HELD.out (fun hHeld => ?_)
                refine pure_ (i := 0) (N := some 32) (v := ?_) (a' := ?_) #[true, false, false, false, false, false, false, false, false, false, false, false, false, false] rfl rfl (by kernel_rfl) (fun _ _ _ h => h) (Or.inl ⟨by rfl, ?_⟩) ?_ ?_
                rotate_left
                · intro w'
                  go_simp
                  with_reducible rfl
                rotate_left
                · simp only [Act.put, List.setIfInBounds_toArray, List.set_cons_zero, List.set_cons_succ, i64_w, i32_w]
                  rfl
                refine pure_ (i := 1) (N := some 33) (v := ?_) (a' := ?_) #[true, true, false, false, false, false, false, false, false, false, false, false, false, false] rfl rfl (by kernel_rfl) (fun _ _ _ h => h) (Or.inl ⟨by rfl, ?_⟩) ?_ ?_
                rotate_left
                · intro w'
                  go_simp
                  with_reducible rfl
                rotate_left
                · simp only [Act.put, List.setIfInBounds_toArray, List.set_cons_zero, List.set_cons_succ, i64_w, i32_w]
                  rfl
                refine pure_ (i := 3) (N := some 35) (v := ?_) (a' := ?_) #[true, true, false, true, false, false, false, false, false, false, false, false, false, false] rfl rfl (by kernel_rfl) (fun _ _ _ h => h) (Or.inl ⟨by rfl, ?_⟩) ?_ ?_
                rotate_left
                · intro w'
                  go_simp
                  with_reducible rfl
                rotate_left
                · simp only [Act.put, List.setIfInBounds_toArray, List.set_cons_zero, List.set_cons_succ, i64_w, i32_w]
                  rfl
                refine pure_ (i := 7) (N := some 39) (v := ?_) (a' := ?_) #[true, true, false, true, false, false, false, true, false, false, false, false, false, false] rfl rfl (by kernel_rfl) (fun _ _ _ h => h) (Or.inl ⟨by rfl, ?_⟩) ?_ ?_
                rotate_left
                · intro w'
                  go_simp
                  with_reducible rfl
                rotate_left
                · simp only [Act.put, List.setIfInBounds_toArray, List.set_cons_zero, List.set_cons_succ, i64_w, i32_w]
                  rfl
                refine pure_ (i := 9) (N := some 41) (v := ?_) (a' := ?_) #[true, true, false, true, false, false, false, true, false, true, false, false, false, false] rfl rfl (by kernel_rfl) (fun _ _ _ h => h) (Or.inl ⟨by rfl, ?_⟩) ?_ ?_
                rotate_left
                · intro w'
                  go_simp
                  with_reducible rfl
                rotate_left
                · simp only [Act.put, List.setIfInBounds_toArray, List.set_cons_zero, List.set_cons_succ, i64_w, i32_w]
                  rfl
                refine take_ (i := 2) (N := some 34) (v := ?_) (a' := ?_) #[true, true, true, true, false, false, false, true, false, true, false, false, false, false] rfl rfl (by kernel_rfl) (fun _ _ _ h => h) (Or.inl ⟨by rfl, ?_⟩) hHeld ?_ ?_
                rotate_left
                · rintro w' ⟨s0, s1, s2, s3⟩
                  go_simp
                  with_reducible rfl
                rotate_left
                · simp only [Act.put, List.setIfInBounds_toArray, List.set_cons_zero, List.set_cons_succ, i64_w, i32_w]
                  rfl
                refine take_ (i := 4) (N := some 36) (v := ?_) (a' := ?_) #[true, true, true, true, true, false, false, true, false, true, false, false, false, false] rfl rfl (by kernel_rfl) (fun _ _ _ h => h) (Or.inl ⟨by rfl, ?_⟩) hHeld ?_ ?_
                rotate_left
                · rintro w' ⟨s0, s1, s2, s3⟩
                  go_simp
                  with_reducible rfl
                rotate_left
                · simp only [Act.put, List.setIfInBounds_toArray, List.set_cons_zero, List.set_cons_succ, i64_w, i32_w]
                  rfl
                refine pure_ (i := 5) (N := some 37) (v := ?_) (a' := ?_) #[true, true, true, true, true, true, false, true, false, true, false, false, false, false] rfl rfl (by kernel_rfl) (fun _ _ _ h => h) (Or.inl ⟨by rfl, ?_⟩) ?_ ?_
                rotate_left
                · intro w'
                  go_simp
                  with_reducible rfl
                rotate_left
                · simp only [Act.put, List.setIfInBounds_toArray, List.set_cons_zero, List.set_cons_succ, i64_w, i32_w]
                  rfl
                refine pure_ (i := 6) (N := some 38) (v := ?_) (a' := ?_) #[true, true, true, true, true, true, true, true, false, true, false, false, false, false] rfl rfl (by kernel_rfl) (fun _ _ _ h => h) (Or.inl ⟨by rfl, ?_⟩) ?_ ?_
                rotate_left
                · intro w'
                  go_simp
                  with_reducible rfl
                rotate_left
                · simp only [Act.put, List.setIfInBounds_toArray, List.set_cons_zero, List.set_cons_succ, i64_w, i32_w]
                  rfl
                refine take_ (i := 8) (N := some 40) (v := ?_) (a' := ?_) #[true, true, true, true, true, true, true, true, true, true, false, false, false, false] rfl rfl (by kernel_rfl) (fun _ _ _ h => h) (Or.inl ⟨by rfl, ?_⟩) hHeld ?_ ?_
                rotate_left
                · rintro w' ⟨s0, s1, s2, s3⟩
                  go_simp
                  with_reducible rfl
                rotate_left
                · simp only [Act.put, List.setIfInBounds_toArray, List.set_cons_zero, List.set_cons_succ, i64_w, i32_w]
                  rfl
                refine take_ (i := 10) (N := some 42) (v := ?_) (a' := ?_) #[true, true, true, true, true, true, true, true, true, true, true, false, false, false] rfl rfl (by kernel_rfl) (fun _ _ _ h => h) (Or.inl ⟨by rfl, ?_⟩) hHeld ?_ ?_
                rotate_left
                · rintro w' ⟨s0, s1, s2, s3⟩
                  go_simp
                  with_reducible rfl
                rotate_left
                · simp only [Act.put, List.setIfInBounds_toArray, List.set_cons_zero, List.set_cons_succ, i64_w, i32_w]
                  rfl
                refine one_ (i := 11) (N := some 43) #[true, true, true, true, true, true, true, true, true, true, true, true, false, false] rfl rfl (by kernel_rfl) (by decide) (fun K hK => ?_)
                refine call_ 65 #[.slice Am m.f1.length cm, .slice An n.f1.length cn] ?hw rfl ?hr ?_
                case hw => rfl
                case hr => simp [execOp, resolve, Deferred.ofValue, invoke, Act.eval, eg65]
                refine (times_walk Am cm m.f1 An cn n.f1 _ (Kd.C_below HMC.out (below_drew HBo2.out)) HCM.out (Kd.C_below HNC.out (below_drew HBo2.out)) HCN.out (okPow_len6 HMO.out.2.2) (okPow_len6 HNO.out.2.2) (okPow_exp HMO.out.2.2) (okPow_exp HNO.out.2.2)).mono ?_
                rintro e w6 ⟨v6, rfl, hv6, hb6⟩
                refine ⟨_, rfl, ?_⟩
                have HV6 := Aside0.mk (Kd.R_bound hv6)
                have HB6 := Aside0.mk (below_then (Below.refl _ w5) (Nat.le_refl _) (show Below w5.heap.size w5 w6 from ⟨hb6.os, hb6.tape, hb6.output, hb6.size, hb6.block⟩))
                clear hv6 hb6
                refine hK.out _ _ (And.intro ((HB6.out.cell (World.block_lt_of_cell? _ _ hHeld.1)).trans hHeld.1) (And.intro ((HB6.out.cell (World.block_lt_of_cell? _ _ hHeld.2.1)).trans hHeld.2.1) (And.intro ((HB6.out.cell (World.block_lt_of_cell? _ _ hHeld.2.2.1)).trans hHeld.2.2.1) ((HB6.out.cell (World.block_lt_of_cell? _ _ hHeld.2.2.2)).trans hHeld.2.2.2)))) (fun hHeld => ?_)
                clear hK K
                refine norm_ (a' := ?_) ?_ ?_
                rotate_left
                · show Act.put _ (some 43) _ = _
                  simp only [Act.put, List.setIfInBounds_toArray, List.set_cons_zero, List.set_cons_succ, i64_w, i32_w]
                  rfl
                obtain ⟨A6, c6, rfl⟩ := Kd.R_slice HV6.out
                have HP6 := Aside0.mk (show Pw w6 (fun k => W.heap.size ≤ k ∧ k ≠ b) (.slice A6 (timesS m.f1 n.f1).length c6) (timesS m.f1 n.f1) from ⟨A6, c6, rfl, (Kd.R_reads' HV6.out).2.1, Kd.F_mono (Kd.R_F HV6.out) (fun k hk => by have h1 := hk.2.1; have h2 := HMo.out.lt; have h3 := HBo2.out.size; simp at h1; exact ⟨by omega, by omega⟩)⟩)
                obtain ⟨tl, htl⟩ : ∃ tl, tl = (timesS m.f1 n.f1).length := ⟨_, rfl⟩
                rw [← htl] at HP6 ⊢
                clear htl
                refine pure_ (i := 12) (N := some 44) (v := ?_) (a' := ?_) #[true, true, true, true, true, true, true, true, true, true, true, true, true, false] rfl rfl (by kernel_rfl) (fun _ _ _ h => h) (Or.inl ⟨by rfl, ?_⟩) ?_ ?_
                rotate_left
                · intro w'
                  go_simp
                  with_reducible rfl
                rotate_left
                · simp only [Act.put, List.setIfInBounds_toArray, List.set_cons_zero, List.set_cons_succ, i64_w, i32_w]
                  rfl
                refine last_ (i := 13) (N := some 45) #[true, true, true, true, true, true, true, true, true, true, true, true, true, true] rfl rfl (by kernel_rfl) (by decide) (fun K hK => ?_)
                refine call_ 61 #[.map (some b), .agg #[.int .i64 (mn), .slice A6 tl c6]] ?hw rfl ?hr ?_
                case hw => rfl
                case hr => first | (simp [execOp, resolve, Deferred.ofValue, invoke, Act.eval, eg61]; done) | (simp [execOp, resolve, Deferred.ofValue, invoke, Act.eval, eg61]; omega)
                have hcall := put_mons b n1 g1 (sumS (prodS (p.take i) q ++ (q.take j).map (mulM m))) (mulM m n) (.slice A6 tl c6) w6 (fun k => W.heap.size ≤ k ∧ k ≠ b) (Tabs.below (Tabs.below HT.out HBo2.out) HB6.out) (HMo.out.below HB6.out) (by unfold maxLen; omega) (HRo.out.step (fun k _ hlt => HB6.out.block k hlt)) HACJ.out HOK.out HP6.out (fun k hk => hk.2)
                rw [HMC0.out] at hcall
                refine hcall.mono ?_
                rintro e w7 ⟨rfl, hg7, g7, hm7, hr7⟩
                refine ⟨_, rfl, ?_⟩
                have HG7 := Aside0.mk (HGo2.out.andThen ((grown_of_below HB6.out (some b)).andThen hg7 (fun j hj => .inr hj)) (fun j hj => .inr hj))
                have HM7 := Aside0.mk hm7
                have HR7 := Aside0.mk hr7
                clear hg7 hm7 hr7 hcall
                refine hK.out _ _ ?_
                clear hK K
                refine norm_ (a' := ?_) ?_ ?_
                rotate_left
                · show Act.put _ (some 45) _ = _
                  simp only [Act.put, List.setIfInBounds_toArray, List.set_cons_zero, List.set_cons_succ, i64_w, i32_w]
                  rfl
                refine done_ (by kernel_rfl) ?_
                go_wp2
                go_roundg (q.length - (j + 1))
                case measure => omega
                case rel => exact ⟨j + 1, n1 + 1, g7, hj1.out, Nat.le_refl _, by go_num, by omega, HM7, Aside0.mk (by rw [HSUM.out]; exact HR7.out), HG7⟩
              · have HMC0 := Aside0.mk (show (mulM m n).f0 = 1000000001 by show min (m.f0 * n.f0) 1000000001 = 1000000001; rw [HPR.out]; omega)
                have HELD := Aside0.mk (show w5.drew.cell? ⟨G, 0, none⟩ = some (.int .i64 m.f0) ∧ w5.drew.cell? ⟨G, 1, none⟩ = some (.slice Am m.f1.length cm) ∧ w5.drew.cell? ⟨H, 0, none⟩ = some (.int .i64 n.f0) ∧ w5.drew.cell? ⟨H, 1, none⟩ = some (.slice An n.f1.length cn) from ⟨(blk_cell HBLM.out 0).trans rfl, (blk_cell HBLM.out 1).trans rfl, (blk_cell HBLN.out 0).trans rfl, (blk_cell HBLN.out 1).trans rfl⟩)
                refine start_ (n := 14) (S := fun w' => w'.cell? ⟨G, 0, none⟩ = some (.int .i64 m.f0) ∧ w'.cell? ⟨G, 1, none⟩ = some (.slice Am m.f1.length cm) ∧ w'.cell? ⟨H, 0, none⟩ = some (.int .i64 n.f0) ∧ w'.cell? ⟨H, 1, none⟩ = some (.slice An n.f1.length cn)) (ds := [13]) #[false, false, false, false, false, false, false, false, false, false, false, false, false, false] (by kernel_rfl) rfl rfl HELD.out (fun hHeld => ?_)
                refine pure_ (i := 0) (N := some 32) (v := ?_) (a' := ?_) #[true, false, false, false, false, false, false, false, false, false, false, false, false, false] rfl rfl (by kernel_rfl) (fun _ _ _ h => h) (Or.inl ⟨by rfl, ?_⟩) ?_ ?_
                rotate_left
                · intro w'
                  go_simp
                  with_reducible rfl
                rotate_left
                · simp only [Act.put, List.setIfInBounds_toArray, List.set_cons_zero, List.set_cons_succ, i64_w, i32_w]
                  rfl
                refine pure_ (i := 1) (N := some 33) (v := ?_) (a' := ?_) #[true, true, false, false, false, false, false, false, false, false, false, false, false, false] rfl rfl (by kernel_rfl) (fun _ _ _ h => h) (Or.inl ⟨by rfl, ?_⟩) ?_ ?_
                rotate_left
                · intro w'
                  go_simp
                  with_reducible rfl
                rotate_left
                · simp only [Act.put, List.setIfInBounds_toArray, List.set_cons_zero, List.set_cons_succ, i64_w, i32_w]
                  rfl
                refine pure_ (i := 3) (N := some 35) (v := ?_) (a' := ?_) #[true, true, false, true, false, false, false, false, false, false, false, false, false, false] rfl rfl (by kernel_rfl) (fun _ _ _ h => h) (Or.inl ⟨by rfl, ?_⟩) ?_ ?_
                rotate_left
                · intro w'
                  go_simp
                  with_reducible rfl
                rotate_left
                · simp only [Act.put, List.setIfInBounds_toArray, List.set_cons_zero, List.set_cons_succ, i64_w, i32_w]
                  rfl
                refine pure_ (i := 7) (N := some 39) (v := ?_) (a' := ?_) #[true, true, false, true, false, false, false, true, false, false, false, false, false, false] rfl rfl (by kernel_rfl) (fun _ _ _ h => h) (Or.inl ⟨by rfl, ?_⟩) ?_ ?_
                rotate_left
                · intro w'
                  go_simp
                  with_reducible rfl
                rotate_left
                · simp only [Act.put, List.setIfInBounds_toArray, List.set_cons_zero, List.set_cons_succ, i64_w, i32_w]
                  rfl
                refine pure_ (i := 9) (N := some 41) (v := ?_) (a' := ?_) #[true, true, false, true, false, false, false, true, false, true, false, false, false, false] rfl rfl (by kernel_rfl) (fun _ _ _ h => h) (Or.inl ⟨by rfl, ?_⟩) ?_ ?_
                rotate_left
                · intro w'
                  go_simp
                  with_reducible rfl
                rotate_left
                · simp only [Act.put, List.setIfInBounds_toArray, List.set_cons_zero, List.set_cons_succ, i64_w, i32_w]
                  rfl
                refine take_ (i := 2) (N := some 34) (v := ?_) (a' := ?_) #[true, true, true, true, false, false, false, true, false, true, false, false, false, false] rfl rfl (by kernel_rfl) (fun _ _ _ h => h) (Or.inl ⟨by rfl, ?_⟩) hHeld ?_ ?_
                rotate_left
                · rintro w' ⟨s0, s1, s2, s3⟩
                  go_simp
                  with_reducible rfl
                rotate_left
                · simp only [Act.put, List.setIfInBounds_toArray, List.set_cons_zero, List.set_cons_succ, i64_w, i32_w]
                  rfl
                refine take_ (i := 4) (N := some 36) (v := ?_) (a' := ?_) #[true, true, true, true, true, false, false, true, false, true, false, false, false, false] rfl rfl (by kernel_rfl) (fun _ _ _ h => h) (Or.inl ⟨by rfl, ?_⟩) hHeld ?_ ?_
                rotate_left
                · rintro w' ⟨s0, s1, s2, s3⟩
                  go_simp
                  with_reducible rfl
                rotate_left
                · simp only [Act.put, List.setIfInBounds_toArray, List.set_cons_zero, List.set_cons_succ, i64_w, i32_w]
                  rfl
                refine pure_ (i := 5) (N := some 37) (v := ?_) (a' := ?_) #[true, true, true, true, true, true, false, true, false, true, false, false, false, false] rfl rfl (by kernel_rfl) (fun _ _ _ h => h) (Or.inl ⟨by rfl, ?_⟩) ?_ ?_
                rotate_left
                · intro w'
                  go_simp
                  with_reducible rfl
                rotate_left
                · simp only [Act.put, List.setIfInBounds_toArray, List.set_cons_zero, List.set_cons_succ, i64_w, i32_w]
                  rfl
                refine pure_ (i := 6) (N := some 38) (v := ?_) (a' := ?_) #[true, true, true, true, true, true, true, true, false, true, false, false, false, false] rfl rfl (by kernel_rfl) (fun _ _ _ h => h) (Or.inl ⟨by rfl, ?_⟩) ?_ ?_
                rotate_left
                · intro w'
                  go_simp
                  with_reducible rfl
                rotate_left
                · simp only [Act.put, List.setIfInBounds_toArray, List.set_cons_zero, List.set_cons_succ, i64_w, i32_w]
                  rfl
                refine take_ (i := 8) (N := some 40) (v := ?_) (a' := ?_) #[true, true, true, true, true, true, true, true, true, true, false, false, false, false] rfl rfl (by kernel_rfl) (fun _ _ _ h => h) (Or.inl ⟨by rfl, ?_⟩) hHeld ?_ ?_
                rotate_left
                · rintro w' ⟨s0, s1, s2, s3⟩
                  go_simp
                  with_reducible rfl
                rotate_left
                · simp only [Act.put, List.setIfInBounds_toArray, List.set_cons_zero, List.set_cons_succ, i64_w, i32_w]
                  rfl
                refine take_ (i := 10) (N := some 42) (v := ?_) (a' := ?_) #[true, true, true, true, true, true, true, true, true, true, true, false, false, false] rfl rfl (by kernel_rfl) (fun _ _ _ h => h) (Or.inl ⟨by rfl, ?_⟩) hHeld ?_ ?_
                rotate_left
                · rintro w' ⟨s0, s1, s2, s3⟩
                  go_simp
                  with_reducible rfl
                rotate_left
                · simp only [Act.put, List.setIfInBounds_toArray, List.set_cons_zero, List.set_cons_succ, i64_w, i32_w]
                  rfl
                refine one_ (i := 11) (N := some 43) #[true, true, true, true, true, true, true, true, true, true, true, true, false, false] rfl rfl (by kernel_rfl) (by decide) (fun K hK => ?_)
                refine call_ 65 #[.slice Am m.f1.length cm, .slice An n.f1.length cn] ?hw rfl ?hr ?_
                case hw => rfl
                case hr => simp [execOp, resolve, Deferred.ofValue, invoke, Act.eval, eg65]
                refine (times_walk Am cm m.f1 An cn n.f1 _ (Kd.C_below HMC.out (below_drew HBo2.out)) HCM.out (Kd.C_below HNC.out (below_drew HBo2.out)) HCN.out (okPow_len6 HMO.out.2.2) (okPow_len6 HNO.out.2.2) (okPow_exp HMO.out.2.2) (okPow_exp HNO.out.2.2)).mono ?_
                rintro e w6 ⟨v6, rfl, hv6, hb6⟩
                refine ⟨_, rfl, ?_⟩
                have HV6 := Aside0.mk (Kd.R_bound hv6)
                have HB6 := Aside0.mk (below_then (Below.refl _ w5) (Nat.le_refl _) (show Below w5.heap.size w5 w6 from ⟨hb6.os, hb6.tape, hb6.output, hb6.size, hb6.block⟩))
                clear hv6 hb6
                refine hK.out _ _ (And.intro ((HB6.out.cell (World.block_lt_of_cell? _ _ hHeld.1)).trans hHeld.1) (And.intro ((HB6.out.cell (World.block_lt_of_cell? _ _ hHeld.2.1)).trans hHeld.2.1) (And.intro ((HB6.out.cell (World.block_lt_of_cell? _ _ hHeld.2.2.1)).trans hHeld.2.2.1) ((HB6.out.cell (World.block_lt_of_cell? _ _ hHeld.2.2.2)).trans hHeld.2.2.2)))) (fun hHeld => ?_)
                clear hK K
                refine norm_ (a' := ?_) ?_ ?_
                rotate_left
                · show Act.put _ (some 43) _ = _
                  simp only [Act.put, List.setIfInBounds_toArray, List.set_cons_zero, List.set_cons_succ, i64_w, i32_w]
                  rfl
                obtain ⟨A6, c6, rfl⟩ := Kd.R_slice HV6.out
                have HP6 := Aside0.mk (show Pw w6 (fun k => W.heap.size ≤ k ∧ k ≠ b) (.slice A6 (timesS m.f1 n.f1).length c6) (timesS m.f1 n.f1) from ⟨A6, c6, rfl, (Kd.R_reads' HV6.out).2.1, Kd.F_mono (Kd.R_F HV6.out) (fun k hk => by have h1 := hk.2.1; have h2 := HMo.out.lt; have h3 := HBo2.out.size; simp at h1; exact ⟨by omega, by omega⟩)⟩)
                obtain ⟨tl, htl⟩ : ∃ tl, tl = (timesS m.f1 n.f1).length := ⟨_, rfl⟩
                rw [← htl] at HP6 ⊢
                clear htl
                refine pure_ (i := 12) (N := some 44) (v := ?_) (a' := ?_) #[true, true, true, true, true, true, true, true, true, true, true, true, true, false] rfl rfl (by kernel_rfl) (fun _ _ _ h => h) (Or.inl ⟨by rfl, ?_⟩) ?_ ?_
                rotate_left
                · intro w'
                  go_simp
                  with_reducible rfl
                rotate_left
                · simp only [Act.put, List.setIfInBounds_toArray, List.set_cons_zero, List.set_cons_succ, i64_w, i32_w]
                  rfl
                refine last_ (i := 13) (N := some 45) #[true, true, true, true, true, true, true, true, true, true, true, true, true, true] rfl rfl (by kernel_rfl) (by decide) (fun K hK => ?_)
                refine call_ 61 #[.map (some b), .agg #[.int .i64 (1000000001), .slice A6 tl c6]] ?hw rfl ?hr ?_
                case hw => rfl
                case hr => first | (simp [execOp, resolve, Deferred.ofValue, invoke, Act.eval, eg61]; done) | (simp [execOp, resolve, Deferred.ofValue, invoke, Act.eval, eg61]; omega)
                have hcall := put_mons b n1 g1 (sumS (prodS (p.take i) q ++ (q.take j).map (mulM m))) (mulM m n) (.slice A6 tl c6) w6 (fun k => W.heap.size ≤ k ∧ k ≠ b) (Tabs.below (Tabs.below HT.out HBo2.out) HB6.out) (HMo.out.below HB6.out) (by unfold maxLen; omega) (HRo.out.step (fun k _ hlt => HB6.out.block k hlt)) HACJ.out HOK.out HP6.out (fun k hk => hk.2)
                rw [HMC0.out] at hcall
                refine hcall.mono ?_
                rintro e w7 ⟨rfl, hg7, g7, hm7, hr7⟩
                refine ⟨_, rfl, ?_⟩
                have HG7 := Aside0.mk (HGo2.out.andThen ((grown_of_below HB6.out (some b)).andThen hg7 (fun j hj => .inr hj)) (fun j hj => .inr hj))
                have HM7 := Aside0.mk hm7
                have HR7 := Aside0.mk hr7
                clear hg7 hm7 hr7 hcall
                refine hK.out _ _ ?_
                clear hK K
                refine norm_ (a' := ?_) ?_ ?_
                rotate_left
                · show Act.put _ (some 45) _ = _
                  simp only [Act.put, List.setIfInBounds_toArray, List.set_cons_zero, List.set_cons_succ, i64_w, i32_w]
                  rfl
                refine done_ (by kernel_rfl) ?_
                go_wp2
                go_roundg (q.length - (j + 1))
                case measure => omega
                case rel => exact ⟨j + 1, n1 + 1, g7, hj1.out, Nat.le_refl _, by go_num, by omega, HM7, Aside0.mk (by rw [HSUM.out]; exact HR7.out), HG7⟩
            · obtain rfl : j = q.length := by omega
              have HR2 := Aside0.mk (show RepM wr (fun k => W.heap.size ≤ k ∧ k ≠ b) g1 (sumS (prodS (p.take (i + 1)) q)) from by
                have := HR.out
                rw [List.take_length] at this
                rw [HPI.out i m HMI.out]
                exact this)
              have hi1 := Aside0.mk (show i + 1 ≤ p.length from hlt)
              have HGG := Aside0.mk (HGo.out.andThen HG.out (fun j hj => .inr hj))
              clear HR
              go_wp2
              go_roundg (p.length - (i + 1))
              case measure => omega
              case rel => exact ⟨i + 1, n1, g1, hi1.out, Nat.le_refl _, by go_num, by rw [Nat.add_mul]; omega, HM, HR2, HGG⟩
        · obtain rfl : i = p.length := by omega
          have HRp := Aside0.mk (show RepM wr (fun k => W.heap.size ≤ k ∧ k ≠ b) g (sumS (prodS p q)) from by have := HR.out; rwa [List.take_length] at this)
          have HCALL := Aside0.mk (result_calls b n0 g (sumS (prodS p q)) wr _ HM.out HRp.out HACL.out.1.sorted HACL.out.2)
          obtain ⟨rfl, rfl⟩ := Prod.mk.inj HFIN.out
          go_wp2_with (go_at_call 62; (with_reducible refine HCALL.out.mono ?_); rintro e w5 ⟨v, rfl, hv, hb⟩; have HV5 := Aside0.mk hv; have HB5 := Aside0.mk hb; clear hv hb)
          go_ret2
          exact ⟨_, rfl, Kd.V_lower (Kd.V_mono HV5.out (fun k hk => hk.elim (fun h => h.1) (fun h => Nat.le_trans HBW.out.size h))) HBW.out.size, HBW.out.trans (HB5.out.mono HBW.out.size)⟩
    · replace hq : validP q = false := by simpa using hq
      have e : mulS p q = ([], 1) := by unfold mulS; rw [if_neg (by rw [hq]; simp)]
      obtain ⟨rfl, rfl⟩ := Prod.mk.inj (hrs.trans e)
      have HV0' := Aside0.mk (fun W' hb => hp ▸ HV0.out W' hb)
      have HV1' := Aside0.mk (fun W' hb => hq ▸ HV1.out W' hb)
      clear h0 h1 hc0 hc1 hs0 hs1 hT hp hq e hrs HV0 HV1
      go_enter Tryd.func35, Tryd.ntmps35
      go_wp2_with (first
        | (go_at_call 44; (with_reducible refine (HV0'.out _ (Below.refl _ _)).mono ?_); rintro e w1 ⟨rfl, hb⟩; have HB := Aside0.mk hb; clear hb)
        | (go_at_call 44; (with_reducible refine (HV1'.out _ HB.out).mono ?_); rintro e w2 ⟨rfl, hb⟩; have HB2 := Aside0.mk (HB.out.trans (hb.mono HB.out.size)); clear hb))
      go_ret2
      exact ⟨_, rfl, Kd.V_nil _ _ _ _ _, HB2.out⟩
  · replace hp : validP p = false := by simpa using hp
    have e : mulS p q = ([], 1) := by unfold mulS; rw [if_neg (by rw [hp]; simp)]
    obtain ⟨rfl, rfl⟩ := Prod.mk.inj (hrs.trans e)
    have HV0' := Aside0.mk (fun W' hb => hp ▸ HV0.out W' hb)
    clear h0 h1 hc0 hc1 hs0 hs1 hT hp e hrs HV0 HV1
    go_enter Tryd.func35, Tryd.ntmps35
    go_wp2_with (go_at_call 44; (with_reducible refine (HV0'.out _ (Below.refl _ _)).mono ?_); rintro e w1 ⟨rfl, hb⟩; have HB := Aside0.mk hb; clear hb)
    go_ret2
    exact ⟨_, rfl, Kd.V_nil _ _ _ _ _, HB.out⟩
/-- What poly.Mul answers. -/
def poly_Mul.f (l0 l1 : List S68) : Option (List S68 × Int) := if smallP l0 ∧ smallP l1 then some (mulS l0 l1) else none
theorem poly_Mul.calls (P0 : Nat → Prop) (A0 : Option Addr) (c0 : Nat) (l0 : List S68) (P1 : Nat → Prop) (A1 : Option Addr) (c1 : Nat) (l1 : List S68) (r1 : List S68) (r2 : Int) (w : World) (hT : Tabs w) (hs0 : Kd.V k68 68 w w.heap.size P0 (.slice A0 l0.length c0) l0) (hs1 : Kd.V k68 68 w w.heap.size P1 (.slice A1 l1.length c1) l1) (h : poly_Mul.f l0 l1 = some (r1, r2)) :
    Calls Tryd.prog 35 #[.slice A0 l0.length c0, .slice A1 l1.length c1] w fun e w' => ∃ v0_ : Value, e = .returned (.tuple #[v0_, .int .i64 r2]) ∧ Kd.V k68 68 w' w.heap.size (fun k_ => (P0 k_ ∨ P1 k_) ∨ w.heap.size ≤ k_) v0_ r1 ∧ Below w.heap.size w w' := by
  unfold poly_Mul.f at h
  by_cases hs : smallP l0 ∧ smallP l1
  · rw [if_pos hs] at h
    have e := Option.some.inj h
    have hw := mul_walk A0 c0 l0 A1 c1 l1 w hT (Kd.V_reads' hs0).2.2 (Kd.V_reads' hs0).2.1 (Kd.V_reads' hs1).2.2 (Kd.V_reads' hs1).2.1 hs.1 hs.2
    rw [e] at hw
    exact hw.mono fun _ _ ⟨v, h1, h2, h3⟩ => ⟨v, h1, Kd.V_mono h2 (fun _ hk => .inr hk), h3⟩
  · rw [if_neg hs] at h; cases h
end
end Go.Proofs.YtcafgpfecfocnaaDoor.P
