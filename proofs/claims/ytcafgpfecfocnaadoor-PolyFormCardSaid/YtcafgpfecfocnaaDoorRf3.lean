/-
  PolyForm: for every two polynomials the law answers true, and both read afterwards as they did.
  Its conditions are the row's own: the three listed tables of the library hold at the start what the program's text lays (tied by the card).
-/
import Derived.Test.YtcafgpfecfocnaaDoorRf2
import Derived.Test.YtcafgpfecfocnaaDoorRfPx11
import Derived.Test.YtcafgpfecfocnaaDoorRfPx16
import Derived.Test.YtcafgpfecfocnaaDoorRfPx10
import Derived.Test.YtcafgpfecfocnaaDoorRfPx19
import Derived.Test.YtcafgpfecfocnaaDoorCards
import Derived.Test.YtcafgpfecfocnaaDoorTie
import Derived.Test.YtcafgpfecfocnaaDoorRf1
import Derived.WalkKit
import Derived.ProofKit
import Derived.OpenShut
import Derived.Carry
import Derived.Deep.DeepHandedRow
import Derived.Lib.LaidTab
import Derived.Stop.LaidErr
/- Sums and products of polynomials as coefficients, up to what lies above the greatest one (plain laws). -/
namespace Go.Proofs.YtcafgpfecfocnaaDoor.P
open Go.RowKit Go.Proofs.YtcafgpfecfocnaaDoorW.PrintWords
set_option linter.unusedVariables false
set_option linter.unusedSimpArgs false

end Go.Proofs.YtcafgpfecfocnaaDoor.P

/- Sums and products are in normal form (plain laws). -/
namespace Go.Proofs.YtcafgpfecfocnaaDoor.P
open Go.RowKit Go.Proofs.YtcafgpfecfocnaaDoorW.PrintWords
set_option linter.unusedVariables false
set_option linter.unusedSimpArgs false

/-- Powers in normal form but for the greatest exponent. -/
def incP (last : Int) : List S70 → Bool
  | [] => true
  | x :: r => decide (last < x.f0) && decide (x.f0 < 4000) && decide (1 ≤ x.f1) && incP x.f0 r
theorem incP_cons {last : Int} {x : S70} {r : List S70} : incP last (x :: r) = true ↔ last < x.f0 ∧ x.f0 < 4000 ∧ 1 ≤ x.f1 ∧ incP x.f0 r = true := by
  show (decide (last < x.f0) && decide (x.f0 < 4000) && decide (1 ≤ x.f1) && incP x.f0 r) = true ↔ _
  simp only [Bool.and_eq_true, decide_eq_true_eq]
  constructor
  · rintro ⟨⟨⟨a, b⟩, c⟩, d⟩; exact ⟨a, b, c, d⟩
  · rintro ⟨a, b, c, d⟩; exact ⟨⟨⟨a, b⟩, c⟩, d⟩
theorem okPow_inc : ∀ {l : List S70} {last : Int}, okPow last l = true → incP last l = true
  | [], _, _ => rfl
  | x :: r, last, h => by
    rw [okPow_cons] at h
    simp only [Bool.and_eq_true, decide_eq_true_eq] at h
    exact incP_cons.2 ⟨h.1.1.1.1, h.1.1.1.2, h.1.1.2, okPow_inc h.2⟩
theorem inc_okPow : ∀ {l : List S70} {last : Int}, incP last l = true → l.any tooHigh = false → okPow last l = true
  | [], _, _, _ => rfl
  | x :: r, last, h, k => by
    obtain ⟨h1, h2, h3, h4⟩ := incP_cons.1 h
    rw [List.any_cons, Bool.or_eq_false_iff] at k
    have k1 := of_decide_eq_false (show decide (100 < x.f1) = false from k.1)
    rw [okPow_cons, inc_okPow h4 k.2, decide_eq_true h1, decide_eq_true h2, decide_eq_true h3, decide_eq_true (show x.f1 ≤ 100 by omega)]
    rfl
theorem times_inc : ∀ {a b : List S70} {last : Int}, incP last a = true → incP last b = true → incP last (timesS a b) = true
  | [], b, last, _, hb => hb
  | x :: a, [], last, ha, _ => ha
  | x :: a, y :: b, last, ha, hb => by
    obtain ⟨a1, a2, a3, a4⟩ := incP_cons.1 ha
    obtain ⟨b1, b2, b3, b4⟩ := incP_cons.1 hb
    rw [timesS_cons]
    by_cases h : x.f0 < y.f0
    · rw [if_pos h]
      exact incP_cons.2 ⟨a1, a2, a3, times_inc a4 (incP_cons.2 ⟨h, b2, b3, b4⟩)⟩
    · rw [if_neg h]
      by_cases k : y.f0 < x.f0
      · rw [if_pos k]
        exact incP_cons.2 ⟨b1, b2, b3, times_inc (incP_cons.2 ⟨k, a2, a3, a4⟩) b4⟩
      · rw [if_neg k]
        have e : x.f0 = y.f0 := by omega
        exact incP_cons.2 ⟨a1, a2, by show 1 ≤ x.f1 + y.f1; omega, times_inc a4 (e ▸ b4)⟩
  termination_by a b => a.length + b.length
def incL (L : List S68) : Prop := ∀ m ∈ L, incP (-1) m.f1 = true
theorem ins_f1 {m x : S68} {acc : List S68} (hx : x ∈ insS m acc) : x.f1 = m.f1 ∨ x ∈ acc := by
  induction acc with
  | nil => exact .inl (by rw [List.mem_singleton.1 hx])
  | cons a r ih =>
    unfold insS at hx
    split at hx
    · rcases List.mem_cons.1 hx with rfl | hx
      · exact .inl rfl
      · exact .inr hx
    · split at hx
      · rcases List.mem_cons.1 hx with rfl | hx
        · exact .inl rfl
        · exact .inr (by simp [hx])
      · rcases List.mem_cons.1 hx with rfl | hx
        · exact .inr (by simp)
        · rcases ih hx with h | h
          · exact .inl h
          · exact .inr (by simp [h])
theorem fold_f1 : ∀ {L acc : List S68} {x : S68}, x ∈ L.foldl (fun acc m => insS m acc) acc → (∃ m ∈ L, x.f1 = m.f1) ∨ x ∈ acc
  | [], acc, x, h => .inr h
  | m :: L, acc, x, h => by
    rw [List.foldl_cons] at h
    rcases fold_f1 h with ⟨n, hn, e⟩ | h
    · exact .inl ⟨n, by simp [hn], e⟩
    · rcases ins_f1 h with h | h
      · exact .inl ⟨m, by simp, h⟩
      · exact .inr h
theorem sum_f1 {L : List S68} {x : S68} (h : x ∈ sumS L) : ∃ m ∈ L, x.f1 = m.f1 := by
  rcases fold_f1 h with h | h
  · exact h
  · cases h
theorem sum_inc {L : List S68} (h : incL L) : incL (sumS L) := fun x hx => by
  obtain ⟨m, hm, e⟩ := sum_f1 hx
  rw [e]; exact h m hm
theorem prod_inc {p q : List S68} (hp : incL p) (hq : incL q) : incL (prodS p q) := fun x hx => by
  obtain ⟨m, hm, hx⟩ := List.mem_flatMap.1 hx
  obtain ⟨n, hn, rfl⟩ := List.mem_map.1 hx
  exact times_inc (hp m hm) (hq n hn)
theorem valid_inc {p : List S68} (h : validP p = true) : incL p := fun m hm => okPow_inc (validP_all h m hm).2.2
theorem okMons_of : ∀ {l : List S68} {prev : Option (List S70)}, (∀ q, prev = some q → ∀ m ∈ l, orderS q m.f1 < 0) → Sorted68 l → (∀ m ∈ l, 1 ≤ m.f0 ∧ m.f0 ≤ 1000000000 ∧ okPow (-1) m.f1 = true) → okMons prev l = true
  | [], _, _, _, _ => rfl
  | m :: r, prev, hq, hs, h => by
    obtain ⟨h1, h2⟩ := List.pairwise_cons.1 hs
    obtain ⟨a, b, c⟩ := h m (by simp)
    unfold okMons okMon
    rw [okMons_of (prev := some m.f1) (fun q e x hx => by obtain rfl := Option.some.inj e; exact h1 x hx) h2 (fun x hx => h x (by simp [hx])), decide_eq_true a, decide_eq_true b, c]
    cases prev with
    | none => rfl
    | some q =>
      show ((true && true && decide (orderS q m.f1 < 0)) && true && true) = true
      rw [decide_eq_true (hq q rfl m (by simp))]
      rfl
/-- A result without an error is in normal form. -/
theorem res_valid {L : List S68} (hL : ∀ m ∈ L, putOk m) (hi : incL L) : validP (resS (sumS L)).1 = true ∧ ((resS (sumS L)).2 = 0 ∨ (resS (sumS L)).1 = []) ∧ (resS (sumS L)).2 ≠ 1 := by
  have ha := (accOk_sum hL).1
  unfold resS
  by_cases hb : (sumS L).any badM = true
  · rw [if_pos hb]; exact ⟨rfl, .inr rfl, by decide⟩
  · rw [if_neg hb]
    by_cases hl : 400 < (sumS L).length
    · rw [if_pos hl]; exact ⟨rfl, .inr rfl, by decide⟩
    · rw [if_neg hl]
      refine ⟨?_, .inl rfl, by show (0 : Int) ≠ 1; decide⟩
      show validP (sumS L) = true
      have hb2 : (sumS L).any badM = false := by simpa using hb
      unfold validP
      rw [okMons_of (prev := none) (fun q e => by cases e) ha.sorted (fun m hm => ?_), decide_eq_true (show (sumS L).length ≤ 400 by omega)]
      · rfl
      · have h1 := ha.coef m hm
        have h2 := List.any_eq_false.1 hb2 m hm
        unfold badM at h2
        simp only [Bool.or_eq_true, decide_eq_true_eq, not_or] at h2
        exact ⟨h1.1, by omega, inc_okPow (sum_inc hi m hm) (by simpa using h2.2)⟩
theorem app_putOk {p q : List S68} (hp : validP p = true) (hq : validP q = true) : ∀ m ∈ p ++ q, putOk m := fun m hm => by
  rcases List.mem_append.1 hm with hm | hm
  · exact valid_putOk (validP_all hp m hm)
  · exact valid_putOk (validP_all hq m hm)
theorem app_inc {p q : List S68} (hp : validP p = true) (hq : validP q = true) : incL (p ++ q) := fun m hm => by
  rcases List.mem_append.1 hm with hm | hm
  · exact valid_inc hp m hm
  · exact valid_inc hq m hm
theorem add_valid (p q : List S68) : validP (addS p q).1 = true ∧ ((addS p q).2 = 0 ∨ (addS p q).1 = []) ∧ ((addS p q).2 = 1 ↔ ¬ (validP p = true ∧ validP q = true)) := by
  unfold addS
  by_cases h : validP p = true ∧ validP q = true
  · rw [if_pos h]
    obtain ⟨h1, h2, h3⟩ := res_valid (app_putOk h.1 h.2) (app_inc h.1 h.2)
    exact ⟨h1, h2, fun e => absurd e h3, fun e => absurd h e⟩
  · rw [if_neg h]; exact ⟨rfl, .inr rfl, fun _ => h, fun _ => rfl⟩
theorem mul_valid (p q : List S68) : validP (mulS p q).1 = true ∧ ((mulS p q).2 = 0 ∨ (mulS p q).1 = []) ∧ ((mulS p q).2 = 1 ↔ ¬ (validP p = true ∧ validP q = true)) := by
  unfold mulS
  by_cases h : validP p = true ∧ validP q = true
  · rw [if_pos h]
    obtain ⟨h1, h2, h3⟩ := res_valid (prodS_ok h.1 h.2) (prod_inc (valid_inc h.1) (valid_inc h.2))
    exact ⟨h1, h2, fun e => absurd e h3, fun e => absurd h e⟩
  · rw [if_neg h]; exact ⟨rfl, .inr rfl, fun _ => h, fun _ => rfl⟩
end Go.Proofs.YtcafgpfecfocnaaDoor.P

/- Small, Same, Text, plainly. -/
namespace Go.Proofs.YtcafgpfecfocnaaDoor.P
open Go.RowKit Go.Proofs.YtcafgpfecfocnaaDoorW.PrintWords
set_option linter.unusedVariables false
set_option linter.unusedSimpArgs false

theorem wrap_m {i : Nat} (h : i < 9223372036854775807) : wrap64 ((i : Int) + 1) = ((i + 1 : Nat) : Int) := by unfold wrap64; omega
def smallB (l : List S68) (n : Int) : Bool := l.all (fun m => decide (m.f1.length ≤ 10)) && decide ((l.length : Int) ≤ n)
theorem small_l0 {l : List S68} {n : Int} (hl : l.length ≤ 9223372036854775807) : ∀ (d i : Nat), l.length = i + d → Ev (fun k => cleanseref15_Small.l0 k l n (i : Int)) ((l.drop i).all (fun m => decide (m.f1.length ≤ 10)) && decide ((l.length : Int) ≤ n))
  | 0, i, hi => by
    refine ev_succ ⟨0, fun k _ => ?_⟩
    show cleanseref15_Small.l0 (k + 1) _ _ _ = _
    simp only [cleanseref15_Small.l0]
    rw [if_neg (by omega), List.drop_eq_nil_of_le (by omega)]
    rfl
  | d + 1, i, hi => by
    have hlt : i < l.length := by omega
    obtain ⟨K, hK⟩ := small_l0 hl d (i + 1) (by omega)
    refine ev_succ ⟨K, fun k hk => ?_⟩
    show cleanseref15_Small.l0 (k + 1) _ _ _ = _
    simp only [cleanseref15_Small.l0]
    rw [if_pos (by omega), if_pos (by omega), wrap_m (by omega), drop68 hlt, List.all_cons]
    by_cases c : (((rd_T68 l (i : Int)).f1).length : Int) > 10
    · rw [if_pos c, decide_eq_false (by omega)]; rfl
    · rw [if_neg c, decide_eq_true (show (rd_T68 l (i : Int)).f1.length ≤ 10 by omega), Bool.true_and]
      exact hK k hk
theorem small_f {l : List S68} {n : Int} (hl : l.length ≤ 9223372036854775807) : Ev (fun k => cleanseref15_Small.f k l n) (smallB l n) := by
  obtain ⟨K, hK⟩ := small_l0 (n := n) hl l.length 0 (by omega)
  exact ⟨K, fun k hk => hK k hk⟩
theorem smallB_P {l : List S68} {n : Int} (h : smallB l n = true) (hn : n ≤ 1000) : smallP l ∧ (l.length : Int) ≤ n ∧ ∀ m ∈ l, m.f1.length ≤ 10 := by
  unfold smallB at h
  simp only [Bool.and_eq_true, List.all_eq_true, decide_eq_true_eq] at h
  exact ⟨⟨by omega, fun m hm => by have := h.1 m hm; omega⟩, h.2, h.1⟩
/-- What poly.Valid lets in is small. -/
theorem valid_small {l : List S68} (h : validP l = true) : smallP l := ⟨by have := validP_len h; omega, fun m hm => by have := (okPow_good (validP_all h m hm).2.2).2; omega⟩
theorem piece_len {m : S68} (h : 1 ≤ m.f0 ∧ m.f0 ≤ 1000000000 ∧ okPow (-1) m.f1 = true) : in64 m.f0 ∧ goodL m.f1 ∧ m.f1.length ≤ 4000 := ⟨⟨by omega, by omega⟩, okPow_good h.2.2⟩
theorem text_l0 {l : List S68} (hv : ∀ m ∈ l, 1 ≤ m.f0 ∧ m.f0 ≤ 1000000000 ∧ okPow (-1) m.f1 = true) (hlen : l.length ≤ 400) (hne : l ≠ []) : ∀ (d i : Nat), l.length = i + d → Ev (fun k => poly_Text.l0 k ((l.take i).map fun m => bs (pieceM m)) l (l.length : Int) (i : Int)) (bs (textP l))
  | 0, i, hi => by
    refine ev_succ ⟨0, fun k hk => ?_⟩
    show poly_Text.l0 (k + 1) _ _ _ _ = _
    simp only [poly_Text.l0]
    rw [if_neg (by omega), List.take_of_length_le (by omega)]
    have e : joinL (l.map fun x => bs (pieceM x)) (⟨#[32, 43, 32]⟩ : ByteArray) = textP l := by
      unfold joinL textP
      rw [if_neg hne, List.map_map]
      rfl
    have hlen2 : (textP l).length ≤ 400 * 180100 := by
      unfold textP
      rw [if_neg hne]
      have := join_len (xs := l.map pieceM) (sep := [32, 43, 32]) (c := 180022) (fun x hx => by
        obtain ⟨m, hm, rfl⟩ := List.mem_map.1 hx
        obtain ⟨h1, h2, h3⟩ := piece_len (hv m hm)
        have h4 := itoa_len h1
        have h5 := ftext_len h2
        unfold pieceM
        split
        · omega
        · split
          · omega
          · simp; omega)
      refine Nat.le_trans this ?_
      rw [List.length_map]
      exact Nat.mul_le_mul hlen (by simp)
    unfold strings_Join.f
    rw [e, if_pos ⟨by simp; omega, by omega⟩]
    rfl
  | d + 1, i, hi => by
    have hlt : i < l.length := by omega
    obtain ⟨K, hK⟩ := text_l0 hv hlen hne d (i + 1) (by omega)
    rw [take_map_snoc _ _ _ hlt] at hK
    obtain ⟨h1, h2, h3⟩ := piece_len (hv l[i] (List.getElem_mem hlt))
    obtain ⟨K2, hK2⟩ := factors_f h2 (by omega)
    have h4 := itoa_len h1
    have h5 := ftext_len h2
    refine ev_succ ⟨K + K2, fun k hk => ?_⟩
    show poly_Text.l0 (k + 1) _ _ _ _ = _
    have h6 := hK k (by omega)
    have h7 := hK2 k (by omega)
    simp only at h7
    simp only [poly_Text.l0]
    rw [rd68_at hlt, if_pos (by omega), if_pos (by omega), if_pos (by omega), h7, Option.bind_some, wrap_n (by omega), ByteArray.toList_eq, bs_list]
    have e42 : (⟨#[42]⟩ : ByteArray) = bs [42] := rfl
    by_cases c : l[i].f1 = []
    · have e : pieceM l[i] = Lib.itoa l[i].f0 := by unfold pieceM; rw [if_pos c]
      rw [e] at h6
      rw [if_pos (by rw [c]; rfl), itoa_f h1, Option.bind_some, if_pos (by simp; omega)]
      exact h6
    · rw [if_neg (ftext_ne c)]
      by_cases c1 : l[i].f0 = 1
      · have e : pieceM l[i] = ftext l[i].f1 := by unfold pieceM; rw [if_neg c, if_pos c1]
        rw [e] at h6
        rw [if_pos c1, if_pos (by simp; omega)]
        exact h6
      · have e : pieceM l[i] = Lib.itoa l[i].f0 ++ [42] ++ ftext l[i].f1 := by unfold pieceM; rw [if_neg c, if_neg c1]; simp
        rw [e] at h6
        rw [if_neg c1, itoa_f h1, Option.bind_some, if_pos (by rw [bs_size]; omega), e42, bs_append, if_pos (by rw [bs_size, bs_size]; simp; omega), if_pos (by simp; omega), bs_append]
        exact h6
theorem text_f {l : List S68} (hv : validP l = true) : Ev (fun k => poly_Text.f k l) (bs (textP l)) := by
  obtain ⟨K1, h1⟩ := valid_f (valid_small hv)
  by_cases hne : l = []
  · subst hne
    refine ⟨K1, fun k hk => ?_⟩
    show poly_Text.f k [] = _
    unfold poly_Text.f
    have h2 := h1 k hk
    simp only at h2
    rw [h2, hv]
    rfl
  · obtain ⟨K, hK⟩ := text_l0 (validP_all hv) (validP_len hv) hne l.length 0 (by omega)
    refine ⟨K + K1, fun k hk => ?_⟩
    show poly_Text.f k l = _
    unfold poly_Text.f
    have h2 := h1 k (by omega)
    simp only at h2
    rw [h2, hv, Option.bind_some, if_pos rfl, if_neg (by have := List.length_pos_iff.2 hne; omega)]
    exact hK k (by omega)
end Go.Proofs.YtcafgpfecfocnaaDoor.P

/- The fixed examples of layer 15 (plainly). -/
namespace Go.Proofs.YtcafgpfecfocnaaDoor.P
open Go.RowKit Go.Proofs.YtcafgpfecfocnaaDoorW.PrintWords
set_option linter.unusedVariables false
set_option linter.unusedSimpArgs false

theorem itoa_dig (d : Nat) (h : d < 10) : Lib.itoa (d : Int) = [UInt8.ofNat (48 + d)] := by
  unfold Lib.itoa
  rw [if_neg (by omega), Int.toNat_natCast, Lib.decDigits, dif_pos h]
theorem itoa_0 : Lib.itoa 0 = [48] := itoa_dig 0 (by omega)
theorem itoa_1 : Lib.itoa 1 = [49] := itoa_dig 1 (by omega)
theorem itoa_2 : Lib.itoa 2 = [50] := itoa_dig 2 (by omega)
def hx : List S68 := [⟨1, [⟨0, 1⟩]⟩]
def hy : List S68 := [⟨1, [⟨1, 1⟩]⟩]
def h1 : List S68 := [⟨1, []⟩]
def htwo : List S68 := [⟨2, [⟨0, 1⟩]⟩]
def ha : List S68 := [⟨1, [⟨0, 1⟩]⟩, ⟨1, [⟨1, 1⟩]⟩]
def hb : List S68 := [⟨1, []⟩, ⟨1, [⟨0, 1⟩]⟩]
def hc : List S68 := [⟨1, [⟨0, 1⟩]⟩, ⟨1, [⟨0, 1⟩, ⟨1, 1⟩]⟩, ⟨1, [⟨0, 2⟩]⟩, ⟨1, [⟨1, 1⟩]⟩]
theorem hd_x : poly_Var.f 0 = some (hx, 0) := by kernel_rfl
theorem hd_y : poly_Var.f 1 = some (hy, 0) := by kernel_rfl
theorem hd_1 : poly_Const.f 1 = some (h1, 0) := by kernel_rfl
theorem hd_0 : poly_Const.f 0 = some ([], 0) := by kernel_rfl
theorem hd_n : poly_Const.f (-1) = some ([], 1) := by kernel_rfl
theorem hd_two : poly_Add.f hx hx = some (htwo, 0) := by kernel_rfl
theorem hd_a : poly_Add.f hx hy = some (ha, 0) := by kernel_rfl
theorem hd_b : poly_Add.f hx h1 = some (hb, 0) := by kernel_rfl
theorem hd_c : poly_Mul.f ha hb = some (hc, 0) := by kernel_rfl
theorem hd_e : poly_Eval.f [⟨1, []⟩, ⟨2, [⟨0, 2⟩]⟩] [3] = some (19, 0) := by kernel_rfl
theorem hv_two : validP htwo = true := by kernel_rfl
theorem hv_c : validP hc = true := by kernel_rfl
theorem hv_z : validP [⟨0, []⟩] = false := by kernel_rfl
theorem ht_two : textP htwo = [50, 42, 120, 48] := by
  simp [textP, htwo, pieceM, ftext, pieceP, Lib.join_cons, Lib.joinTail, itoa_0, itoa_1, itoa_2]
theorem ht_c : textP hc = [120, 48, 32, 43, 32, 120, 48, 42, 120, 49, 32, 43, 32, 120, 48, 94, 50, 32, 43, 32, 120, 49] := by
  simp [textP, hc, pieceM, ftext, pieceP, Lib.join_cons, Lib.joinTail, itoa_0, itoa_1, itoa_2]
theorem ht_0 : textP [] = [48] := rfl
theorem head_f : Ev (fun k => cleanselaw15_head.f k) true := by
  obtain ⟨K1, t1⟩ := text_f hv_two
  obtain ⟨K2, t2⟩ := text_f hv_c
  obtain ⟨K3, t3⟩ := text_f (show validP [] = true from rfl)
  obtain ⟨K4, t4⟩ := valid_f (valid_small hv_c)
  obtain ⟨K5, t5⟩ := valid_f (l := [⟨0, []⟩]) ⟨by simp, fun m hm => by rw [List.mem_singleton.1 hm]; simp⟩
  refine ⟨K1 + K2 + K3 + K4 + K5 + 3, fun k hk => ?_⟩
  show cleanselaw15_head.f k = some true
  obtain ⟨k, rfl⟩ : ∃ k', k = k' + 2 := ⟨k - 2, by omega⟩
  have a1 := t1 (k + 1) (by omega)
  have a2 := t2 (k + 1) (by omega)
  have a3 := t3 (k + 1) (by omega)
  have a4 := t4 (k + 1) (by omega)
  have a5 := t5 (k + 1) (by omega)
  simp only at a1 a2 a3 a4 a5
  unfold cleanselaw15_head.f
  rw [hd_x, Option.bind_some, hd_y, Option.bind_some, hd_1, Option.bind_some, hd_0, Option.bind_some]
  simp only
  rw [hd_two, Option.bind_some, hd_a, Option.bind_some, hd_b, Option.bind_some, hd_c, Option.bind_some, hd_e, Option.bind_some, hd_n, Option.bind_some]
  simp only [if_true]
  simp only [cleanselaw15_head.j0]
  rw [if_neg (by decide), a1, Option.bind_some, ByteArray.toList_eq, bs_list, ht_two, if_pos rfl, a2, Option.bind_some, ByteArray.toList_eq, bs_list, ht_c, if_pos rfl, if_pos trivial, a3, Option.bind_some, ByteArray.toList_eq, bs_list, ht_0, if_pos rfl, a4, Option.bind_some, if_pos hv_c, a5, Option.bind_some, hv_z]
  simp only [cleanselaw15_head.j1]
  rfl
end Go.Proofs.YtcafgpfecfocnaaDoor.P

/- The law PolyForm, plainly. -/
namespace Go.Proofs.YtcafgpfecfocnaaDoor.P
open Go.RowKit Go.Proofs.YtcafgpfecfocnaaDoorW.PrintWords
set_option linter.unusedVariables false
set_option linter.unusedSimpArgs false

theorem add_f {p q : List S68} (hp : smallP p) (hq : smallP q) : poly_Add.f p q = some ((addS p q).1, (addS p q).2) := by unfold poly_Add.f; rw [if_pos ⟨hp, hq⟩]
theorem mul_f {p q : List S68} (hp : smallP p) (hq : smallP q) : poly_Mul.f p q = some ((mulS p q).1, (mulS p q).2) := by unfold poly_Mul.f; rw [if_pos ⟨hp, hq⟩]
theorem pForm_off {k : Nat} {p q : List S68} : cleanselaw15_PolyForm.j0 (k + 1) p q true true = some true := by simp only [cleanselaw15_PolyForm.j0, if_true]
theorem len_or {l : List S68} {e : Int} (h : e = 0 ∨ l = []) (he : ¬ e = 0) : (l.length : Int) = 0 := by
  rcases h with h | h
  · exact absurd h he
  · rw [h]; rfl
theorem pForm_j2 {k : Nat} {a b : List S68} {e f : Int} (ha : validP a = true) (hb : validP b = true) (hea : e = 0 ∨ a = []) (hfb : f = 0 ∨ b = []) (v1 : poly_Valid.f k a = some (validP a)) (v2 : poly_Valid.f k b = some (validP b)) : cleanselaw15_PolyForm.j2 (k + 1) true a e b f false = some true := by
  simp only [cleanselaw15_PolyForm.j2]
  rw [if_neg (by simp), if_pos trivial, v1, Option.bind_some, if_pos ha, v2, Option.bind_some, if_pos hb]
  by_cases he : e = 0
  · rw [if_pos he]
    by_cases hf : f = 0
    · rw [if_pos hf]
    · rw [if_neg hf, len_or hfb hf]; rfl
  · rw [if_neg he, if_pos (len_or hea he)]
    by_cases hf : f = 0
    · rw [if_pos hf]
    · rw [if_neg hf, len_or hfb hf]; rfl
theorem err_wrong {e : Int} {c : Bool} (h : e = 1 ↔ ¬ (c = false)) : ((e == 1) != c) = false := by
  cases c with
  | true =>
    have : e = 1 := h.2 (by simp)
    subst this; rfl
  | false =>
    have : e ≠ 1 := fun h1 => h.1 h1 rfl
    simp [this]
theorem polyForm_pure (p q : List S68) (hp : p.length ≤ 9223372036854775807) (hq : q.length ≤ 9223372036854775807) : ∃ k, cleanselaw15_PolyForm.f k p q = some true := by
  obtain ⟨K0, h0⟩ := head_f
  obtain ⟨K1, s1⟩ := small_f (n := 30) hp
  obtain ⟨K2, s2⟩ := small_f (n := 30) hq
  by_cases c1 : smallB p 30 = true
  · obtain ⟨p1, _, _⟩ := smallB_P c1 (by omega)
    obtain ⟨K3, v1⟩ := valid_f p1
    by_cases c2 : smallB q 30 = true
    · obtain ⟨q1, _, _⟩ := smallB_P c2 (by omega)
      obtain ⟨K4, v2⟩ := valid_f q1
      obtain ⟨a1, a2, a3⟩ := add_valid p q
      obtain ⟨m1, m2, m3⟩ := mul_valid p q
      obtain ⟨K5, w1⟩ := valid_f (valid_small a1)
      obtain ⟨K6, w2⟩ := valid_f (valid_small m1)
      refine ⟨K0 + K1 + K2 + K3 + K4 + K5 + K6 + 3, ?_⟩
      have b0 := h0 (K0 + K1 + K2 + K3 + K4 + K5 + K6 + 3) (by omega)
      have b1 := s1 (K0 + K1 + K2 + K3 + K4 + K5 + K6 + 3) (by omega)
      have b2 := s2 (K0 + K1 + K2 + K3 + K4 + K5 + K6 + 3) (by omega)
      have b3 := v1 (K0 + K1 + K2 + K3 + K4 + K5 + K6 + 2) (by omega)
      have b4 := v2 (K0 + K1 + K2 + K3 + K4 + K5 + K6 + 2) (by omega)
      have b5 := w1 (K0 + K1 + K2 + K3 + K4 + K5 + K6) (by omega)
      have b6 := w2 (K0 + K1 + K2 + K3 + K4 + K5 + K6) (by omega)
      simp only at b0 b1 b2 b3 b4 b5 b6
      have hj1 : ∀ c : Bool, (c = false ↔ (validP p = true ∧ validP q = true)) → cleanselaw15_PolyForm.j1 (K0 + K1 + K2 + K3 + K4 + K5 + K6 + 1 + 1) true (addS p q).1 (addS p q).2 (mulS p q).1 (mulS p q).2 c = some true := by
        intro c hc
        have e1 := err_wrong (c := c) (a3.trans (by rw [hc]))
        have e2 := err_wrong (c := c) (m3.trans (by rw [hc]))
        simp only [cleanselaw15_PolyForm.j1]
        rw [e1, e2, if_neg (by simp)]
        exact pForm_j2 a1 m1 a2 m2 b5 b6
      unfold cleanselaw15_PolyForm.f
      rw [b0, Option.bind_some, b1, Option.bind_some, if_pos c1, b2, Option.bind_some, c2]
      simp only [cleanselaw15_PolyForm.j0]
      rw [if_neg (by simp), add_f p1 q1, Option.bind_some, mul_f p1 q1, Option.bind_some, b3, Option.bind_some]
      by_cases c3 : validP p = true
      · rw [if_pos c3, b4, Option.bind_some]
        exact hj1 _ (by cases hq : validP q <;> simp [c3])
      · rw [if_neg c3]
        exact hj1 _ (by simp [c3])
    · refine ⟨K0 + K1 + K2 + 1, ?_⟩
      have b0 := h0 (K0 + K1 + K2 + 1) (by omega)
      have b1 := s1 (K0 + K1 + K2 + 1) (by omega)
      have b2 := s2 (K0 + K1 + K2 + 1) (by omega)
      simp only at b0 b1 b2
      unfold cleanselaw15_PolyForm.f
      rw [b0, Option.bind_some, b1, Option.bind_some, if_pos c1, b2, Option.bind_some, Bool.eq_false_iff.2 c2]
      exact pForm_off
  · refine ⟨K0 + K1 + 1, ?_⟩
    have b0 := h0 (K0 + K1 + 1) (by omega)
    have b1 := s1 (K0 + K1 + 1) (by omega)
    simp only at b0 b1
    unfold cleanselaw15_PolyForm.f
    rw [b0, Option.bind_some, b1, Option.bind_some, if_neg c1]
    exact pForm_off
theorem pForm_walk (A0 : Option Addr) (c0 : Nat) (p : List S68) (A1 : Option Addr) (c1 : Nat) (q : List S68) (W : World) (hT : Tabs W) (h0 : Kd.C k68 W A0 p.length p) (hc0 : p.length ≤ c0) (h1 : Kd.C k68 W A1 q.length q) (hc1 : q.length ≤ c1) :
    Calls Tryd.prog 8 #[.slice A0 p.length c0, .slice A1 q.length c1] W fun e W' => e = .returned (.bool true) ∧ Below W.heap.size W W' := by
  obtain ⟨k, hk⟩ := polyForm_pure p q h0.2.1 h1.2.1
  exact cleanselaw15_PolyForm.calls k A0 c0 p A1 c1 q true W hT h0 hc0 h1 hc1 hk
end Go.Proofs.YtcafgpfecfocnaaDoor.P

/- What the rows of the laws about sweeps share: the table out of the row's list, a world that holds the listed tables, an argument laid open. -/
namespace Go.Proofs.YtcafgpfecfocnaaDoor.RowBits
open Go.ChangeShapes Go.WideShapes Go.ChangeAt Go.RowKit Go.Proofs.YtcafgpfecfocnaaDoor.P Go.Proofs.YtcafgpfecfocnaaDoorW.PrintWords
set_option linter.unusedVariables false
set_option linter.unusedSimpArgs false

theorem own : ownKnob Tryd.prog.godebug = none := by kernel_rfl
theorem laidOut : laidOutB Tryd.prog = true := by kernel_rfl
theorem gPow : Tryd.prog.globalNamed "internal/strconv.uint64pow10" = some 0 := by kernel_rfl
theorem gPowType : (Tryd.prog.globals[0]?).map (·.type) = some 165 := by kernel_rfl
theorem cells165 : Tryd.prog.cellsOf 165 = 20 := by kernel_rfl
theorem cellsU64 : Tryd.prog.cellsOf 148 = 1 := by kernel_rfl
theorem powData : (Rows.laid_internal_strconv_uint64pow10 : DataW Unit) = Lib.tabData .u64 Lib.pow10Tab := by kernel_rfl

/-- What the rows list. -/
abbrev laid : List (String × DataW Unit) := [("math/bits.deBruijn32tab", Rows.laid_math_bits_deBruijn32tab), ("math/bits.deBruijn64tab", Rows.laid_math_bits_deBruijn64tab), ("internal/strconv.uint64pow10", Rows.laid_internal_strconv_uint64pow10)]
theorem table {W : World} (h : laidMetH Tryd.prog laid W) : Tabs W := by
  have h1 : laidMet Tryd.prog laid W := h
  have h2 := laidMet.tail (laidMet.tail h1)
  rw [powData] at h2
  exact Lib.tabIs_of_head gPow gPowType Tryd.underlying165 Tryd.underlying148 cellsU64 cells165 h2

def put (cs : Array Value) : Obj → Obj
  | .cells _ t frozen => .cells cs t frozen
  | o => o
def litVal : DataW Unit → Value
  | .lit (.int k n) => .int k n
  | _ => .bool false
def cellsOfD : DataW Unit → Array Value
  | .agg l => (l.map litVal).toArray
  | _ => #[]
/-- A world for the witness: the settled one, the tables holding what their initialisers lay. -/
noncomputable def laidWorld (os : Os) : World :=
  { World.holding Tryd.prog os ⟨#[], #[], []⟩ with heap := (((World.holding Tryd.prog os ⟨#[], #[], []⟩).heap.modify 0 (put (cellsOfD Rows.laid_internal_strconv_uint64pow10))).modify 2 (put (cellsOfD Rows.laid_math_bits_deBruijn32tab))).modify 3 (put (cellsOfD Rows.laid_math_bits_deBruijn64tab)) }
theorem laid_met (os : Os) (args : Array Value) : laidMet Tryd.prog laid ((laidWorld os).forCall (fun _ _ => 0) ⟨#[], args, []⟩).memory :=
  laidMet_of_run' 8 (by kernel_rfl) (by kernel_rfl)

section
variable {H : Type} {enc : TypeId × Value → H} {W : World} {base : Nat}
end
end Go.Proofs.YtcafgpfecfocnaaDoor.RowBits

/- Polynomials that came in as arguments, laid open. -/
namespace Go.Proofs.YtcafgpfecfocnaaDoor.RowBits
open Go.ChangeShapes Go.WideShapes Go.ChangeAt Go.RowKit Go.Deep Go.Proofs.YtcafgpfecfocnaaDoor.P Go.Proofs.YtcafgpfecfocnaaDoorW.PrintWords
set_option linter.unusedVariables false
set_option linter.unusedSimpArgs false

section
variable {H : Type} {enc : TypeId × Value → H} {w : World} {base : Nat} {spare : Nat → Bool} {held : Bool}
theorem twoP {cs : List Value} (h : cs.length = 2) : ∃ c0 c1, cs = [c0, c1] := by
  match cs, h with
  | [c0, c1], _ => exact ⟨_, _, rfl⟩
def good70 (x : S70) : Prop := in64 x.f0 ∧ in64 x.f1
def good68 (m : S68) : Prop := in64 m.f0 ∧ (∀ x ∈ m.f1, good70 x) ∧ m.f1.length ≤ 9223372036854775807
theorem open_power {fuel : Nat} {cs : List Value} {x : DataW H × List MemPlace} (h : DataW.trod enc Tryd.prog w base spare held fuel 70 cs = some x) : ∃ o : S70, k70.K w o cs ∧ good70 o := by
  have c70 : Tryd.prog.cellsOf 70 = 2 := by kernel_rfl
  have d3 : Tryd.prog.cellsOf 3 = 1 := by kernel_rfl
  obtain ⟨y0, y1, n, _, hl, h0, h1⟩ := trod_struct2 Tryd.underlying70 h
  have hl2 : cs.length = 2 := hl.trans c70
  clear hl
  obtain ⟨c0, c1, rfl⟩ := twoP hl2
  rw [d3] at h0 h1
  have e0 : DataW.trod enc Tryd.prog w base spare held n 3 [c0] = some y0 := h0
  have e1 : DataW.trod enc Tryd.prog w base spare held n 3 [c1] = some y1 := h1
  obtain ⟨n0, hn0, _, hw0⟩ := DataW.trod_int Tryd.underlying3 e0
  obtain ⟨n1, hn1, _, hw1⟩ := DataW.trod_int Tryd.underlying3 e1
  obtain rfl : c0 = .int .i64 n0 := by simpa using hn0
  obtain rfl : c1 = .int .i64 n1 := by simpa using hn1
  exact ⟨⟨n0, n1⟩, k70_mk w ⟨n0, n1⟩, wf_in64 hw0, wf_in64 hw1⟩
theorem open_powers {t : TypeId} {fuel : Nat} {a : Option Addr} {len cap : Nat} {x : DataW H × List MemPlace} (ht : Tryd.prog.underlying t = some (.slice 70))
    (h : DataW.trod enc Tryd.prog w base spare held fuel t [.slice a len cap] = some x) : ∃ gs : List S70, gs.length = len ∧ len ≤ cap ∧ Kd.C k70 w a len gs ∧ ∀ g ∈ gs, good70 g := by
  rcases open_slice ht h with ⟨hcs, _⟩ | ⟨ad, len', cap', m, n, D, Pl, hcs, _, hl, hm, hmm, _, hx⟩
  · simp at hcs
    obtain ⟨rfl, rfl, rfl⟩ := hcs
    exact ⟨[], rfl, Nat.le_refl _, ⟨rfl, by decide, fun h => absurd h (by decide)⟩, fun k hk => by simp at hk⟩
  · simp at hcs
    obtain ⟨rfl, rfl, rfl⟩ := hcs
    have hlm : len ≤ m := by rw [hmm]; split <;> omega
    have hcap := maxLen_le hm
    have c3 : Tryd.prog.cellsOf 70 = 2 := by kernel_rfl
    letI : Inhabited S70 := ⟨z70⟩
    obtain ⟨G, hG⟩ := choose_lt (α := S70) (n := len) (p := fun j g => (∃ c : List Value, c.length = 2 ∧ k70.K w g c ∧ ∀ i u, c[i]? = some u → w.cell? (ad.add (j * 2 + i)) = some u) ∧ good70 g) (fun j hj => by
      obtain ⟨cs', h1, h2⟩ := hx j (by omega)
      rw [c3] at h1
      obtain ⟨_, hlen, hcell⟩ := World.cells?_some h1
      obtain ⟨g, hg1, hg2⟩ := open_power h2
      refine ⟨g, ⟨cs', hlen, hg1, fun i u hu => ?_⟩, hg2⟩
      have hi : i < 2 := by
        have := (List.getElem?_eq_some_iff.1 hu).1
        omega
      have h3 := hcell i hi
      rw [Go.Deep.add_add] at h3
      rw [h3, hu])
    have hlen : ((List.range len).map G).length = len := by simp
    refine ⟨(List.range len).map G, hlen, hl, ⟨hlen, by omega, fun _ => ⟨ad, rfl, fun j p hj => ?_⟩⟩, fun g hg => ?_⟩
    · obtain ⟨hjl, hjp⟩ := List.getElem?_eq_some_iff.1 hj
      simp at hjp
      subst hjp
      exact (hG j (by omega)).1
    · obtain ⟨j, hj, rfl⟩ := List.mem_map.1 hg
      exact (hG j (by simpa using hj)).2
theorem open_mono {fuel : Nat} {cs : List Value} {x : DataW H × List MemPlace} (h : DataW.trod enc Tryd.prog w base spare held fuel 68 cs = some x) : ∃ o : S68, k68.K w o cs ∧ good68 o := by
  have c68 : Tryd.prog.cellsOf 68 = 2 := by kernel_rfl
  have d3 : Tryd.prog.cellsOf 3 = 1 := by kernel_rfl
  have d66 : Tryd.prog.cellsOf 66 = 1 := by kernel_rfl
  obtain ⟨y0, y1, n, _, hl, h0, h1⟩ := trod_struct2 Tryd.underlying68 h
  have hl2 : cs.length = 2 := hl.trans c68
  clear hl
  obtain ⟨c0, c1, rfl⟩ := twoP hl2
  rw [d3] at h0
  rw [d66] at h1
  have e0 : DataW.trod enc Tryd.prog w base spare held n 3 [c0] = some y0 := h0
  have e1 : DataW.trod enc Tryd.prog w base spare held n 66 [c1] = some y1 := h1
  obtain ⟨n0, hn0, _, hw0⟩ := DataW.trod_int Tryd.underlying3 e0
  obtain rfl : c0 = .int .i64 n0 := by simpa using hn0
  have hs : ∃ a len cap, c1 = .slice a len cap := by
    rcases open_slice Tryd.underlying66 e1 with ⟨hcs, _⟩ | ⟨ad, len', cap', m, n, D, Pl, hcs, _⟩
    · exact ⟨_, _, _, by simpa using hcs⟩
    · exact ⟨_, _, _, by simpa using hcs⟩
  obtain ⟨a, len, cap, rfl⟩ := hs
  obtain ⟨l, hll, hlc, hC, hin⟩ := open_powers Tryd.underlying66 e1
  subst hll
  exact ⟨⟨n0, l⟩, k68_mk w ⟨n0, l⟩ hlc hC, wf_in64 hw0, hin, hC.2.1⟩
theorem open_monos {t : TypeId} {fuel : Nat} {a : Option Addr} {len cap : Nat} {x : DataW H × List MemPlace} (ht : Tryd.prog.underlying t = some (.slice 68))
    (h : DataW.trod enc Tryd.prog w base spare held fuel t [.slice a len cap] = some x) : ∃ gs : List S68, gs.length = len ∧ len ≤ cap ∧ Kd.C k68 w a len gs ∧ ∀ g ∈ gs, good68 g := by
  rcases open_slice ht h with ⟨hcs, _⟩ | ⟨ad, len', cap', m, n, D, Pl, hcs, _, hl, hm, hmm, _, hx⟩
  · simp at hcs
    obtain ⟨rfl, rfl, rfl⟩ := hcs
    exact ⟨[], rfl, Nat.le_refl _, ⟨rfl, by decide, fun h => absurd h (by decide)⟩, fun k hk => by simp at hk⟩
  · simp at hcs
    obtain ⟨rfl, rfl, rfl⟩ := hcs
    have hlm : len ≤ m := by rw [hmm]; split <;> omega
    have hcap := maxLen_le hm
    have c3 : Tryd.prog.cellsOf 68 = 2 := by kernel_rfl
    letI : Inhabited S68 := ⟨z68⟩
    obtain ⟨G, hG⟩ := choose_lt (α := S68) (n := len) (p := fun j g => (∃ c : List Value, c.length = 2 ∧ k68.K w g c ∧ ∀ i u, c[i]? = some u → w.cell? (ad.add (j * 2 + i)) = some u) ∧ good68 g) (fun j hj => by
      obtain ⟨cs', h1, h2⟩ := hx j (by omega)
      rw [c3] at h1
      obtain ⟨_, hlen, hcell⟩ := World.cells?_some h1
      obtain ⟨g, hg1, hg2⟩ := open_mono h2
      refine ⟨g, ⟨cs', hlen, hg1, fun i u hu => ?_⟩, hg2⟩
      have hi : i < 2 := by
        have := (List.getElem?_eq_some_iff.1 hu).1
        omega
      have h3 := hcell i hi
      rw [Go.Deep.add_add] at h3
      rw [h3, hu])
    have hlen : ((List.range len).map G).length = len := by simp
    refine ⟨(List.range len).map G, hlen, hl, ⟨hlen, by omega, fun _ => ⟨ad, rfl, fun j p hj => ?_⟩⟩, fun g hg => ?_⟩
    · obtain ⟨hjl, hjp⟩ := List.getElem?_eq_some_iff.1 hj
      simp at hjp
      subst hjp
      exact (hG j (by omega)).1
    · obtain ⟨j, hj, rfl⟩ := List.mem_map.1 hg
      exact (hG j (by simpa using hj)).2
set_option maxRecDepth 100000 in
/-- A polynomial that came in. -/
theorem open_poly {v : Value} {d : DataW H} {p : List MemPlace} (hval : Value.okWide Tryd.prog w .any base 53 v) (h : DataW.Trod enc Tryd.prog w 0 spare held 53 v d p) :
    ∃ A c, ∃ l : List S68, v = .slice A l.length c ∧ l.length ≤ c ∧ Kd.C k68 w A l.length l ∧ ∀ m ∈ l, good68 m := by
  obtain ⟨a, len, cap, rfl⟩ := okWide_slice Tryd.underlying53 hval
  obtain ⟨fuel, hf⟩ := h
  have hf' : DataW.trod enc Tryd.prog w 0 spare held fuel 53 [.slice a len cap] = some (d, p) := hf
  obtain ⟨l, hll, hlc, hC, hin⟩ := open_monos Tryd.underlying53 hf'
  subst hll
  exact ⟨a, cap, l, rfl, hlc, hC, hin⟩
end
end Go.Proofs.YtcafgpfecfocnaaDoor.RowBits

namespace Go.Proofs.YtcafgpfecfocnaaDoor.polyForm
open Go.ChangeShapes Go.WideShapes Go.ChangeAt Go.RowKit Go.Proofs.YtcafgpfecfocnaaDoor.P Go.Proofs.YtcafgpfecfocnaaDoorW.PrintWords Go.Proofs.YtcafgpfecfocnaaDoor.RowBits

set_option maxRecDepth 100000 in
theorem contract (H : Type) (enc : TypeId × Value → H) (W : World) (base : Nat) (args : Array Value) (ds gs : List (DataW H)) (before : List MemPlace)
    (hval : ∀ (j : Nat) t v, Tryd.f8.params[j]? = some t → args[j]? = some v → Value.okWide Tryd.prog W .any base t v)
    (hW : DataW.Whole enc Tryd.prog Tryd.f8.params.toList Rows.polyFormSpec.vars false W args.toList ds gs before) (hL : laidMetH Tryd.prog Rows.polyFormRow.laid W) :
    Calls Tryd.prog 8 args W fun e W' => ∃ v, e = .returned v ∧ Rows.polyFormSpec.post enc Tryd.prog Tryd.f8 false true false false W args v W' := by
  have hW' := hW
  obtain ⟨p, q, hA0, hV, rfl, hfz, hnd⟩ := hW
  have hA : DataW.TrodAll enc Tryd.prog W 0 (fun _ => true) true Tryd.f8.params.toList args.toList ds p := hA0
  rw [Tryd.params8] at hA hval
  obtain ⟨v0, vs0, d0, ds0, p0, q0, hargs, rfl, rfl, h0, r0⟩ := trodAll_cons hA
  obtain ⟨v1, vs1, d1, ds1, p1, q1, rfl, rfl, rfl, h1, r1⟩ := trodAll_cons r0
  obtain ⟨rfl, rfl, rfl⟩ := trodAll_nil r1
  obtain rfl : args = #[v0, v1] := by cases args; simp_all
  obtain ⟨rfl, rfl⟩ := trodVars_none hV
  have k0 := h0
  have lt0 : ∀ x ∈ p0, x.block < W.heap.size := by obtain ⟨m, hm⟩ := k0; exact DataW.trod_lt m _ _ _ hm
  have k1 := h1
  have lt1 : ∀ x ∈ p1, x.block < W.heap.size := by obtain ⟨m, hm⟩ := k1; exact DataW.trod_lt m _ _ _ hm
  obtain ⟨A0, c0, l0, rfl, hc0, hC0, hg0⟩ := open_poly (hval 0 53 v0 rfl rfl) h0
  obtain ⟨A1, c1, l1, rfl, hc1, hC1, hg1⟩ := open_poly (hval 1 53 v1 rfl rfl) h1
  clear hA0
  refine (pForm_walk A0 c0 l0 A1 c1 l1 W (table hL) hC0 hc0 hC1 hc1).mono fun e W' ⟨he, bel⟩ => ?_
  subst he
  exact ⟨_, rfl, _, _, _, [], _, [], hW', trodAll_mk1 (shut_bool Tryd.underlying4 _), (trodAll_cons_mk (Below.trod laidOut (by kernel_rfl) (of_decide_eq_true (by kernel_rfl)) k0 bel lt0) (trodAll_cons_mk (Below.trod laidOut (by kernel_rfl) (of_decide_eq_true (by kernel_rfl)) k1 bel lt1) trodAll_mk0)), rfl, bel.frame _, fun h => by cases h⟩
theorem reads (os : Os) {H : Type} (enc : TypeId × Value → H) : ∃ places, DataW.whole enc Tryd.prog ((laidWorld os).forCall (fun _ _ => 0) ⟨#[], #[.slice none 0 0, .slice none 0 0], []⟩).memory Tryd.f8.params.toList Rows.polyFormSpec.vars false #[Value.slice none 0 0, Value.slice none 0 0].toList 8 = some ([.nil, .nil], [], places) :=
  ⟨[], by kernel_rfl⟩
set_option maxRecDepth 100000 in
theorem lifted (os : Os) (started : os.Started) (H : Type) (enc : TypeId × Value → H) (F : Stop.Interp) :
    ReturnsInHanded {} Tryd.checked os 8 .any ((OpenSpec.ofChange Rows.polyFormSpec).preRow enc Tryd.prog Tryd.f8 Rows.polyFormRow.domain false Rows.polyFormRow.laid) (((OpenSpec.ofChange Rows.polyFormSpec).at F).post enc Tryd.prog Tryd.f8 false true false false) := by
  obtain ⟨places, hx⟩ := reads os enc
  refine returnsInHanded_of_row (C := Tryd.checked) (s := OpenSpec.ofChange Rows.polyFormSpec) own started (by kernel_rfl) Tryd.func8
    (witness_row_at (enc := enc) (C := Tryd.checked) false (laidWorld os) #[.slice none 0 0, .slice none 0 0] rfl (by kernel_rfl) (by kernel_rfl) (by kernel_rfl)
      (OpenSpec.preRow_of_cond 8 hx (by kernel_rfl) (fun k hk => by cases hk) (by kernel_rfl) (laid_met os _))) ?_
  intro W base args ds gs before hval hW _ _ _ hL _ _
  exact contract H enc W base args ds gs before hval hW hL
theorem said : Rows.PolyFormSaid :=
  OpenClaim.holds_of_cond 8 Tryd.f8 rfl rfl rfl rfl rfl rfl rfl ⟨rfl, rfl, rfl, rfl, rfl⟩ rfl rfl rfl rfl rfl (by kernel_rfl) Tryd.func8 (by kernel_rfl)
    (of_decide_eq_true (by kernel_rfl)) (by unfold Func.isWrapper; first | (rw [if_pos (by decide +kernel)]; kernel_rfl) | (rw [if_neg (by decide +kernel)]; exact ⟨rfl, rfl⟩))
    (fun os started H enc _ F => by rw [OpenClaim.pre_eq_preRow]; exact lifted os started H enc F)
theorem plain (f : FuncId) (fn : Func) (hf : Tryd.pinned.checked.prog.funcNamed "cleanse/cleanselaw15.PolyForm" = some f) (hfn : Tryd.pinned.checked.prog.funcs[f]? = some fn) :
    false = Tryd.pinned.checked.prog.looks [] ∧ ∀ (j : Nat) t, fn.params[j]? = some t → Tryd.pinned.checked.prog.wantsStandIn t = false := by
  obtain rfl : f = 8 := Option.some.inj ((show Tryd.prog.funcNamed "cleanse/cleanselaw15.PolyForm" = some 8 by kernel_rfl).symm.trans hf) |>.symm
  obtain rfl : fn = Tryd.f8 := (Option.some.inj (Tryd.func8.symm.trans hfn)).symm
  refine ⟨by kernel_rfl, fun j t ht => ?_⟩
  rw [Tryd.params8] at ht
  have hm := Array.mem_of_getElem? ht
  simp only [List.mem_toArray, List.mem_cons, List.not_mem_nil, or_false] at hm
  rcases hm with rfl | rfl
  · exact (show Tryd.prog.wantsStandIn 53 = false by kernel_rfl)
  · exact (show Tryd.prog.wantsStandIn 53 = false by kernel_rfl)
/-- The card. -/
theorem card : Rows.PolyFormCardSaid :=
  Claim7.holds_tied_plain_at .later [] _ _ _ _ said (fun _ h => by cases h) (by kernel_rfl) (fun _ h => by cases h) polyForm_row_tie rfl ⟨rfl, rfl⟩ (by kernel_rfl) rfl plain (by kernel_rfl)
end Go.Proofs.YtcafgpfecfocnaaDoor.polyForm
namespace Go.Proofs.YtcafgpfecfocnaaDoor
theorem polyForm_holds : Rows.PolyFormCardSaid := polyForm.card
end Go.Proofs.YtcafgpfecfocnaaDoor
