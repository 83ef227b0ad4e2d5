/- What the claim's proof needs: Px22. -/
import Derived.Test.YtcafgpfecfocnaaDoorRePx0
import Derived.Test.YtcafgpfecfocnaaDoorRePx9
import Derived.Test.YtcafgpfecfocnaaDoorRePx10
import Derived.Test.YtcafgpfecfocnaaDoorRePx11
import Derived.Test.YtcafgpfecfocnaaDoorRePx16
import Derived.Test.YtcafgpfecfocnaaDoorRe1
/- Printed by a program of this work over the translation: plain functions and contracts of Go functions; checked by Lean alone. -/
namespace Go.Proofs.YtcafgpfecfocnaaDoor.P
open Go.RowKit Go.Proofs.YtcafgpfecfocnaaDoorW.PrintWords Go.Proofs.YtcafgpfecfocnaaDoorW.PrintLast Go.Proofs.YtcafgpfecfocnaaDoorW.PrintMore
attribute [local go_sem] min2_int min_two
set_option linter.unusedVariables false
set_option linter.unusedSimpArgs false

/-! ### cleanselaw15_PolyTexts: function 13 -/
def cleanselaw15_PolyTexts.j0 : Nat → List (S68) → List (S68) → Bool → Bool → Option (Bool)
 | 0, _, _, _, _ => none
 | k + 1, x0, x1, x5, x24 => if x24 = true then (some x5) else (if x5 = true then ((poly_Text.f k x0).bind fun t520 => (if t520.toList = ([] : List UInt8) then (some false) else ((poly_Text.f k x0).bind fun t521 => ((poly_Text.f k x1).bind fun t522 => ((cleanseref15_Same.f k x0 x1).bind fun t523 => (some ((t521.toList == t522.toList) == t523))))))) else (some false))
def cleanselaw15_PolyTexts.f (k : Nat) (l0 : List (S68)) (l1 : List (S68)) : Option (Bool) := (cleanselaw15_head.f k).bind fun t515 => ((cleanseref15_Small.f k l0 30).bind fun t516 => (if t516 = true then ((cleanseref15_Small.f k l1 30).bind fun t517 => (if t517 = true then ((poly_Valid.f k l0).bind fun t518 => (if t518 = true then ((poly_Valid.f k l1).bind fun t519 => (cleanselaw15_PolyTexts.j0 k l0 l1 t515 (!t519))) else (cleanselaw15_PolyTexts.j0 k l0 l1 t515 true))) else (cleanselaw15_PolyTexts.j0 k l0 l1 t515 true))) else (cleanselaw15_PolyTexts.j0 k l0 l1 t515 true)))
set_option maxHeartbeats 8000000 in
set_option maxRecDepth 100000 in
theorem cleanselaw15_PolyTexts.calls (k : Nat) (A0 : Option Addr) (c0 : Nat) (l0 : List (S68)) (A1 : Option Addr) (c1 : Nat) (l1 : List (S68)) (r : Bool) (w : World) (hT : Tabs w) (hr0 : Kd.C k68 w A0 l0.length l0) (hc0 : l0.length ≤ c0) (hr1 : Kd.C k68 w A1 l1.length l1) (hc1 : l1.length ≤ c1) (h : cleanselaw15_PolyTexts.f k l0 l1 = some r) :
  Calls Tryd.prog 13 #[.slice A0 l0.length c0, .slice A1 l1.length c1] w fun e w' => e = .returned (.bool r) ∧ Below w.heap.size w w' := by
 have HR0 := Aside0.mk hr0
 have HC0 := Aside0.mk hc0
 clear hr0 hc0
 have HR1 := Aside0.mk hr1
 have HC1 := Aside0.mk hc1
 clear hr1 hc1
 have HT := Aside0.mk hT
 clear hT
 have HB := Aside0.mk (Below.refl w.heap.size w)
 have H : ((cleanselaw15_head.f k).bind fun t515 => ((cleanseref15_Small.f k l0 30).bind fun t516 => (if t516 = true then ((cleanseref15_Small.f k l1 30).bind fun t517 => (if t517 = true then ((poly_Valid.f k l0).bind fun t518 => (if t518 = true then ((poly_Valid.f k l1).bind fun t519 => (cleanselaw15_PolyTexts.j0 k l0 l1 t515 (!t519))) else (cleanselaw15_PolyTexts.j0 k l0 l1 t515 true))) else (cleanselaw15_PolyTexts.j0 k l0 l1 t515 true))) else (cleanselaw15_PolyTexts.j0 k l0 l1 t515 true)))) = some r := h
 clear h
 replace H := Option.bind_eq_some_iff.mp H
 obtain ⟨t515, A30, H⟩ := H
 replace H : ((cleanseref15_Small.f k l0 30).bind fun t516 => (if t516 = true then ((cleanseref15_Small.f k l1 30).bind fun t517 => (if t517 = true then ((poly_Valid.f k l0).bind fun t518 => (if t518 = true then ((poly_Valid.f k l1).bind fun t519 => (cleanselaw15_PolyTexts.j0 k l0 l1 t515 (!t519))) else (cleanselaw15_PolyTexts.j0 k l0 l1 t515 true))) else (cleanselaw15_PolyTexts.j0 k l0 l1 t515 true))) else (cleanselaw15_PolyTexts.j0 k l0 l1 t515 true))) = some r := H
 have A3 := Aside0.mk A30
 clear A30
 have HC4 := Aside0.mk H
 clear H
 go_enter Tryd.func13, Tryd.ntmps13
 go_upto_region 2 with (first | ((with_reducible refine gate_callee (f := 31) rfl ?_); refine goesL_ (some 6) rfl rfl Tryd.func31 (by kernel_rfl) rfl #[] rfl (by (try simp only [List.map_toArray, List.map_cons, List.map_nil]); first | done | rfl | (simp only [List.length_drop, List.length_take]; rfl)) ?_; (with_reducible refine (cleanselaw15_head.calls k  t515 _ ?side1 A3.out).mono ?_); (case side1 => exact Tabs.below HT.out (by repeat (first | (with_reducible first | exact HB.out | apply below_alloc | apply pw_below_drewN | apply below_drew1) | exact HB.out))); rintro e w5 ⟨rfl, hb⟩; refine ⟨_, rfl, ?_⟩; have n0_ := Aside0.mk (below_step (by repeat (first | (with_reducible first | exact HB.out | apply below_alloc | apply pw_below_drewN | apply below_drew1) | exact HB.out)) hb); clear HB; have HB := n0_; clear n0_; (try clear hb); (try clear hb2); (try clear hk); (try clear hi)))
 (try simp only [Act.put, List.setIfInBounds_toArray, List.set_cons_zero, List.set_cons_succ])
 go_cut [24] (fun v24 wc => ∃ (kq : Nat) (x24_3 : Bool), v24 = .bool x24_3 ∧ Aside0 (cleanselaw15_PolyTexts.j0 kq l0 l1 t515 x24_3 = some r) ∧ Aside0 (kq ≤ k) ∧ Aside0 (Below w.heap.size w wc))
 case first =>
  have H := HC4.out
  clear HC4
  replace H := Option.bind_eq_some_iff.mp H
  obtain ⟨t516, A60, H⟩ := H
  replace H : (if t516 = true then ((cleanseref15_Small.f k l1 30).bind fun t517 => (if t517 = true then ((poly_Valid.f k l0).bind fun t518 => (if t518 = true then ((poly_Valid.f k l1).bind fun t519 => (cleanselaw15_PolyTexts.j0 k l0 l1 t515 (!t519))) else (cleanselaw15_PolyTexts.j0 k l0 l1 t515 true))) else (cleanselaw15_PolyTexts.j0 k l0 l1 t515 true))) else (cleanselaw15_PolyTexts.j0 k l0 l1 t515 true)) = some r := H
  have A6 := Aside0.mk A60
  clear A60
  by_cases c7 : t516 = true
  ·subst c7
   have H1 : ((cleanseref15_Small.f k l1 30).bind fun t517 => (if t517 = true then ((poly_Valid.f k l0).bind fun t518 => (if t518 = true then ((poly_Valid.f k l1).bind fun t519 => (cleanselaw15_PolyTexts.j0 k l0 l1 t515 (!t519))) else (cleanselaw15_PolyTexts.j0 k l0 l1 t515 true))) else (cleanselaw15_PolyTexts.j0 k l0 l1 t515 true))) = some r := by rw [if_pos rfl] at H; exact H
   clear H
   have H := H1
   clear H1
   replace H := Option.bind_eq_some_iff.mp H
   obtain ⟨t517, A80, H⟩ := H
   replace H : (if t517 = true then ((poly_Valid.f k l0).bind fun t518 => (if t518 = true then ((poly_Valid.f k l1).bind fun t519 => (cleanselaw15_PolyTexts.j0 k l0 l1 t515 (!t519))) else (cleanselaw15_PolyTexts.j0 k l0 l1 t515 true))) else (cleanselaw15_PolyTexts.j0 k l0 l1 t515 true)) = some r := H
   have A8 := Aside0.mk A80
   clear A80
   by_cases c9 : t517 = true
   ·subst c9
    have H1 : ((poly_Valid.f k l0).bind fun t518 => (if t518 = true then ((poly_Valid.f k l1).bind fun t519 => (cleanselaw15_PolyTexts.j0 k l0 l1 t515 (!t519))) else (cleanselaw15_PolyTexts.j0 k l0 l1 t515 true))) = some r := by rw [if_pos rfl] at H; exact H
    clear H
    have H := H1
    clear H1
    replace H := Option.bind_eq_some_iff.mp H
    obtain ⟨t518, A100, H⟩ := H
    replace H : (if t518 = true then ((poly_Valid.f k l1).bind fun t519 => (cleanselaw15_PolyTexts.j0 k l0 l1 t515 (!t519))) else (cleanselaw15_PolyTexts.j0 k l0 l1 t515 true)) = some r := H
    have A10 := Aside0.mk A100
    clear A100
    by_cases c11 : t518 = true
    ·subst c11
     have H1 : ((poly_Valid.f k l1).bind fun t519 => (cleanselaw15_PolyTexts.j0 k l0 l1 t515 (!t519))) = some r := by rw [if_pos rfl] at H; exact H
     clear H
     have H := H1
     clear H1
     replace H := Option.bind_eq_some_iff.mp H
     obtain ⟨t519, A120, H⟩ := H
     replace H : (cleanselaw15_PolyTexts.j0 k l0 l1 t515 (!t519)) = some r := H
     have A12 := Aside0.mk A120
     clear A120
     have H' := Aside0.mk H
     clear H
     go_wp2_with (first | ((with_reducible refine gate_callee (f := 32) rfl ?_); refine goesL_ (some 8) rfl rfl Tryd.func32 (by kernel_rfl) rfl #[.slice A0 l0.length c0, .int .i64 30] rfl (by (try simp only [List.map_toArray, List.map_cons, List.map_nil]); first | done | rfl | (simp only [List.length_drop, List.length_take]; rfl)) ?_; (with_reducible refine (cleanseref15_Small.calls k _ _ l0 30 true _ ?side1 ?side2 A6.out).mono ?_); (case side1 => repeat (first | exact (Kd.C_below HR0.out HB.out) | (with_reducible refine Kd.C_alloc ?_ _) | (with_reducible refine Kd.C_drewN ?_ _) | (with_reducible refine Kd.C_drew ?_))); (case side2 => exact HC0.out); rintro e w' ⟨rfl, ⟨nd, rfl⟩⟩; refine ⟨_, rfl, ?_⟩) | (go_at_call 32; (with_reducible refine (cleanseref15_Small.calls k _ _ l1 30 true _ ?side1 ?side2 A8.out).mono ?_); (case side1 => repeat (first | exact (Kd.C_below HR1.out (by repeat (first | (with_reducible first | exact HB.out | apply below_alloc | apply pw_below_drewN | apply below_drew1) | exact HB.out))) | (with_reducible refine Kd.C_alloc ?_ _) | (with_reducible refine Kd.C_drewN ?_ _) | (with_reducible refine Kd.C_drew ?_))); (case side2 => exact HC1.out); rintro e w' ⟨rfl, ⟨nd, rfl⟩⟩) | (go_at_call 44; (with_reducible refine (poly_Valid.calls k _ _ l0 true _ ?side1 ?side2 A10.out).mono ?_); (case side1 => repeat (first | exact (Kd.C_below HR0.out (by repeat (first | (with_reducible first | exact HB.out | apply below_alloc | apply pw_below_drewN | apply below_drew1) | exact HB.out))) | (with_reducible refine Kd.C_alloc ?_ _) | (with_reducible refine Kd.C_drewN ?_ _) | (with_reducible refine Kd.C_drew ?_))); (case side2 => exact HC0.out); rintro e w13 ⟨rfl, hb⟩; have n0_ := Aside0.mk (below_step (by repeat (first | (with_reducible first | exact HB.out | apply below_alloc | apply pw_below_drewN | apply below_drew1) | exact HB.out)) hb); clear HB; have HB := n0_; clear n0_; (try clear hb); (try clear hb2); (try clear hk); (try clear hi)) | (go_at_call 44; (with_reducible refine (poly_Valid.calls k _ _ l1 t519 _ ?side1 ?side2 A12.out).mono ?_); (case side1 => repeat (first | exact (Kd.C_below HR1.out HB.out) | (with_reducible refine Kd.C_alloc ?_ _) | (with_reducible refine Kd.C_drewN ?_ _) | (with_reducible refine Kd.C_drew ?_))); (case side2 => exact HC1.out); rintro e w14 ⟨rfl, hb⟩; have n0_ := Aside0.mk (below_step (by repeat (first | (with_reducible first | exact HB.out | apply below_alloc | apply pw_below_drewN | apply below_drew1) | exact HB.out)) hb); clear HB; have HB := n0_; clear n0_; (try clear hb); (try clear hb2); (try clear hk); (try clear hi)))
     go_meet
     case rel => exact ⟨_, (!t519), (by first | rfl | (simp; done) | (simp [*]; done)), H', ⟨by first | omega | exact Nat.le_refl _⟩, ⟨by repeat (first | (with_reducible first | exact HB.out | apply below_alloc | apply pw_below_drewN | apply below_drew1) | exact HB.out)⟩⟩
    ·replace c11 := Bool.eq_false_iff.mpr c11
     subst c11
     have H1 : (cleanselaw15_PolyTexts.j0 k l0 l1 t515 true) = some r := by rw [if_neg (show ¬ (false = true) by decide)] at H; exact H
     clear H
     have H := H1
     clear H1
     have H' := Aside0.mk H
     clear H
     go_wp2_with (first | ((with_reducible refine gate_callee (f := 32) rfl ?_); refine goesL_ (some 8) rfl rfl Tryd.func32 (by kernel_rfl) rfl #[.slice A0 l0.length c0, .int .i64 30] rfl (by (try simp only [List.map_toArray, List.map_cons, List.map_nil]); first | done | rfl | (simp only [List.length_drop, List.length_take]; rfl)) ?_; (with_reducible refine (cleanseref15_Small.calls k _ _ l0 30 true _ ?side1 ?side2 A6.out).mono ?_); (case side1 => repeat (first | exact (Kd.C_below HR0.out HB.out) | (with_reducible refine Kd.C_alloc ?_ _) | (with_reducible refine Kd.C_drewN ?_ _) | (with_reducible refine Kd.C_drew ?_))); (case side2 => exact HC0.out); rintro e w' ⟨rfl, ⟨nd, rfl⟩⟩; refine ⟨_, rfl, ?_⟩) | (go_at_call 32; (with_reducible refine (cleanseref15_Small.calls k _ _ l1 30 true _ ?side1 ?side2 A8.out).mono ?_); (case side1 => repeat (first | exact (Kd.C_below HR1.out (by repeat (first | (with_reducible first | exact HB.out | apply below_alloc | apply pw_below_drewN | apply below_drew1) | exact HB.out))) | (with_reducible refine Kd.C_alloc ?_ _) | (with_reducible refine Kd.C_drewN ?_ _) | (with_reducible refine Kd.C_drew ?_))); (case side2 => exact HC1.out); rintro e w' ⟨rfl, ⟨nd, rfl⟩⟩) | (go_at_call 44; (with_reducible refine (poly_Valid.calls k _ _ l0 false _ ?side1 ?side2 A10.out).mono ?_); (case side1 => repeat (first | exact (Kd.C_below HR0.out (by repeat (first | (with_reducible first | exact HB.out | apply below_alloc | apply pw_below_drewN | apply below_drew1) | exact HB.out))) | (with_reducible refine Kd.C_alloc ?_ _) | (with_reducible refine Kd.C_drewN ?_ _) | (with_reducible refine Kd.C_drew ?_))); (case side2 => exact HC0.out); rintro e w15 ⟨rfl, hb⟩; have n0_ := Aside0.mk (below_step (by repeat (first | (with_reducible first | exact HB.out | apply below_alloc | apply pw_below_drewN | apply below_drew1) | exact HB.out)) hb); clear HB; have HB := n0_; clear n0_; (try clear hb); (try clear hb2); (try clear hk); (try clear hi)))
     go_meet
     case rel => exact ⟨_, (true), (by first | rfl | (simp; done) | (simp [*]; done)), H', ⟨by first | omega | exact Nat.le_refl _⟩, ⟨by repeat (first | (with_reducible first | exact HB.out | apply below_alloc | apply pw_below_drewN | apply below_drew1) | exact HB.out)⟩⟩
   ·replace c9 := Bool.eq_false_iff.mpr c9
    subst c9
    have H1 : (cleanselaw15_PolyTexts.j0 k l0 l1 t515 true) = some r := by rw [if_neg (show ¬ (false = true) by decide)] at H; exact H
    clear H
    have H := H1
    clear H1
    have H' := Aside0.mk H
    clear H
    go_wp2_with (first | ((with_reducible refine gate_callee (f := 32) rfl ?_); refine goesL_ (some 8) rfl rfl Tryd.func32 (by kernel_rfl) rfl #[.slice A0 l0.length c0, .int .i64 30] rfl (by (try simp only [List.map_toArray, List.map_cons, List.map_nil]); first | done | rfl | (simp only [List.length_drop, List.length_take]; rfl)) ?_; (with_reducible refine (cleanseref15_Small.calls k _ _ l0 30 true _ ?side1 ?side2 A6.out).mono ?_); (case side1 => repeat (first | exact (Kd.C_below HR0.out HB.out) | (with_reducible refine Kd.C_alloc ?_ _) | (with_reducible refine Kd.C_drewN ?_ _) | (with_reducible refine Kd.C_drew ?_))); (case side2 => exact HC0.out); rintro e w' ⟨rfl, ⟨nd, rfl⟩⟩; refine ⟨_, rfl, ?_⟩) | (go_at_call 32; (with_reducible refine (cleanseref15_Small.calls k _ _ l1 30 false _ ?side1 ?side2 A8.out).mono ?_); (case side1 => repeat (first | exact (Kd.C_below HR1.out (by repeat (first | (with_reducible first | exact HB.out | apply below_alloc | apply pw_below_drewN | apply below_drew1) | exact HB.out))) | (with_reducible refine Kd.C_alloc ?_ _) | (with_reducible refine Kd.C_drewN ?_ _) | (with_reducible refine Kd.C_drew ?_))); (case side2 => exact HC1.out); rintro e w' ⟨rfl, ⟨nd, rfl⟩⟩))
    go_meet
    case rel => exact ⟨_, (true), (by first | rfl | (simp; done) | (simp [*]; done)), H', ⟨by first | omega | exact Nat.le_refl _⟩, ⟨by repeat (first | (with_reducible first | exact HB.out | apply below_alloc | apply pw_below_drewN | apply below_drew1) | exact HB.out)⟩⟩
  ·replace c7 := Bool.eq_false_iff.mpr c7
   subst c7
   have H1 : (cleanselaw15_PolyTexts.j0 k l0 l1 t515 true) = some r := by rw [if_neg (show ¬ (false = true) by decide)] at H; exact H
   clear H
   have H := H1
   clear H1
   have H' := Aside0.mk H
   clear H
   go_wp2_with (first | ((with_reducible refine gate_callee (f := 32) rfl ?_); refine goesL_ (some 8) rfl rfl Tryd.func32 (by kernel_rfl) rfl #[.slice A0 l0.length c0, .int .i64 30] rfl (by (try simp only [List.map_toArray, List.map_cons, List.map_nil]); first | done | rfl | (simp only [List.length_drop, List.length_take]; rfl)) ?_; (with_reducible refine (cleanseref15_Small.calls k _ _ l0 30 false _ ?side1 ?side2 A6.out).mono ?_); (case side1 => repeat (first | exact (Kd.C_below HR0.out HB.out) | (with_reducible refine Kd.C_alloc ?_ _) | (with_reducible refine Kd.C_drewN ?_ _) | (with_reducible refine Kd.C_drew ?_))); (case side2 => exact HC0.out); rintro e w' ⟨rfl, ⟨nd, rfl⟩⟩; refine ⟨_, rfl, ?_⟩))
   go_meet
   case rel => exact ⟨_, (true), (by first | rfl | (simp; done) | (simp [*]; done)), H', ⟨by first | omega | exact Nat.le_refl _⟩, ⟨by repeat (first | (with_reducible first | exact HB.out | apply below_alloc | apply pw_below_drewN | apply below_drew1) | exact HB.out)⟩⟩
 case rest =>
  clear HC4
  try clear c1
  try clear p2
  try clear c3
  try clear c7
  try clear c9
  try clear c11
  try clear c13
  obtain ⟨kq, x24_3, rfl, HA, HJ3, HB⟩ := hcut
  cases kq with
  | zero => exact absurd HA.out (by simp [cleanselaw15_PolyTexts.j0])
  | succ kj3 =>
   have H := HA.out
   clear HA
   simp only [cleanselaw15_PolyTexts.j0] at H
   by_cases c16 : x24_3 = true
   ·subst c16
    have H1 : (some t515) = some r := by rw [if_pos rfl] at H; exact H
    clear H
    have H := H1
    clear H1
    obtain rfl := Option.some.inj H
    go_wp2
    go_ret
    exact ⟨by first | rfl | (simp [errW_none, errW_some] <;> rfl) | (simp [*, errW_none, errW_some] <;> rfl), by repeat (first | (with_reducible first | exact HB.out | apply below_alloc | apply pw_below_drewN | apply below_drew1) | exact HB.out)⟩
   ·replace c16 := Bool.eq_false_iff.mpr c16
    subst c16
    have H1 : (if t515 = true then ((poly_Text.f kj3 l0).bind fun t520 => (if t520.toList = ([] : List UInt8) then (some false) else ((poly_Text.f kj3 l0).bind fun t521 => ((poly_Text.f kj3 l1).bind fun t522 => ((cleanseref15_Same.f kj3 l0 l1).bind fun t523 => (some ((t521.toList == t522.toList) == t523))))))) else (some false)) = some r := by rw [if_neg (show ¬ (false = true) by decide)] at H; exact H
    clear H
    have H := H1
    clear H1
    by_cases c17 : t515 = true
    ·subst c17
     have H1 : ((poly_Text.f kj3 l0).bind fun t520 => (if t520.toList = ([] : List UInt8) then (some false) else ((poly_Text.f kj3 l0).bind fun t521 => ((poly_Text.f kj3 l1).bind fun t522 => ((cleanseref15_Same.f kj3 l0 l1).bind fun t523 => (some ((t521.toList == t522.toList) == t523))))))) = some r := by rw [if_pos rfl] at H; exact H
     clear H
     have H := H1
     clear H1
     replace H := Option.bind_eq_some_iff.mp H
     obtain ⟨t520, A180, H⟩ := H
     replace H : (if t520.toList = ([] : List UInt8) then (some false) else ((poly_Text.f kj3 l0).bind fun t521 => ((poly_Text.f kj3 l1).bind fun t522 => ((cleanseref15_Same.f kj3 l0 l1).bind fun t523 => (some ((t521.toList == t522.toList) == t523)))))) = some r := H
     have A18 := Aside0.mk A180
     clear A180
     by_cases c19 : t520.toList = ([] : List UInt8)
     ·rw [if_pos c19] at H
      have c19b0 : (t520.toList == ([] : List UInt8)) = true := beq_iff_eq.mpr c19
      have c19b1 : (t520.toList != ([] : List UInt8)) = false := bne_eq_false_iff_eq.mpr c19
      clear c19
      obtain rfl := Option.some.inj H
      go_wp2_with (first | (go_at_call 46; (with_reducible refine (poly_Text.calls kj3 _ _ l0 t520 _ ?side1 ?side2 ?side3 A18.out).mono ?_); (case side1 => exact Tabs.below HT.out (by repeat (first | (with_reducible first | exact HB.out | apply below_alloc | apply pw_below_drewN | apply below_drew1) | exact HB.out))); (case side2 => repeat (first | exact (Kd.C_below HR0.out HB.out) | (with_reducible refine Kd.C_alloc ?_ _) | (with_reducible refine Kd.C_drewN ?_ _) | (with_reducible refine Kd.C_drew ?_))); (case side3 => exact HC0.out); rintro e w20 ⟨rfl, hb⟩; have n0_ := Aside0.mk (below_step (by repeat (first | (with_reducible first | exact HB.out | apply below_alloc | apply pw_below_drewN | apply below_drew1) | exact HB.out)) hb); clear HB; have HB := n0_; clear n0_; (try clear hb); (try clear hb2); (try clear hk); (try clear hi)))
      go_ret
      exact ⟨by first | rfl | (simp [errW_none, errW_some] <;> rfl) | (simp [*, errW_none, errW_some] <;> rfl), by repeat (first | (with_reducible first | exact HB.out | apply below_alloc | apply pw_below_drewN | apply below_drew1) | exact HB.out)⟩
     ·rw [if_neg c19] at H
      have c19b0 : (t520.toList == ([] : List UInt8)) = false := beq_eq_false_iff_ne.mpr c19
      have c19b1 : (t520.toList != ([] : List UInt8)) = true := bne_iff_ne.mpr c19
      replace H := Option.bind_eq_some_iff.mp H
      obtain ⟨t521, A210, H⟩ := H
      replace H : ((poly_Text.f kj3 l1).bind fun t522 => ((cleanseref15_Same.f kj3 l0 l1).bind fun t523 => (some ((t521.toList == t522.toList) == t523)))) = some r := H
      have A21 := Aside0.mk A210
      clear A210
      obtain rfl : t521 = t520 := Option.some.inj (A21.out.symm.trans A18.out)
      replace H := Option.bind_eq_some_iff.mp H
      obtain ⟨t522, A220, H⟩ := H
      replace H : ((cleanseref15_Same.f kj3 l0 l1).bind fun t523 => (some ((t521.toList == t522.toList) == t523))) = some r := H
      have A22 := Aside0.mk A220
      clear A220
      replace H := Option.bind_eq_some_iff.mp H
      obtain ⟨t523, A230, H⟩ := H
      replace H : (some ((t521.toList == t522.toList) == t523)) = some r := H
      have A23 := Aside0.mk A230
      clear A230
      obtain rfl := Option.some.inj H
      go_wp2_with (first | (go_at_call 46; (with_reducible refine (poly_Text.calls kj3 _ _ l0 t520 _ ?side1 ?side2 ?side3 A18.out).mono ?_); (case side1 => exact Tabs.below HT.out (by repeat (first | (with_reducible first | exact HB.out | apply below_alloc | apply pw_below_drewN | apply below_drew1) | exact HB.out))); (case side2 => repeat (first | exact (Kd.C_below HR0.out HB.out) | (with_reducible refine Kd.C_alloc ?_ _) | (with_reducible refine Kd.C_drewN ?_ _) | (with_reducible refine Kd.C_drew ?_))); (case side3 => exact HC0.out); rintro e w24 ⟨rfl, hb⟩; have n0_ := Aside0.mk (below_step (by repeat (first | (with_reducible first | exact HB.out | apply below_alloc | apply pw_below_drewN | apply below_drew1) | exact HB.out)) hb); clear HB; have HB := n0_; clear n0_; (try clear hb); (try clear hb2); (try clear hk); (try clear hi)) | (go_at_call 46; (with_reducible refine (poly_Text.calls kj3 _ _ l0 t521 _ ?side1 ?side2 ?side3 A21.out).mono ?_); (case side1 => exact Tabs.below HT.out (by repeat (first | (with_reducible first | exact HB.out | apply below_alloc | apply pw_below_drewN | apply below_drew1) | exact HB.out))); (case side2 => repeat (first | exact (Kd.C_below HR0.out HB.out) | (with_reducible refine Kd.C_alloc ?_ _) | (with_reducible refine Kd.C_drewN ?_ _) | (with_reducible refine Kd.C_drew ?_))); (case side3 => exact HC0.out); rintro e w25 ⟨rfl, hb⟩; have n0_ := Aside0.mk (below_step (by repeat (first | (with_reducible first | exact HB.out | apply below_alloc | apply pw_below_drewN | apply below_drew1) | exact HB.out)) hb); clear HB; have HB := n0_; clear n0_; (try clear hb); (try clear hb2); (try clear hk); (try clear hi)) | (go_at_call 46; (with_reducible refine (poly_Text.calls kj3 _ _ l1 t522 _ ?side1 ?side2 ?side3 A22.out).mono ?_); (case side1 => exact Tabs.below HT.out (by repeat (first | (with_reducible first | exact HB.out | apply below_alloc | apply pw_below_drewN | apply below_drew1) | exact HB.out))); (case side2 => repeat (first | exact (Kd.C_below HR1.out HB.out) | (with_reducible refine Kd.C_alloc ?_ _) | (with_reducible refine Kd.C_drewN ?_ _) | (with_reducible refine Kd.C_drew ?_))); (case side3 => exact HC1.out); rintro e w26 ⟨rfl, hb⟩; have n0_ := Aside0.mk (below_step (by repeat (first | (with_reducible first | exact HB.out | apply below_alloc | apply pw_below_drewN | apply below_drew1) | exact HB.out)) hb); clear HB; have HB := n0_; clear n0_; (try clear hb); (try clear hb2); (try clear hk); (try clear hi)) | (go_at_call 43; (with_reducible refine (cleanseref15_Same.calls kj3 _ _ l0 _ _ l1 t523 _ ?side1 ?side2 ?side3 ?side4 A23.out).mono ?_); (case side1 => repeat (first | exact (Kd.C_below HR0.out HB.out) | (with_reducible refine Kd.C_alloc ?_ _) | (with_reducible refine Kd.C_drewN ?_ _) | (with_reducible refine Kd.C_drew ?_))); (case side2 => exact HC0.out); (case side3 => repeat (first | exact (Kd.C_below HR1.out HB.out) | (with_reducible refine Kd.C_alloc ?_ _) | (with_reducible refine Kd.C_drewN ?_ _) | (with_reducible refine Kd.C_drew ?_))); (case side4 => exact HC1.out); rintro e w' ⟨rfl, ⟨nd, rfl⟩⟩))
      go_ret
      exact ⟨by first | rfl | (simp [errW_none, errW_some] <;> rfl) | (simp [*, errW_none, errW_some] <;> rfl), by repeat (first | (with_reducible first | exact HB.out | apply below_alloc | apply pw_below_drewN | apply below_drew1) | exact HB.out)⟩
    ·replace c17 := Bool.eq_false_iff.mpr c17
     subst c17
     have H1 : (some false) = some r := by rw [if_neg (show ¬ (false = true) by decide)] at H; exact H
     clear H
     have H := H1
     clear H1
     obtain rfl := Option.some.inj H
     go_wp2
     go_ret
     exact ⟨by first | rfl | (simp [errW_none, errW_some] <;> rfl) | (simp [*, errW_none, errW_some] <;> rfl), by repeat (first | (with_reducible first | exact HB.out | apply below_alloc | apply pw_below_drewN | apply below_drew1) | exact HB.out)⟩

end Go.Proofs.YtcafgpfecfocnaaDoor.P
