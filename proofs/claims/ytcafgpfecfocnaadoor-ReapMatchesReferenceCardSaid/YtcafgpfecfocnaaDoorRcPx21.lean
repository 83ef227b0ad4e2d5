/- What the claim's proof needs: Px21. -/
import Derived.Test.YtcafgpfecfocnaaDoorRcPx0
import Derived.Test.YtcafgpfecfocnaaDoorRcPx6
/- Printed by a program of this work over the translation: plain functions and contracts of Go functions; checked by Lean alone. -/
namespace Go.Proofs.YtcafgpfecfocnaaDoor.P
open Go.RowKit Go.Proofs.YtcafgpfecfocnaaDoorW.PrintWords Go.Proofs.YtcafgpfecfocnaaDoorW.PrintLast Go.Proofs.YtcafgpfecfocnaaDoorW.PrintMore
attribute [local go_sem] max2_int min2_int max_two min_two
set_option linter.unusedVariables false
set_option linter.unusedSimpArgs false

/-! ### cleanseref18_Keep: function 17 -/
mutual
def cleanseref18_Keep.l0 : Nat → List Int → List Bool → List Int → Int → List (S50) → List (S50) → Option ((List (S50)) × List Int × Int)
 | 0, _, _, _, _, _, _ => none
 | k + 1, x1, x7, x8, x10, x498000, x507000 => if x10 < (x7.length : Int) then (if 0 ≤ x10 then (if rdOf false x7 x10 = true then (if x10 < (x8.length : Int) then (if x10 < (x498000.length : Int) then (cleanseref18_Keep.l1 k x1 x7 (x8.set (x10 : Int).toNat (x507000.length : Int)) x10 0 x498000 x507000 ((rd_T50 x498000 x10).f0) ((rd_T50 x498000 x10).f1) ([] : List Int)) else (none)) else (none)) else (cleanseref18_Keep.l0 k x1 x7 x8 (wrap64 (x10 + 1)) x498000 x507000)) else (none)) else (cleanseref18_Keep.l2 k x1 x8 ([] : List Int) 0 x507000)
def cleanseref18_Keep.l1 : Nat → List Int → List Bool → List Int → Int → Int → List (S50) → List (S50) → Int → Int → List Int → Option ((List (S50)) × List Int × Int)
 | 0, _, _, _, _, _, _, _, _, _, _ => none
 | k + 1, x1, x7, x8, x10, x12, x498000, x507000, x512000, x512001, x512002 => if 0 ≤ x10 then (if x10 < (x498000.length : Int) then (if x12 < (((rd_T50 x498000 x10).f2).length : Int) then (if 0 ≤ x12 then (if 0 ≤ (rd ((rd_T50 x498000 x10).f2) x12) then (if (rd ((rd_T50 x498000 x10).f2) x12) < (x8.length : Int) then (if x512002.length < 17592186044416 then (cleanseref18_Keep.l1 k x1 x7 x8 x10 (wrap64 (x12 + 1)) x498000 x507000 x512000 x512001 (x512002 ++ [rd x8 (rd ((rd_T50 x498000 x10).f2) x12)])) else (none)) else (none)) else (none)) else (none)) else (if x507000.length < 3518437208883 then (cleanseref18_Keep.l0 k x1 x7 x8 (wrap64 (x10 + 1)) x498000 (x507000 ++ [(⟨x512000, x512001, x512002⟩ : S50)])) else (none))) else (none)) else (none)
def cleanseref18_Keep.l2 : Nat → List Int → List Int → List Int → Int → List (S50) → Option ((List (S50)) × List Int × Int)
 | 0, _, _, _, _, _ => none
 | k + 1, x1, x8, x13, x14, x507000 => if x14 < (x1.length : Int) then (if 0 ≤ x14 then (if 0 ≤ (rd x1 x14) then (if (rd x1 x14) < (x8.length : Int) then (if x13.length < 17592186044416 then (cleanseref18_Keep.l2 k x1 x8 (x13 ++ [rd x8 (rd x1 x14)]) (wrap64 (x14 + 1)) x507000) else (none)) else (none)) else (none)) else (none)) else (some (x507000, x13, 0))
end
def cleanseref18_Keep.f (k : Nat) (l0_0 : List (S50)) (l1 : List Int) : Option ((List (S50)) × List Int × Int) := (cleanseref18_Right.f k l0_0 l1).bind fun t499 => (if t499 = true then ((cleanseref18_Kept.f k l0_0 l1).bind fun t500 => (if 0 ≤ (t500.length : Int) then (if ((t500.length : Int) : Int).toNat ≤ 35184372088832 then (cleanseref18_Keep.l0 k l1 t500 (List.replicate ((t500.length : Int) : Int).toNat 0) 0 l0_0 ([] : List (S50))) else (none)) else (none))) else (some (([] : List (S50)), ([] : List Int), 1)))
def cleanseref18_Keep.T11 : Bool × List (List Nat × List Nat) := (true, [([], []), ([0], [0]), ([], []), ([1, 2], [1, 2]), ([3], [3]), ([4], [4]), ([], []), ([6], [6]), ([], []), ([7, 8], [7, 8]), ([9], [9]), ([10], [10]), ([5, 11], [5, 11]), ([], []), ([13, 12, 0, 1, 2, 3, 4, 5, 6, 7, 8, 9, 10, 11, 12, 13], [12, 13])])
def cleanseref18_Keep.B11 : List Nat := [0, 1, 0, 7, 15, 31, 0, 64, 0, 448, 960, 1984, 4095, 0, 16383]
theorem cleanseref18_Keep.tab11 : rtab .any (opsOf Tryd.f17 11) = cleanseref18_Keep.T11 := by kernel_rfl
theorem cleanseref18_Keep.bits11 : waitsOk cleanseref18_Keep.T11.2 cleanseref18_Keep.B11 = true := by kernel_rfl
def cleanseref18_Keep.T15 : Bool × List (List Nat × List Nat) := (true, [([], []), ([0], [0]), ([], []), ([], []), ([3], [3]), ([], []), ([4, 5], [4, 5]), ([6], [6]), ([7], [7]), ([], []), ([8, 9], [8, 9]), ([10], [10]), ([2, 11], [2, 11]), ([12], [12]), ([13], [13]), ([1, 14], [1, 14]), ([0, 1, 2, 3, 4, 5, 6, 7, 8, 9, 10, 11, 12, 13, 14, 15], []), ([16, 15, 15, 0, 1, 2, 3, 4, 5, 6, 7, 8, 9, 10, 11, 12, 13, 14, 15], [15, 16])])
def cleanseref18_Keep.B15 : List Nat := [0, 1, 0, 0, 8, 0, 56, 120, 248, 0, 1016, 2040, 4092, 8188, 16380, 32767, 65535, 131071]
theorem cleanseref18_Keep.tab15 : rtab .any (opsOf Tryd.f17 15) = cleanseref18_Keep.T15 := by kernel_rfl
theorem cleanseref18_Keep.bits15 : waitsOk cleanseref18_Keep.T15.2 cleanseref18_Keep.B15 = true := by kernel_rfl
set_option maxHeartbeats 8000000 in
set_option maxRecDepth 100000 in
theorem cleanseref18_Keep.calls (k : Nat) (A0_0 : Option Addr) (c0_0 : Nat) (l0_0 : List (S50)) (A1 : Option Addr) (c1 : Nat) (l1 : List Int) (r1 : List (S50)) (r2 : List Int) (r3 : Int) (w : World) (hr0_0 : Kd.C k50 w A0_0 l0_0.length l0_0) (hc0_0 : l0_0.length ≤ c0_0) (hr1 : Kd.C (Kd.int .i64) w A1 l1.length l1) (hc1 : l1.length ≤ c1) (h : cleanseref18_Keep.f k l0_0 l1 = some (r1, r2, r3)) :
  Calls Tryd.prog 17 #[.agg #[.slice A0_0 l0_0.length c0_0], .slice A1 l1.length c1] w fun e w' => ∃ v0_ v1_ : Value, e = .returned (.tuple #[.agg #[v0_], v1_, .int .i64 r3]) ∧ Kd.S k50 50 w' w.heap.size (fun k_ => some k_ ≠ (v1_ : Value).ownBlock) v0_ r1 ∧ Kd.R (Kd.int .i64) 3 w' w.heap.size (fun _ => True) v1_ r2 ∧ Below w.heap.size w w' := by
 have hu24 := Tryd.underlying24
 have hu50 := Tryd.underlying50
 have HR0_0 := Aside0.mk hr0_0
 have HC0_0 := Aside0.mk hc0_0
 clear hr0_0 hc0_0
 have HR1 := Aside0.mk hr1
 have HC1 := Aside0.mk hc1
 clear hr1 hc1
 have HB := Aside0.mk (Below.refl w.heap.size w)
 have H : ((cleanseref18_Right.f k l0_0 l1).bind fun t499 => (if t499 = true then ((cleanseref18_Kept.f k l0_0 l1).bind fun t500 => (if 0 ≤ (t500.length : Int) then (if ((t500.length : Int) : Int).toNat ≤ 35184372088832 then (cleanseref18_Keep.l0 k l1 t500 (List.replicate ((t500.length : Int) : Int).toNat 0) 0 l0_0 ([] : List (S50))) else (none)) else (none))) else (some (([] : List (S50)), ([] : List Int), 1)))) = some (r1, r2, r3) := h
 clear h
 replace H := Option.bind_eq_some_iff.mp H
 obtain ⟨t499, A30, H⟩ := H
 replace H : (if t499 = true then ((cleanseref18_Kept.f k l0_0 l1).bind fun t500 => (if 0 ≤ (t500.length : Int) then (if ((t500.length : Int) : Int).toNat ≤ 35184372088832 then (cleanseref18_Keep.l0 k l1 t500 (List.replicate ((t500.length : Int) : Int).toNat 0) 0 l0_0 ([] : List (S50))) else (none)) else (none))) else (some (([] : List (S50)), ([] : List Int), 1))) = some (r1, r2, r3) := H
 have A3 := Aside0.mk A30
 clear A30
 by_cases c4 : t499 = true
 ·subst c4
  have H1 : ((cleanseref18_Kept.f k l0_0 l1).bind fun t500 => (if 0 ≤ (t500.length : Int) then (if ((t500.length : Int) : Int).toNat ≤ 35184372088832 then (cleanseref18_Keep.l0 k l1 t500 (List.replicate ((t500.length : Int) : Int).toNat 0) 0 l0_0 ([] : List (S50))) else (none)) else (none))) = some (r1, r2, r3) := by rw [if_pos rfl] at H; exact H
  clear H
  have H := H1
  clear H1
  replace H := Option.bind_eq_some_iff.mp H
  obtain ⟨t500, A50, H⟩ := H
  replace H : (if 0 ≤ (t500.length : Int) then (if ((t500.length : Int) : Int).toNat ≤ 35184372088832 then (cleanseref18_Keep.l0 k l1 t500 (List.replicate ((t500.length : Int) : Int).toNat 0) 0 l0_0 ([] : List (S50))) else (none)) else (none)) = some (r1, r2, r3) := H
  have A5 := Aside0.mk A50
  clear A50
  by_cases c6 : 0 ≤ (t500.length : Int)
  ·rw [if_pos c6] at H
   have c6b0 := eq_true c6
   have c6b1 : decide (0 ≤ (t500.length : Int)) = true := decide_eq_true c6
   clear c6
   by_cases c7 : ((t500.length : Int) : Int).toNat ≤ 35184372088832
   ·rw [if_pos c7] at H
    have c7b0 := eq_true c7
    have c7b1 : decide (((t500.length : Int) : Int).toNat ≤ 35184372088832) = true := decide_eq_true c7
    clear c7
    obtain ⟨y503, hy503⟩ : ∃ y_ : List Int, y_ = (List.replicate ((t500.length : Int) : Int).toNat 0) := ⟨_, rfl⟩
    replace H : (cleanseref18_Keep.l0 k l1 t500 y503 0 l0_0 ([] : List (S50))) = some (r1, r2, r3) := by first | (rw [hy503]; with_reducible exact H) | (have H2_ := (Option.bind_some _ _).symm.trans H; rw [hy503]; with_reducible exact H2_) | (have H2_ := (Option.bind_some _ _).symm.trans H; with_reducible exact H2_) | with_reducible exact H | (rw [hy503]; exact H) | exact H
    have Ny503 := Aside0.mk hy503
    clear hy503
    have H' := Aside0.mk H
    clear H
    go_enter Tryd.func17, Tryd.ntmps17
    go_wp2_with (first | ((with_reducible refine gate_dst (N := 2) rfl ?_); refine box_event ?hg (N := 2) ?hd (cs := #[.slice A0_0 l0_0.length c0_0]) (t := 24) ?hr ?_; (case hd => rfl); (case hg => rfl); (case hr => first | (go_simp; done) | (go_simp; rfl)); intro gb497 hg w8 hbox hb; have n0_ := Aside0.mk (below_step (by repeat (first | (with_reducible first | exact HB.out | apply below_alloc | apply pw_below_drewN | apply below_drew1) | exact HB.out)) hb); have n1_ := Aside0.mk (hbox); have n2_ := Aside0.mk ((by rw [hg]; exact (below_size (by repeat (first | (with_reducible first | exact HB.out | apply below_alloc | apply pw_below_drewN | apply below_drew1) | exact HB.out))) : w.heap.size ≤ gb497)); have n3_ := Aside0.mk ((by rw [hg]; exact (below_size (by repeat (first | (with_reducible first | exact HB.out | apply below_alloc | apply pw_below_drewN | apply below_drew1) | exact HB.out))) : w.heap.size ≤ gb497)); clear HB; have HB := n0_; have BK497 := n1_; have GW497 := n2_; have GE497 := n3_; clear n0_ n1_ n2_ n3_; clear hb hbox hg) | ((with_reducible refine gate_dst (N := 4) rfl ?_); refine box_event ?hg (N := 4) ?hd (cs := #[.slice none 0 0]) (t := 24) ?hr ?_; (case hd => rfl); (case hg => rfl); (case hr => first | (go_simp; done) | (go_simp; rfl)); intro gb498 hg w9 hbox hb; have n0_ := Aside0.mk (blk_below (g := gb497) (o := .cells #[.slice A0_0 l0_0.length c0_0] 24 (0, 0)) (by (with_reducible repeat (first | refine blk_drewN ?_ _ | refine blk_drew ?_ | refine blk_alloc ?_ _)); exact BK497.out) hb); have n1_ := Aside0.mk (below_step (by repeat (first | (with_reducible first | exact HB.out | apply below_alloc | apply pw_below_drewN | apply below_drew1 | refine below_set ?_ GE497.out) | exact HB.out)) hb); have n2_ := Aside0.mk (hbox); have n3_ := Aside0.mk ((by rw [hg]; exact (below_size (by repeat (first | (with_reducible first | exact HB.out | apply below_alloc | apply pw_below_drewN | apply below_drew1 | refine below_set ?_ GE497.out) | exact HB.out))) : w.heap.size ≤ gb498)); have n4_ := Aside0.mk ((by rw [hg]; exact (below_size (by repeat (first | (with_reducible first | exact HB.out | apply below_alloc | apply pw_below_drewN | apply below_drew1 | refine below_set ?_ GE497.out) | exact HB.out))) : w.heap.size ≤ gb498)); have n5_ := Aside0.mk ((by rw [hg]; exact Nat.ne_of_lt (blk_lt (g := gb497) (o := .cells #[.slice A0_0 l0_0.length c0_0] 24 (0, 0)) (by (with_reducible repeat (first | refine blk_drewN ?_ _ | refine blk_drew ?_ | refine blk_alloc ?_ _)); exact BK497.out)) : gb497 ≠ gb498)); have n6_ := Aside0.mk ((by rw [hg]; exact Nat.ne_of_gt (blk_lt (g := gb497) (o := .cells #[.slice A0_0 l0_0.length c0_0] 24 (0, 0)) (by (with_reducible repeat (first | refine blk_drewN ?_ _ | refine blk_drew ?_ | refine blk_alloc ?_ _)); exact BK497.out)) : gb498 ≠ gb497)); clear BK497; clear HB; have BK497 := n0_; have HB := n1_; have BK498 := n2_; have GW498 := n3_; have GE498 := n4_; have NB497_498 := n5_; have NB498_497 := n6_; clear n0_ n1_ n2_ n3_ n4_ n5_ n6_; clear hb hbox hg; have hnb10 := NB497_498.out; have hnc10 := NB498_497.out; have hcz11_0 : w9.cell? ⟨gb497, 0, none⟩ = some (.slice A0_0 l0_0.length c0_0) := (blk_cell BK497.out 0).trans rfl; have hfz11_0 := blk_frozen BK497.out 0) | ((with_reducible refine gate_callee (f := 29) rfl ?_); refine goesL_ (some 17) rfl rfl Tryd.func29 (by kernel_rfl) rfl #[.agg #[.slice A0_0 l0_0.length c0_0], .slice A1 l1.length c1] rfl (by (try simp only [List.map_toArray, List.map_cons, List.map_nil]); first | done | rfl | (simp only [List.length_drop, List.length_take]; rfl)) ?_; (with_reducible refine (cleanseref18_Right.calls k _ _ l0_0 _ _ l1 true _ ?side1 ?side2 ?side3 ?side4 A3.out).mono ?_); (case side1 => repeat (first | exact (Kd.C_below HR0_0.out HB.out) | (with_reducible refine Kd.C_alloc ?_ _) | (with_reducible refine Kd.C_drewN ?_ _) | (with_reducible refine Kd.C_drew ?_))); (case side2 => exact HC0_0.out); (case side3 => repeat (first | exact (Kd.C_below HR1.out HB.out) | (with_reducible refine Kd.C_alloc ?_ _) | (with_reducible refine Kd.C_drewN ?_ _) | (with_reducible refine Kd.C_drew ?_))); (case side4 => exact HC1.out); rintro e w12 ⟨rfl, hb⟩; refine ⟨_, rfl, ?_⟩; have n0_ := Aside0.mk (blk_below (g := gb497) (o := .cells #[.slice A0_0 l0_0.length c0_0] 24 (0, 0)) (by (with_reducible repeat (first | refine blk_drewN ?_ _ | refine blk_drew ?_ | refine blk_alloc ?_ _)); exact BK497.out) hb); have n1_ := Aside0.mk (blk_below (g := gb498) (o := .cells #[.slice none 0 0] 24 (0, 0)) (by (with_reducible repeat (first | refine blk_drewN ?_ _ | refine blk_drew ?_ | refine blk_alloc ?_ _)); exact BK498.out) hb); have n2_ := Aside0.mk (below_step (by repeat (first | (with_reducible first | exact HB.out | apply below_alloc | apply pw_below_drewN | apply below_drew1 | refine below_set ?_ GE497.out | refine below_set ?_ GE498.out) | exact HB.out)) hb); clear BK497; clear BK498; clear HB; have BK497 := n0_; have BK498 := n1_; have HB := n2_; clear n0_ n1_ n2_; (try clear hb); (try clear hb2); (try clear hk); (try clear hi); have hcz13_0 : w12.cell? ⟨gb497, 0, none⟩ = some (.slice A0_0 l0_0.length c0_0) := (blk_cell BK497.out 0).trans rfl; have hfz13_0 := blk_frozen BK497.out 0) | ((with_reducible refine gate_callee (f := 30) rfl ?_); refine goesL_ (some 22) rfl rfl Tryd.func30 (by kernel_rfl) rfl #[.agg #[.slice A0_0 l0_0.length c0_0], .slice A1 l1.length c1] rfl (by (try simp only [List.map_toArray, List.map_cons, List.map_nil]); first | done | rfl | (simp only [List.length_drop, List.length_take]; rfl)) ?_; (with_reducible refine (cleanseref18_Kept.calls k _ _ l0_0 _ _ l1 t500 _ ?side1 ?side2 ?side3 ?side4 A5.out).mono ?_); (case side1 => repeat (first | exact (Kd.C_below HR0_0.out HB.out) | (with_reducible refine Kd.C_alloc ?_ _) | (with_reducible refine Kd.C_drewN ?_ _) | (with_reducible refine Kd.C_drew ?_))); (case side2 => exact HC0_0.out); (case side3 => repeat (first | exact (Kd.C_below HR1.out HB.out) | (with_reducible refine Kd.C_alloc ?_ _) | (with_reducible refine Kd.C_drewN ?_ _) | (with_reducible refine Kd.C_drew ?_))); (case side4 => exact HC1.out); rintro e w14 ⟨v501, rfl, ho0, hb⟩; refine ⟨_, rfl, ?_⟩; have n0_ := Aside0.mk (Kd.R_lower ho0 (below_size (by repeat (first | (with_reducible first | exact HB.out | apply below_alloc | apply pw_below_drewN | apply below_drew1 | refine below_set ?_ GE497.out | refine below_set ?_ GE498.out) | exact HB.out)))); have n1_ := Aside0.mk (blk_below (g := gb497) (o := .cells #[.slice A0_0 l0_0.length c0_0] 24 (0, 0)) (by (with_reducible repeat (first | refine blk_drewN ?_ _ | refine blk_drew ?_ | refine blk_alloc ?_ _)); exact BK497.out) hb); have n2_ := Aside0.mk (blk_below (g := gb498) (o := .cells #[.slice none 0 0] 24 (0, 0)) (by (with_reducible repeat (first | refine blk_drewN ?_ _ | refine blk_drew ?_ | refine blk_alloc ?_ _)); exact BK498.out) hb); have n3_ := Aside0.mk (below_step (by repeat (first | (with_reducible first | exact HB.out | apply below_alloc | apply pw_below_drewN | apply below_drew1 | refine below_set ?_ GE497.out | refine below_set ?_ GE498.out) | exact HB.out)) hb); clear BK497; clear BK498; clear HB; have HO502 := n0_; have BK497 := n1_; have BK498 := n2_; have HB := n3_; clear n0_ n1_ n2_ n3_; (try clear hb); (try clear hb2); (try clear hk); (try clear hi); (try clear ho0); obtain ⟨Ao15, co15, eo15⟩ := Kd.R_slice HO502.out; subst eo15) | ((with_reducible refine gate_dst (N := 25) rfl ?_); refine Kd.R_make (Kd.int .i64) _ 3 rfl (N := 25) rfl 25 _ _ rfl (t500.length : Int) rfl rfl Tryd.underlying25 (.int .i64 0) 8 info3 rfl (by decide) (by omega) 0 (ok := fun _ => True) (okp := fun _ => True) rfl (fun _ hk => hk) trivial (of_decide_eq_true (by first | (with_reducible assumption) | assumption)) (Nat.le_trans (Nat.mul_le_mul_right _ (of_decide_eq_true (by first | (with_reducible assumption) | assumption) : (t500.length : Int).toNat ≤ 35184372088832)) (by omega)) (Below.refl _ _) (Nat.le_refl _) ?_; intro v504 w16 ho17 hb hg_ hnew_; clear hg_ hnew_; (first | rw [← Ny503.out] at ho17 | (simp only [Int.reduceToNat] at ho17; rw [← Ny503.out] at ho17)); have n0_ := Aside0.mk (Kd.R_below (by (with_reducible repeat (first | apply Kd.R_alloc | apply Kd.R_drewN | apply Kd.R_drew)); exact HO502.out) hb); have n1_ := Aside0.mk (Kd.R_lower ho17 (below_size (by repeat (first | (with_reducible first | exact HB.out | apply below_alloc | apply pw_below_drewN | apply below_drew1 | refine below_set ?_ GE497.out | refine below_set ?_ GE498.out) | exact HB.out)))); have n2_ := Aside0.mk (blk_below (g := gb497) (o := .cells #[.slice A0_0 l0_0.length c0_0] 24 (0, 0)) (by (with_reducible repeat (first | refine blk_drewN ?_ _ | refine blk_drew ?_ | refine blk_alloc ?_ _)); exact BK497.out) hb); have n3_ := Aside0.mk (blk_below (g := gb498) (o := .cells #[.slice none 0 0] 24 (0, 0)) (by (with_reducible repeat (first | refine blk_drewN ?_ _ | refine blk_drew ?_ | refine blk_alloc ?_ _)); exact BK498.out) hb); have n4_ := Aside0.mk (below_step (by repeat (first | (with_reducible first | exact HB.out | apply below_alloc | apply pw_below_drewN | apply below_drew1 | refine below_set ?_ GE497.out | refine below_set ?_ GE498.out) | exact HB.out)) hb); clear HO502; clear BK497; clear BK498; clear HB; have HO502 := n0_; have HO505 := n1_; have BK497 := n2_; have BK498 := n3_; have HB := n4_; clear n0_ n1_ n2_ n3_ n4_; clear hb ho17) | ((with_reducible refine gate_dst (N := 9) rfl ?_); refine box_event ?hg (N := 9) ?hd (cs := #[.slice none 0 0]) (t := 24) ?hr ?_; (case hd => rfl); (case hg => rfl); (case hr => first | (go_simp; done) | (go_simp; rfl)); intro gb506 hg w18 hbox hb; have n0_ := Aside0.mk (Kd.R_below (by (with_reducible repeat (first | apply Kd.R_alloc | apply Kd.R_drewN | apply Kd.R_drew)); exact HO502.out) hb); have n1_ := Aside0.mk (Kd.R_below (by (with_reducible repeat (first | apply Kd.R_alloc | apply Kd.R_drewN | apply Kd.R_drew)); exact HO505.out) hb); have n2_ := Aside0.mk (blk_below (g := gb497) (o := .cells #[.slice A0_0 l0_0.length c0_0] 24 (0, 0)) (by (with_reducible repeat (first | refine blk_drewN ?_ _ | refine blk_drew ?_ | refine blk_alloc ?_ _)); exact BK497.out) hb); have n3_ := Aside0.mk (blk_below (g := gb498) (o := .cells #[.slice none 0 0] 24 (0, 0)) (by (with_reducible repeat (first | refine blk_drewN ?_ _ | refine blk_drew ?_ | refine blk_alloc ?_ _)); exact BK498.out) hb); have n4_ := Aside0.mk (below_step (by repeat (first | (with_reducible first | exact HB.out | apply below_alloc | apply pw_below_drewN | apply below_drew1 | refine below_set ?_ GE497.out | refine below_set ?_ GE498.out) | exact HB.out)) hb); have n5_ := Aside0.mk (hbox); have n6_ := Aside0.mk ((by rw [hg]; exact (below_size (by repeat (first | (with_reducible first | exact HB.out | apply below_alloc | apply pw_below_drewN | apply below_drew1 | refine below_set ?_ GE497.out | refine below_set ?_ GE498.out) | exact HB.out))) : w.heap.size ≤ gb506)); have n7_ := Aside0.mk ((by rw [hg]; exact (below_size (by repeat (first | (with_reducible first | exact HB.out | apply below_alloc | apply pw_below_drewN | apply below_drew1 | refine below_set ?_ GE497.out | refine below_set ?_ GE498.out) | exact HB.out))) : w.heap.size ≤ gb506)); have n8_ := Aside0.mk ((by rw [hg]; exact Nat.ne_of_lt (blk_lt (g := gb497) (o := .cells #[.slice A0_0 l0_0.length c0_0] 24 (0, 0)) (by (with_reducible repeat (first | refine blk_drewN ?_ _ | refine blk_drew ?_ | refine blk_alloc ?_ _)); exact BK497.out)) : gb497 ≠ gb506)); have n9_ := Aside0.mk ((by rw [hg]; exact Nat.ne_of_gt (blk_lt (g := gb497) (o := .cells #[.slice A0_0 l0_0.length c0_0] 24 (0, 0)) (by (with_reducible repeat (first | refine blk_drewN ?_ _ | refine blk_drew ?_ | refine blk_alloc ?_ _)); exact BK497.out)) : gb506 ≠ gb497)); have n10_ := Aside0.mk ((by rw [hg]; exact Nat.ne_of_lt (blk_lt (g := gb498) (o := .cells #[.slice none 0 0] 24 (0, 0)) (by (with_reducible repeat (first | refine blk_drewN ?_ _ | refine blk_drew ?_ | refine blk_alloc ?_ _)); exact BK498.out)) : gb498 ≠ gb506)); have n11_ := Aside0.mk ((by rw [hg]; exact Nat.ne_of_gt (blk_lt (g := gb498) (o := .cells #[.slice none 0 0] 24 (0, 0)) (by (with_reducible repeat (first | refine blk_drewN ?_ _ | refine blk_drew ?_ | refine blk_alloc ?_ _)); exact BK498.out)) : gb506 ≠ gb498)); clear HO502; clear HO505; clear BK497; clear BK498; clear HB; have HO502 := n0_; have HO505 := n1_; have BK497 := n2_; have BK498 := n3_; have HB := n4_; have BK506 := n5_; have GW506 := n6_; have GE506 := n7_; have NB497_506 := n8_; have NB506_497 := n9_; have NB498_506 := n10_; have NB506_498 := n11_; clear n0_ n1_ n2_ n3_ n4_ n5_ n6_ n7_ n8_ n9_ n10_ n11_; clear hb hbox hg))
    go_loopg [10] k (fun kq v10 w' => ∃ (x8_1 : List Int) (x10_1 : Int) (x507000_1 : List (S50)) (u507000 : Value), v10 = .int .i64 x10_1 ∧ Aside0 (cleanseref18_Keep.l0 kq l1 t500 x8_1 x10_1 l0_0 x507000_1 = some (r1, r2, r3)) ∧ Aside0 (kq ≤ k) ∧ Aside0 (Kd.R Kd.bool 4 w' w.heap.size (fun _ => True) (.slice Ao15 t500.length co15) t500) ∧ Aside0 (Kd.R (Kd.int .i64) 3 w' w.heap.size (fun _ => True) v504 x8_1) ∧ Aside0 (Kd.S k50 50 w' w.heap.size (fun k_ => some k_ ≠ (v504 : Value).ownBlock) u507000 x507000_1) ∧ Aside0 (w'.heap[gb497]? = some (.cells #[(.slice A0_0 l0_0.length c0_0)] 24 (0, 0))) ∧ Aside0 (w'.heap[gb498]? = some (.cells #[(.slice none 0 0)] 24 (0, 0))) ∧ Aside0 (w'.heap[gb506]? = some (.cells #[u507000] 24 (0, 0))) ∧ Aside0 (Below w.heap.size w w'))
    case atStart => exact ⟨(y503), (0), (([] : List (S50))), (.slice none 0 0), (by first | rfl | (simp; done) | (simp [*]; done)), H', ⟨Nat.le_refl _⟩, ⟨by (with_reducible repeat (first | apply Kd.R_alloc | apply Kd.R_drewN | apply Kd.R_drew)); exact HO502.out⟩, ⟨by (with_reducible repeat (first | apply Kd.R_alloc | apply Kd.R_drewN | apply Kd.R_drew)); exact HO505.out⟩, ⟨by first | exact Kd.S_nil _ _ _ _ _ | exact Kd.N_nil _ _ _ _ _ | exact Kd.V_nil _ _ _ _ _ | exact Kd.Q_nil _ _ _ _ _ | exact Kd.R_nil _ _ _ _ _⟩, ⟨by (with_reducible repeat (first | refine blk_drewN ?_ _ | refine blk_drew ?_ | refine blk_alloc ?_ _)); exact BK497.out⟩, ⟨by (with_reducible repeat (first | refine blk_drewN ?_ _ | refine blk_drew ?_ | refine blk_alloc ?_ _)); exact BK498.out⟩, ⟨by (with_reducible repeat (first | refine blk_drewN ?_ _ | refine blk_drew ?_ | refine blk_alloc ?_ _)); exact BK506.out⟩, ⟨by repeat (first | (with_reducible first | exact HB.out | apply below_alloc | apply pw_below_drewN | apply below_drew1 | refine below_set ?_ GE497.out | refine below_set ?_ GE498.out | refine below_set ?_ GE506.out) | exact HB.out)⟩⟩
    case round =>
     clear H'
     try clear c1
     try clear c2
     try clear p2
     try clear c3
     try clear c4
     try clear c6
     try clear c6b0
     try clear c6b1
     try clear c7
     try clear c7b0
     try clear c7b1
     try clear c10
     try clear c17
     try clear hcz11_0
     try clear hcz13_0
     try clear hfz11_0
     try clear hfz13_0
     obtain ⟨x8_1, x10_1, x507000_1, u507000, rfl, HA, HK1, HO_7, HO_8, HO_507000, BK497, BK498, BK506, HB⟩ := hrel
     cases gk with
     | zero => exact absurd HA.out (by simp [cleanseref18_Keep.l0])
     | succ k1 =>
      have H := HA.out
      clear HA
      simp only [cleanseref18_Keep.l0] at H
      by_cases c19 : x10_1 < (t500.length : Int)
      ·rw [if_pos c19] at H
       have c19b0 : decide (x10_1 < (t500.length : Int)) = true := decide_eq_true c19
       clear c19
       by_cases c20 : 0 ≤ x10_1
       ·rw [if_pos c20] at H
        have c20b0 : decide (0 ≤ x10_1) = true := decide_eq_true c20
        clear c20
        obtain ⟨bq21, hbq21⟩ : ∃ b_ : Bool, b_ = (rdOf false t500 x10_1) := ⟨_, rfl⟩
        replace H : (if bq21 = true then (if x10_1 < (x8_1.length : Int) then (if x10_1 < (l0_0.length : Int) then (cleanseref18_Keep.l1 k1 l1 t500 (x8_1.set (x10_1 : Int).toNat (x507000_1.length : Int)) x10_1 0 l0_0 x507000_1 ((rd_T50 l0_0 x10_1).f0) ((rd_T50 l0_0 x10_1).f1) ([] : List Int)) else (none)) else (none)) else (cleanseref18_Keep.l0 k1 l1 t500 x8_1 (wrap64 (x10_1 + 1)) l0_0 x507000_1)) = some (r1, r2, r3) := by rw [← hbq21] at H; exact H
        have Nbq21 := Aside0.mk hbq21
        clear hbq21
        by_cases c22 : bq21 = true
        ·subst c22
         have H1 : (if x10_1 < (x8_1.length : Int) then (if x10_1 < (l0_0.length : Int) then (cleanseref18_Keep.l1 k1 l1 t500 (x8_1.set (x10_1 : Int).toNat (x507000_1.length : Int)) x10_1 0 l0_0 x507000_1 ((rd_T50 l0_0 x10_1).f0) ((rd_T50 l0_0 x10_1).f1) ([] : List Int)) else (none)) else (none)) = some (r1, r2, r3) := by rw [if_pos rfl] at H; exact H
         clear H
         have H := H1
         clear H1
         by_cases c23 : x10_1 < (x8_1.length : Int)
         ·rw [if_pos c23] at H
          have c23b0 : decide (x10_1 < (x8_1.length : Int)) = true := decide_eq_true c23
          clear c23
          obtain ⟨y508, hy508⟩ : ∃ y_ : List Int, y_ = (x8_1.set (x10_1 : Int).toNat (x507000_1.length : Int)) := ⟨_, rfl⟩
          replace H : (if x10_1 < (l0_0.length : Int) then (cleanseref18_Keep.l1 k1 l1 t500 y508 x10_1 0 l0_0 x507000_1 ((rd_T50 l0_0 x10_1).f0) ((rd_T50 l0_0 x10_1).f1) ([] : List Int)) else (none)) = some (r1, r2, r3) := by first | (rw [hy508]; with_reducible exact H) | (have H2_ := (Option.bind_some _ _).symm.trans H; rw [hy508]; with_reducible exact H2_) | (have H2_ := (Option.bind_some _ _).symm.trans H; with_reducible exact H2_) | with_reducible exact H | (rw [hy508]; exact H) | exact H
          have Ny508 := Aside0.mk hy508
          clear hy508
          by_cases c25 : x10_1 < (l0_0.length : Int)
          ·rw [if_pos c25] at H
           have c25b0 : decide (x10_1 < (l0_0.length : Int)) = true := decide_eq_true c25
           clear c25
           have H' := Aside0.mk H
           clear H
           have p507 : 0 ≤ (x10_1 : Int) := of_decide_eq_true (by first | (with_reducible assumption) | assumption)
           have q507 : x10_1 < (t500.length : Int) := of_decide_eq_true (by first | (with_reducible assumption) | assumption)
           obtain ⟨ad507, e507, hx507_0⟩ := Kd.at_bool (Kd.R_reads' HO_7.out).2.2 x10_1 p507 q507
           (try rw [← Nbq21.out] at hx507_0)
           cases e507
           replace p507 := eq_true p507
           replace q507 := eq_true q507
           have hnb26 := NB506_497.out
           have hnc26 := NB497_506.out
           have hnb27 := NB506_498.out
           have hnc27 := NB498_506.out
           have hcz28_0 : wr.cell? ⟨gb506, 0, none⟩ = some (u507000) := (blk_cell BK506.out 0).trans rfl
           have hfz28_0 := blk_frozen BK506.out 0
           obtain ⟨Ao29, co29, eo29⟩ := Kd.S_slice HO_507000.out
           subst eo29
           have p24 : 0 ≤ (x10_1 : Int) := of_decide_eq_true (by first | (with_reducible assumption) | assumption)
           have q24 : (x10_1 : Int) < ((x8_1.length : Int) : Int) := of_decide_eq_true (by first | (with_reducible assumption) | assumption)
           obtain ⟨go24, co24, eo24, gb24, gl24, cl24, HG24⟩ := Kd.R_form HO_8.out (by omega)
           (first | cases eo24 | (injection eo24 with ea_ en_ ec_; (first | subst ea_ | (injection ea_ with ea_; subst ea_)); subst ec_; clear en_))
           have GB24 := Aside0.mk gb24
           have GG24 := Aside0.mk HG24
           clear gb24 gl24 HG24
           obtain ⟨hx24_0, hf24_0⟩ := Kd.R_celln 0 HO_8.out (x10_1 : Int) p24 q24
           replace p24 := eq_true p24
           replace q24 := eq_true q24
           have HP30 := Kd.R_putg HO_8.out (x10_1 : Int) (x507000_1.length : Int)
           try go_wp2_with (first | ((with_reducible refine gate_store (t := 3) (p := 42) rfl ?_); refine store_event (t := 3) (p := 42) (v := ?vo_w31) (w1 := (wr.setCell ⟨go24, (x10_1 : Int).toNat, none⟩ (.int .i64 (x507000_1.length : Int)))) ?hg ?ho ?hn ?hr ?_; (case ho => rfl); (case hg => rfl); (case hn => rfl); (case hr => first | (go_simp; done) | (go_simp; rfl)); intro w31 hw; have hg : wr.grownBy w31 (some go24) := (by rw [hw]; exact HP30.2); have hp_ : Kd.R (Kd.int .i64) 3 w31 w.heap.size (fun _ => True) (.slice (some ⟨go24, 0, none⟩) x8_1.length co24) y508 := (by rw [hw, Ny508.out]; exact HP30.1); clear HP30; have n0_ := Aside0.mk (Kd.R_over' (v := (.slice (some ⟨go24, 0, none⟩) x8_1.length co24)) (by (with_reducible repeat (first | apply Kd.R_alloc | apply Kd.R_drewN | apply Kd.R_drew)); exact HO_7.out) (Kd.R_typed HO_8.out) (by decide) hg); have n1_ := Aside0.mk (hp_); have n2_ := Aside0.mk (Kd.S_after (v := (.slice (some ⟨go24, 0, none⟩) x8_1.length co24)) (v1 := (.slice (some ⟨go24, 0, none⟩) x8_1.length co24)) (ok := (fun _ => True)) (by (with_reducible repeat (first | apply Kd.S_alloc | apply Kd.S_drewN | apply Kd.S_drew)); exact Kd.S_mono HO_507000.out (fun _ hk => ⟨trivial, hk⟩)) hg (.inl rfl)); have n3_ := Aside0.mk (blk_grown (g := gb497) (o := .cells #[.slice A0_0 l0_0.length c0_0] 24 (0, 0)) (by (with_reducible repeat (first | refine blk_drewN ?_ _ | refine blk_drew ?_ | refine blk_alloc ?_ _)); exact BK497.out) hg (Kd.R_ne HO_8.out BK497.out (by decide))); have n4_ := Aside0.mk (blk_grown (g := gb498) (o := .cells #[.slice none 0 0] 24 (0, 0)) (by (with_reducible repeat (first | refine blk_drewN ?_ _ | refine blk_drew ?_ | refine blk_alloc ?_ _)); exact BK498.out) hg (Kd.R_ne HO_8.out BK498.out (by decide))); have n5_ := Aside0.mk (blk_grown (g := gb506) (o := .cells #[.slice Ao29 x507000_1.length co29] 24 (0, 0)) (by (with_reducible repeat (first | refine blk_drewN ?_ _ | refine blk_drew ?_ | refine blk_alloc ?_ _)); exact BK506.out) hg (Kd.R_ne HO_8.out BK506.out (by decide))); have n6_ := Aside0.mk ((by rw [hw]; exact below_set (HB.out) GB24.out : Below w.heap.size w w31)); clear HO_7; clear HO_8; clear HO_507000; clear BK497; clear BK498; clear BK506; clear HB; have HO_7 := n0_; have HO_8 := n1_; have HO_507000 := n2_; have BK497 := n3_; have BK498 := n4_; have BK506 := n5_; have HB := n6_; clear n0_ n1_ n2_ n3_ n4_ n5_ n6_; clear hg hw hp_))
           have n0_ := Aside0.mk (Kd.R_drew HO_7.out)
           have n1_ := Aside0.mk (Kd.R_drew HO_8.out)
           have n2_ := Aside0.mk (Kd.S_drew HO_507000.out)
           have n3_ := Aside0.mk (blk_drew BK497.out)
           have n4_ := Aside0.mk (blk_drew BK498.out)
           have n5_ := Aside0.mk (blk_drew BK506.out)
           have n6_ := Aside0.mk (below_drew1 HB.out)
           clear HO_7
           clear HO_8
           clear HO_507000
           clear BK497
           clear BK498
           clear BK506
           clear HB
           have HO_7 := n0_
           have HO_8 := n1_
           have HO_507000 := n2_
           have BK497 := n3_
           have BK498 := n4_
           have BK506 := n5_
           have HB := n6_
           clear n0_ n1_ n2_ n3_ n4_ n5_ n6_
           have p509 : 0 ≤ (x10_1 : Int) := of_decide_eq_true (by first | (with_reducible assumption) | assumption)
           have q509 : x10_1 < (l0_0.length : Int) := of_decide_eq_true (by first | (with_reducible assumption) | assumption)
           obtain ⟨ad509, A509_2, c509_2, e509, hx509_0, hx509_1, hx509_2, hl509_2, hi509_2⟩ := at_T50 HR0_0.out x10_1 p509 q509
           have hw509_2 := hx509_2
           have hw509_1 := hx509_1
           have hw509_0 := hx509_0
           cases e509
           replace hx509_0 := (HB.out.cell (World.block_lt_of_cell? w _ hx509_0)).trans hx509_0
           replace hx509_1 := (HB.out.cell (World.block_lt_of_cell? w _ hx509_1)).trans hx509_1
           replace hx509_2 := (HB.out.cell (World.block_lt_of_cell? w _ hx509_2)).trans hx509_2
           have HR509_2 := Aside0.mk hi509_2
           have HC509_2 := Aside0.mk hl509_2
           clear hi509_2 hl509_2
           replace p509 := eq_true p509
           replace q509 := eq_true q509
           have p510 : 0 ≤ (x10_1 : Int) := of_decide_eq_true (by first | (with_reducible assumption) | assumption)
           have q510 : x10_1 < (l0_0.length : Int) := of_decide_eq_true (by first | (with_reducible assumption) | assumption)
           obtain ⟨ad510, A510_2, c510_2, e510, hx510_0, hx510_1, hx510_2, hl510_2, hi510_2⟩ := at_T50 HR0_0.out x10_1 p510 q510
           have hw510_2 := hx510_2
           have hw510_1 := hx510_1
           have hw510_0 := hx510_0
           obtain rfl : ad509 = ad510 := (by injection e510)
           replace hx510_0 := (HB.out.cell (World.block_lt_of_cell? w _ hx510_0)).trans hx510_0
           replace hx510_1 := (HB.out.cell (World.block_lt_of_cell? w _ hx510_1)).trans hx510_1
           replace hx510_2 := (HB.out.cell (World.block_lt_of_cell? w _ hx510_2)).trans hx510_2
           have HR510_2 := Aside0.mk hi510_2
           have HC510_2 := Aside0.mk hl510_2
           clear hi510_2 hl510_2
           replace p510 := eq_true p510
           replace q510 := eq_true q510
           have ea_ := Option.some.inj (hx509_2.symm.trans hx510_2)
           injection ea_ with ea_ en_ ec_
           subst ea_
           subst ec_
           clear en_
           refine start_ (n := 15) (S := fun w' => w'.cell? ⟨gb497, 0, none⟩ = some (.slice (some ad509) l0_0.length c0_0) ∧ w'.cell? (ad509.add ((x10_1).toNat * 3)) = some (.int .i64 ((rd_T50 l0_0 x10_1).f0)) ∧ w'.cell? ⟨(ad509.add ((x10_1).toNat * 3)).block, (ad509.add ((x10_1).toNat * 3)).off + 1, none⟩ = some (.int .i64 ((rd_T50 l0_0 x10_1).f1)) ∧ w'.cell? ⟨(ad509.add ((x10_1).toNat * 3)).block, (ad509.add ((x10_1).toNat * 3)).off + 2, none⟩ = some (.slice A509_2 ((rd_T50 l0_0 x10_1).f2).length c509_2) ∧ w'.cell? (ad509.add ((x10_1).toNat * 3)) = some (.int .i64 ((rd_T50 l0_0 x10_1).f0)) ∧ w'.cell? ⟨(ad509.add ((x10_1).toNat * 3)).block, (ad509.add ((x10_1).toNat * 3)).off + 1, none⟩ = some (.int .i64 ((rd_T50 l0_0 x10_1).f1)) ∧ w'.cell? ⟨(ad509.add ((x10_1).toNat * 3)).block, (ad509.add ((x10_1).toNat * 3)).off + 2, none⟩ = some (.slice A509_2 ((rd_T50 l0_0 x10_1).f2).length c509_2)) (ds := []) #[false, false, false, false, false, false, false, false, false, false, false, false, false, false, false] (by kernel_rfl) rfl rfl ⟨(blk_cell BK497.out 0).trans rfl, ((HB.out.cell (World.block_lt_of_cell? w _ hw509_0)).trans hw509_0), ((HB.out.cell (World.block_lt_of_cell? w _ hw509_1)).trans hw509_1), ((HB.out.cell (World.block_lt_of_cell? w _ hw509_2)).trans hw509_2), ((HB.out.cell (World.block_lt_of_cell? w _ hw510_0)).trans hw510_0), ((HB.out.cell (World.block_lt_of_cell? w _ hw510_1)).trans hw510_1), ((HB.out.cell (World.block_lt_of_cell? w _ hw510_2)).trans hw510_2)⟩ (fun hHeld => ?_); refine with_tabW cleanseref18_Keep.tab11 cleanseref18_Keep.bits11 (fun HT_ HW_ => ?_)
           generalize w31.drew = w32 at HO_7 HO_8 HO_507000 BK497 BK498 BK506 HB HR509_2 HR510_2 hx509_0 hx509_1 hx509_2 hx510_0 hx510_1 hx510_2 hHeld ⊢
           refine pure_ (i := 0) (N := some 43) (v := ?_) (a' := ?_) #[true, false, false, false, false, false, false, false, false, false, false, false, false, false, false] rfl rfl (any_of HT_.out (by kernel_rfl)) (fun _ _ _ h => h) (Or.inl ⟨by rfl, ?_⟩) ?_ ?_
           rotate_left
           ·intro w'
            go_simp
            with_reducible rfl
           rotate_left
           ·simp only [Act.put, List.setIfInBounds_toArray, List.set_cons_zero, List.set_cons_succ, i64_w, i32_w]
            rfl
           refine pure_ (i := 2) (N := some 45) (v := ?_) (a' := ?_) #[true, false, true, false, false, false, false, false, false, false, false, false, false, false, false] rfl rfl (any_of HT_.out (by kernel_rfl)) (fun _ _ _ h => h) (Or.inl ⟨by rfl, ?_⟩) ?_ ?_
           rotate_left
           ·intro w'
            go_simp
            with_reducible rfl
           rotate_left
           ·simp only [Act.put, List.setIfInBounds_toArray, List.set_cons_zero, List.set_cons_succ, i64_w, i32_w]
            rfl
           refine pure_ (i := 6) (N := some 49) (v := ?_) (a' := ?_) #[true, false, true, false, false, false, true, false, false, false, false, false, false, false, false] rfl rfl (any_of HT_.out (by kernel_rfl)) (fun _ _ _ h => h) (Or.inl ⟨by rfl, ?_⟩) ?_ ?_
           rotate_left
           ·intro w'
            go_simp
            with_reducible rfl
           rotate_left
           ·simp only [Act.put, List.setIfInBounds_toArray, List.set_cons_zero, List.set_cons_succ, i64_w, i32_w]
            rfl
           refine pure_ (i := 8) (N := some 51) (v := ?_) (a' := ?_) #[true, false, true, false, false, false, true, false, true, false, false, false, false, false, false] rfl rfl (any_of HT_.out (by kernel_rfl)) (fun _ _ _ h => h) (Or.inl ⟨by rfl, ?_⟩) ?_ ?_
           rotate_left
           ·intro w'
            go_simp
            with_reducible rfl
           rotate_left
           ·simp only [Act.put, List.setIfInBounds_toArray, List.set_cons_zero, List.set_cons_succ, i64_w, i32_w]
            rfl
           refine take_ (i := 1) (N := some 44) (v := ?_) (a' := ?_) #[true, true, true, false, false, false, true, false, true, false, false, false, false, false, false] rfl rfl (take_ofW HT_.out HW_.out (by kernel_rfl)) (fun _ _ _ h => h) (Or.inl ⟨by rfl, ?_⟩) hHeld ?_ ?_
           rotate_left
           ·rintro w' ⟨s0, s1, s2, s3, s4, s5, s6⟩
            go_simp
            with_reducible rfl
           rotate_left
           ·simp only [Act.put, List.setIfInBounds_toArray, List.set_cons_zero, List.set_cons_succ, i64_w, i32_w]
            rfl
           refine pure_ (i := 3) (N := some 46) (v := ?_) (a' := ?_) #[true, true, true, true, false, false, true, false, true, false, false, false, false, false, false] rfl rfl (any_of HT_.out (by kernel_rfl)) (fun _ _ _ h => h) (Or.inl ⟨by rfl, ?_⟩) ?_ ?_
           rotate_left
           ·intro w'
            go_simp
            with_reducible rfl
           rotate_left
           ·simp only [Act.put, List.setIfInBounds_toArray, List.set_cons_zero, List.set_cons_succ, i64_w, i32_w]
            rfl
           refine pure_ (i := 4) (N := some 47) (v := ?_) (a' := ?_) #[true, true, true, true, true, false, true, false, true, false, false, false, false, false, false] rfl rfl (any_of HT_.out (by kernel_rfl)) (fun _ _ _ h => h) (Or.inl ⟨by rfl, ?_⟩) ?_ ?_
           rotate_left
           ·intro w'
            go_simp
            with_reducible rfl
           rotate_left
           ·simp only [Act.put, List.setIfInBounds_toArray, List.set_cons_zero, List.set_cons_succ, i64_w, i32_w]
            rfl
           refine take_ (i := 5) (N := some 48) (v := ?_) (a' := ?_) #[true, true, true, true, true, true, true, false, true, false, false, false, false, false, false] rfl rfl (take_ofW HT_.out HW_.out (by kernel_rfl)) (fun _ _ _ h => h) (Or.inl ⟨by rfl, ?_⟩) hHeld ?_ ?_
           rotate_left
           ·rintro w' ⟨s0, s1, s2, s3, s4, s5, s6⟩
            go_simp
            with_reducible rfl
           rotate_left
           ·simp only [Act.put, List.setIfInBounds_toArray, List.set_cons_zero, List.set_cons_succ, i64_w, i32_w]
            rfl
           refine take_ (i := 7) (N := some 50) (v := ?_) (a' := ?_) #[true, true, true, true, true, true, true, true, true, false, false, false, false, false, false] rfl rfl (take_ofW HT_.out HW_.out (by kernel_rfl)) (fun _ _ _ h => h) (Or.inl ⟨by rfl, ?_⟩) hHeld ?_ ?_
           rotate_left
           ·rintro w' ⟨s0, s1, s2, s3, s4, s5, s6⟩
            go_simp
            with_reducible rfl
           rotate_left
           ·simp only [Act.put, List.setIfInBounds_toArray, List.set_cons_zero, List.set_cons_succ, i64_w, i32_w]
            rfl
           refine pure_ (i := 9) (N := some 52) (v := ?_) (a' := ?_) #[true, true, true, true, true, true, true, true, true, true, false, false, false, false, false] rfl rfl (any_of HT_.out (by kernel_rfl)) (fun _ _ _ h => h) (Or.inl ⟨by rfl, ?_⟩) ?_ ?_
           rotate_left
           ·intro w'
            go_simp
            with_reducible rfl
           rotate_left
           ·simp only [Act.put, List.setIfInBounds_toArray, List.set_cons_zero, List.set_cons_succ, i64_w, i32_w]
            rfl
           refine pure_ (i := 10) (N := some 53) (v := ?_) (a' := ?_) #[true, true, true, true, true, true, true, true, true, true, true, false, false, false, false] rfl rfl (any_of HT_.out (by kernel_rfl)) (fun _ _ _ h => h) (Or.inl ⟨by rfl, ?_⟩) ?_ ?_
           rotate_left
           ·intro w'
            go_simp
            with_reducible rfl
           rotate_left
           ·simp only [Act.put, List.setIfInBounds_toArray, List.set_cons_zero, List.set_cons_succ, i64_w, i32_w]
            rfl
           refine take_ (i := 11) (N := some 54) (v := ?_) (a' := ?_) #[true, true, true, true, true, true, true, true, true, true, true, true, false, false, false] rfl rfl (take_ofW HT_.out HW_.out (by kernel_rfl)) (fun _ _ _ h => h) (Or.inl ⟨by rfl, ?_⟩) hHeld ?_ ?_
           rotate_left
           ·rintro w' ⟨s0, s1, s2, s3, s4, s5, s6⟩
            go_simp
            with_reducible rfl
           rotate_left
           ·simp only [Act.put, List.setIfInBounds_toArray, List.set_cons_zero, List.set_cons_succ, i64_w, i32_w]
            rfl
           refine pure_ (i := 12) (N := some 55) (v := ?_) (a' := ?_) #[true, true, true, true, true, true, true, true, true, true, true, true, true, false, false] rfl rfl (any_of HT_.out (by kernel_rfl)) (fun _ _ _ h => h) (Or.inl ⟨by rfl, ?_⟩) ?_ ?_
           rotate_left
           ·intro w'
            go_simp
            with_reducible rfl
           rotate_left
           ·simp only [Act.put, List.setIfInBounds_toArray, List.set_cons_zero, List.set_cons_succ, i64_w, i32_w]
            rfl
           refine one_ (i := 13) (N := some 11) #[true, true, true, true, true, true, true, true, true, true, true, true, true, true, false] rfl rfl (one_of HT_.out (by kernel_rfl)) (by decide) (fun K hK => ?_)
           refine box_step ?hg (N := 11) ?hd (cs := #[.int .i64 0, .int .i64 0, .slice none 0 0]) (t := 50) ?hr ?_; (case hd => rfl); (case hg => rfl); (case hr => first | (go_simp; done) | (go_simp; rfl))
           intro gb511 hg w33 hbox hb
           have n0_ := Aside0.mk (Kd.R_below (by (with_reducible repeat (first | apply Kd.R_alloc | apply Kd.R_drewN | apply Kd.R_drew)); exact HO_7.out) hb)
           have n1_ := Aside0.mk (Kd.R_below (by (with_reducible repeat (first | apply Kd.R_alloc | apply Kd.R_drewN | apply Kd.R_drew)); exact HO_8.out) hb)
           have n2_ := Aside0.mk (Kd.S_below (Kd.S_elderB (by (with_reducible repeat (first | apply Kd.S_alloc | apply Kd.S_drewN | apply Kd.S_drew)); exact HO_507000.out) gb511 (Nat.le_of_eq hg.symm)) hb)
           have n3_ := Aside0.mk (blk_below (g := gb497) (o := .cells #[.slice (some ad509) l0_0.length c0_0] 24 (0, 0)) (by (with_reducible repeat (first | refine blk_drewN ?_ _ | refine blk_drew ?_ | refine blk_alloc ?_ _)); exact BK497.out) hb)
           have n4_ := Aside0.mk (blk_below (g := gb498) (o := .cells #[.slice none 0 0] 24 (0, 0)) (by (with_reducible repeat (first | refine blk_drewN ?_ _ | refine blk_drew ?_ | refine blk_alloc ?_ _)); exact BK498.out) hb)
           have n5_ := Aside0.mk (blk_below (g := gb506) (o := .cells #[.slice Ao29 x507000_1.length co29] 24 (0, 0)) (by (with_reducible repeat (first | refine blk_drewN ?_ _ | refine blk_drew ?_ | refine blk_alloc ?_ _)); exact BK506.out) hb)
           have n6_ := Aside0.mk (below_step (by repeat (first | (with_reducible first | exact HB.out | apply below_alloc | apply pw_below_drewN | apply below_drew1 | refine below_set ?_ GE497.out | refine below_set ?_ GE498.out | refine below_set ?_ GE506.out) | exact HB.out)) hb)
           have n7_ := Aside0.mk (hbox)
           have n8_ := Aside0.mk ((by rw [hg]; exact (below_size (by repeat (first | (with_reducible first | exact HB.out | apply below_alloc | apply pw_below_drewN | apply below_drew1 | refine below_set ?_ GE497.out | refine below_set ?_ GE498.out | refine below_set ?_ GE506.out) | exact HB.out))) : w.heap.size ≤ gb511))
           have n9_ := Aside0.mk ((by rw [hg]; exact (below_size (by repeat (first | (with_reducible first | exact HB.out | apply below_alloc | apply pw_below_drewN | apply below_drew1 | refine below_set ?_ GE497.out | refine below_set ?_ GE498.out | refine below_set ?_ GE506.out) | exact HB.out))) : w.heap.size ≤ gb511))
           have n10_ := Aside0.mk ((by rw [hg]; exact Nat.ne_of_lt (blk_lt (g := gb497) (o := .cells #[.slice (some ad509) l0_0.length c0_0] 24 (0, 0)) (by (with_reducible repeat (first | refine blk_drewN ?_ _ | refine blk_drew ?_ | refine blk_alloc ?_ _)); exact BK497.out)) : gb497 ≠ gb511))
           have n11_ := Aside0.mk ((by rw [hg]; exact Nat.ne_of_gt (blk_lt (g := gb497) (o := .cells #[.slice (some ad509) l0_0.length c0_0] 24 (0, 0)) (by (with_reducible repeat (first | refine blk_drewN ?_ _ | refine blk_drew ?_ | refine blk_alloc ?_ _)); exact BK497.out)) : gb511 ≠ gb497))
           have n12_ := Aside0.mk ((by rw [hg]; exact Nat.ne_of_lt (blk_lt (g := gb498) (o := .cells #[.slice none 0 0] 24 (0, 0)) (by (with_reducible repeat (first | refine blk_drewN ?_ _ | refine blk_drew ?_ | refine blk_alloc ?_ _)); exact BK498.out)) : gb498 ≠ gb511))
           have n13_ := Aside0.mk ((by rw [hg]; exact Nat.ne_of_gt (blk_lt (g := gb498) (o := .cells #[.slice none 0 0] 24 (0, 0)) (by (with_reducible repeat (first | refine blk_drewN ?_ _ | refine blk_drew ?_ | refine blk_alloc ?_ _)); exact BK498.out)) : gb511 ≠ gb498))
           have n14_ := Aside0.mk ((by rw [hg]; exact Nat.ne_of_lt (blk_lt (g := gb506) (o := .cells #[.slice Ao29 x507000_1.length co29] 24 (0, 0)) (by (with_reducible repeat (first | refine blk_drewN ?_ _ | refine blk_drew ?_ | refine blk_alloc ?_ _)); exact BK506.out)) : gb506 ≠ gb511))
           have n15_ := Aside0.mk ((by rw [hg]; exact Nat.ne_of_gt (blk_lt (g := gb506) (o := .cells #[.slice Ao29 x507000_1.length co29] 24 (0, 0)) (by (with_reducible repeat (first | refine blk_drewN ?_ _ | refine blk_drew ?_ | refine blk_alloc ?_ _)); exact BK506.out)) : gb511 ≠ gb506))
           clear HO_7
           clear HO_8
           clear HO_507000
           clear BK497
           clear BK498
           clear BK506
           clear HB
           have HO_7 := n0_
           have HO_8 := n1_
           have HO_507000 := n2_
           have BK497 := n3_
           have BK498 := n4_
           have BK506 := n5_
           have HB := n6_
           have BK511 := n7_
           have GW511 := n8_
           have GE511 := n9_
           have NB497_511 := n10_
           have NB511_497 := n11_
           have NB498_511 := n12_
           have NB511_498 := n13_
           have NB506_511 := n14_
           have NB511_506 := n15_
           clear n0_ n1_ n2_ n3_ n4_ n5_ n6_ n7_ n8_ n9_ n10_ n11_ n12_ n13_ n14_ n15_
           clear hb hbox hg
           refine hK.out _ _ ⟨(blk_cell BK497.out 0).trans rfl, ((HB.out.cell (World.block_lt_of_cell? w _ hw509_0)).trans hw509_0), ((HB.out.cell (World.block_lt_of_cell? w _ hw509_1)).trans hw509_1), ((HB.out.cell (World.block_lt_of_cell? w _ hw509_2)).trans hw509_2), ((HB.out.cell (World.block_lt_of_cell? w _ hw510_0)).trans hw510_0), ((HB.out.cell (World.block_lt_of_cell? w _ hw510_1)).trans hw510_1), ((HB.out.cell (World.block_lt_of_cell? w _ hw510_2)).trans hw510_2)⟩ (fun hHeld => ?_)
           clear hK K
           refine norm_ (a' := ?_) ?_ ?_
           rotate_left
           ·show Act.put _ (some 11) _ = _
            simp only [Act.put, List.setIfInBounds_toArray, List.set_cons_zero, List.set_cons_succ, i64_w, i32_w]
            rfl
           refine one_ (i := 14) (N := none) #[true, true, true, true, true, true, true, true, true, true, true, true, true, true, true] rfl rfl (one_of HT_.out (by kernel_rfl)) (by decide) (fun K hK => ?_)
           have hs34 : w33.cell? ⟨gb511, 0, none⟩ = some (.int .i64 0) := (blk_cell BK511.out 0).trans rfl
           have hfs34 := blk_frozen BK511.out 0
           have hns34_0 := NB497_511.out
           have hns34_1 := NB498_511.out
           have hns34_2 := NB506_511.out
           have hms34_0 := NB511_497.out
           have hms34_1 := NB511_498.out
           have hms34_2 := NB511_506.out
           have hs35 : w33.cell? ⟨gb511, 1, none⟩ = some (.int .i64 0) := (blk_cell BK511.out 1).trans rfl
           have hfs35 := blk_frozen BK511.out 1
           have hns35_0 := NB497_511.out
           have hns35_1 := NB498_511.out
           have hns35_2 := NB506_511.out
           have hms35_0 := NB511_497.out
           have hms35_1 := NB511_498.out
           have hms35_2 := NB511_506.out
           have hs36 : w33.cell? ⟨gb511, 2, none⟩ = some (.slice none 0 0) := (blk_cell BK511.out 2).trans rfl
           have hfs36 := blk_frozen BK511.out 2
           have hns36_0 := NB497_511.out
           have hns36_1 := NB498_511.out
           have hns36_2 := NB506_511.out
           have hms36_0 := NB511_497.out
           have hms36_1 := NB511_498.out
           have hms36_2 := NB511_506.out
           refine skip_ (w1 := ?_) (by rfl) rfl ?_ ?_
           rotate_left
           ·go_simp
            rfl
           refine hK.out _ _ ⟨((cell_far (p := ⟨gb511, _, none⟩) NB497_511.out _).trans (((cell_far (p := ⟨gb511, _, none⟩) NB497_511.out _).trans (((cell_far (p := ⟨gb511, _, none⟩) NB497_511.out _).trans (hHeld.1)))))), ((cell_far (p := ⟨gb511, _, none⟩) (by first | exact Nat.ne_of_lt (Nat.lt_of_lt_of_le (by have := World.block_lt_of_cell? _ _ hw509_0; first | rwa [add_block] at this | exact this) GW511.out) | (rw [add_block]; exact Nat.ne_of_lt (Nat.lt_of_lt_of_le (by have := World.block_lt_of_cell? _ _ hw509_0; first | rwa [add_block] at this | exact this) GW511.out)) | (show (Addr.add _ _).block ≠ _; rw [add_block]; exact Nat.ne_of_lt (Nat.lt_of_lt_of_le (by have := World.block_lt_of_cell? _ _ hw509_0; first | rwa [add_block] at this | exact this) GW511.out)) | (dsimp only; exact Nat.ne_of_lt (Nat.lt_of_lt_of_le (by have := World.block_lt_of_cell? _ _ hw509_0; first | rwa [add_block] at this | exact this) GW511.out))) _).trans (((cell_far (p := ⟨gb511, _, none⟩) (by first | exact Nat.ne_of_lt (Nat.lt_of_lt_of_le (by have := World.block_lt_of_cell? _ _ hw509_0; first | rwa [add_block] at this | exact this) GW511.out) | (rw [add_block]; exact Nat.ne_of_lt (Nat.lt_of_lt_of_le (by have := World.block_lt_of_cell? _ _ hw509_0; first | rwa [add_block] at this | exact this) GW511.out)) | (show (Addr.add _ _).block ≠ _; rw [add_block]; exact Nat.ne_of_lt (Nat.lt_of_lt_of_le (by have := World.block_lt_of_cell? _ _ hw509_0; first | rwa [add_block] at this | exact this) GW511.out)) | (dsimp only; exact Nat.ne_of_lt (Nat.lt_of_lt_of_le (by have := World.block_lt_of_cell? _ _ hw509_0; first | rwa [add_block] at this | exact this) GW511.out))) _).trans (((cell_far (p := ⟨gb511, _, none⟩) (by first | exact Nat.ne_of_lt (Nat.lt_of_lt_of_le (by have := World.block_lt_of_cell? _ _ hw509_0; first | rwa [add_block] at this | exact this) GW511.out) | (rw [add_block]; exact Nat.ne_of_lt (Nat.lt_of_lt_of_le (by have := World.block_lt_of_cell? _ _ hw509_0; first | rwa [add_block] at this | exact this) GW511.out)) | (show (Addr.add _ _).block ≠ _; rw [add_block]; exact Nat.ne_of_lt (Nat.lt_of_lt_of_le (by have := World.block_lt_of_cell? _ _ hw509_0; first | rwa [add_block] at this | exact this) GW511.out)) | (dsimp only; exact Nat.ne_of_lt (Nat.lt_of_lt_of_le (by have := World.block_lt_of_cell? _ _ hw509_0; first | rwa [add_block] at this | exact this) GW511.out))) _).trans (hHeld.2.1)))))), ((cell_far (p := ⟨gb511, _, none⟩) (by first | exact Nat.ne_of_lt (Nat.lt_of_lt_of_le (by have := World.block_lt_of_cell? _ _ hw509_1; first | rwa [add_block] at this | exact this) GW511.out) | (rw [add_block]; exact Nat.ne_of_lt (Nat.lt_of_lt_of_le (by have := World.block_lt_of_cell? _ _ hw509_1; first | rwa [add_block] at this | exact this) GW511.out)) | (show (Addr.add _ _).block ≠ _; rw [add_block]; exact Nat.ne_of_lt (Nat.lt_of_lt_of_le (by have := World.block_lt_of_cell? _ _ hw509_1; first | rwa [add_block] at this | exact this) GW511.out)) | (dsimp only; exact Nat.ne_of_lt (Nat.lt_of_lt_of_le (by have := World.block_lt_of_cell? _ _ hw509_1; first | rwa [add_block] at this | exact this) GW511.out))) _).trans (((cell_far (p := ⟨gb511, _, none⟩) (by first | exact Nat.ne_of_lt (Nat.lt_of_lt_of_le (by have := World.block_lt_of_cell? _ _ hw509_1; first | rwa [add_block] at this | exact this) GW511.out) | (rw [add_block]; exact Nat.ne_of_lt (Nat.lt_of_lt_of_le (by have := World.block_lt_of_cell? _ _ hw509_1; first | rwa [add_block] at this | exact this) GW511.out)) | (show (Addr.add _ _).block ≠ _; rw [add_block]; exact Nat.ne_of_lt (Nat.lt_of_lt_of_le (by have := World.block_lt_of_cell? _ _ hw509_1; first | rwa [add_block] at this | exact this) GW511.out)) | (dsimp only; exact Nat.ne_of_lt (Nat.lt_of_lt_of_le (by have := World.block_lt_of_cell? _ _ hw509_1; first | rwa [add_block] at this | exact this) GW511.out))) _).trans (((cell_far (p := ⟨gb511, _, none⟩) (by first | exact Nat.ne_of_lt (Nat.lt_of_lt_of_le (by have := World.block_lt_of_cell? _ _ hw509_1; first | rwa [add_block] at this | exact this) GW511.out) | (rw [add_block]; exact Nat.ne_of_lt (Nat.lt_of_lt_of_le (by have := World.block_lt_of_cell? _ _ hw509_1; first | rwa [add_block] at this | exact this) GW511.out)) | (show (Addr.add _ _).block ≠ _; rw [add_block]; exact Nat.ne_of_lt (Nat.lt_of_lt_of_le (by have := World.block_lt_of_cell? _ _ hw509_1; first | rwa [add_block] at this | exact this) GW511.out)) | (dsimp only; exact Nat.ne_of_lt (Nat.lt_of_lt_of_le (by have := World.block_lt_of_cell? _ _ hw509_1; first | rwa [add_block] at this | exact this) GW511.out))) _).trans (hHeld.2.2.1)))))), ((cell_far (p := ⟨gb511, _, none⟩) (by first | exact Nat.ne_of_lt (Nat.lt_of_lt_of_le (by have := World.block_lt_of_cell? _ _ hw509_2; first | rwa [add_block] at this | exact this) GW511.out) | (rw [add_block]; exact Nat.ne_of_lt (Nat.lt_of_lt_of_le (by have := World.block_lt_of_cell? _ _ hw509_2; first | rwa [add_block] at this | exact this) GW511.out)) | (show (Addr.add _ _).block ≠ _; rw [add_block]; exact Nat.ne_of_lt (Nat.lt_of_lt_of_le (by have := World.block_lt_of_cell? _ _ hw509_2; first | rwa [add_block] at this | exact this) GW511.out)) | (dsimp only; exact Nat.ne_of_lt (Nat.lt_of_lt_of_le (by have := World.block_lt_of_cell? _ _ hw509_2; first | rwa [add_block] at this | exact this) GW511.out))) _).trans (((cell_far (p := ⟨gb511, _, none⟩) (by first | exact Nat.ne_of_lt (Nat.lt_of_lt_of_le (by have := World.block_lt_of_cell? _ _ hw509_2; first | rwa [add_block] at this | exact this) GW511.out) | (rw [add_block]; exact Nat.ne_of_lt (Nat.lt_of_lt_of_le (by have := World.block_lt_of_cell? _ _ hw509_2; first | rwa [add_block] at this | exact this) GW511.out)) | (show (Addr.add _ _).block ≠ _; rw [add_block]; exact Nat.ne_of_lt (Nat.lt_of_lt_of_le (by have := World.block_lt_of_cell? _ _ hw509_2; first | rwa [add_block] at this | exact this) GW511.out)) | (dsimp only; exact Nat.ne_of_lt (Nat.lt_of_lt_of_le (by have := World.block_lt_of_cell? _ _ hw509_2; first | rwa [add_block] at this | exact this) GW511.out))) _).trans (((cell_far (p := ⟨gb511, _, none⟩) (by first | exact Nat.ne_of_lt (Nat.lt_of_lt_of_le (by have := World.block_lt_of_cell? _ _ hw509_2; first | rwa [add_block] at this | exact this) GW511.out) | (rw [add_block]; exact Nat.ne_of_lt (Nat.lt_of_lt_of_le (by have := World.block_lt_of_cell? _ _ hw509_2; first | rwa [add_block] at this | exact this) GW511.out)) | (show (Addr.add _ _).block ≠ _; rw [add_block]; exact Nat.ne_of_lt (Nat.lt_of_lt_of_le (by have := World.block_lt_of_cell? _ _ hw509_2; first | rwa [add_block] at this | exact this) GW511.out)) | (dsimp only; exact Nat.ne_of_lt (Nat.lt_of_lt_of_le (by have := World.block_lt_of_cell? _ _ hw509_2; first | rwa [add_block] at this | exact this) GW511.out))) _).trans (hHeld.2.2.2.1)))))), ((cell_far (p := ⟨gb511, _, none⟩) (by first | exact Nat.ne_of_lt (Nat.lt_of_lt_of_le (by have := World.block_lt_of_cell? _ _ hw510_0; first | rwa [add_block] at this | exact this) GW511.out) | (rw [add_block]; exact Nat.ne_of_lt (Nat.lt_of_lt_of_le (by have := World.block_lt_of_cell? _ _ hw510_0; first | rwa [add_block] at this | exact this) GW511.out)) | (show (Addr.add _ _).block ≠ _; rw [add_block]; exact Nat.ne_of_lt (Nat.lt_of_lt_of_le (by have := World.block_lt_of_cell? _ _ hw510_0; first | rwa [add_block] at this | exact this) GW511.out)) | (dsimp only; exact Nat.ne_of_lt (Nat.lt_of_lt_of_le (by have := World.block_lt_of_cell? _ _ hw510_0; first | rwa [add_block] at this | exact this) GW511.out))) _).trans (((cell_far (p := ⟨gb511, _, none⟩) (by first | exact Nat.ne_of_lt (Nat.lt_of_lt_of_le (by have := World.block_lt_of_cell? _ _ hw510_0; first | rwa [add_block] at this | exact this) GW511.out) | (rw [add_block]; exact Nat.ne_of_lt (Nat.lt_of_lt_of_le (by have := World.block_lt_of_cell? _ _ hw510_0; first | rwa [add_block] at this | exact this) GW511.out)) | (show (Addr.add _ _).block ≠ _; rw [add_block]; exact Nat.ne_of_lt (Nat.lt_of_lt_of_le (by have := World.block_lt_of_cell? _ _ hw510_0; first | rwa [add_block] at this | exact this) GW511.out)) | (dsimp only; exact Nat.ne_of_lt (Nat.lt_of_lt_of_le (by have := World.block_lt_of_cell? _ _ hw510_0; first | rwa [add_block] at this | exact this) GW511.out))) _).trans (((cell_far (p := ⟨gb511, _, none⟩) (by first | exact Nat.ne_of_lt (Nat.lt_of_lt_of_le (by have := World.block_lt_of_cell? _ _ hw510_0; first | rwa [add_block] at this | exact this) GW511.out) | (rw [add_block]; exact Nat.ne_of_lt (Nat.lt_of_lt_of_le (by have := World.block_lt_of_cell? _ _ hw510_0; first | rwa [add_block] at this | exact this) GW511.out)) | (show (Addr.add _ _).block ≠ _; rw [add_block]; exact Nat.ne_of_lt (Nat.lt_of_lt_of_le (by have := World.block_lt_of_cell? _ _ hw510_0; first | rwa [add_block] at this | exact this) GW511.out)) | (dsimp only; exact Nat.ne_of_lt (Nat.lt_of_lt_of_le (by have := World.block_lt_of_cell? _ _ hw510_0; first | rwa [add_block] at this | exact this) GW511.out))) _).trans (hHeld.2.2.2.2.1)))))), ((cell_far (p := ⟨gb511, _, none⟩) (by first | exact Nat.ne_of_lt (Nat.lt_of_lt_of_le (by have := World.block_lt_of_cell? _ _ hw510_1; first | rwa [add_block] at this | exact this) GW511.out) | (rw [add_block]; exact Nat.ne_of_lt (Nat.lt_of_lt_of_le (by have := World.block_lt_of_cell? _ _ hw510_1; first | rwa [add_block] at this | exact this) GW511.out)) | (show (Addr.add _ _).block ≠ _; rw [add_block]; exact Nat.ne_of_lt (Nat.lt_of_lt_of_le (by have := World.block_lt_of_cell? _ _ hw510_1; first | rwa [add_block] at this | exact this) GW511.out)) | (dsimp only; exact Nat.ne_of_lt (Nat.lt_of_lt_of_le (by have := World.block_lt_of_cell? _ _ hw510_1; first | rwa [add_block] at this | exact this) GW511.out))) _).trans (((cell_far (p := ⟨gb511, _, none⟩) (by first | exact Nat.ne_of_lt (Nat.lt_of_lt_of_le (by have := World.block_lt_of_cell? _ _ hw510_1; first | rwa [add_block] at this | exact this) GW511.out) | (rw [add_block]; exact Nat.ne_of_lt (Nat.lt_of_lt_of_le (by have := World.block_lt_of_cell? _ _ hw510_1; first | rwa [add_block] at this | exact this) GW511.out)) | (show (Addr.add _ _).block ≠ _; rw [add_block]; exact Nat.ne_of_lt (Nat.lt_of_lt_of_le (by have := World.block_lt_of_cell? _ _ hw510_1; first | rwa [add_block] at this | exact this) GW511.out)) | (dsimp only; exact Nat.ne_of_lt (Nat.lt_of_lt_of_le (by have := World.block_lt_of_cell? _ _ hw510_1; first | rwa [add_block] at this | exact this) GW511.out))) _).trans (((cell_far (p := ⟨gb511, _, none⟩) (by first | exact Nat.ne_of_lt (Nat.lt_of_lt_of_le (by have := World.block_lt_of_cell? _ _ hw510_1; first | rwa [add_block] at this | exact this) GW511.out) | (rw [add_block]; exact Nat.ne_of_lt (Nat.lt_of_lt_of_le (by have := World.block_lt_of_cell? _ _ hw510_1; first | rwa [add_block] at this | exact this) GW511.out)) | (show (Addr.add _ _).block ≠ _; rw [add_block]; exact Nat.ne_of_lt (Nat.lt_of_lt_of_le (by have := World.block_lt_of_cell? _ _ hw510_1; first | rwa [add_block] at this | exact this) GW511.out)) | (dsimp only; exact Nat.ne_of_lt (Nat.lt_of_lt_of_le (by have := World.block_lt_of_cell? _ _ hw510_1; first | rwa [add_block] at this | exact this) GW511.out))) _).trans (hHeld.2.2.2.2.2.1)))))), ((cell_far (p := ⟨gb511, _, none⟩) (by first | exact Nat.ne_of_lt (Nat.lt_of_lt_of_le (by have := World.block_lt_of_cell? _ _ hw510_2; first | rwa [add_block] at this | exact this) GW511.out) | (rw [add_block]; exact Nat.ne_of_lt (Nat.lt_of_lt_of_le (by have := World.block_lt_of_cell? _ _ hw510_2; first | rwa [add_block] at this | exact this) GW511.out)) | (show (Addr.add _ _).block ≠ _; rw [add_block]; exact Nat.ne_of_lt (Nat.lt_of_lt_of_le (by have := World.block_lt_of_cell? _ _ hw510_2; first | rwa [add_block] at this | exact this) GW511.out)) | (dsimp only; exact Nat.ne_of_lt (Nat.lt_of_lt_of_le (by have := World.block_lt_of_cell? _ _ hw510_2; first | rwa [add_block] at this | exact this) GW511.out))) _).trans (((cell_far (p := ⟨gb511, _, none⟩) (by first | exact Nat.ne_of_lt (Nat.lt_of_lt_of_le (by have := World.block_lt_of_cell? _ _ hw510_2; first | rwa [add_block] at this | exact this) GW511.out) | (rw [add_block]; exact Nat.ne_of_lt (Nat.lt_of_lt_of_le (by have := World.block_lt_of_cell? _ _ hw510_2; first | rwa [add_block] at this | exact this) GW511.out)) | (show (Addr.add _ _).block ≠ _; rw [add_block]; exact Nat.ne_of_lt (Nat.lt_of_lt_of_le (by have := World.block_lt_of_cell? _ _ hw510_2; first | rwa [add_block] at this | exact this) GW511.out)) | (dsimp only; exact Nat.ne_of_lt (Nat.lt_of_lt_of_le (by have := World.block_lt_of_cell? _ _ hw510_2; first | rwa [add_block] at this | exact this) GW511.out))) _).trans (((cell_far (p := ⟨gb511, _, none⟩) (by first | exact Nat.ne_of_lt (Nat.lt_of_lt_of_le (by have := World.block_lt_of_cell? _ _ hw510_2; first | rwa [add_block] at this | exact this) GW511.out) | (rw [add_block]; exact Nat.ne_of_lt (Nat.lt_of_lt_of_le (by have := World.block_lt_of_cell? _ _ hw510_2; first | rwa [add_block] at this | exact this) GW511.out)) | (show (Addr.add _ _).block ≠ _; rw [add_block]; exact Nat.ne_of_lt (Nat.lt_of_lt_of_le (by have := World.block_lt_of_cell? _ _ hw510_2; first | rwa [add_block] at this | exact this) GW511.out)) | (dsimp only; exact Nat.ne_of_lt (Nat.lt_of_lt_of_le (by have := World.block_lt_of_cell? _ _ hw510_2; first | rwa [add_block] at this | exact this) GW511.out))) _).trans (hHeld.2.2.2.2.2.2))))))⟩ (fun hHeld => ?_)
           clear hK K
           refine done_ (done_of HT_.out (by kernel_rfl)) ?_
           try go_wp2
           go_loopg [12] k1 (fun kq v12 w' => ∃ (x12_2 : Int) (x512002_2 : List Int) (u512002 : Value), v12 = .int .i64 x12_2 ∧ Aside0 (cleanseref18_Keep.l1 kq l1 t500 y508 x10_1 x12_2 l0_0 x507000_1 ((rd_T50 l0_0 x10_1).f0) ((rd_T50 l0_0 x10_1).f1) x512002_2 = some (r1, r2, r3)) ∧ Aside0 (kq ≤ k1) ∧ Aside0 (Kd.R Kd.bool 4 w' w.heap.size (fun _ => True) (.slice (some ad507) t500.length co15) t500) ∧ Aside0 (Kd.R (Kd.int .i64) 3 w' w.heap.size (fun k_ => some k_ ≠ (u512002 : Value).ownBlock) (.slice (some ⟨go24, 0, none⟩) x8_1.length co24) y508) ∧ Aside0 (Kd.S k50 50 w' w.heap.size (fun k_ => some k_ ≠ ((.slice (some ⟨go24, 0, none⟩) x8_1.length co24) : Value).ownBlock ∧ some k_ ≠ (u512002 : Value).ownBlock ∧ k_ ≠ gb511) (.slice Ao29 x507000_1.length co29) x507000_1) ∧ Aside0 (Kd.R (Kd.int .i64) 3 w' w.heap.size (fun k_ => some k_ ≠ ((.slice (some ⟨go24, 0, none⟩) x8_1.length co24) : Value).ownBlock) u512002 x512002_2) ∧ Aside0 (w'.heap[gb497]? = some (.cells #[(.slice (some ad509) l0_0.length c0_0)] 24 (0, 0))) ∧ Aside0 (w'.heap[gb498]? = some (.cells #[(.slice none 0 0)] 24 (0, 0))) ∧ Aside0 (w'.heap[gb506]? = some (.cells #[(.slice Ao29 x507000_1.length co29)] 24 (0, 0))) ∧ Aside0 (w'.heap[gb511]? = some (.cells #[.int .i64 ((rd_T50 l0_0 x10_1).f0), .int .i64 ((rd_T50 l0_0 x10_1).f1), u512002] 50 (0, 0))) ∧ Aside0 (Below w.heap.size w w'))
           case atStart => exact ⟨(0), (([] : List Int)), (.slice none 0 0), (by first | rfl | (simp; done) | (simp [*]; done)), H', ⟨Nat.le_refl _⟩, ⟨by (with_reducible repeat (first | apply Kd.R_alloc | apply Kd.R_drewN | apply Kd.R_drew)); exact Kd.R_mono (Kd.R_far (p := ⟨gb511, 2, none⟩) (Kd.R_far (p := ⟨gb511, 1, none⟩) (Kd.R_far (p := ⟨gb511, 0, none⟩) (Kd.R_types HO_7.out BK511.out (by decide)) (fun _ hk => hk.2) (.int .i64 ((rd_T50 l0_0 x10_1).f0))) (fun _ hk => hk.2) (.int .i64 ((rd_T50 l0_0 x10_1).f1))) (fun _ hk => hk.2) (.slice none 0 0)) (fun _ hk => trivial)⟩, ⟨by (with_reducible repeat (first | apply Kd.R_alloc | apply Kd.R_drewN | apply Kd.R_drew)); exact Kd.R_mono (Kd.R_far (p := ⟨gb511, 2, none⟩) (Kd.R_far (p := ⟨gb511, 1, none⟩) (Kd.R_far (p := ⟨gb511, 0, none⟩) (Kd.R_types HO_8.out BK511.out (by decide)) (fun _ hk => hk.2) (.int .i64 ((rd_T50 l0_0 x10_1).f0))) (fun _ hk => hk.2) (.int .i64 ((rd_T50 l0_0 x10_1).f1))) (fun _ hk => hk.2) (.slice none 0 0)) (fun _ hk => (by simp [Value.ownBlock]))⟩, ⟨by (with_reducible repeat (first | apply Kd.S_alloc | apply Kd.S_drewN | apply Kd.S_drew)); exact Kd.S_mono (Kd.S_far (p := ⟨gb511, 2, none⟩) (Kd.S_far (p := ⟨gb511, 1, none⟩) (Kd.S_far (p := ⟨gb511, 0, none⟩) (Kd.S_mono HO_507000.out (fun k_ hk => (⟨hk, hk.2⟩ : _ ∧ k_ ≠ gb511))) (fun _ hk => hk.2) (.int .i64 ((rd_T50 l0_0 x10_1).f0))) (fun _ hk => hk.2) (.int .i64 ((rd_T50 l0_0 x10_1).f1))) (fun _ hk => hk.2) (.slice none 0 0)) (fun _ hk => ⟨hk.1.1.2, ⟨(by simp [Value.ownBlock]), hk.1.2⟩⟩)⟩, ⟨by first | exact Kd.R_nil _ _ _ _ _ | exact Kd.N_nil _ _ _ _ _ | exact Kd.V_nil _ _ _ _ _ | exact Kd.Q_nil _ _ _ _ _ | exact Kd.S_nil _ _ _ _ _⟩, ⟨by (with_reducible repeat (first | refine blk_drewN ?_ _ | refine blk_drew ?_ | refine blk_alloc ?_ _)); refine blk_far ?_ NB497_511.out _; (with_reducible repeat (first | refine blk_drewN ?_ _ | refine blk_drew ?_ | refine blk_alloc ?_ _)); refine blk_far ?_ NB497_511.out _; (with_reducible repeat (first | refine blk_drewN ?_ _ | refine blk_drew ?_ | refine blk_alloc ?_ _)); refine blk_far ?_ NB497_511.out _; (with_reducible repeat (first | refine blk_drewN ?_ _ | refine blk_drew ?_ | refine blk_alloc ?_ _)); exact BK497.out⟩, ⟨by (with_reducible repeat (first | refine blk_drewN ?_ _ | refine blk_drew ?_ | refine blk_alloc ?_ _)); refine blk_far ?_ NB498_511.out _; (with_reducible repeat (first | refine blk_drewN ?_ _ | refine blk_drew ?_ | refine blk_alloc ?_ _)); refine blk_far ?_ NB498_511.out _; (with_reducible repeat (first | refine blk_drewN ?_ _ | refine blk_drew ?_ | refine blk_alloc ?_ _)); refine blk_far ?_ NB498_511.out _; (with_reducible repeat (first | refine blk_drewN ?_ _ | refine blk_drew ?_ | refine blk_alloc ?_ _)); exact BK498.out⟩, ⟨by (with_reducible repeat (first | refine blk_drewN ?_ _ | refine blk_drew ?_ | refine blk_alloc ?_ _)); refine blk_far ?_ NB506_511.out _; (with_reducible repeat (first | refine blk_drewN ?_ _ | refine blk_drew ?_ | refine blk_alloc ?_ _)); refine blk_far ?_ NB506_511.out _; (with_reducible repeat (first | refine blk_drewN ?_ _ | refine blk_drew ?_ | refine blk_alloc ?_ _)); refine blk_far ?_ NB506_511.out _; (with_reducible repeat (first | refine blk_drewN ?_ _ | refine blk_drew ?_ | refine blk_alloc ?_ _)); exact BK506.out⟩, ⟨by (with_reducible repeat (first | refine blk_drewN ?_ _ | refine blk_drew ?_ | refine blk_alloc ?_ _)); refine blk_put (cs := #[.int .i64 ((rd_T50 l0_0 x10_1).f0), .int .i64 ((rd_T50 l0_0 x10_1).f1), .slice none 0 0]) ?_ 2 _ rfl; (with_reducible repeat (first | refine blk_drewN ?_ _ | refine blk_drew ?_ | refine blk_alloc ?_ _)); refine blk_put (cs := #[.int .i64 ((rd_T50 l0_0 x10_1).f0), .int .i64 0, .slice none 0 0]) ?_ 1 _ rfl; (with_reducible repeat (first | refine blk_drewN ?_ _ | refine blk_drew ?_ | refine blk_alloc ?_ _)); refine blk_put (cs := #[.int .i64 0, .int .i64 0, .slice none 0 0]) ?_ 0 _ rfl; (with_reducible repeat (first | refine blk_drewN ?_ _ | refine blk_drew ?_ | refine blk_alloc ?_ _)); exact BK511.out⟩, ⟨by repeat (first | (with_reducible first | exact HB.out | apply below_alloc | apply pw_below_drewN | apply below_drew1 | refine below_set ?_ GE497.out | refine below_set ?_ GE498.out | refine below_set ?_ GE506.out | refine below_set ?_ GE511.out) | exact HB.out)⟩⟩
           case round =>
            clear H'
            try clear c1
            try clear c2
            try clear p2
            try clear q2
            try clear hx2
            try clear hf2
            try clear c3
            try clear c4
            try clear c5
            try clear p5
            try clear q5
            try clear hx5
            try clear c6
            try clear c6b0
            try clear c6b1
            try clear p6
            try clear c7
            try clear c7b0
            try clear c7b1
            try clear c10
            try clear c17
            try clear c19
            try clear c19b0
            try clear c20
            try clear c20b0
            try clear q21
            try clear c22
            try clear c23
            try clear c23b0
            try clear p24
            try clear q24
            try clear hx24
            try clear hf24
            try clear c25
            try clear c25b0
            try clear c26
            try clear c27
            try clear c29
            try clear c30
            try clear hcz11_0
            try clear hcz13_0
            try clear hcz28_0
            try clear hfz11_0
            try clear hfz13_0
            try clear hfz28_0
            try clear hx24_0
            try clear hx507_0
            try clear hx509_0
            try clear hx509_1
            try clear hx509_2
            try clear hx510_0
            try clear hx510_1
            try clear hx510_2
            try clear p2
            try clear p24
            try clear p507
            try clear p509
            try clear p510
            try clear q24
            try clear q507
            try clear q509
            try clear q510
            obtain ⟨x12_2, x512002_2, u512002, rfl, HA, HK2, HO_7, HO_8, HO_507000, HO_512002, BK497, BK498, BK506, BK511, HB⟩ := hrel
            have hl8_2 := (Kd.R_reads' HO_8.out).1
            rw [hl8_2] at HO_8
            (try simp only [hl8_2])
            (try simp only [hl8_2] at BK497)
            (try simp only [hl8_2] at BK498)
            (try simp only [hl8_2] at BK506)
            (try simp only [hl8_2] at BK511)
            (try simp only [hl8_2] at HO_7)
            (try simp only [hl8_2] at HO_507000)
            (try simp only [hl8_2] at HO_512002)
            cases gk with
            | zero => exact absurd HA.out (by simp [cleanseref18_Keep.l1])
            | succ k2 =>
             have H := HA.out
             clear HA
             simp only [cleanseref18_Keep.l1] at H
             by_cases c37 : 0 ≤ x10_1
             ·rw [if_pos c37] at H
              have c37b0 : decide (0 ≤ x10_1) = true := decide_eq_true c37
              clear c37
              by_cases c38 : x10_1 < (l0_0.length : Int)
              ·rw [if_pos c38] at H
               have c38b0 : decide (x10_1 < (l0_0.length : Int)) = true := decide_eq_true c38
               clear c38
               by_cases c39 : x12_2 < (((rd_T50 l0_0 x10_1).f2).length : Int)
               ·rw [if_pos c39] at H
                have c39b0 : decide (x12_2 < (((rd_T50 l0_0 x10_1).f2).length : Int)) = true := decide_eq_true c39
                clear c39
                by_cases c40 : 0 ≤ x12_2
                ·rw [if_pos c40] at H
                 have c40b0 : decide (0 ≤ x12_2) = true := decide_eq_true c40
                 clear c40
                 by_cases c41 : 0 ≤ (rd ((rd_T50 l0_0 x10_1).f2) x12_2)
                 ·rw [if_pos c41] at H
                  have c41b0 : decide (0 ≤ (rd ((rd_T50 l0_0 x10_1).f2) x12_2)) = true := decide_eq_true c41
                  clear c41
                  by_cases c42 : (rd ((rd_T50 l0_0 x10_1).f2) x12_2) < (y508.length : Int)
                  ·rw [if_pos c42] at H
                   have c42b0 : decide ((rd ((rd_T50 l0_0 x10_1).f2) x12_2) < (y508.length : Int)) = true := decide_eq_true c42
                   clear c42
                   by_cases c43 : x512002_2.length < 17592186044416
                   ·rw [if_pos c43] at H
                    have LMc43 := Aside0.mk c43
                    clear c43
                    obtain ⟨y516, hy516⟩ : ∃ y_ : List Int, y_ = (x512002_2 ++ [rd y508 (rd ((rd_T50 l0_0 x10_1).f2) x12_2)]) := ⟨_, rfl⟩
                    replace H : (cleanseref18_Keep.l1 k2 l1 t500 y508 x10_1 (wrap64 (x12_2 + 1)) l0_0 x507000_1 ((rd_T50 l0_0 x10_1).f0) ((rd_T50 l0_0 x10_1).f1) y516) = some (r1, r2, r3) := by first | (rw [hy516]; with_reducible exact H) | (have H2_ := (Option.bind_some _ _).symm.trans H; rw [hy516]; with_reducible exact H2_) | (have H2_ := (Option.bind_some _ _).symm.trans H; with_reducible exact H2_) | with_reducible exact H | (rw [hy516]; exact H) | exact H
                    have Ny516 := Aside0.mk hy516
                    clear hy516
                    have H' := Aside0.mk H
                    clear H
                    have hnb44 := NB497_498.out
                    have hnc44 := NB498_497.out
                    have hnb45 := NB497_506.out
                    have hnc45 := NB506_497.out
                    have hnb46 := NB497_511.out
                    have hnc46 := NB511_497.out
                    have hcz47_0 : wr.cell? ⟨gb497, 0, none⟩ = some (.slice (some ad509) l0_0.length c0_0) := (blk_cell BK497.out 0).trans rfl
                    have hfz47_0 := blk_frozen BK497.out 0
                    have p512 : 0 ≤ (x10_1 : Int) := of_decide_eq_true (by first | (with_reducible assumption) | assumption)
                    have q512 : x10_1 < (l0_0.length : Int) := of_decide_eq_true (by first | (with_reducible assumption) | assumption)
                    obtain ⟨ad512, A512_2, c512_2, e512, hx512_0, hx512_1, hx512_2, hl512_2, hi512_2⟩ := at_T50 HR0_0.out x10_1 p512 q512
                    obtain rfl : ad509 = ad512 := (by injection e512)
                    replace hx512_0 := (HB.out.cell (World.block_lt_of_cell? w _ hx512_0)).trans hx512_0
                    replace hx512_1 := (HB.out.cell (World.block_lt_of_cell? w _ hx512_1)).trans hx512_1
                    replace hx512_2 := (HB.out.cell (World.block_lt_of_cell? w _ hx512_2)).trans hx512_2
                    have HR512_2 := Aside0.mk hi512_2
                    have HC512_2 := Aside0.mk hl512_2
                    clear hi512_2 hl512_2
                    replace p512 := eq_true p512
                    replace q512 := eq_true q512
                    try go_wp2
                    have n0_ := Aside0.mk (Kd.R_drew HO_7.out)
                    have n1_ := Aside0.mk (Kd.R_drew HO_8.out)
                    have n2_ := Aside0.mk (Kd.S_drew HO_507000.out)
                    have n3_ := Aside0.mk (Kd.R_drew HO_512002.out)
                    have n4_ := Aside0.mk (blk_drew BK497.out)
                    have n5_ := Aside0.mk (blk_drew BK498.out)
                    have n6_ := Aside0.mk (blk_drew BK506.out)
                    have n7_ := Aside0.mk (blk_drew BK511.out)
                    have n8_ := Aside0.mk (below_drew1 HB.out)
                    clear HO_7
                    clear HO_8
                    clear HO_507000
                    clear HO_512002
                    clear BK497
                    clear BK498
                    clear BK506
                    clear BK511
                    clear HB
                    have HO_7 := n0_
                    have HO_8 := n1_
                    have HO_507000 := n2_
                    have HO_512002 := n3_
                    have BK497 := n4_
                    have BK498 := n5_
                    have BK506 := n6_
                    have BK511 := n7_
                    have HB := n8_
                    clear n0_ n1_ n2_ n3_ n4_ n5_ n6_ n7_ n8_
                    have p513 : 0 ≤ (x10_1 : Int) := of_decide_eq_true (by first | (with_reducible assumption) | assumption)
                    have q513 : x10_1 < (l0_0.length : Int) := of_decide_eq_true (by first | (with_reducible assumption) | assumption)
                    obtain ⟨ad513, A513_2, c513_2, e513, hx513_0, hx513_1, hx513_2, hl513_2, hi513_2⟩ := at_T50 HR0_0.out x10_1 p513 q513
                    have hw513_2 := hx513_2
                    have hw513_1 := hx513_1
                    have hw513_0 := hx513_0
                    obtain rfl : ad509 = ad513 := (by injection e513)
                    replace hx513_0 := (HB.out.cell (World.block_lt_of_cell? w _ hx513_0)).trans hx513_0
                    replace hx513_1 := (HB.out.cell (World.block_lt_of_cell? w _ hx513_1)).trans hx513_1
                    replace hx513_2 := (HB.out.cell (World.block_lt_of_cell? w _ hx513_2)).trans hx513_2
                    have HR513_2 := Aside0.mk hi513_2
                    have HC513_2 := Aside0.mk hl513_2
                    clear hi513_2 hl513_2
                    replace p513 := eq_true p513
                    replace q513 := eq_true q513
                    have p514 : 0 ≤ (x12_2 : Int) := of_decide_eq_true (by first | (with_reducible assumption) | assumption)
                    have q514 : x12_2 < (((rd_T50 l0_0 x10_1).f2).length : Int) := of_decide_eq_true (by first | (with_reducible assumption) | assumption)
                    obtain ⟨ad514, e514, hx514_0⟩ := Kd.at_int HR513_2.out x12_2 p514 q514
                    have hw514_0 := hx514_0
                    cases e514
                    replace hx514_0 := (HB.out.cell (World.block_lt_of_cell? w _ hx514_0)).trans hx514_0
                    replace p514 := eq_true p514
                    replace q514 := eq_true q514
                    have p515 : 0 ≤ ((rd ((rd_T50 l0_0 x10_1).f2) x12_2) : Int) := of_decide_eq_true (by first | (with_reducible assumption) | assumption)
                    have q515 : (rd ((rd_T50 l0_0 x10_1).f2) x12_2) < (y508.length : Int) := of_decide_eq_true (by first | (with_reducible assumption) | assumption)
                    obtain ⟨ad515, e515, hx515_0⟩ := Kd.at_int (Kd.R_reads' HO_8.out).2.2 (rd ((rd_T50 l0_0 x10_1).f2) x12_2) p515 q515
                    obtain rfl : (⟨go24, 0, none⟩ : Addr) = ad515 := (by injection e515)
                    (first | simp only [add_plain] at hx515_0 | simp only [add_at] at hx515_0 | simp only [Addr.add, Nat.zero_add] at hx515_0 | skip)
                    replace p515 := eq_true p515
                    replace q515 := eq_true q515
                    refine start_ (n := 18) (S := fun w' => w'.cell? ⟨gb511, 0, none⟩ = some (.int .i64 ((rd_T50 l0_0 x10_1).f0)) ∧ w'.cell? ⟨gb511, 1, none⟩ = some (.int .i64 ((rd_T50 l0_0 x10_1).f1)) ∧ w'.cell? ⟨gb511, 2, none⟩ = some (u512002) ∧ w'.cell? ⟨gb497, 0, none⟩ = some (.slice (some ad509) l0_0.length c0_0) ∧ w'.cell? (ad509.add ((x10_1).toNat * 3)) = some (.int .i64 ((rd_T50 l0_0 x10_1).f0)) ∧ w'.cell? ⟨(ad509.add ((x10_1).toNat * 3)).block, (ad509.add ((x10_1).toNat * 3)).off + 1, none⟩ = some (.int .i64 ((rd_T50 l0_0 x10_1).f1)) ∧ w'.cell? ⟨(ad509.add ((x10_1).toNat * 3)).block, (ad509.add ((x10_1).toNat * 3)).off + 2, none⟩ = some (.slice (some ad514) ((rd_T50 l0_0 x10_1).f2).length c513_2) ∧ w'.cell? (ad514.add (x12_2).toNat) = some (.int .i64 (rd ((rd_T50 l0_0 x10_1).f2) x12_2)) ∧ w'.cell? ⟨go24, ((rd ((rd_T50 l0_0 x10_1).f2) x12_2)).toNat, none⟩ = some (.int .i64 (rd y508 (rd ((rd_T50 l0_0 x10_1).f2) x12_2)))) (ds := [15, 17]) #[false, false, false, false, false, false, false, false, false, false, false, false, false, false, false, false, false, false] (by kernel_rfl) rfl rfl ⟨(blk_cell BK511.out 0).trans rfl, (blk_cell BK511.out 1).trans rfl, (blk_cell BK511.out 2).trans rfl, (blk_cell BK497.out 0).trans rfl, ((HB.out.cell (World.block_lt_of_cell? w _ hw513_0)).trans hw513_0), ((HB.out.cell (World.block_lt_of_cell? w _ hw513_1)).trans hw513_1), ((HB.out.cell (World.block_lt_of_cell? w _ hw513_2)).trans hw513_2), ((HB.out.cell (World.block_lt_of_cell? w _ hw514_0)).trans hw514_0), hx515_0⟩ (fun hHeld => ?_); refine with_tabW cleanseref18_Keep.tab15 cleanseref18_Keep.bits15 (fun HT_ HW_ => ?_)
                    generalize wr.drew = w48 at HO_7 HO_8 HO_507000 HO_512002 BK497 BK498 BK506 BK511 HB HR513_2 hx513_0 hx513_1 hx513_2 hx514_0 hx515_0 hHeld ⊢
                    refine pure_ (i := 0) (N := some 67) (v := ?_) (a' := ?_) #[true, false, false, false, false, false, false, false, false, false, false, false, false, false, false, false, false, false] rfl rfl (any_of HT_.out (by kernel_rfl)) (fun _ _ _ h => h) (Or.inl ⟨by rfl, ?_⟩) ?_ ?_
                    rotate_left
                    ·intro w'
                     go_simp
                     with_reducible rfl
                    rotate_left
                    ·simp only [Act.put, List.setIfInBounds_toArray, List.set_cons_zero, List.set_cons_succ, i64_w, i32_w]
                     rfl
                    refine pure_ (i := 2) (N := some 69) (v := ?_) (a' := ?_) #[true, false, true, false, false, false, false, false, false, false, false, false, false, false, false, false, false, false] rfl rfl (any_of HT_.out (by kernel_rfl)) (fun _ _ _ h => h) (Or.inl ⟨by rfl, ?_⟩) ?_ ?_
                    rotate_left
                    ·intro w'
                     go_simp
                     with_reducible rfl
                    rotate_left
                    ·simp only [Act.put, List.setIfInBounds_toArray, List.set_cons_zero, List.set_cons_succ, i64_w, i32_w]
                     rfl
                    refine pure_ (i := 3) (N := some 70) (v := ?_) (a' := ?_) #[true, false, true, true, false, false, false, false, false, false, false, false, false, false, false, false, false, false] rfl rfl (any_of HT_.out (by kernel_rfl)) (fun _ _ _ h => h) (Or.inl ⟨by rfl, ?_⟩) ?_ ?_
                    rotate_left
                    ·intro w'
                     go_simp
                     with_reducible rfl
                    rotate_left
                    ·simp only [Act.put, List.setIfInBounds_toArray, List.set_cons_zero, List.set_cons_succ, i64_w, i32_w]
                     rfl
                    refine pure_ (i := 5) (N := some 72) (v := ?_) (a' := ?_) #[true, false, true, true, false, true, false, false, false, false, false, false, false, false, false, false, false, false] rfl rfl (any_of HT_.out (by kernel_rfl)) (fun _ _ _ h => h) (Or.inl ⟨by rfl, ?_⟩) ?_ ?_
                    rotate_left
                    ·intro w'
                     go_simp
                     with_reducible rfl
                    rotate_left
                    ·simp only [Act.put, List.setIfInBounds_toArray, List.set_cons_zero, List.set_cons_succ, i64_w, i32_w]
                     rfl
                    refine pure_ (i := 9) (N := some 76) (v := ?_) (a' := ?_) #[true, false, true, true, false, true, false, false, false, true, false, false, false, false, false, false, false, false] rfl rfl (any_of HT_.out (by kernel_rfl)) (fun _ _ _ h => h) (Or.inl ⟨by rfl, ?_⟩) ?_ ?_
                    rotate_left
                    ·intro w'
                     go_simp
                     with_reducible rfl
                    rotate_left
                    ·simp only [Act.put, List.setIfInBounds_toArray, List.set_cons_zero, List.set_cons_succ, i64_w, i32_w]
                     rfl
                    refine take_ (i := 1) (N := some 68) (v := ?_) (a' := ?_) #[true, true, true, true, false, true, false, false, false, true, false, false, false, false, false, false, false, false] rfl rfl (take_ofW HT_.out HW_.out (by kernel_rfl)) (fun _ _ _ h => h) (Or.inl ⟨by rfl, ?_⟩) hHeld ?_ ?_
                    rotate_left
                    ·rintro w' ⟨s0, s1, s2, s3, s4, s5, s6, s7, s8⟩
                     go_simp
                     with_reducible rfl
                    rotate_left
                    ·simp only [Act.put, List.setIfInBounds_toArray, List.set_cons_zero, List.set_cons_succ, i64_w, i32_w]
                     rfl
                    refine take_ (i := 4) (N := some 71) (v := ?_) (a' := ?_) #[true, true, true, true, true, true, false, false, false, true, false, false, false, false, false, false, false, false] rfl rfl (take_ofW HT_.out HW_.out (by kernel_rfl)) (fun _ _ _ h => h) (Or.inl ⟨by rfl, ?_⟩) hHeld ?_ ?_
                    rotate_left
                    ·rintro w' ⟨s0, s1, s2, s3, s4, s5, s6, s7, s8⟩
                     go_simp
                     with_reducible rfl
                    rotate_left
                    ·simp only [Act.put, List.setIfInBounds_toArray, List.set_cons_zero, List.set_cons_succ, i64_w, i32_w]
                     rfl
                    refine pure_ (i := 6) (N := some 73) (v := ?_) (a' := ?_) #[true, true, true, true, true, true, true, false, false, true, false, false, false, false, false, false, false, false] rfl rfl (any_of HT_.out (by kernel_rfl)) (fun _ _ _ h => h) (Or.inl ⟨by rfl, ?_⟩) ?_ ?_
                    rotate_left
                    ·intro w'
                     go_simp
                     with_reducible rfl
                    rotate_left
                    ·simp only [Act.put, List.setIfInBounds_toArray, List.set_cons_zero, List.set_cons_succ, i64_w, i32_w]
                     rfl
                    refine pure_ (i := 7) (N := some 74) (v := ?_) (a' := ?_) #[true, true, true, true, true, true, true, true, false, true, false, false, false, false, false, false, false, false] rfl rfl (any_of HT_.out (by kernel_rfl)) (fun _ _ _ h => h) (Or.inl ⟨by rfl, ?_⟩) ?_ ?_
                    rotate_left
                    ·intro w'
                     go_simp
                     with_reducible rfl
                    rotate_left
                    ·simp only [Act.put, List.setIfInBounds_toArray, List.set_cons_zero, List.set_cons_succ, i64_w, i32_w]
                     rfl
                    refine take_ (i := 8) (N := some 75) (v := ?_) (a' := ?_) #[true, true, true, true, true, true, true, true, true, true, false, false, false, false, false, false, false, false] rfl rfl (take_ofW HT_.out HW_.out (by kernel_rfl)) (fun _ _ _ h => h) (Or.inl ⟨by rfl, ?_⟩) hHeld ?_ ?_
                    rotate_left
                    ·rintro w' ⟨s0, s1, s2, s3, s4, s5, s6, s7, s8⟩
                     go_simp
                     with_reducible rfl
                    rotate_left
                    ·simp only [Act.put, List.setIfInBounds_toArray, List.set_cons_zero, List.set_cons_succ, i64_w, i32_w]
                     rfl
                    refine pure_ (i := 10) (N := some 77) (v := ?_) (a' := ?_) #[true, true, true, true, true, true, true, true, true, true, true, false, false, false, false, false, false, false] rfl rfl (any_of HT_.out (by kernel_rfl)) (fun _ _ _ h => h) (Or.inl ⟨by rfl, ?_⟩) ?_ ?_
                    rotate_left
                    ·intro w'
                     go_simp
                     with_reducible rfl
                    rotate_left
                    ·simp only [Act.put, List.setIfInBounds_toArray, List.set_cons_zero, List.set_cons_succ, i64_w, i32_w]
                     rfl
                    refine take_ (i := 11) (N := some 78) (v := ?_) (a' := ?_) #[true, true, true, true, true, true, true, true, true, true, true, true, false, false, false, false, false, false] rfl rfl (take_ofW HT_.out HW_.out (by kernel_rfl)) (fun _ _ _ h => h) (Or.inl ⟨by rfl, ?_⟩) hHeld ?_ ?_
                    rotate_left
                    ·rintro w' ⟨s0, s1, s2, s3, s4, s5, s6, s7, s8⟩
                     go_simp
                     with_reducible rfl
                    rotate_left
                    ·simp only [Act.put, List.setIfInBounds_toArray, List.set_cons_zero, List.set_cons_succ, i64_w, i32_w]
                     rfl
                    refine pure_ (i := 12) (N := some 79) (v := ?_) (a' := ?_) #[true, true, true, true, true, true, true, true, true, true, true, true, true, false, false, false, false, false] rfl rfl (any_of HT_.out (by kernel_rfl)) (fun _ _ _ h => h) (Or.inl ⟨by rfl, ?_⟩) ?_ ?_
                    rotate_left
                    ·intro w'
                     go_simp
                     with_reducible rfl
                    rotate_left
                    ·simp only [Act.put, List.setIfInBounds_toArray, List.set_cons_zero, List.set_cons_succ, i64_w, i32_w]
                     rfl
                    refine take_ (i := 13) (N := some 80) (v := ?_) (a' := ?_) #[true, true, true, true, true, true, true, true, true, true, true, true, true, true, false, false, false, false] rfl rfl (take_ofW HT_.out HW_.out (by kernel_rfl)) (fun _ _ _ h => h) (Or.inl ⟨by rfl, ?_⟩) hHeld ?_ ?_
                    rotate_left
                    ·rintro w' ⟨s0, s1, s2, s3, s4, s5, s6, s7, s8⟩
                     go_simp
                     with_reducible rfl
                    rotate_left
                    ·simp only [Act.put, List.setIfInBounds_toArray, List.set_cons_zero, List.set_cons_succ, i64_w, i32_w]
                     rfl
                    refine one_ (i := 14) (N := some 81) #[true, true, true, true, true, true, true, true, true, true, true, true, true, true, true, false, false, false] rfl rfl (one_of HT_.out (by kernel_rfl)) (by decide) (fun K hK => ?_)
                    refine value_ (w1 := ?_) (v := ?_) (by rfl) rfl ?_ ?_
                    rotate_left 2
                    ·go_simp
                     constructor
                     ·rfl
                     ·rfl
                    refine hK.out _ _ ⟨(blk_cell (blk_alloc BK511.out _) 0).trans rfl, (blk_cell (blk_alloc BK511.out _) 1).trans rfl, (blk_cell (blk_alloc BK511.out _) 2).trans rfl, (blk_cell (blk_alloc BK497.out _) 0).trans rfl, (World.cell?_alloc_lt _ _ _ (World.block_lt_of_cell? _ _ (((HB.out.cell (World.block_lt_of_cell? w _ hw513_0)).trans hw513_0)))).trans (((HB.out.cell (World.block_lt_of_cell? w _ hw513_0)).trans hw513_0)), (World.cell?_alloc_lt _ _ _ (World.block_lt_of_cell? _ _ (((HB.out.cell (World.block_lt_of_cell? w _ hw513_1)).trans hw513_1)))).trans (((HB.out.cell (World.block_lt_of_cell? w _ hw513_1)).trans hw513_1)), (World.cell?_alloc_lt _ _ _ (World.block_lt_of_cell? _ _ (((HB.out.cell (World.block_lt_of_cell? w _ hw513_2)).trans hw513_2)))).trans (((HB.out.cell (World.block_lt_of_cell? w _ hw513_2)).trans hw513_2)), (World.cell?_alloc_lt _ _ _ (World.block_lt_of_cell? _ _ (((HB.out.cell (World.block_lt_of_cell? w _ hw514_0)).trans hw514_0)))).trans (((HB.out.cell (World.block_lt_of_cell? w _ hw514_0)).trans hw514_0)), (World.cell?_alloc_lt _ _ _ (World.block_lt_of_cell? _ _ (hHeld.2.2.2.2.2.2.2.2))).trans (hHeld.2.2.2.2.2.2.2.2)⟩ (fun hHeld => ?_)
                    clear hK K
                    refine norm_ (a' := ?_) ?_ ?_
                    rotate_left
                    ·show Act.put _ (some 81) _ = _
                     simp only [Act.put, List.setIfInBounds_toArray, List.set_cons_zero, List.set_cons_succ, i64_w, i32_w]
                     rfl
                    refine last_ (i := 15) (N := some 82) #[true, true, true, true, true, true, true, true, true, true, true, true, true, true, true, true, false, false] rfl rfl (one_of HT_.out (by kernel_rfl)) (by decide) (fun K hK => ?_)
                    refine Kd.R_append_step (Kd.int .i64) (w0 := w) w.heap.size (by rfl) (.tmp 68) (.tmp 81) 25 3 (.int .i64 0) 8 rfl Tryd.underlying25 info3 rfl (by decide) (by omega) u512002 x512002_2 (rd y508 (rd ((rd_T50 l0_0 x10_1).f2) x12_2)) [.int .i64 (rd y508 (rd ((rd_T50 l0_0 x10_1).f2) x12_2))] (fun k_ => some k_ ≠ (.slice (some ⟨go24, 0, none⟩) y508.length co24 : Value).ownBlock) (fun _ => False) rfl rfl ?aP (fun _ hk => hk.elim) ?aF ?aO ?aB ?aS ?aL ?_
                    (case aP => exact rfl)
                    (case aB => exact (by repeat (first | (with_reducible first | exact HB.out | apply below_alloc | apply pw_below_drewN | apply below_drew1 | refine below_set ?_ GE497.out | refine below_set ?_ GE498.out | refine below_set ?_ GE506.out | refine below_set ?_ GE511.out) | exact HB.out)))
                    (case aF => exact (fun k_ hk => Kd.fresh' (Kd.R_lt (by (with_reducible repeat (first | apply Kd.R_alloc | apply Kd.R_drewN | apply Kd.R_drew)); exact HO_8.out)) k_ hk))
                    (case aO => exact (by (with_reducible repeat (first | apply Kd.R_alloc | apply Kd.R_drewN | apply Kd.R_drew)); exact HO_512002.out))
                    (case aS => exact (below_size (by repeat (first | (with_reducible first | exact HB.out | apply below_alloc | apply pw_below_drewN | apply below_drew1 | refine below_set ?_ GE497.out | refine below_set ?_ GE498.out | refine below_set ?_ GE506.out | refine below_set ?_ GE511.out) | exact HB.out))))
                    (case aL => have := LMc43.out; omega)
                    intro v517 w49 ho hb hg hat
                    rw [← Ny516.out] at ho
                    have n0_ := Aside0.mk (Kd.R_over' (by (with_reducible repeat (first | apply Kd.R_alloc | apply Kd.R_drewN | apply Kd.R_drew)); exact HO_7.out) (Kd.R_typed (by (with_reducible repeat (first | apply Kd.R_alloc | apply Kd.R_drewN | apply Kd.R_drew)); exact HO_512002.out)) (by decide) hg)
                    have n1_ := Aside0.mk (Kd.R_after (ok := (fun _ => True)) (by (with_reducible repeat (first | apply Kd.R_alloc | apply Kd.R_drewN | apply Kd.R_drew)); exact Kd.R_mono HO_8.out (fun _ hk => ⟨trivial, hk⟩)) hg hat)
                    have n2_ := Aside0.mk (Kd.S_after (ok := (fun k_ => some k_ ≠ (.slice (some ⟨go24, 0, none⟩) y508.length co24 : Value).ownBlock ∧ k_ ≠ gb511)) (by (with_reducible repeat (first | apply Kd.S_alloc | apply Kd.S_drewN | apply Kd.S_drew)); exact Kd.S_mono HO_507000.out (fun _ hk => ⟨⟨hk.1, hk.2.2⟩, hk.2.1⟩)) hg hat)
                    have n3_ := Aside0.mk (blk_grown (g := gb497) (o := .cells #[.slice (some ad509) l0_0.length c0_0] 24 (0, 0)) (by (with_reducible repeat (first | refine blk_drewN ?_ _ | refine blk_drew ?_ | refine blk_alloc ?_ _)); exact BK497.out) hg (Kd.R_ne HO_512002.out BK497.out (by decide)))
                    have n4_ := Aside0.mk (blk_grown (g := gb498) (o := .cells #[.slice none 0 0] 24 (0, 0)) (by (with_reducible repeat (first | refine blk_drewN ?_ _ | refine blk_drew ?_ | refine blk_alloc ?_ _)); exact BK498.out) hg (Kd.R_ne HO_512002.out BK498.out (by decide)))
                    have n5_ := Aside0.mk (blk_grown (g := gb506) (o := .cells #[.slice Ao29 x507000_1.length co29] 24 (0, 0)) (by (with_reducible repeat (first | refine blk_drewN ?_ _ | refine blk_drew ?_ | refine blk_alloc ?_ _)); exact BK506.out) hg (Kd.R_ne HO_512002.out BK506.out (by decide)))
                    have n6_ := Aside0.mk (blk_grown (g := gb511) (o := .cells #[.int .i64 ((rd_T50 l0_0 x10_1).f0), .int .i64 ((rd_T50 l0_0 x10_1).f1), u512002] 50 (0, 0)) (by (with_reducible repeat (first | refine blk_drewN ?_ _ | refine blk_drew ?_ | refine blk_alloc ?_ _)); exact BK511.out) hg (Kd.R_ne HO_512002.out BK511.out (by decide)))
                    have n7_ := Aside0.mk (hb)
                    have n8_ := Aside0.mk (ho)
                    clear HO_7
                    clear HO_8
                    clear HO_507000
                    clear BK497
                    clear BK498
                    clear BK506
                    clear BK511
                    clear HB
                    clear HO_512002
                    have HO_7 := n0_
                    have HO_8 := n1_
                    have HO_507000 := n2_
                    have BK497 := n3_
                    have BK498 := n4_
                    have BK506 := n5_
                    have BK511 := n6_
                    have HB := n7_
                    have HO518 := n8_
                    clear n0_ n1_ n2_ n3_ n4_ n5_ n6_ n7_ n8_
                    clear ho hb hg hat
                    obtain ⟨Ao50, co50, eo50⟩ := Kd.R_slice HO518.out
                    (first | subst eo50 | (injection eo50 with f1_ f2_ f3_; have f4_ := f1_.symm; have f5_ := f3_.symm; clear f1_ f2_ f3_; subst f4_; subst f5_))
                    refine hK.out _ _ ?_
                    clear hK K
                    refine norm_ (a' := ?_) ?_ ?_
                    rotate_left
                    ·show Act.put _ (some 82) _ = _
                     simp only [Act.put, List.setIfInBounds_toArray, List.set_cons_zero, List.set_cons_succ, i64_w, i32_w]
                     rfl
                    refine pure_ (i := 16) (N := some 83) (v := ?_) (a' := ?_) #[true, true, true, true, true, true, true, true, true, true, true, true, true, true, true, true, true, false] rfl rfl (any_of HT_.out (by kernel_rfl)) (fun _ _ _ h => h) (Or.inl ⟨by rfl, ?_⟩) ?_ ?_
                    rotate_left
                    ·intro w'
                     go_simp
                     with_reducible rfl
                    rotate_left
                    ·simp only [Act.put, List.setIfInBounds_toArray, List.set_cons_zero, List.set_cons_succ, i64_w, i32_w]
                     rfl
                    refine last_ (i := 17) (N := none) #[true, true, true, true, true, true, true, true, true, true, true, true, true, true, true, true, true, true] rfl rfl (one_of HT_.out (by kernel_rfl)) (by decide) (fun K hK => ?_)
                    have hs51 : w49.cell? ⟨gb511, 2, none⟩ = some (u512002) := (blk_cell BK511.out 2).trans rfl
                    have hfs51 := blk_frozen BK511.out 2
                    have hns51_0 := NB497_511.out
                    have hns51_1 := NB498_511.out
                    have hns51_2 := NB506_511.out
                    have hms51_0 := NB511_497.out
                    have hms51_1 := NB511_498.out
                    have hms51_2 := NB511_506.out
                    refine skip_ (w1 := ?_) (by rfl) rfl ?_ ?_
                    rotate_left
                    ·go_simp
                     rfl
                    refine hK.out _ _ ?_
                    clear hK K
                    refine done_ (done_of HT_.out (by kernel_rfl)) ?_
                    try go_wp2
                    (try simp only [← hl8_2])
                    go_roundg k2
                    case measure => have := HK1.out; have := HK2.out; omega
                    case rel => exact ⟨(wrap64 (x12_2 + 1)), (y516), (.slice Ao50 y516.length co50), (by first | rfl | (simp; done) | (simp [*]; done)), H', ⟨by have := HK1.out; have := HK2.out; omega⟩, ⟨by (try simp only [hl8_2]); (with_reducible repeat (first | apply Kd.R_alloc | apply Kd.R_drewN | apply Kd.R_drew)); exact Kd.R_mono (Kd.R_far (p := ⟨gb511, 2, none⟩) (Kd.R_types HO_7.out BK511.out (by decide)) (fun _ hk => hk.2) (.slice Ao50 y516.length co50)) (fun _ hk => trivial)⟩, ⟨by (try simp only [hl8_2]); (with_reducible repeat (first | apply Kd.R_alloc | apply Kd.R_drewN | apply Kd.R_drew)); exact Kd.R_mono (Kd.R_far (p := ⟨gb511, 2, none⟩) (Kd.R_types HO_8.out BK511.out (by decide)) (fun _ hk => hk.2) (.slice Ao50 y516.length co50)) (fun _ hk => hk.1.2)⟩, ⟨by (try simp only [hl8_2]); (with_reducible repeat (first | apply Kd.S_alloc | apply Kd.S_drewN | apply Kd.S_drew)); exact Kd.S_mono (Kd.S_far (p := ⟨gb511, 2, none⟩) (Kd.S_mono HO_507000.out (fun k_ hk => (⟨hk, hk.1.2⟩ : _ ∧ k_ ≠ gb511))) (fun _ hk => hk.2) (.slice Ao50 y516.length co50)) (fun _ hk => ⟨hk.1.1.1, ⟨hk.1.2, hk.1.1.2⟩⟩)⟩, ⟨by (try simp only [hl8_2]); (with_reducible repeat (first | apply Kd.R_alloc | apply Kd.R_drewN | apply Kd.R_drew)); exact Kd.R_mono (Kd.R_far (p := ⟨gb511, 2, none⟩) (Kd.R_types HO518.out BK511.out (by decide)) (fun _ hk => hk.2) (.slice Ao50 y516.length co50)) (fun _ hk => hk.1)⟩, ⟨by (try simp only [hl8_2]); (with_reducible repeat (first | refine blk_drewN ?_ _ | refine blk_drew ?_ | refine blk_alloc ?_ _)); refine blk_far ?_ NB497_511.out _; (with_reducible repeat (first | refine blk_drewN ?_ _ | refine blk_drew ?_ | refine blk_alloc ?_ _)); exact BK497.out⟩, ⟨by (try simp only [hl8_2]); (with_reducible repeat (first | refine blk_drewN ?_ _ | refine blk_drew ?_ | refine blk_alloc ?_ _)); refine blk_far ?_ NB498_511.out _; (with_reducible repeat (first | refine blk_drewN ?_ _ | refine blk_drew ?_ | refine blk_alloc ?_ _)); exact BK498.out⟩, ⟨by (try simp only [hl8_2]); (with_reducible repeat (first | refine blk_drewN ?_ _ | refine blk_drew ?_ | refine blk_alloc ?_ _)); refine blk_far ?_ NB506_511.out _; (with_reducible repeat (first | refine blk_drewN ?_ _ | refine blk_drew ?_ | refine blk_alloc ?_ _)); exact BK506.out⟩, ⟨by (try simp only [hl8_2]); (with_reducible repeat (first | refine blk_drewN ?_ _ | refine blk_drew ?_ | refine blk_alloc ?_ _)); refine blk_put (cs := #[.int .i64 ((rd_T50 l0_0 x10_1).f0), .int .i64 ((rd_T50 l0_0 x10_1).f1), u512002]) ?_ 2 _ rfl; (with_reducible repeat (first | refine blk_drewN ?_ _ | refine blk_drew ?_ | refine blk_alloc ?_ _)); exact BK511.out⟩, ⟨by repeat (first | (with_reducible first | exact HB.out | apply below_alloc | apply pw_below_drewN | apply below_drew1 | refine below_set ?_ GE497.out | refine below_set ?_ GE498.out | refine below_set ?_ GE506.out | refine below_set ?_ GE511.out) | exact HB.out)⟩⟩
                   ·rw [if_neg c43] at H
                    exact absurd H (by simp)
                  ·rw [if_neg c42] at H
                   exact absurd H (by simp)
                 ·rw [if_neg c41] at H
                  exact absurd H (by simp)
                ·rw [if_neg c40] at H
                 exact absurd H (by simp)
               ·rw [if_neg c39] at H
                have c39b0 : decide (x12_2 < (((rd_T50 l0_0 x10_1).f2).length : Int)) = false := decide_eq_false c39
                clear c39
                by_cases c52 : x507000_1.length < 3518437208883
                ·rw [if_pos c52] at H
                 have LMc52 := Aside0.mk c52
                 clear c52
                 obtain ⟨y519, hy519⟩ : ∃ y_ : List (S50), y_ = (x507000_1 ++ [(⟨((rd_T50 l0_0 x10_1).f0), ((rd_T50 l0_0 x10_1).f1), x512002_2⟩ : S50)]) := ⟨_, rfl⟩
                 replace H : (cleanseref18_Keep.l0 k2 l1 t500 y508 (wrap64 (x10_1 + 1)) l0_0 y519) = some (r1, r2, r3) := by first | (rw [hy519]; with_reducible exact H) | (have H2_ := (Option.bind_some _ _).symm.trans H; rw [hy519]; with_reducible exact H2_) | (have H2_ := (Option.bind_some _ _).symm.trans H; with_reducible exact H2_) | with_reducible exact H | (rw [hy519]; exact H) | exact H
                 have Ny519 := Aside0.mk hy519
                 clear hy519
                 have H' := Aside0.mk H
                 clear H
                 have hnb53 := NB497_498.out
                 have hnc53 := NB498_497.out
                 have hnb54 := NB497_506.out
                 have hnc54 := NB506_497.out
                 have hnb55 := NB497_511.out
                 have hnc55 := NB511_497.out
                 have hcz56_0 : wr.cell? ⟨gb497, 0, none⟩ = some (.slice (some ad509) l0_0.length c0_0) := (blk_cell BK497.out 0).trans rfl
                 have hfz56_0 := blk_frozen BK497.out 0
                 have p512 : 0 ≤ (x10_1 : Int) := of_decide_eq_true (by first | (with_reducible assumption) | assumption)
                 have q512 : x10_1 < (l0_0.length : Int) := of_decide_eq_true (by first | (with_reducible assumption) | assumption)
                 obtain ⟨ad512, A512_2, c512_2, e512, hx512_0, hx512_1, hx512_2, hl512_2, hi512_2⟩ := at_T50 HR0_0.out x10_1 p512 q512
                 obtain rfl : ad509 = ad512 := (by injection e512)
                 replace hx512_0 := (HB.out.cell (World.block_lt_of_cell? w _ hx512_0)).trans hx512_0
                 replace hx512_1 := (HB.out.cell (World.block_lt_of_cell? w _ hx512_1)).trans hx512_1
                 replace hx512_2 := (HB.out.cell (World.block_lt_of_cell? w _ hx512_2)).trans hx512_2
                 have HR512_2 := Aside0.mk hi512_2
                 have HC512_2 := Aside0.mk hl512_2
                 clear hi512_2 hl512_2
                 replace p512 := eq_true p512
                 replace q512 := eq_true q512
                 have hnb57 := NB506_498.out
                 have hnc57 := NB498_506.out
                 have hnb58 := NB506_511.out
                 have hnc58 := NB511_506.out
                 have hcz59_0 : wr.cell? ⟨gb506, 0, none⟩ = some (.slice Ao29 x507000_1.length co29) := (blk_cell BK506.out 0).trans rfl
                 have hfz59_0 := blk_frozen BK506.out 0
                 have hnb60 := NB511_498.out
                 have hnc60 := NB498_511.out
                 have hcz61_0 : wr.cell? ⟨gb511, 0, none⟩ = some (.int .i64 ((rd_T50 l0_0 x10_1).f0)) := (blk_cell BK511.out 0).trans rfl
                 have hcz61_1 : wr.cell? ⟨gb511, 1, none⟩ = some (.int .i64 ((rd_T50 l0_0 x10_1).f1)) := (blk_cell BK511.out 1).trans rfl
                 have hcz61_2 : wr.cell? ⟨gb511, 2, none⟩ = some (u512002) := (blk_cell BK511.out 2).trans rfl
                 have hfz61_0 := blk_frozen BK511.out 0
                 have hfz61_1 := blk_frozen BK511.out 1
                 have hfz61_2 := blk_frozen BK511.out 2
                 obtain ⟨Ao63, co63, eo63⟩ := Kd.R_slice HO_512002.out
                 subst eo63
                 go_wp2_with (first | ((with_reducible refine gate_builtin (b := .append) (xs := #[.tmp 85, .tmp 87]) rfl ?_); at_builtin; refine Kd.S_append k50 (w0 := w) w.heap.size rfl (.tmp 85) (.tmp 87) 22 50 (.agg #[(.int .i64 0), (.int .i64 0), (.slice none 0 0)]) 40 rfl Tryd.underlying22 info50 rfl (by decide) (by omega) (.slice Ao29 x507000_1.length co29) x507000_1 (⟨((rd_T50 l0_0 x10_1).f0), ((rd_T50 l0_0 x10_1).f1), x512002_2⟩ : S50) [.int .i64 ((rd_T50 l0_0 x10_1).f0), .int .i64 ((rd_T50 l0_0 x10_1).f1), .slice Ao63 x512002_2.length co63] (fun k_ => some k_ ≠ (.slice (some ⟨go24, 0, none⟩) y508.length co24 : Value).ownBlock ∧ k_ ≠ gb511) (fun k_ => some k_ = (.slice Ao63 x512002_2.length co63 : Value).ownBlock) rfl rfl ?aP (fun k_ hk_ => ((Kd.R_mono (ok' := fun k_ => ((fun k_ => some k_ ≠ (.slice (some ⟨go24, 0, none⟩) y508.length co24 : Value).ownBlock ∧ k_ ≠ gb511)) k_ ∧ some k_ ≠ (.slice Ao29 x507000_1.length co29 : Value).ownBlock) (Kd.R_types (Kd.R_apart' (HO_512002.out) (Kd.S_typed HO_507000.out) (by decide)) BK511.out (by decide)) (fun k_ hk => ⟨⟨hk.1.1, hk.2⟩, hk.1.2⟩))).1 k_ hk_.symm) ?aF ?aO ?aB ?aS ?aL ?_; (case aP => exact k50_mkM _ _ _ (⟨((rd_T50 l0_0 x10_1).f0), ((rd_T50 l0_0 x10_1).f1), x512002_2⟩ : S50) (Kd.R_mono (Kd.R_tight rfl (Kd.R_mono (ok' := fun k_ => ((fun k_ => some k_ ≠ (.slice (some ⟨go24, 0, none⟩) y508.length co24 : Value).ownBlock ∧ k_ ≠ gb511)) k_ ∧ some k_ ≠ (.slice Ao29 x507000_1.length co29 : Value).ownBlock) (Kd.R_types (Kd.R_apart' (HO_512002.out) (Kd.S_typed HO_507000.out) (by decide)) BK511.out (by decide)) (fun k_ hk => ⟨⟨hk.1.1, hk.2⟩, hk.1.2⟩))) (fun _ h_ => h_))); (case aB => exact (by repeat (first | (with_reducible first | exact HB.out | apply below_alloc | apply pw_below_drewN | apply below_drew1 | refine below_set ?_ GE497.out | refine below_set ?_ GE498.out | refine below_set ?_ GE506.out | refine below_set ?_ GE511.out) | exact HB.out))); (case aF => exact (fun k_ hk => ⟨Kd.fresh' (Kd.R_lt (by (with_reducible repeat (first | apply Kd.R_alloc | apply Kd.R_drewN | apply Kd.R_drew)); exact HO_8.out)) k_ hk, Kd.freshB (g := gb511) (o := .cells #[.int .i64 ((rd_T50 l0_0 x10_1).f0), .int .i64 ((rd_T50 l0_0 x10_1).f1), .slice Ao63 x512002_2.length co63] 50 (0, 0)) (by (with_reducible repeat (first | refine blk_drewN ?_ _ | refine blk_drew ?_ | refine blk_alloc ?_ _)); exact BK511.out) k_ hk⟩)); (case aO => exact (by (with_reducible repeat (first | apply Kd.S_alloc | apply Kd.S_drewN | apply Kd.S_drew)); exact Kd.S_mono HO_507000.out (fun k_ hk => ⟨⟨hk.1, hk.2.2⟩, fun e_ => hk.2.1 e_⟩))); (case aS => exact (below_size (by repeat (first | (with_reducible first | exact HB.out | apply below_alloc | apply pw_below_drewN | apply below_drew1 | refine below_set ?_ GE497.out | refine below_set ?_ GE498.out | refine below_set ?_ GE506.out | refine below_set ?_ GE511.out) | exact HB.out)))); (case aL => have := LMc52.out; omega); intro v520 w62 ho hb hg hat; rw [← Ny519.out] at ho; have n0_ := Aside0.mk (Kd.R_over' (by (with_reducible repeat (first | apply Kd.R_alloc | apply Kd.R_drewN | apply Kd.R_drew)); exact HO_7.out) (Kd.S_typed (by (with_reducible repeat (first | apply Kd.S_alloc | apply Kd.S_drewN | apply Kd.S_drew)); exact HO_507000.out)) (by decide) hg); have n1_ := Aside0.mk (Kd.R_over' (by (with_reducible repeat (first | apply Kd.R_alloc | apply Kd.R_drewN | apply Kd.R_drew)); exact HO_8.out) (Kd.S_typed (by (with_reducible repeat (first | apply Kd.S_alloc | apply Kd.S_drewN | apply Kd.S_drew)); exact HO_507000.out)) (by decide) hg); have n2_ := Aside0.mk (blk_grown (g := gb497) (o := .cells #[.slice (some ad509) l0_0.length c0_0] 24 (0, 0)) (by (with_reducible repeat (first | refine blk_drewN ?_ _ | refine blk_drew ?_ | refine blk_alloc ?_ _)); exact BK497.out) hg (Kd.S_ne HO_507000.out BK497.out (by decide))); have n3_ := Aside0.mk (blk_grown (g := gb498) (o := .cells #[.slice none 0 0] 24 (0, 0)) (by (with_reducible repeat (first | refine blk_drewN ?_ _ | refine blk_drew ?_ | refine blk_alloc ?_ _)); exact BK498.out) hg (Kd.S_ne HO_507000.out BK498.out (by decide))); have n4_ := Aside0.mk (blk_grown (g := gb506) (o := .cells #[.slice Ao29 x507000_1.length co29] 24 (0, 0)) (by (with_reducible repeat (first | refine blk_drewN ?_ _ | refine blk_drew ?_ | refine blk_alloc ?_ _)); exact BK506.out) hg (Kd.S_ne HO_507000.out BK506.out (by decide))); have n5_ := Aside0.mk (blk_grown (g := gb511) (o := .cells #[.int .i64 ((rd_T50 l0_0 x10_1).f0), .int .i64 ((rd_T50 l0_0 x10_1).f1), .slice Ao63 x512002_2.length co63] 50 (0, 0)) (by (with_reducible repeat (first | refine blk_drewN ?_ _ | refine blk_drew ?_ | refine blk_alloc ?_ _)); exact BK511.out) hg (Kd.S_away HO_507000.out (fun _ hk => hk.2.2))); have n6_ := Aside0.mk (hb); have n7_ := Aside0.mk (ho); clear HO_7; clear HO_8; clear BK497; clear BK498; clear BK506; clear BK511; clear HB; clear HO_507000; clear HO_512002; have HO_7 := n0_; have HO_8 := n1_; have BK497 := n2_; have BK498 := n3_; have BK506 := n4_; have BK511 := n5_; have HB := n6_; have HO521 := n7_; clear n0_ n1_ n2_ n3_ n4_ n5_ n6_ n7_; clear ho hb hg hat; obtain ⟨Ao64, co64, eo64⟩ := Kd.S_slice HO521.out; subst eo64; have hcz65_0 : w62.cell? ⟨gb506, 0, none⟩ = some (.slice Ao29 x507000_1.length co29) := (blk_cell BK506.out 0).trans rfl; have hfz65_0 := blk_frozen BK506.out 0))
                 (try simp only [← hl8_2])
                 go_roundg k2
                 case measure => have := HK1.out; have := HK2.out; omega
                 case rel => exact ⟨(y508), (wrap64 (x10_1 + 1)), (y519), (.slice Ao64 y519.length co64), (by first | rfl | (simp; done) | (simp [*]; done)), H', ⟨by have := HK1.out; have := HK2.out; omega⟩, ⟨by (try simp only [hl8_2]); (with_reducible repeat (first | apply Kd.R_alloc | apply Kd.R_drewN | apply Kd.R_drew)); exact Kd.R_mono (Kd.R_far (p := ⟨gb506, 0, none⟩) (Kd.R_types HO_7.out BK506.out (by decide)) (fun _ hk => hk.2) (.slice Ao64 y519.length co64)) (fun _ hk => trivial)⟩, ⟨by (try simp only [hl8_2]); (with_reducible repeat (first | apply Kd.R_alloc | apply Kd.R_drewN | apply Kd.R_drew)); exact Kd.R_mono (Kd.R_far (p := ⟨gb506, 0, none⟩) (Kd.R_types HO_8.out BK506.out (by decide)) (fun _ hk => hk.2) (.slice Ao64 y519.length co64)) (fun _ hk => trivial)⟩, ⟨by (try simp only [hl8_2]); (with_reducible repeat (first | apply Kd.S_alloc | apply Kd.S_drewN | apply Kd.S_drew)); exact Kd.S_mono (Kd.S_far (p := ⟨gb506, 0, none⟩) (Kd.S_types HO521.out BK506.out (by decide)) (fun _ hk => hk.2) (.slice Ao64 y519.length co64)) (fun _ hk => hk.1.1)⟩, ⟨by (try simp only [hl8_2]); (with_reducible repeat (first | refine blk_drewN ?_ _ | refine blk_drew ?_ | refine blk_alloc ?_ _)); refine blk_far ?_ NB497_506.out _; (with_reducible repeat (first | refine blk_drewN ?_ _ | refine blk_drew ?_ | refine blk_alloc ?_ _)); exact BK497.out⟩, ⟨by (try simp only [hl8_2]); (with_reducible repeat (first | refine blk_drewN ?_ _ | refine blk_drew ?_ | refine blk_alloc ?_ _)); refine blk_far ?_ NB498_506.out _; (with_reducible repeat (first | refine blk_drewN ?_ _ | refine blk_drew ?_ | refine blk_alloc ?_ _)); exact BK498.out⟩, ⟨by (try simp only [hl8_2]); (with_reducible repeat (first | refine blk_drewN ?_ _ | refine blk_drew ?_ | refine blk_alloc ?_ _)); refine blk_put (cs := #[.slice Ao29 x507000_1.length co29]) ?_ 0 _ rfl; (with_reducible repeat (first | refine blk_drewN ?_ _ | refine blk_drew ?_ | refine blk_alloc ?_ _)); exact BK506.out⟩, ⟨by repeat (first | (with_reducible first | exact HB.out | apply below_alloc | apply pw_below_drewN | apply below_drew1 | refine below_set ?_ GE497.out | refine below_set ?_ GE498.out | refine below_set ?_ GE506.out | refine below_set ?_ GE511.out) | exact HB.out)⟩⟩
                ·rw [if_neg c52] at H
                 exact absurd H (by simp)
              ·rw [if_neg c38] at H
               exact absurd H (by simp)
             ·rw [if_neg c37] at H
              exact absurd H (by simp)
          ·rw [if_neg c25] at H
           exact absurd H (by simp)
         ·rw [if_neg c23] at H
          exact absurd H (by simp)
        ·replace c22 := Bool.eq_false_iff.mpr c22
         subst c22
         have H1 : (cleanseref18_Keep.l0 k1 l1 t500 x8_1 (wrap64 (x10_1 + 1)) l0_0 x507000_1) = some (r1, r2, r3) := by rw [if_neg (show ¬ (false = true) by decide)] at H; exact H
         clear H
         have H := H1
         clear H1
         have H' := Aside0.mk H
         clear H
         have p507 : 0 ≤ (x10_1 : Int) := of_decide_eq_true (by first | (with_reducible assumption) | assumption)
         have q507 : x10_1 < (t500.length : Int) := of_decide_eq_true (by first | (with_reducible assumption) | assumption)
         obtain ⟨ad507, e507, hx507_0⟩ := Kd.at_bool (Kd.R_reads' HO_7.out).2.2 x10_1 p507 q507
         (try rw [← Nbq21.out] at hx507_0)
         cases e507
         replace p507 := eq_true p507
         replace q507 := eq_true q507
         go_wp2
         go_roundg k1
         case measure => have := HK1.out; omega
         case rel => exact ⟨(x8_1), (wrap64 (x10_1 + 1)), (x507000_1), (u507000), (by first | rfl | (simp; done) | (simp [*]; done)), H', ⟨by have := HK1.out; omega⟩, ⟨by (with_reducible repeat (first | apply Kd.R_alloc | apply Kd.R_drewN | apply Kd.R_drew)); exact HO_7.out⟩, ⟨by (with_reducible repeat (first | apply Kd.R_alloc | apply Kd.R_drewN | apply Kd.R_drew)); exact HO_8.out⟩, ⟨by (with_reducible repeat (first | apply Kd.S_alloc | apply Kd.S_drewN | apply Kd.S_drew)); exact HO_507000.out⟩, ⟨by (with_reducible repeat (first | refine blk_drewN ?_ _ | refine blk_drew ?_ | refine blk_alloc ?_ _)); exact BK497.out⟩, ⟨by (with_reducible repeat (first | refine blk_drewN ?_ _ | refine blk_drew ?_ | refine blk_alloc ?_ _)); exact BK498.out⟩, ⟨by (with_reducible repeat (first | refine blk_drewN ?_ _ | refine blk_drew ?_ | refine blk_alloc ?_ _)); exact BK506.out⟩, ⟨by repeat (first | (with_reducible first | exact HB.out | apply below_alloc | apply pw_below_drewN | apply below_drew1 | refine below_set ?_ GE497.out | refine below_set ?_ GE498.out | refine below_set ?_ GE506.out) | exact HB.out)⟩⟩
       ·rw [if_neg c20] at H
        exact absurd H (by simp)
      ·rw [if_neg c19] at H
       have c19b0 : decide (x10_1 < (t500.length : Int)) = false := decide_eq_false c19
       clear c19
       have H' := Aside0.mk H
       clear H
       go_wp2
       go_loopg [13, 14] k1 (fun kq v13 v14 w' => ∃ (x13_2 : List Int) (x14_2 : Int), v14 = .int .i64 x14_2 ∧ Aside0 (cleanseref18_Keep.l2 kq l1 x8_1 x13_2 x14_2 x507000_1 = some (r1, r2, r3)) ∧ Aside0 (kq ≤ k1) ∧ Aside0 (Kd.R (Kd.int .i64) 3 w' w.heap.size (fun k_ => some k_ ≠ (v13 : Value).ownBlock) v504 x8_1) ∧ Aside0 (Kd.R (Kd.int .i64) 3 w' w.heap.size (fun k_ => some k_ ≠ (v504 : Value).ownBlock) v13 x13_2) ∧ Aside0 (Kd.S k50 50 w' w.heap.size (fun k_ => some k_ ≠ (v504 : Value).ownBlock ∧ some k_ ≠ (v13 : Value).ownBlock) u507000 x507000_1) ∧ Aside0 (w'.heap[gb497]? = some (.cells #[(.slice A0_0 l0_0.length c0_0)] 24 (0, 0))) ∧ Aside0 (w'.heap[gb498]? = some (.cells #[(.slice none 0 0)] 24 (0, 0))) ∧ Aside0 (w'.heap[gb506]? = some (.cells #[u507000] 24 (0, 0))) ∧ Aside0 (Below w.heap.size w w'))
       case atStart => exact ⟨(([] : List Int)), (0), (by first | rfl | (simp; done) | (simp [*]; done)), H', ⟨Nat.le_refl _⟩, ⟨by (with_reducible repeat (first | apply Kd.R_alloc | apply Kd.R_drewN | apply Kd.R_drew)); exact Kd.R_mono HO_8.out (fun _ hk => (by simp [Value.ownBlock]))⟩, ⟨by first | exact Kd.R_nil _ _ _ _ _ | exact Kd.N_nil _ _ _ _ _ | exact Kd.V_nil _ _ _ _ _ | exact Kd.Q_nil _ _ _ _ _ | exact Kd.S_nil _ _ _ _ _⟩, ⟨by (with_reducible repeat (first | apply Kd.S_alloc | apply Kd.S_drewN | apply Kd.S_drew)); exact Kd.S_mono HO_507000.out (fun _ hk => ⟨hk, (by simp [Value.ownBlock])⟩)⟩, ⟨by (with_reducible repeat (first | refine blk_drewN ?_ _ | refine blk_drew ?_ | refine blk_alloc ?_ _)); exact BK497.out⟩, ⟨by (with_reducible repeat (first | refine blk_drewN ?_ _ | refine blk_drew ?_ | refine blk_alloc ?_ _)); exact BK498.out⟩, ⟨by (with_reducible repeat (first | refine blk_drewN ?_ _ | refine blk_drew ?_ | refine blk_alloc ?_ _)); exact BK506.out⟩, ⟨by repeat (first | (with_reducible first | exact HB.out | apply below_alloc | apply pw_below_drewN | apply below_drew1 | refine below_set ?_ GE497.out | refine below_set ?_ GE498.out | refine below_set ?_ GE506.out) | exact HB.out)⟩⟩
       case round =>
        clear H'
        try clear c1
        try clear c2
        try clear p2
        try clear q2
        try clear hx2
        try clear hf2
        try clear c3
        try clear c4
        try clear c5
        try clear p5
        try clear q5
        try clear hx5
        try clear c6
        try clear c6b0
        try clear c6b1
        try clear p6
        try clear c7
        try clear c7b0
        try clear c7b1
        try clear c10
        try clear c17
        try clear c19
        try clear c19b0
        try clear c20
        try clear c20b0
        try clear q21
        try clear c22
        try clear c23
        try clear c23b0
        try clear p24
        try clear q24
        try clear hx24
        try clear hf24
        try clear c25
        try clear c25b0
        try clear c26
        try clear c27
        try clear c29
        try clear c30
        try clear c37
        try clear c37b0
        try clear c38
        try clear c38b0
        try clear c39
        try clear c39b0
        try clear c40
        try clear c40b0
        try clear c41
        try clear c41b0
        try clear c42
        try clear c42b0
        try clear c43
        try clear c44
        try clear c45
        try clear c46
        try clear p50
        try clear q50
        try clear hx50
        try clear c51
        try clear p51
        try clear q51
        try clear hx51
        try clear c52
        try clear c53
        try clear c54
        try clear c55
        try clear c57
        try clear c58
        try clear c60
        try clear p64
        try clear hcz11_0
        try clear hcz13_0
        try clear hcz28_0
        try clear hcz47_0
        try clear hcz56_0
        try clear hcz59_0
        try clear hcz61_0
        try clear hcz61_1
        try clear hcz61_2
        try clear hcz65_0
        try clear hfz11_0
        try clear hfz13_0
        try clear hfz28_0
        try clear hfz47_0
        try clear hfz56_0
        try clear hfz59_0
        try clear hfz61_0
        try clear hfz61_1
        try clear hfz61_2
        try clear hfz65_0
        try clear hx24_0
        try clear hx507_0
        try clear hx509_0
        try clear hx509_1
        try clear hx509_2
        try clear hx510_0
        try clear hx510_1
        try clear hx510_2
        try clear hx512_0
        try clear hx512_1
        try clear hx512_2
        try clear hx513_0
        try clear hx513_1
        try clear hx513_2
        try clear hx514_0
        try clear hx515_0
        try clear p2
        try clear p24
        try clear p5
        try clear p507
        try clear p509
        try clear p510
        try clear p512
        try clear p513
        try clear p514
        try clear p515
        try clear p6
        try clear q2
        try clear q21
        try clear q24
        try clear q5
        try clear q507
        try clear q509
        try clear q510
        try clear q512
        try clear q513
        try clear q514
        try clear q515
        obtain ⟨x13_2, x14_2, rfl, HA, HK2, HO_8, HO_13, HO_507000, BK497, BK498, BK506, HB⟩ := hrel
        cases gk with
        | zero => exact absurd HA.out (by simp [cleanseref18_Keep.l2])
        | succ k2 =>
         have H := HA.out
         clear HA
         simp only [cleanseref18_Keep.l2] at H
         by_cases c66 : x14_2 < (l1.length : Int)
         ·rw [if_pos c66] at H
          have c66b0 : decide (x14_2 < (l1.length : Int)) = true := decide_eq_true c66
          clear c66
          by_cases c67 : 0 ≤ x14_2
          ·rw [if_pos c67] at H
           have c67b0 : decide (0 ≤ x14_2) = true := decide_eq_true c67
           clear c67
           by_cases c68 : 0 ≤ (rd l1 x14_2)
           ·rw [if_pos c68] at H
            have c68b0 : decide (0 ≤ (rd l1 x14_2)) = true := decide_eq_true c68
            clear c68
            by_cases c69 : (rd l1 x14_2) < (x8_1.length : Int)
            ·rw [if_pos c69] at H
             have c69b0 : decide ((rd l1 x14_2) < (x8_1.length : Int)) = true := decide_eq_true c69
             clear c69
             by_cases c70 : x13_2.length < 17592186044416
             ·rw [if_pos c70] at H
              have LMc70 := Aside0.mk c70
              clear c70
              obtain ⟨y524, hy524⟩ : ∃ y_ : List Int, y_ = (x13_2 ++ [rd x8_1 (rd l1 x14_2)]) := ⟨_, rfl⟩
              replace H : (cleanseref18_Keep.l2 k2 l1 x8_1 y524 (wrap64 (x14_2 + 1)) x507000_1) = some (r1, r2, r3) := by first | (rw [hy524]; with_reducible exact H) | (have H2_ := (Option.bind_some _ _).symm.trans H; rw [hy524]; with_reducible exact H2_) | (have H2_ := (Option.bind_some _ _).symm.trans H; with_reducible exact H2_) | with_reducible exact H | (rw [hy524]; exact H) | exact H
              have Ny524 := Aside0.mk hy524
              clear hy524
              have H' := Aside0.mk H
              clear H
              have p522 : 0 ≤ (x14_2 : Int) := of_decide_eq_true (by first | (with_reducible assumption) | assumption)
              have q522 : x14_2 < (l1.length : Int) := of_decide_eq_true (by first | (with_reducible assumption) | assumption)
              obtain ⟨ad522, e522, hx522_0⟩ := Kd.at_int HR1.out x14_2 p522 q522
              cases e522
              replace hx522_0 := (HB.out.cell (World.block_lt_of_cell? w _ hx522_0)).trans hx522_0
              replace p522 := eq_true p522
              replace q522 := eq_true q522
              obtain ⟨Ao71, co71, eo71⟩ := Kd.R_slice HO_8.out
              subst eo71
              have p523 : 0 ≤ ((rd l1 x14_2) : Int) := of_decide_eq_true (by first | (with_reducible assumption) | assumption)
              have q523 : (rd l1 x14_2) < (x8_1.length : Int) := of_decide_eq_true (by first | (with_reducible assumption) | assumption)
              obtain ⟨ad523, e523, hx523_0⟩ := Kd.at_int (Kd.R_reads' HO_8.out).2.2 (rd l1 x14_2) p523 q523
              cases e523
              replace p523 := eq_true p523
              replace q523 := eq_true q523
              go_wp2_with (first | ((with_reducible refine gate_builtin (b := .append) (xs := #[.tmp 96, .tmp 104]) rfl ?_); at_builtin; refine Kd.R_append (Kd.int .i64) (w0 := w) w.heap.size rfl (.tmp 96) (.tmp 104) 25 3 (.int .i64 0) 8 rfl Tryd.underlying25 info3 rfl (by decide) (by omega) u13 x13_2 (rd x8_1 (rd l1 x14_2)) [.int .i64 (rd x8_1 (rd l1 x14_2))] (fun k_ => some k_ ≠ (.slice (some ad523) x8_1.length co71 : Value).ownBlock) (fun _ => False) rfl rfl ?aP (fun _ hk => hk.elim) ?aF ?aO ?aB ?aS ?aL ?_; (case aP => exact rfl); (case aB => exact (by repeat (first | (with_reducible first | exact HB.out | apply below_alloc | apply pw_below_drewN | apply below_drew1 | refine below_set ?_ GE497.out | refine below_set ?_ GE498.out | refine below_set ?_ GE506.out) | exact HB.out))); (case aF => exact (fun k_ hk => Kd.fresh' (Kd.R_lt (by (with_reducible repeat (first | apply Kd.R_alloc | apply Kd.R_drewN | apply Kd.R_drew)); exact HO_8.out)) k_ hk)); (case aO => exact (by (with_reducible repeat (first | apply Kd.R_alloc | apply Kd.R_drewN | apply Kd.R_drew)); exact HO_13.out)); (case aS => exact (below_size (by repeat (first | (with_reducible first | exact HB.out | apply below_alloc | apply pw_below_drewN | apply below_drew1 | refine below_set ?_ GE497.out | refine below_set ?_ GE498.out | refine below_set ?_ GE506.out) | exact HB.out)))); (case aL => have := LMc70.out; omega); intro v525 w72 ho hb hg hat; rw [← Ny524.out] at ho; have n0_ := Aside0.mk (Kd.R_after (ok := (fun _ => True)) (by (with_reducible repeat (first | apply Kd.R_alloc | apply Kd.R_drewN | apply Kd.R_drew)); exact Kd.R_mono HO_8.out (fun _ hk => ⟨trivial, hk⟩)) hg hat); have n1_ := Aside0.mk (Kd.S_after (ok := (fun k_ => some k_ ≠ (.slice (some ad523) x8_1.length co71 : Value).ownBlock)) (by (with_reducible repeat (first | apply Kd.S_alloc | apply Kd.S_drewN | apply Kd.S_drew)); exact HO_507000.out) hg hat); have n2_ := Aside0.mk (blk_grown (g := gb497) (o := .cells #[.slice A0_0 l0_0.length c0_0] 24 (0, 0)) (by (with_reducible repeat (first | refine blk_drewN ?_ _ | refine blk_drew ?_ | refine blk_alloc ?_ _)); exact BK497.out) hg (Kd.R_ne HO_13.out BK497.out (by decide))); have n3_ := Aside0.mk (blk_grown (g := gb498) (o := .cells #[.slice none 0 0] 24 (0, 0)) (by (with_reducible repeat (first | refine blk_drewN ?_ _ | refine blk_drew ?_ | refine blk_alloc ?_ _)); exact BK498.out) hg (Kd.R_ne HO_13.out BK498.out (by decide))); have n4_ := Aside0.mk (blk_grown (g := gb506) (o := .cells #[u507000] 24 (0, 0)) (by (with_reducible repeat (first | refine blk_drewN ?_ _ | refine blk_drew ?_ | refine blk_alloc ?_ _)); exact BK506.out) hg (Kd.R_ne HO_13.out BK506.out (by decide))); have n5_ := Aside0.mk (hb); have n6_ := Aside0.mk (ho); clear HO_8; clear HO_507000; clear BK497; clear BK498; clear BK506; clear HB; clear HO_13; have HO_8 := n0_; have HO_507000 := n1_; have BK497 := n2_; have BK498 := n3_; have BK506 := n4_; have HB := n5_; have HO526 := n6_; clear n0_ n1_ n2_ n3_ n4_ n5_ n6_; clear ho hb hg hat))
              go_roundg k2
              case measure => have := HK1.out; have := HK2.out; omega
              case rel => exact ⟨(y524), (wrap64 (x14_2 + 1)), (by first | rfl | (simp; done) | (simp [*]; done)), H', ⟨by have := HK1.out; have := HK2.out; omega⟩, ⟨by (with_reducible repeat (first | apply Kd.R_alloc | apply Kd.R_drewN | apply Kd.R_drew)); exact Kd.R_mono HO_8.out (fun _ hk => hk.2)⟩, ⟨by (with_reducible repeat (first | apply Kd.R_alloc | apply Kd.R_drewN | apply Kd.R_drew)); exact HO526.out⟩, ⟨by (with_reducible repeat (first | apply Kd.S_alloc | apply Kd.S_drewN | apply Kd.S_drew)); exact HO_507000.out⟩, ⟨by (with_reducible repeat (first | refine blk_drewN ?_ _ | refine blk_drew ?_ | refine blk_alloc ?_ _)); exact BK497.out⟩, ⟨by (with_reducible repeat (first | refine blk_drewN ?_ _ | refine blk_drew ?_ | refine blk_alloc ?_ _)); exact BK498.out⟩, ⟨by (with_reducible repeat (first | refine blk_drewN ?_ _ | refine blk_drew ?_ | refine blk_alloc ?_ _)); exact BK506.out⟩, ⟨by repeat (first | (with_reducible first | exact HB.out | apply below_alloc | apply pw_below_drewN | apply below_drew1 | refine below_set ?_ GE497.out | refine below_set ?_ GE498.out | refine below_set ?_ GE506.out) | exact HB.out)⟩⟩
             ·rw [if_neg c70] at H
              exact absurd H (by simp)
            ·rw [if_neg c69] at H
             exact absurd H (by simp)
           ·rw [if_neg c68] at H
            exact absurd H (by simp)
          ·rw [if_neg c67] at H
           exact absurd H (by simp)
         ·rw [if_neg c66] at H
          have c66b0 : decide (x14_2 < (l1.length : Int)) = false := decide_eq_false c66
          clear c66
          simp only [Option.some.injEq, Prod.mk.injEq] at H
          obtain ⟨rfl, rfl, rfl⟩ := H
          have hnb73 := NB506_497.out
          have hnc73 := NB497_506.out
          have hnb74 := NB506_498.out
          have hnc74 := NB498_506.out
          have hcz75_0 : wr.cell? ⟨gb506, 0, none⟩ = some (u507000) := (blk_cell BK506.out 0).trans rfl
          have hfz75_0 := blk_frozen BK506.out 0
          obtain ⟨Ao76, co76, eo76⟩ := Kd.S_slice HO_507000.out
          subst eo76
          have hnb77 := NB498_497.out
          have hnc77 := NB497_498.out
          have hcz78_0 : wr.cell? ⟨gb498, 0, none⟩ = some (.slice none 0 0) := (blk_cell BK498.out 0).trans rfl
          have hfz78_0 := blk_frozen BK498.out 0
          go_wp2
          refine bodyPost_ret (results_ctt rfl _ _ gb498 24 #[.slice Ao76 x507000_1.length co76] (0, 0) _ rfl (by (with_reducible repeat (first | refine blk_drewN ?_ _ | refine blk_drew ?_ | refine blk_alloc ?_ _)); refine blk_put (cs := #[.slice none 0 0]) ?_ 0 _ rfl; (with_reducible repeat (first | refine blk_drewN ?_ _ | refine blk_drew ?_ | refine blk_alloc ?_ _)); exact BK498.out) Tryd.underlying24 rfl (by kernel_rfl)) rfl ?_
          exact ⟨_, _, by first | rfl | (simp [errW_none, errW_some] <;> rfl) | (simp [*, errW_none, errW_some] <;> rfl), by (with_reducible repeat (first | apply Kd.S_alloc | apply Kd.S_drewN | apply Kd.S_drew)); exact Kd.S_mono (Kd.S_far (p := ⟨gb498, 0, none⟩) (Kd.S_types HO_507000.out BK498.out (by decide)) (fun _ hk => hk.2) (.slice Ao76 x507000_1.length co76)) (fun _ hk => hk.1.2), by (with_reducible repeat (first | apply Kd.R_alloc | apply Kd.R_drewN | apply Kd.R_drew)); exact Kd.R_mono (Kd.R_far (p := ⟨gb498, 0, none⟩) (Kd.R_types HO_13.out BK498.out (by decide)) (fun _ hk => hk.2) (.slice Ao76 x507000_1.length co76)) (fun _ hk => trivial), by repeat (first | (with_reducible first | exact HB.out | apply below_alloc | apply pw_below_drewN | apply below_drew1 | refine below_set ?_ GE497.out | refine below_set ?_ GE498.out | refine below_set ?_ GE506.out) | exact HB.out)⟩
   ·rw [if_neg c7] at H
    exact absurd H (by simp)
  ·rw [if_neg c6] at H
   exact absurd H (by simp)
 ·replace c4 := Bool.eq_false_iff.mpr c4
  subst c4
  have H1 : (some (([] : List (S50)), ([] : List Int), 1)) = some (r1, r2, r3) := by rw [if_neg (show ¬ (false = true) by decide)] at H; exact H
  clear H
  have H := H1
  clear H1
  simp only [Option.some.injEq, Prod.mk.injEq] at H
  obtain ⟨rfl, rfl, rfl⟩ := H
  go_enter Tryd.func17, Tryd.ntmps17
  go_wp2_with (first | ((with_reducible refine gate_dst (N := 2) rfl ?_); refine box_event ?hg (N := 2) ?hd (cs := #[.slice A0_0 l0_0.length c0_0]) (t := 24) ?hr ?_; (case hd => rfl); (case hg => rfl); (case hr => first | (go_simp; done) | (go_simp; rfl)); intro gb497 hg w79 hbox hb; have n0_ := Aside0.mk (below_step (by repeat (first | (with_reducible first | exact HB.out | apply below_alloc | apply pw_below_drewN | apply below_drew1) | exact HB.out)) hb); have n1_ := Aside0.mk (hbox); have n2_ := Aside0.mk ((by rw [hg]; exact (below_size (by repeat (first | (with_reducible first | exact HB.out | apply below_alloc | apply pw_below_drewN | apply below_drew1) | exact HB.out))) : w.heap.size ≤ gb497)); have n3_ := Aside0.mk ((by rw [hg]; exact (below_size (by repeat (first | (with_reducible first | exact HB.out | apply below_alloc | apply pw_below_drewN | apply below_drew1) | exact HB.out))) : w.heap.size ≤ gb497)); clear HB; have HB := n0_; have BK497 := n1_; have GW497 := n2_; have GE497 := n3_; clear n0_ n1_ n2_ n3_; clear hb hbox hg) | ((with_reducible refine gate_dst (N := 4) rfl ?_); refine box_event ?hg (N := 4) ?hd (cs := #[.slice none 0 0]) (t := 24) ?hr ?_; (case hd => rfl); (case hg => rfl); (case hr => first | (go_simp; done) | (go_simp; rfl)); intro gb498 hg w80 hbox hb; have n0_ := Aside0.mk (blk_below (g := gb497) (o := .cells #[.slice A0_0 l0_0.length c0_0] 24 (0, 0)) (by (with_reducible repeat (first | refine blk_drewN ?_ _ | refine blk_drew ?_ | refine blk_alloc ?_ _)); exact BK497.out) hb); have n1_ := Aside0.mk (below_step (by repeat (first | (with_reducible first | exact HB.out | apply below_alloc | apply pw_below_drewN | apply below_drew1 | refine below_set ?_ GE497.out) | exact HB.out)) hb); have n2_ := Aside0.mk (hbox); have n3_ := Aside0.mk ((by rw [hg]; exact (below_size (by repeat (first | (with_reducible first | exact HB.out | apply below_alloc | apply pw_below_drewN | apply below_drew1 | refine below_set ?_ GE497.out) | exact HB.out))) : w.heap.size ≤ gb498)); have n4_ := Aside0.mk ((by rw [hg]; exact (below_size (by repeat (first | (with_reducible first | exact HB.out | apply below_alloc | apply pw_below_drewN | apply below_drew1 | refine below_set ?_ GE497.out) | exact HB.out))) : w.heap.size ≤ gb498)); have n5_ := Aside0.mk ((by rw [hg]; exact Nat.ne_of_lt (blk_lt (g := gb497) (o := .cells #[.slice A0_0 l0_0.length c0_0] 24 (0, 0)) (by (with_reducible repeat (first | refine blk_drewN ?_ _ | refine blk_drew ?_ | refine blk_alloc ?_ _)); exact BK497.out)) : gb497 ≠ gb498)); have n6_ := Aside0.mk ((by rw [hg]; exact Nat.ne_of_gt (blk_lt (g := gb497) (o := .cells #[.slice A0_0 l0_0.length c0_0] 24 (0, 0)) (by (with_reducible repeat (first | refine blk_drewN ?_ _ | refine blk_drew ?_ | refine blk_alloc ?_ _)); exact BK497.out)) : gb498 ≠ gb497)); clear BK497; clear HB; have BK497 := n0_; have HB := n1_; have BK498 := n2_; have GW498 := n3_; have GE498 := n4_; have NB497_498 := n5_; have NB498_497 := n6_; clear n0_ n1_ n2_ n3_ n4_ n5_ n6_; clear hb hbox hg; have hnb81 := NB497_498.out; have hnc81 := NB498_497.out; have hcz82_0 : w80.cell? ⟨gb497, 0, none⟩ = some (.slice A0_0 l0_0.length c0_0) := (blk_cell BK497.out 0).trans rfl; have hfz82_0 := blk_frozen BK497.out 0) | ((with_reducible refine gate_callee (f := 29) rfl ?_); refine goesL_ (some 17) rfl rfl Tryd.func29 (by kernel_rfl) rfl #[.agg #[.slice A0_0 l0_0.length c0_0], .slice A1 l1.length c1] rfl (by (try simp only [List.map_toArray, List.map_cons, List.map_nil]); first | done | rfl | (simp only [List.length_drop, List.length_take]; rfl)) ?_; (with_reducible refine (cleanseref18_Right.calls k _ _ l0_0 _ _ l1 false _ ?side1 ?side2 ?side3 ?side4 A3.out).mono ?_); (case side1 => repeat (first | exact (Kd.C_below HR0_0.out HB.out) | (with_reducible refine Kd.C_alloc ?_ _) | (with_reducible refine Kd.C_drewN ?_ _) | (with_reducible refine Kd.C_drew ?_))); (case side2 => exact HC0_0.out); (case side3 => repeat (first | exact (Kd.C_below HR1.out HB.out) | (with_reducible refine Kd.C_alloc ?_ _) | (with_reducible refine Kd.C_drewN ?_ _) | (with_reducible refine Kd.C_drew ?_))); (case side4 => exact HC1.out); rintro e w83 ⟨rfl, hb⟩; refine ⟨_, rfl, ?_⟩; have n0_ := Aside0.mk (blk_below (g := gb497) (o := .cells #[.slice A0_0 l0_0.length c0_0] 24 (0, 0)) (by (with_reducible repeat (first | refine blk_drewN ?_ _ | refine blk_drew ?_ | refine blk_alloc ?_ _)); exact BK497.out) hb); have n1_ := Aside0.mk (blk_below (g := gb498) (o := .cells #[.slice none 0 0] 24 (0, 0)) (by (with_reducible repeat (first | refine blk_drewN ?_ _ | refine blk_drew ?_ | refine blk_alloc ?_ _)); exact BK498.out) hb); have n2_ := Aside0.mk (below_step (by repeat (first | (with_reducible first | exact HB.out | apply below_alloc | apply pw_below_drewN | apply below_drew1 | refine below_set ?_ GE497.out | refine below_set ?_ GE498.out) | exact HB.out)) hb); clear BK497; clear BK498; clear HB; have BK497 := n0_; have BK498 := n1_; have HB := n2_; clear n0_ n1_ n2_; (try clear hb); (try clear hb2); (try clear hk); (try clear hi); have hcz84_0 : w83.cell? ⟨gb498, 0, none⟩ = some (.slice none 0 0) := (blk_cell BK498.out 0).trans rfl; have hfz84_0 := blk_frozen BK498.out 0))
  refine bodyPost_ret (results_ctt rfl _ _ gb498 24 #[.slice none 0 0] (0, 0) _ rfl (by (with_reducible repeat (first | refine blk_drewN ?_ _ | refine blk_drew ?_ | refine blk_alloc ?_ _)); refine blk_put (cs := #[.slice none 0 0]) ?_ 0 _ rfl; (with_reducible repeat (first | refine blk_drewN ?_ _ | refine blk_drew ?_ | refine blk_alloc ?_ _)); exact BK498.out) Tryd.underlying24 rfl (by kernel_rfl)) rfl ?_
  exact ⟨_, _, by first | rfl | (simp [errW_none, errW_some] <;> rfl) | (simp [*, errW_none, errW_some] <;> rfl), by first | exact Kd.S_nil _ _ _ _ _ | exact Kd.N_nil _ _ _ _ _ | exact Kd.V_nil _ _ _ _ _ | exact Kd.Q_nil _ _ _ _ _ | exact Kd.R_nil _ _ _ _ _, by first | exact Kd.R_nil _ _ _ _ _ | exact Kd.N_nil _ _ _ _ _ | exact Kd.V_nil _ _ _ _ _ | exact Kd.Q_nil _ _ _ _ _ | exact Kd.S_nil _ _ _ _ _, by repeat (first | (with_reducible first | exact HB.out | apply below_alloc | apply pw_below_drewN | apply below_drew1 | refine below_set ?_ GE497.out | refine below_set ?_ GE498.out) | exact HB.out)⟩

end Go.Proofs.YtcafgpfecfocnaaDoor.P
