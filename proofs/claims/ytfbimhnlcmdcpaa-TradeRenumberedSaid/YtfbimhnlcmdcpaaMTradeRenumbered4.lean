/- A part of the proof: If classes have other numbers, and the same names, Compare finds no difference, and the least class of two has the same name: for all lists of numbers. Without conditions of its own. -/
import Derived.Test.YtfbimhnlcmdcpaaMTradeRenumbered3
import Derived.MapFrom
import Derived.RangeFuncNested
import Derived.RangeFuncBound
import Derived.RangeFuncCalls
import Derived.RangeFuncLeaves
import Derived.Shelf.Abstract
import Derived.WalkKit
import Derived.OwnWalkIn
import Derived.TacticsInMore
import Derived.LoopNIn
import Derived.LoopIn
import Derived.Laws.EntriesVeiled
import Derived.Scope
import Derived.Sort.LoopGhostIn
namespace Go.Proofs.Ytfbimhnlcmdcpaa.Pa
open Go.RowKit Go.Proofs.YtfbimhnlcmdcpaaW.PrintWords Go.Proofs.YtfbimhnlcmdcpaaW.PrintLast Go.Proofs.YtfbimhnlcmdcpaaW.PrintMore
attribute [local go_sem] max2_int min2_int max_two min_two max_three min_three max_four min_four   -- for this text's walks alone
set_option linter.unusedVariables false
set_option linter.unusedSimpArgs false


attribute [local go_sem high] eqA47
/-! ### wayzgoosekit_EqMoves: function 50 -/
def wayzgoosekit_EqMoves.l0 : Nat → List (S47) → List (S47) → Int → Option (Bool)
  | 0, _, _, _ => none
  | k + 1, x0, x1, x5 => if x5 < (x0.length : Int) then (if 0 ≤ x5 then (if x5 < (x1.length : Int) then (if (!((((rd_T47 x0 x5).f0).toList) == (((rd_T47 x1 x5).f0).toList)) || (!(((rd_T47 x0 x5).f1) == ((rd_T47 x1 x5).f1)))) = true then (some false) else (wayzgoosekit_EqMoves.l0 k x0 x1 (wrap64 (x5 + 1)))) else (none)) else (none)) else (some true)
def wayzgoosekit_EqMoves.f (k : Nat) (l0 : List (S47)) (l1 : List (S47)) : Option (Bool) := if (l0.length : Int) = (l1.length : Int) then (wayzgoosekit_EqMoves.l0 k l0 l1 0) else (some false)
theorem wayzgoosekit_EqMoves.mono_l : ∀ k, (∀ y0 y1 y2, LeO (wayzgoosekit_EqMoves.l0 k y0 y1 y2) (wayzgoosekit_EqMoves.l0 (k + 1) y0 y1 y2))
  | 0 => fun _ _ _ r h => by simp [wayzgoosekit_EqMoves.l0] at h
  | k + 1 => by
    have ih0 := wayzgoosekit_EqMoves.mono_l k
    · intro y0 y1 y2
      unfold wayzgoosekit_EqMoves.l0
      repeat' first
      | (with_reducible exact ih0 _ _ _)
      | (with_reducible exact LeO.refl _)
      | (with_reducible exact LeO.none _)
      | (with_reducible refine LeO.ite ?_ ?_)
      | (with_reducible refine LeO.bind ?_ (fun _ => ?_))
      | exact ih0 _ _ _
      | exact LeO.none _
      | refine LeO.ite ?_ ?_
      | refine LeO.bind ?_ (fun _ => ?_)
theorem wayzgoosekit_EqMoves.mono : ∀ a0 a1 k, LeO (wayzgoosekit_EqMoves.f k a0 a1) (wayzgoosekit_EqMoves.f (k + 1) a0 a1) := by
  intro a0 a1 k
  have ih0 := wayzgoosekit_EqMoves.mono_l k
  unfold wayzgoosekit_EqMoves.f
  repeat' first
      | (with_reducible exact ih0 _ _ _)
      | (with_reducible exact LeO.refl _)
      | (with_reducible exact LeO.none _)
      | (with_reducible refine LeO.ite ?_ ?_)
      | (with_reducible refine LeO.bind ?_ (fun _ => ?_))
      | exact ih0 _ _ _
      | exact LeO.none _
      | refine LeO.ite ?_ ?_
      | refine LeO.bind ?_ (fun _ => ?_)
set_option maxHeartbeats 8000000 in
set_option maxRecDepth 100000 in
theorem wayzgoosekit_EqMoves.calls (k : Nat) (A0 : Option Addr) (c0 : Nat) (l0 : List (S47)) (A1 : Option Addr) (c1 : Nat) (l1 : List (S47)) (r : Bool) (w : World) (hr0 : Kd.C k47 w A0 l0.length l0) (hc0 : l0.length ≤ c0) (hr1 : Kd.C k47 w A1 l1.length l1) (hc1 : l1.length ≤ c1) (h : wayzgoosekit_EqMoves.f k l0 l1 = some r) :
    Calls Try.prog 50 #[.slice A0 l0.length c0, .slice A1 l1.length c1] w fun e w' => e = .returned (.bool r) ∧ Drawn0 w w' := by
  have hu47 := Try.underlying47
  have HR0 := Aside0.mk hr0
  have HC0 := Aside0.mk hc0
  clear hr0 hc0
  have HR1 := Aside0.mk hr1
  have HC1 := Aside0.mk hc1
  clear hr1 hc1
  have H : (if (l0.length : Int) = (l1.length : Int) then (wayzgoosekit_EqMoves.l0 k l0 l1 0) else (some false)) = some r := h
  clear h
  by_cases c3 : (l0.length : Int) = (l1.length : Int)
  · rw [if_pos c3] at H
    have c3b0 : ((l0.length : Int) == (l1.length : Int)) = true := beq_iff_eq.mpr c3
    have c3b1 : ((l0.length : Int) != (l1.length : Int)) = false := bne_eq_false_iff_eq.mpr c3
    have c3b2 : (l0.length == l1.length) = true := by first | simpa using c3 | (simp at c3 ⊢; omega)
    clear c3
    have H' := Aside0.mk H
    clear H
    go_enter Try.func50, Try.ntmps50
    go_wp2
    repeat (go_quiet (fail); try go_wp2)
    go_loopg [5] k (fun kq v5 w' => ∃ (x5_1 : Int), v5 = .int .i64 x5_1 ∧ Aside0 (wayzgoosekit_EqMoves.l0 kq l0 l1 x5_1 = some r) ∧ Aside0 (kq ≤ k) ∧ Drawn0 w w')
    case atStart => exact ⟨(0), (by first | rfl | (simp; done) | (simp [*]; done)), H', ⟨Nat.le_refl _⟩, by repeat (first | exact Drawn0.refl _ | apply Drawn0.step)⟩
    case round =>
      clear H'
      try clear c1
      try clear p2
      try clear c3
      try clear c3b0
      try clear c3b1
      try clear c3b2
      obtain ⟨x5_1, rfl, HA, HK1, ⟨m1, rfl⟩⟩ := hrel
      cases gk with
      | zero => exact absurd HA.out (by simp [wayzgoosekit_EqMoves.l0])
      | succ k1 =>
        have H := HA.out
        clear HA
        simp only [wayzgoosekit_EqMoves.l0] at H
        by_cases c4 : x5_1 < (l0.length : Int)
        · rw [if_pos c4] at H
          have c4b0 : decide (x5_1 < (l0.length : Int)) = true := decide_eq_true c4
          clear c4
          by_cases c5 : 0 ≤ x5_1
          · rw [if_pos c5] at H
            have c5b0 : decide (0 ≤ x5_1) = true := decide_eq_true c5
            clear c5
            by_cases c6 : x5_1 < (l1.length : Int)
            · rw [if_pos c6] at H
              have c6b0 : decide (x5_1 < (l1.length : Int)) = true := decide_eq_true c6
              clear c6
              by_cases c7 : (!((((rd_T47 l0 x5_1).f0).toList) == (((rd_T47 l1 x5_1).f0).toList)) || (!(((rd_T47 l0 x5_1).f1) == ((rd_T47 l1 x5_1).f1)))) = true
              · rw [if_pos c7] at H
                have c7b0 : (!((((rd_T47 l0 x5_1).f0).toList) == (((rd_T47 l1 x5_1).f0).toList)) || (!(((rd_T47 l0 x5_1).f1) == ((rd_T47 l1 x5_1).f1)))) = true := c7
                clear c7
                obtain rfl := Option.some.inj H
                have p319 : 0 ≤ (x5_1 : Int) := of_decide_eq_true (by first | (with_reducible assumption) | assumption)
                have q319 : x5_1 < (l0.length : Int) := of_decide_eq_true (by first | (with_reducible assumption) | assumption)
                obtain ⟨ad319, e319, hx319_0, hx319_1⟩ := at_T47 HR0.out x5_1 p319 q319
                cases e319
                replace p319 := eq_true p319
                replace q319 := eq_true q319
                have p320 : 0 ≤ (x5_1 : Int) := of_decide_eq_true (by first | (with_reducible assumption) | assumption)
                have q320 : x5_1 < (l1.length : Int) := of_decide_eq_true (by first | (with_reducible assumption) | assumption)
                obtain ⟨ad320, e320, hx320_0, hx320_1⟩ := at_T47 HR1.out x5_1 p320 q320
                cases e320
                replace p320 := eq_true p320
                replace q320 := eq_true q320
                go_wp2
                repeat (go_quiet (fail); try go_wp2)
                go_ret
                exact ⟨by first | rfl | (simp; done) | (simp [*]; done), by repeat (first | exact Drawn0.refl _ | apply Drawn0.step)⟩
              · rw [if_neg c7] at H
                have c7b0 : (!((((rd_T47 l0 x5_1).f0).toList) == (((rd_T47 l1 x5_1).f0).toList)) || (!(((rd_T47 l0 x5_1).f1) == ((rd_T47 l1 x5_1).f1)))) = false := by simpa using c7
                clear c7
                have H' := Aside0.mk H
                clear H
                have p319 : 0 ≤ (x5_1 : Int) := of_decide_eq_true (by first | (with_reducible assumption) | assumption)
                have q319 : x5_1 < (l0.length : Int) := of_decide_eq_true (by first | (with_reducible assumption) | assumption)
                obtain ⟨ad319, e319, hx319_0, hx319_1⟩ := at_T47 HR0.out x5_1 p319 q319
                cases e319
                replace p319 := eq_true p319
                replace q319 := eq_true q319
                have p320 : 0 ≤ (x5_1 : Int) := of_decide_eq_true (by first | (with_reducible assumption) | assumption)
                have q320 : x5_1 < (l1.length : Int) := of_decide_eq_true (by first | (with_reducible assumption) | assumption)
                obtain ⟨ad320, e320, hx320_0, hx320_1⟩ := at_T47 HR1.out x5_1 p320 q320
                cases e320
                replace p320 := eq_true p320
                replace q320 := eq_true q320
                go_wp2
                repeat (go_quiet (fail); try go_wp2)
                go_roundg k1
                case measure => have := HK1.out; omega
                case rel => exact ⟨(wrap64 (x5_1 + 1)), (by first | rfl | (simp; done) | (simp [*]; done)), H', ⟨by have := HK1.out; omega⟩, by repeat (first | exact Drawn0.refl _ | apply Drawn0.step)⟩
            · rw [if_neg c6] at H
              exact absurd H (by simp)
          · rw [if_neg c5] at H
            exact absurd H (by simp)
        · rw [if_neg c4] at H
          have c4b0 : decide (x5_1 < (l0.length : Int)) = false := decide_eq_false c4
          clear c4
          obtain rfl := Option.some.inj H
          go_wp2
          repeat (go_quiet (fail); try go_wp2)
          go_ret
          exact ⟨by first | rfl | (simp; done) | (simp [*]; done), by repeat (first | exact Drawn0.refl _ | apply Drawn0.step)⟩
  · rw [if_neg c3] at H
    have c3b0 : ((l0.length : Int) == (l1.length : Int)) = false := beq_eq_false_iff_ne.mpr c3
    have c3b1 : ((l0.length : Int) != (l1.length : Int)) = true := bne_iff_ne.mpr c3
    have c3b2 : (l0.length == l1.length) = false := by first | simpa using c3 | (simp at c3 ⊢; omega)
    obtain rfl := Option.some.inj H
    go_enter Try.func50, Try.ntmps50
    go_wp2
    repeat (go_quiet (fail); try go_wp2)
    go_ret
    exact ⟨by first | rfl | (simp; done) | (simp [*]; done), by repeat (first | exact Drawn0.refl _ | apply Drawn0.step)⟩

/-! ### slices_Equal_string_string: function 59 -/
def slices_Equal_string_string.l0 : Nat → List ByteArray → List ByteArray → Int → Int → Option (Bool)
  | 0, _, _, _, _ => none
  | k + 1, x0, x1, x12, x13 => if x13 < x12 then (if 0 ≤ x13 then (if x13 < (x0.length : Int) then (if x13 < (x1.length : Int) then (if (rdOf ByteArray.empty x0 x13).toList = (rdOf ByteArray.empty x1 x13).toList then (slices_Equal_string_string.l0 k x0 x1 x12 (wrap64 (x13 + 1))) else (some false)) else (none)) else (none)) else (none)) else (some true)
def slices_Equal_string_string.f (k : Nat) (l0 : List ByteArray) (l1 : List ByteArray) : Option (Bool) := if (l0.length : Int) = (l1.length : Int) then (slices_Equal_string_string.l0 k l0 l1 (l0.length : Int) 0) else (some false)
theorem slices_Equal_string_string.mono_l : ∀ k, (∀ y0 y1 y2 y3, LeO (slices_Equal_string_string.l0 k y0 y1 y2 y3) (slices_Equal_string_string.l0 (k + 1) y0 y1 y2 y3))
  | 0 => fun _ _ _ _ r h => by simp [slices_Equal_string_string.l0] at h
  | k + 1 => by
    have ih0 := slices_Equal_string_string.mono_l k
    · intro y0 y1 y2 y3
      unfold slices_Equal_string_string.l0
      repeat' first
      | (with_reducible exact ih0 _ _ _ _)
      | (with_reducible exact LeO.refl _)
      | (with_reducible exact LeO.none _)
      | (with_reducible refine LeO.ite ?_ ?_)
      | (with_reducible refine LeO.bind ?_ (fun _ => ?_))
      | exact ih0 _ _ _ _
      | exact LeO.none _
      | refine LeO.ite ?_ ?_
      | refine LeO.bind ?_ (fun _ => ?_)
theorem slices_Equal_string_string.mono : ∀ a0 a1 k, LeO (slices_Equal_string_string.f k a0 a1) (slices_Equal_string_string.f (k + 1) a0 a1) := by
  intro a0 a1 k
  have ih0 := slices_Equal_string_string.mono_l k
  unfold slices_Equal_string_string.f
  repeat' first
      | (with_reducible exact ih0 _ _ _ _)
      | (with_reducible exact LeO.refl _)
      | (with_reducible exact LeO.none _)
      | (with_reducible refine LeO.ite ?_ ?_)
      | (with_reducible refine LeO.bind ?_ (fun _ => ?_))
      | exact ih0 _ _ _ _
      | exact LeO.none _
      | refine LeO.ite ?_ ?_
      | refine LeO.bind ?_ (fun _ => ?_)
set_option maxHeartbeats 8000000 in
set_option maxRecDepth 100000 in
theorem slices_Equal_string_string.calls (k : Nat) (A0 : Option Addr) (c0 : Nat) (l0 : List ByteArray) (A1 : Option Addr) (c1 : Nat) (l1 : List ByteArray) (r : Bool) (w : World) (hr0 : Kd.C Kd.string w A0 l0.length l0) (hc0 : l0.length ≤ c0) (hr1 : Kd.C Kd.string w A1 l1.length l1) (hc1 : l1.length ≤ c1) (h : slices_Equal_string_string.f k l0 l1 = some r) :
    Calls Try.prog 59 #[.slice A0 l0.length c0, .slice A1 l1.length c1] w fun e w' => e = .returned (.bool r) ∧ Drawn0 w w' := by
  have HR0 := Aside0.mk hr0
  have HC0 := Aside0.mk hc0
  clear hr0 hc0
  have HR1 := Aside0.mk hr1
  have HC1 := Aside0.mk hc1
  clear hr1 hc1
  have H : (if (l0.length : Int) = (l1.length : Int) then (slices_Equal_string_string.l0 k l0 l1 (l0.length : Int) 0) else (some false)) = some r := h
  clear h
  by_cases c3 : (l0.length : Int) = (l1.length : Int)
  · rw [if_pos c3] at H
    have c3b0 : ((l0.length : Int) == (l1.length : Int)) = true := beq_iff_eq.mpr c3
    have c3b1 : ((l0.length : Int) != (l1.length : Int)) = false := bne_eq_false_iff_eq.mpr c3
    have c3b2 : (l0.length == l1.length) = true := by first | simpa using c3 | (simp at c3 ⊢; omega)
    clear c3
    have H' := Aside0.mk H
    clear H
    go_enter Try.func59, Try.ntmps59
    go_wp2
    repeat (go_quiet (fail); try go_wp2)
    go_loopg [13] k (fun kq v13 w' => ∃ (x13_1 : Int), v13 = .int .i64 x13_1 ∧ Aside0 (slices_Equal_string_string.l0 kq l0 l1 (l0.length : Int) x13_1 = some r) ∧ Aside0 (kq ≤ k) ∧ Drawn0 w w')
    case atStart => exact ⟨(0), (by first | rfl | (simp; done) | (simp [*]; done)), H', ⟨Nat.le_refl _⟩, by repeat (first | exact Drawn0.refl _ | apply Drawn0.step)⟩
    case round =>
      clear H'
      try clear c1
      try clear p2
      try clear c3
      try clear c3b0
      try clear c3b1
      try clear c3b2
      obtain ⟨x13_1, rfl, HA, HK1, ⟨m1, rfl⟩⟩ := hrel
      cases gk with
      | zero => exact absurd HA.out (by simp [slices_Equal_string_string.l0])
      | succ k1 =>
        have H := HA.out
        clear HA
        simp only [slices_Equal_string_string.l0] at H
        by_cases c4 : x13_1 < (l0.length : Int)
        · rw [if_pos c4] at H
          have c4b0 : decide (x13_1 < (l0.length : Int)) = true := decide_eq_true c4
          clear c4
          by_cases c5 : 0 ≤ x13_1
          · rw [if_pos c5] at H
            have c5b0 : decide (0 ≤ x13_1) = true := decide_eq_true c5
            clear c5
            by_cases c6 : x13_1 < (l0.length : Int)
            · rw [if_pos c6] at H
              have c6b0 : decide (x13_1 < (l0.length : Int)) = true := decide_eq_true c6
              clear c6
              by_cases c7 : x13_1 < (l1.length : Int)
              · rw [if_pos c7] at H
                have c7b0 : decide (x13_1 < (l1.length : Int)) = true := decide_eq_true c7
                clear c7
                by_cases c8 : (rdOf ByteArray.empty l0 x13_1).toList = (rdOf ByteArray.empty l1 x13_1).toList
                · rw [if_pos c8] at H
                  have c8b0 : ((rdOf ByteArray.empty l0 x13_1).toList == (rdOf ByteArray.empty l1 x13_1).toList) = true := beq_iff_eq.mpr c8
                  have c8b1 : ((rdOf ByteArray.empty l0 x13_1).toList != (rdOf ByteArray.empty l1 x13_1).toList) = false := bne_eq_false_iff_eq.mpr c8
                  clear c8
                  have H' := Aside0.mk H
                  clear H
                  have p321 : 0 ≤ (x13_1 : Int) := of_decide_eq_true (by first | (with_reducible assumption) | assumption)
                  have q321 : x13_1 < (l0.length : Int) := of_decide_eq_true (by first | (with_reducible assumption) | assumption)
                  obtain ⟨ad321, e321, hx321_0⟩ := Kd.at_string HR0.out x13_1 p321 q321
                  cases e321
                  replace p321 := eq_true p321
                  replace q321 := eq_true q321
                  have p322 : 0 ≤ (x13_1 : Int) := of_decide_eq_true (by first | (with_reducible assumption) | assumption)
                  have q322 : x13_1 < (l1.length : Int) := of_decide_eq_true (by first | (with_reducible assumption) | assumption)
                  obtain ⟨ad322, e322, hx322_0⟩ := Kd.at_string HR1.out x13_1 p322 q322
                  cases e322
                  replace p322 := eq_true p322
                  replace q322 := eq_true q322
                  go_wp2
                  repeat (go_quiet (fail); try go_wp2)
                  go_roundg k1
                  case measure => have := HK1.out; omega
                  case rel => exact ⟨(wrap64 (x13_1 + 1)), (by first | rfl | (simp; done) | (simp [*]; done)), H', ⟨by have := HK1.out; omega⟩, by repeat (first | exact Drawn0.refl _ | apply Drawn0.step)⟩
                · rw [if_neg c8] at H
                  have c8b0 : ((rdOf ByteArray.empty l0 x13_1).toList == (rdOf ByteArray.empty l1 x13_1).toList) = false := beq_eq_false_iff_ne.mpr c8
                  have c8b1 : ((rdOf ByteArray.empty l0 x13_1).toList != (rdOf ByteArray.empty l1 x13_1).toList) = true := bne_iff_ne.mpr c8
                  obtain rfl := Option.some.inj H
                  have p321 : 0 ≤ (x13_1 : Int) := of_decide_eq_true (by first | (with_reducible assumption) | assumption)
                  have q321 : x13_1 < (l0.length : Int) := of_decide_eq_true (by first | (with_reducible assumption) | assumption)
                  obtain ⟨ad321, e321, hx321_0⟩ := Kd.at_string HR0.out x13_1 p321 q321
                  cases e321
                  replace p321 := eq_true p321
                  replace q321 := eq_true q321
                  have p322 : 0 ≤ (x13_1 : Int) := of_decide_eq_true (by first | (with_reducible assumption) | assumption)
                  have q322 : x13_1 < (l1.length : Int) := of_decide_eq_true (by first | (with_reducible assumption) | assumption)
                  obtain ⟨ad322, e322, hx322_0⟩ := Kd.at_string HR1.out x13_1 p322 q322
                  cases e322
                  replace p322 := eq_true p322
                  replace q322 := eq_true q322
                  go_wp2
                  repeat (go_quiet (fail); try go_wp2)
                  go_ret
                  exact ⟨by first | rfl | (simp; done) | (simp [*]; done), by repeat (first | exact Drawn0.refl _ | apply Drawn0.step)⟩
              · rw [if_neg c7] at H
                exact absurd H (by simp)
            · rw [if_neg c6] at H
              exact absurd H (by simp)
          · rw [if_neg c5] at H
            exact absurd H (by simp)
        · rw [if_neg c4] at H
          have c4b0 : decide (x13_1 < (l0.length : Int)) = false := decide_eq_false c4
          clear c4
          obtain rfl := Option.some.inj H
          go_wp2
          repeat (go_quiet (fail); try go_wp2)
          go_ret
          exact ⟨by first | rfl | (simp; done) | (simp [*]; done), by repeat (first | exact Drawn0.refl _ | apply Drawn0.step)⟩
  · rw [if_neg c3] at H
    have c3b0 : ((l0.length : Int) == (l1.length : Int)) = false := beq_eq_false_iff_ne.mpr c3
    have c3b1 : ((l0.length : Int) != (l1.length : Int)) = true := bne_iff_ne.mpr c3
    have c3b2 : (l0.length == l1.length) = false := by first | simpa using c3 | (simp at c3 ⊢; omega)
    obtain rfl := Option.some.inj H
    go_enter Try.func59, Try.ntmps59
    go_wp2
    repeat (go_quiet (fail); try go_wp2)
    go_ret
    exact ⟨by first | rfl | (simp; done) | (simp [*]; done), by repeat (first | exact Drawn0.refl _ | apply Drawn0.step)⟩

/-! ### slices_Index_int_int: function 79 -/
def slices_Index_int_int.l0 : Nat → List Int → Int → Int → Int → Option (Int)
  | 0, _, _, _, _ => none
  | k + 1, x0, x1, x7, x8 => if x8 < x7 then (if 0 ≤ x8 then (if x8 < (x0.length : Int) then (if x1 = (rd x0 x8) then (some x8) else (slices_Index_int_int.l0 k x0 x1 x7 (wrap64 (x8 + 1)))) else (none)) else (none)) else (some (-1))
def slices_Index_int_int.f (k : Nat) (l0 : List Int) (a1 : Int) : Option (Int) := slices_Index_int_int.l0 k l0 a1 (l0.length : Int) 0
theorem slices_Index_int_int.mono_l : ∀ k, (∀ y0 y1 y2 y3, LeO (slices_Index_int_int.l0 k y0 y1 y2 y3) (slices_Index_int_int.l0 (k + 1) y0 y1 y2 y3))
  | 0 => fun _ _ _ _ r h => by simp [slices_Index_int_int.l0] at h
  | k + 1 => by
    have ih0 := slices_Index_int_int.mono_l k
    · intro y0 y1 y2 y3
      unfold slices_Index_int_int.l0
      repeat' first
      | (with_reducible exact ih0 _ _ _ _)
      | (with_reducible exact LeO.refl _)
      | (with_reducible exact LeO.none _)
      | (with_reducible refine LeO.ite ?_ ?_)
      | (with_reducible refine LeO.bind ?_ (fun _ => ?_))
      | exact ih0 _ _ _ _
      | exact LeO.none _
      | refine LeO.ite ?_ ?_
      | refine LeO.bind ?_ (fun _ => ?_)
theorem slices_Index_int_int.mono : ∀ a0 a1 k, LeO (slices_Index_int_int.f k a0 a1) (slices_Index_int_int.f (k + 1) a0 a1) := by
  intro a0 a1 k
  have ih0 := slices_Index_int_int.mono_l k
  unfold slices_Index_int_int.f
  repeat' first
      | (with_reducible exact ih0 _ _ _ _)
      | (with_reducible exact LeO.refl _)
      | (with_reducible exact LeO.none _)
      | (with_reducible refine LeO.ite ?_ ?_)
      | (with_reducible refine LeO.bind ?_ (fun _ => ?_))
      | exact ih0 _ _ _ _
      | exact LeO.none _
      | refine LeO.ite ?_ ?_
      | refine LeO.bind ?_ (fun _ => ?_)
set_option maxHeartbeats 8000000 in
set_option maxRecDepth 100000 in
theorem slices_Index_int_int.calls (k : Nat) (A0 : Option Addr) (c0 : Nat) (l0 : List Int) (a1 : Int) (r : Int) (w : World) (hr0 : Kd.C (Kd.int .i64) w A0 l0.length l0) (hc0 : l0.length ≤ c0) (h : slices_Index_int_int.f k l0 a1 = some r) :
    Calls Try.prog 79 #[.slice A0 l0.length c0, .int .i64 a1] w fun e w' => e = .returned (.int .i64 r) ∧ Drawn0 w w' := by
  have HR0 := Aside0.mk hr0
  have HC0 := Aside0.mk hc0
  clear hr0 hc0
  have H : (slices_Index_int_int.l0 k l0 a1 (l0.length : Int) 0) = some r := h
  clear h
  have H' := Aside0.mk H
  clear H
  go_enter Try.func79, Try.ntmps79
  go_wp2
  go_loopg [8] k (fun kq v8 w' => ∃ (x8_1 : Int), v8 = .int .i64 x8_1 ∧ Aside0 (slices_Index_int_int.l0 kq l0 a1 (l0.length : Int) x8_1 = some r) ∧ Aside0 (kq ≤ k) ∧ Drawn0 w w')
  case atStart => exact ⟨(0), (by first | rfl | (simp; done) | (simp [*]; done)), H', ⟨Nat.le_refl _⟩, by repeat (first | exact Drawn0.refl _ | apply Drawn0.step)⟩
  case round =>
    clear H'
    try clear p2
    obtain ⟨x8_1, rfl, HA, HK1, ⟨m1, rfl⟩⟩ := hrel
    cases gk with
    | zero => exact absurd HA.out (by simp [slices_Index_int_int.l0])
    | succ k1 =>
      have H := HA.out
      clear HA
      simp only [slices_Index_int_int.l0] at H
      by_cases c3 : x8_1 < (l0.length : Int)
      · rw [if_pos c3] at H
        have c3b0 : decide (x8_1 < (l0.length : Int)) = true := decide_eq_true c3
        clear c3
        by_cases c4 : 0 ≤ x8_1
        · rw [if_pos c4] at H
          have c4b0 : decide (0 ≤ x8_1) = true := decide_eq_true c4
          clear c4
          by_cases c5 : x8_1 < (l0.length : Int)
          · rw [if_pos c5] at H
            have c5b0 : decide (x8_1 < (l0.length : Int)) = true := decide_eq_true c5
            clear c5
            by_cases c6 : a1 = (rd l0 x8_1)
            · rw [if_pos c6] at H
              have c6b0 : (a1 == (rd l0 x8_1)) = true := beq_iff_eq.mpr c6
              have c6b1 : (a1 != (rd l0 x8_1)) = false := bne_eq_false_iff_eq.mpr c6
              clear c6
              obtain rfl := Option.some.inj H
              have p323 : 0 ≤ (x8_1 : Int) := of_decide_eq_true (by first | (with_reducible assumption) | assumption)
              have q323 : x8_1 < (l0.length : Int) := of_decide_eq_true (by first | (with_reducible assumption) | assumption)
              obtain ⟨ad323, e323, hx323_0⟩ := Kd.at_int HR0.out x8_1 p323 q323
              cases e323
              replace p323 := eq_true p323
              replace q323 := eq_true q323
              go_wp2
              go_ret
              exact ⟨by first | rfl | (simp; done) | (simp [*]; done), by repeat (first | exact Drawn0.refl _ | apply Drawn0.step)⟩
            · rw [if_neg c6] at H
              have c6b0 : (a1 == (rd l0 x8_1)) = false := beq_eq_false_iff_ne.mpr c6
              have c6b1 : (a1 != (rd l0 x8_1)) = true := bne_iff_ne.mpr c6
              have H' := Aside0.mk H
              clear H
              have p323 : 0 ≤ (x8_1 : Int) := of_decide_eq_true (by first | (with_reducible assumption) | assumption)
              have q323 : x8_1 < (l0.length : Int) := of_decide_eq_true (by first | (with_reducible assumption) | assumption)
              obtain ⟨ad323, e323, hx323_0⟩ := Kd.at_int HR0.out x8_1 p323 q323
              cases e323
              replace p323 := eq_true p323
              replace q323 := eq_true q323
              go_wp2
              go_roundg k1
              case measure => have := HK1.out; omega
              case rel => exact ⟨(wrap64 (x8_1 + 1)), (by first | rfl | (simp; done) | (simp [*]; done)), H', ⟨by have := HK1.out; omega⟩, by repeat (first | exact Drawn0.refl _ | apply Drawn0.step)⟩
          · rw [if_neg c5] at H
            exact absurd H (by simp)
        · rw [if_neg c4] at H
          exact absurd H (by simp)
      · rw [if_neg c3] at H
        have c3b0 : decide (x8_1 < (l0.length : Int)) = false := decide_eq_false c3
        clear c3
        obtain rfl := Option.some.inj H
        go_wp2
        go_ret
        exact ⟨by first | rfl | (simp; done) | (simp [*]; done), by repeat (first | exact Drawn0.refl _ | apply Drawn0.step)⟩

/-! ### slices_Contains_int_int: function 64 -/
def slices_Contains_int_int.f (k : Nat) (l0 : List Int) (a1 : Int) : Option (Bool) := (slices_Index_int_int.f k l0 a1).bind fun t324 => (some (decide (t324 ≥ 0)))
theorem slices_Contains_int_int.mono : ∀ a0 a1 k, LeO (slices_Contains_int_int.f k a0 a1) (slices_Contains_int_int.f (k + 1) a0 a1) := by
  intro a0 a1 k
  unfold slices_Contains_int_int.f
  repeat' first
      | (with_reducible exact slices_Index_int_int.mono _ _ _)
      | (with_reducible exact LeO.refl _)
      | (with_reducible exact LeO.none _)
      | (with_reducible refine LeO.ite ?_ ?_)
      | (with_reducible refine LeO.bind ?_ (fun _ => ?_))
      | exact slices_Index_int_int.mono _ _ _
      | exact LeO.none _
      | refine LeO.ite ?_ ?_
      | refine LeO.bind ?_ (fun _ => ?_)
set_option maxHeartbeats 8000000 in
set_option maxRecDepth 100000 in
theorem slices_Contains_int_int.calls (k : Nat) (A0 : Option Addr) (c0 : Nat) (l0 : List Int) (a1 : Int) (r : Bool) (w : World) (hr0 : Kd.C (Kd.int .i64) w A0 l0.length l0) (hc0 : l0.length ≤ c0) (h : slices_Contains_int_int.f k l0 a1 = some r) :
    Calls Try.prog 64 #[.slice A0 l0.length c0, .int .i64 a1] w fun e w' => e = .returned (.bool r) ∧ Drawn0 w w' := by
  have HR0 := Aside0.mk hr0
  have HC0 := Aside0.mk hc0
  clear hr0 hc0
  have H : ((slices_Index_int_int.f k l0 a1).bind fun t324 => (some (decide (t324 ≥ 0)))) = some r := h
  clear h
  replace H := Option.bind_eq_some_iff.mp H
  obtain ⟨t324, A30, H⟩ := H
  replace H : (some (decide (t324 ≥ 0))) = some r := H
  have A3 := Aside0.mk A30
  clear A30
  obtain rfl := Option.some.inj H
  go_enter Try.func64, Try.ntmps64
  go_wp2_with (first | ((with_reducible refine gate_callee (f := 79) rfl ?_); refine goesL_ (some 7) rfl rfl Try.func79 (by kernel_rfl) rfl #[.slice A0 l0.length c0, .int .i64 a1] rfl (by (try simp only [List.map_toArray, List.map_cons, List.map_nil]); first | done | rfl | (simp only [List.length_drop, List.length_take]; rfl)) ?_; (with_reducible refine (slices_Index_int_int.calls k _ _ l0 a1 t324 _ ?side1 ?side2 A3.out).mono ?_); (case side1 => repeat (first | exact HR0.out | (with_reducible refine Kd.C_alloc ?_ _) | (with_reducible refine Kd.C_drewN ?_ _) | (with_reducible refine Kd.C_drew ?_))); (case side2 => exact HC0.out); rintro e w' ⟨rfl, ⟨nd, rfl⟩⟩; refine ⟨_, rfl, ?_⟩))
  go_ret
  exact ⟨by first | rfl | (simp; done) | (simp [*]; done), by repeat (first | exact Drawn0.refl _ | apply Drawn0.step)⟩

/-! ### trade_classes_with: function 69 -/
def trade_classes_with.f (a0 : Int) (a1 : Int) : Option (Int) := if 0 ≤ a1 then (some (Go.bits .or .u8 a0 (shl .u8 1 a1))) else (none)
set_option maxHeartbeats 8000000 in
set_option maxRecDepth 100000 in
theorem trade_classes_with.calls (a0 : Int) (a1 : Int) (r : Int) (w : World) (h : trade_classes_with.f a0 a1 = some r) :
    Calls Try.prog 69 #[.int .u8 a0, .int .i64 a1] w fun e w' => e = .returned (.int .u8 r) ∧ Drawn0 w w' := by
  have H : (if 0 ≤ a1 then (some (Go.bits .or .u8 a0 (shl .u8 1 a1))) else (none)) = some r := h
  clear h
  by_cases c3 : 0 ≤ a1
  · rw [if_pos c3] at H
    have c3b0 := eq_true c3
    have c3b1 : decide (0 ≤ a1) = true := decide_eq_true c3
    clear c3
    obtain ⟨ji4, hji4⟩ : ∃ j_ : Int, (shl .u8 1 a1) = j_ := ⟨_, rfl⟩
    replace H : (some (Go.bits .or .u8 a0 (ji4))) = some r := by first | (rw [hji4] at H; exact H) | (simp only [hji4] at H ⊢; exact H)
    have hji4_ : (IntKind.u8.wrap (1 * 2 ^ min a1.toNat 8)) = ji4 := hji4
    have hji4z : a1 ≤ 8 → (IntKind.u8.wrap (1 * 2 ^ a1.toNat)) = ji4 := shl_small hji4
    have hji4u : (IntKind.u8.wrap (2 ^ min a1.toNat 8)) = ji4 := by have h_ := hji4_; rw [Int.one_mul] at h_; exact h_
    have hji4v : a1 ≤ 8 → (IntKind.u8.wrap (2 ^ a1.toNat)) = ji4 := fun hle_ => by have h_ := hji4z hle_; rw [Int.one_mul] at h_; exact h_
    obtain rfl := Option.some.inj H
    go_enter Try.func69, Try.ntmps69
    go_wp2
    go_ret
    exact ⟨by first | rfl | (simp; done) | (simp only [← hji4] <;> (first | rfl | simp)) | (simp [*]; done), by repeat (first | exact Drawn0.refl _ | apply Drawn0.step)⟩
  · rw [if_neg c3] at H
    exact absurd H (by simp)

/-! ### stringslite_HasPrefix: function 92 -/
def stringslite_HasPrefix.f (a0 : ByteArray) (a1 : ByteArray) : Option (Bool) := if (a0.size : Int) ≥ (a1.size : Int) then (if 0 ≤ (a1.size : Int) then (if (a1.size : Int) ≤ (a0.size : Int) then (some ((a0.extract 0 ((a1.size : Int) : Int).toNat).toList == a1.toList)) else (none)) else (none)) else (some false)
set_option maxHeartbeats 8000000 in
set_option maxRecDepth 100000 in
theorem stringslite_HasPrefix.calls (a0 : ByteArray) (a1 : ByteArray) (r : Bool) (w : World) (h : stringslite_HasPrefix.f a0 a1 = some r) :
    Calls Try.prog 92 #[.string a0, .string a1] w fun e w' => e = .returned (.bool r) ∧ Drawn0 w w' := by
  have H : (if (a0.size : Int) ≥ (a1.size : Int) then (if 0 ≤ (a1.size : Int) then (if (a1.size : Int) ≤ (a0.size : Int) then (some ((a0.extract 0 ((a1.size : Int) : Int).toNat).toList == a1.toList)) else (none)) else (none)) else (some false)) = some r := h
  clear h
  by_cases c3 : (a0.size : Int) ≥ (a1.size : Int)
  · rw [if_pos c3] at H
    have c3b0 : decide ((a1.size : Int) ≤ (a0.size : Int)) = true := decide_eq_true c3
    have c3b1 : decide (a1.size ≤ a0.size) = true := decide_eq_true (Int.ofNat_le.mp c3)
    clear c3
    by_cases c4 : 0 ≤ (a1.size : Int)
    · rw [if_pos c4] at H
      have c4b0 := eq_true c4
      have c4b1 : decide (0 ≤ (a1.size : Int)) = true := decide_eq_true c4
      clear c4
      by_cases c5 : (a1.size : Int) ≤ (a0.size : Int)
      · rw [if_pos c5] at H
        have c5b0 := eq_true c5
        have c5b1 : decide ((a1.size : Int) ≤ (a0.size : Int)) = true := decide_eq_true c5
        clear c5
        obtain rfl := Option.some.inj H
        go_enter Try.func92, Try.ntmps92
        go_wp2
        go_ret
        exact ⟨by first | rfl | (simp; done) | (simp [*]; done), by repeat (first | exact Drawn0.refl _ | apply Drawn0.step)⟩
      · rw [if_neg c5] at H
        exact absurd H (by simp)
    · rw [if_neg c4] at H
      exact absurd H (by simp)
  · rw [if_neg c3] at H
    have c3b0 : decide ((a1.size : Int) ≤ (a0.size : Int)) = false := decide_eq_false c3
    have c3b1 : decide (a1.size ≤ a0.size) = false := decide_eq_false (fun h => c3 (Int.ofNat_le.mpr h))
    clear c3
    obtain rfl := Option.some.inj H
    go_enter Try.func92, Try.ntmps92
    go_wp2
    go_ret
    exact ⟨by first | rfl | (simp; done) | (simp [*]; done), by repeat (first | exact Drawn0.refl _ | apply Drawn0.step)⟩

/-! ### strings_HasPrefix: function 73 -/
def strings_HasPrefix.f (a0 : ByteArray) (a1 : ByteArray) : Option (Bool) := (stringslite_HasPrefix.f a0 a1).bind fun t325 => (some t325)
set_option maxHeartbeats 8000000 in
set_option maxRecDepth 100000 in
theorem strings_HasPrefix.calls (a0 : ByteArray) (a1 : ByteArray) (r : Bool) (w : World) (h : strings_HasPrefix.f a0 a1 = some r) :
    Calls Try.prog 73 #[.string a0, .string a1] w fun e w' => e = .returned (.bool r) ∧ Drawn0 w w' := by
  have H : ((stringslite_HasPrefix.f a0 a1).bind fun t325 => (some t325)) = some r := h
  clear h
  replace H := Option.bind_eq_some_iff.mp H
  obtain ⟨t325, A30, H⟩ := H
  replace H : (some t325) = some r := H
  have A3 := Aside0.mk A30
  clear A30
  obtain rfl := Option.some.inj H
  go_enter Try.func73, Try.ntmps73
  go_wp2_with (first | ((with_reducible refine gate_callee (f := 92) rfl ?_); refine goesL_ (some 7) rfl rfl Try.func92 (by kernel_rfl) rfl #[.string a0, .string a1] rfl (by (try simp only [List.map_toArray, List.map_cons, List.map_nil]); first | done | rfl | (simp only [List.length_drop, List.length_take]; rfl)) ?_; (with_reducible refine (stringslite_HasPrefix.calls a0 a1 t325 _ A3.out).mono ?_); rintro e w' ⟨rfl, ⟨nd, rfl⟩⟩; refine ⟨_, rfl, ?_⟩))
  go_ret
  exact ⟨by first | rfl | (simp; done) | (simp [*]; done), by repeat (first | exact Drawn0.refl _ | apply Drawn0.step)⟩

/-! ### trade_heads_with: function 74 -/
def trade_heads_with.f (a0 : Int) (a1 : Int) : Option (Int) := if 0 ≤ a1 then (some (Go.bits .or .u8 a0 (shl .u8 1 a1))) else (none)
set_option maxHeartbeats 8000000 in
set_option maxRecDepth 100000 in
theorem trade_heads_with.calls (a0 : Int) (a1 : Int) (r : Int) (w : World) (h : trade_heads_with.f a0 a1 = some r) :
    Calls Try.prog 74 #[.int .u8 a0, .int .i64 a1] w fun e w' => e = .returned (.int .u8 r) ∧ Drawn0 w w' := by
  have H : (if 0 ≤ a1 then (some (Go.bits .or .u8 a0 (shl .u8 1 a1))) else (none)) = some r := h
  clear h
  by_cases c3 : 0 ≤ a1
  · rw [if_pos c3] at H
    have c3b0 := eq_true c3
    have c3b1 : decide (0 ≤ a1) = true := decide_eq_true c3
    clear c3
    obtain ⟨ji4, hji4⟩ : ∃ j_ : Int, (shl .u8 1 a1) = j_ := ⟨_, rfl⟩
    replace H : (some (Go.bits .or .u8 a0 (ji4))) = some r := by first | (rw [hji4] at H; exact H) | (simp only [hji4] at H ⊢; exact H)
    have hji4_ : (IntKind.u8.wrap (1 * 2 ^ min a1.toNat 8)) = ji4 := hji4
    have hji4z : a1 ≤ 8 → (IntKind.u8.wrap (1 * 2 ^ a1.toNat)) = ji4 := shl_small hji4
    have hji4u : (IntKind.u8.wrap (2 ^ min a1.toNat 8)) = ji4 := by have h_ := hji4_; rw [Int.one_mul] at h_; exact h_
    have hji4v : a1 ≤ 8 → (IntKind.u8.wrap (2 ^ a1.toNat)) = ji4 := fun hle_ => by have h_ := hji4z hle_; rw [Int.one_mul] at h_; exact h_
    obtain rfl := Option.some.inj H
    go_enter Try.func74, Try.ntmps74
    go_wp2
    go_ret
    exact ⟨by first | rfl | (simp; done) | (simp only [← hji4] <;> (first | rfl | simp)) | (simp [*]; done), by repeat (first | exact Drawn0.refl _ | apply Drawn0.step)⟩
  · rw [if_neg c3] at H
    exact absurd H (by simp)

/-! ### trade_heads_has: function 75 -/
def trade_heads_has.f (a0 : Int) (a1 : Int) : Option (Bool) := if 0 ≤ a1 then (some ((Go.bits .and .u8 (shr .u8 a0 a1) 1) == 1)) else (none)
set_option maxHeartbeats 8000000 in
set_option maxRecDepth 100000 in
theorem trade_heads_has.calls (a0 : Int) (a1 : Int) (r : Bool) (w : World) (h : trade_heads_has.f a0 a1 = some r) :
    Calls Try.prog 75 #[.int .u8 a0, .int .i64 a1] w fun e w' => e = .returned (.bool r) ∧ Drawn0 w w' := by
  have H : (if 0 ≤ a1 then (some ((Go.bits .and .u8 (shr .u8 a0 a1) 1) == 1)) else (none)) = some r := h
  clear h
  by_cases c3 : 0 ≤ a1
  · rw [if_pos c3] at H
    have c3b0 := eq_true c3
    have c3b1 : decide (0 ≤ a1) = true := decide_eq_true c3
    clear c3
    obtain ⟨ji4, hji4⟩ : ∃ j_ : Int, (shr .u8 a0 a1) = j_ := ⟨_, rfl⟩
    replace H : (some ((Go.bits .and .u8 (ji4) 1) == 1)) = some r := by first | (rw [hji4] at H; exact H) | (simp only [hji4] at H ⊢; exact H)
    have hji4_ : (a0 / 2 ^ min a1.toNat 8) = ji4 := hji4
    have hji4z : a1 ≤ 8 → (a0 / 2 ^ a1.toNat) = ji4 := shr_small hji4
    obtain rfl := Option.some.inj H
    go_enter Try.func75, Try.ntmps75
    go_wp2
    go_ret
    exact ⟨by first | rfl | (simp; done) | (simp only [← hji4] <;> (first | rfl | simp)) | (simp [*]; done), by repeat (first | exact Drawn0.refl _ | apply Drawn0.step)⟩
  · rw [if_neg c3] at H
    exact absurd H (by simp)

end Go.Proofs.Ytfbimhnlcmdcpaa.Pa
/- The contracts of may and May. -/
namespace Go.Proofs.Ytfbimhnlcmdcpaa.Pa
open Go.RowKit Go.Proofs.YtfbimhnlcmdcpaaW.PrintWords Go.Proofs.YtfbimhnlcmdcpaaW.PrintLast Go.Proofs.YtfbimhnlcmdcpaaW.PrintMore
set_option linter.unusedVariables false
set_option linter.unusedSimpArgs false

theorem hasPrefix_begins (s b : ByteArray) : strings_HasPrefix.f s b = some (begins s b) := by
  unfold strings_HasPrefix.f stringslite_HasPrefix.f
  have hs : s.size = s.data.toList.length := rfl
  have hb : b.size = b.data.toList.length := rfl
  by_cases h : (s.size : Int) ≥ (b.size : Int)
  · rw [if_pos h, if_pos (by omega), if_pos h]
    show some _ = some _
    congr 1
    rw [toList_data, toList_data]
    unfold begins
    have : (s.extract 0 ((b.size : Int)).toNat).data.toList = s.data.toList.take b.data.toList.length := by
      rw [Int.toNat_natCast, hb]
      simp
    rw [this, Bool.eq_iff_iff, beq_iff_eq, List.isPrefixOf_iff_prefix, List.prefix_iff_eq_take]
    exact eq_comm
  · rw [if_neg h]
    show some false = some _
    congr 1
    unfold begins
    symm
    rw [Bool.eq_false_iff, ne_eq, List.isPrefixOf_iff_prefix]
    intro hp
    have := hp.length_le
    omega

theorem followGo_in {cs : List Cl} {hs : List Hd} (hv : Valid cs hs) {a t : Int} : ∀ (m : Nat) (k : Nat) (s : Int), k < hs.length → followGo hs m k s = some (a, t) → ∃ p : Nat, a = p ∧ p < hs.length
  | 0, k, s, hk, h => by simp [followGo_zero] at h
  | m + 1, k, s, hk, h => by
    by_cases hp : (hs.getD k zHd).f2 = -1
    · rw [followGo_end rfl hp] at h
      simp only [Option.some.injEq, Prod.mk.injEq] at h
      exact ⟨k, h.1.symm, hk⟩
    · rw [followGo_ptr rfl hp] at h
      have hg := (hv.head k hk).see
      obtain ⟨p, hpe⟩ : ∃ p : Nat, (hs.getD k zHd).f2 = p := ⟨(hs.getD k zHd).f2.toNat, by omega⟩
      rw [hpe] at h hg
      exact followGo_in hv m p (s + 1) (by omega) h
theorem followT_in {cs : List Cl} {hs : List Hd} (hv : Valid cs hs) {k : Nat} (hk : k < hs.length) {a t : Int} (h : followT hs k = some (a, t)) : ∃ p : Nat, a = p ∧ p < hs.length := followGo_in hv _ k 0 hk h

/-- the trades that the first k headings lead to, as bits -/
def mayStep (hs : List Hd) (b : ByteArray) (k : Nat) (S : Nat) : Nat :=
  if begins (hs.getD k zHd).f0 b = true then (match followT hs k with | none => S | some (e, _) => if isTradeT hs e = true then S ||| 2 ^ e.toNat else S) else S
def mayS (hs : List Hd) (b : ByteArray) : Nat → Nat
  | 0 => 0
  | k + 1 => mayStep hs b k (mayS hs b k)
theorem mayS_lt {cs : List Cl} {hs : List Hd} (hv : Valid cs hs) (b : ByteArray) : ∀ k, k ≤ hs.length → mayS hs b k < 256
  | 0, _ => by show 0 < 256; omega
  | k + 1, hk => by
    have ih := mayS_lt hv b k (by omega)
    have m1 := hv.split.2.1
    show mayStep hs b k (mayS hs b k) < 256
    unfold mayStep
    split
    · split
      · exact ih
      · rename_i e s hf
        obtain ⟨p, rfl, hp⟩ := followT_in hv (by omega) hf
        split
        · rw [Int.toNat_natCast]; exact or_lt _ _ ih (by omega)
        · exact ih
    · exact ih
theorem mayS_bit {cs : List Cl} {hs : List Hd} (hv : Valid cs hs) (b : ByteArray) (e : Nat) : ∀ k, k ≤ hs.length → (mayS hs b k).testBit e = (nats k).any (fun h => leadsTo hs b h e)
  | 0, _ => by show (0 : Nat).testBit e = false; simp
  | k + 1, hk => by
    have ih := mayS_bit hv b e k (by omega)
    rw [nats_succ, List.any_append, ← ih]
    show (mayStep hs b k (mayS hs b k)).testBit e = _
    simp only [List.any_cons, List.any_nil, Bool.or_false]
    unfold mayStep leadsTo
    rw [Int.toNat_natCast]
    cases hb : begins (hs.getD k zHd).f0 b
    · simp
    · cases hf : followT hs k with
      | none => simp
      | some pr =>
        obtain ⟨a, s⟩ := pr
        obtain ⟨p, rfl, hp⟩ := followT_in hv (by omega) hf
        simp only [if_true]
        by_cases hpe : p = e
        · subst hpe
          cases ht : isTradeT hs p
          · simp
          · simp [Nat.testBit_or, Nat.testBit_two_pow]
        · have : ¬ ((p : Int) = (e : Int)) := by omega
          split
          · simp [Nat.testBit_or, Nat.testBit_two_pow, hpe, this]
          · simp [this]
theorem mayT_bits {cs : List Cl} {hs : List Hd} (hv : Valid cs hs) (b : ByteArray) : mayT hs b = (nats hs.length).filter (fun e => (mayS hs b hs.length).testBit e.toNat) := by
  unfold mayT
  apply List.filter_congr
  intro e he
  obtain ⟨n, _, rfl⟩ := List.mem_map.mp he
  show _ = (mayS hs b hs.length).testBit (Int.ofNat n).toNat
  rw [show (Int.ofNat n).toNat = n from rfl, mayS_bit hv b n _ (Nat.le_refl _)]
  rfl

set_option maxHeartbeats 4000000 in
set_option maxRecDepth 100000 in
theorem may_any (g : Nat) (cs : List Cl) (hs : List Hd) (b : ByteArray) (w : World) (hL : IsList w g cs hs) (hv : Valid cs hs) :
    Calls Try.prog 53 #[.pointer (some ⟨g, 0, none⟩), .string b] w fun e w' => ∃ v, e = .returned v ∧ (Kd.int .i64).R 3 w' w.heap.size (fun _ => True) v (mayT hs b) ∧ Below w.heap.size w w' := by
  obtain ⟨m0, m1, -, -⟩ := hv.split
  have hu2 := Try.underlying26
  have hu3 := Try.underlying81
  have hu4 := Try.underlying39
  obtain ⟨i0, hi, hz0, hz1, hz2⟩ := info_parts info3'
  have HM := Lib.hid (mayT_bits hv b)
  obtain ⟨A0, c0, A1, c1, A2, c2, A3, c3, hg, l0, l1, r0, r1, r2, r3⟩ := hL.ok
  obtain ⟨g0, g1, g2, g3⟩ := cells4 hg
  have hLb := fun W (hW : Below w.heap.size w W) => hL.below hW
  have HF := fun (n : Nat) (hn : n < hs.length) W (hW : Below w.heap.size w W) => follow_any g cs hs n W (hL.below hW) hv hn
  have HT := fun (n : Nat) (hn : n < hs.length) W (hW : Below w.heap.size w W) => isTrade_any g cs hs n W (hL.below hW) hn
  obtain ⟨R, hR⟩ : ∃ R, mayT hs b = R := ⟨_, rfl⟩
  rw [hR] at HM ⊢
  clear hL hR
  go_enter Try.func53, Try.ntmps53
  go_wp2
  go_loopg [5, 19] hs.length (fun gk v5 v wr => ∃ k : Nat, k + gk = hs.length ∧ v = .int .i64 k ∧ v5 = .int .u8 (mayS hs b k : Int) ∧ Below w.heap.size w wr)
  case atStart => exact ⟨0, by omega, rfl, rfl, Below.refl _ _⟩
  case round =>
    obtain ⟨k, hk, rfl, rfl, hb⟩ := hrel
    by_cases hlt : k < hs.length
    · have hSl := mayS_lt hv b k (by omega)
      have HS : Hid (mayS hs b (k + 1) = mayStep hs b k (mayS hs b k)) := rfl
      obtain ⟨S, hS⟩ : ∃ S, mayS hs b k = S := ⟨_, rfl⟩
      rw [hS] at HS hSl ⊢
      clear hS
      obtain ⟨ad, A3', c3', e, h0, h1, h2, h3, h4, h5⟩ := hdAt r1 k hlt
      cases e
      obtain ⟨x, hx⟩ : ∃ x, hs.getD k zHd = x := ⟨_, rfl⟩
      rw [hx] at h0 h1 h2 h3 h4 h5
      replace h0 := pw_cell_below hb h0
      replace h1 := pw_cell_below hb h1
      replace h2 := pw_cell_below hb h2
      replace h3 := pw_cell_below hb h3
      have HP := fun W => strings_HasPrefix.calls x.f0 b _ W (hasPrefix_begins x.f0 b)
      have HS2 : Hid (mayS hs b (k + 1) = if begins x.f0 b = true then (match followT hs k with | none => S | some (e, _) => if isTradeT hs e = true then S ||| 2 ^ e.toNat else S) else S) := by
        show _ = _
        rw [HS.out]; unfold mayStep; rw [hx]
      clear HS hx
      obtain ⟨bb, hbb⟩ : ∃ bb, begins x.f0 b = bb := ⟨_, rfl⟩
      rw [hbb] at HS2
      simp only [hbb] at HP
      clear hbb
      cases bb with
      | false =>
        have HS3 : Hid (mayS hs b (k + 1) = S) := by show _ = _; rw [HS2.out]; rfl
        go_wp2_with (go_at_call 73; (with_reducible refine (HP _).mono ?_); rintro e w2 ⟨rfl, ⟨nd, rfl⟩⟩)
        go_roundg (hs.length - (k + 1))
        case measure => omega
        case rel => exact ⟨k + 1, by omega, by go_num, by rw [HS3.out], pw_below_drewN (hb.alloc hb.size _) _⟩
      | true =>
        have HF := fun W (hW : Below w.heap.size w W) => HF k hlt W hW
        have hbd := fun n o => pw_below_drewN (hb.alloc hb.size o) n
        cases hfe : followT hs k with
        | none =>
          have HS3 : Hid (mayS hs b (k + 1) = S) := by show _ = _; rw [HS2.out, hfe]; rfl
          rw [hfe] at HF
          simp only [followV] at HF
          clear HS2 hfe
          go_wp2_with (first
            | (go_at_call 73; (with_reducible refine (HP _).mono ?_); rintro e w2 ⟨rfl, ⟨nd, rfl⟩⟩)
            | (go_at_call 52; (with_reducible refine (HF _ (hbd _ _)).mono ?_); rintro e w3 ⟨rfl, hb3⟩; have HB3 := below_then (hbd _ _) (hbd _ _).size hb3; clear hb3))
          go_roundg (hs.length - (k + 1))
          case measure => omega
          case rel => exact ⟨k + 1, by omega, by go_num, by rw [HS3.out], HB3⟩
        | some pr =>
          obtain ⟨a, s⟩ := pr
          obtain ⟨p, rfl, hp⟩ := followT_in hv hlt hfe
          have HS3 : Hid (mayS hs b (k + 1) = if artB (hs.getD p zHd) = true then S ||| 2 ^ p else S) := by show _ = _; rw [HS2.out, hfe]; rfl
          have HT := fun W (hW : Below w.heap.size w W) => HT p hp W hW
          have HW := fun W => heads_with S p hSl (by omega) W
          rw [hfe] at HF
          simp only [followV] at HF
          obtain ⟨q, hq⟩ : ∃ q, artB (hs.getD p zHd) = q := ⟨_, rfl⟩
          rw [hq] at HS3
          simp only [hq] at HT
          clear HS2 hfe hq
          cases q with
          | true =>
            have HS4 : Hid (mayS hs b (k + 1) = S ||| 2 ^ p) := by show _ = _; rw [HS3.out]; rfl
            go_wp2_with (first
              | (go_at_call 73; (with_reducible refine (HP _).mono ?_); rintro e w2 ⟨rfl, ⟨nd, rfl⟩⟩)
              | (go_at_call 52; (with_reducible refine (HF _ (hbd _ _)).mono ?_); rintro e w3 ⟨rfl, hb3⟩; have HB3 := below_then (hbd _ _) (hbd _ _).size hb3; clear hb3)
              | (go_at_call 63; (with_reducible refine (HT _ HB3).mono ?_); rintro e w4 ⟨rfl, hb4⟩; have HB4 := below_then HB3 HB3.size hb4; clear hb4)
              | (go_at_call 74; (with_reducible refine (HW _).mono ?_); rintro e w5 ⟨rfl, rfl⟩))
            go_roundg (hs.length - (k + 1))
            case measure => omega
            case rel => exact ⟨k + 1, by omega, by go_num, by rw [HS4.out], HB4⟩
          | false =>
            have HS4 : Hid (mayS hs b (k + 1) = S) := by show _ = _; rw [HS3.out]; rfl
            go_wp2_with (first
              | (go_at_call 73; (with_reducible refine (HP _).mono ?_); rintro e w2 ⟨rfl, ⟨nd, rfl⟩⟩)
              | (go_at_call 52; (with_reducible refine (HF _ (hbd _ _)).mono ?_); rintro e w3 ⟨rfl, hb3⟩; have HB3 := below_then (hbd _ _) (hbd _ _).size hb3; clear hb3)
              | (go_at_call 63; (with_reducible refine (HT _ HB3).mono ?_); rintro e w4 ⟨rfl, hb4⟩; have HB4 := below_then HB3 HB3.size hb4; clear hb4))
            go_roundg (hs.length - (k + 1))
            case measure => omega
            case rel => exact ⟨k + 1, by omega, by go_num, by rw [HS4.out], HB4⟩
    · obtain rfl : k = hs.length := by omega
      have hSl := mayS_lt hv b hs.length (Nat.le_refl _)
      obtain ⟨S, hS⟩ : ∃ S, mayS hs b hs.length = S := ⟨_, rfl⟩
      rw [hS] at HM hSl ⊢
      clear hS HF HT hLb
      replace g1 := pw_cell_below hb g1
      obtain ⟨W2, hW2⟩ : ∃ W2, W2 = wr := ⟨_, rfl⟩
      subst hW2
      go_wp2
      go_loopg [11, 52] hs.length (fun gk v5 v wr => ∃ k : Nat, k + gk = hs.length ∧ v = .int .i64 k ∧ Below W2.heap.size W2 wr ∧ wr.ownsRow W2.heap.size 3 1 v5 ((nats k).filter (fun e => S.testBit e.toNat)).length (nums .i64 ((nats k).filter (fun e => S.testBit e.toNat))))
      case atStart => exact ⟨0, by omega, rfl, Below.refl _ _, own_nil _ _ _ _⟩
      case round =>
        obtain ⟨k, hk, rfl, hbq, ho⟩ := hrel
        by_cases hlt : k < hs.length
        · have HH := fun W => heads_has S k hSl (by omega) W
          have hfl := filter_len (fun e => S.testBit e.toNat) k
          obtain ⟨F, hF⟩ : ∃ F, (nats k).filter (fun e => S.testBit e.toNat) = F := ⟨_, rfl⟩
          have HF : Hid ((nats (k + 1)).filter (fun e => S.testBit e.toNat) = F ++ (if S.testBit k = true then [(k : Int)] else [])) := by
            show _ = _
            rw [nats_succ, filter_snoc, hF]; rfl
          rw [hF] at ho hfl
          clear hF
          obtain ⟨bt, hbq'⟩ : ∃ b, S.testBit k = b := ⟨_, rfl⟩
          rw [hbq'] at HF
          simp only [hbq'] at HH
          clear hbq'
          cases bt with
          | true =>
            have HG : Hid ((nats (k + 1)).filter (fun e => S.testBit e.toNat) = F ++ [(k : Int)]) := by show _ = _; rw [HF.out]; rfl
            clear HF
            go_wp2_with (first
              | (go_at_call 75; (with_reducible refine (HH _).mono ?_); rintro e w2 ⟨rfl, rfl⟩)
              | (at_builtin; refine wpList_append_own _ rfl _ _ 22 rfl W2.heap.size 3 i0 (.int .i64 0) 1 8 Try.underlying22 hi hz0 hz1 hz2 rfl (by decide) _ _ _ rfl (ho.alloc _) ⟨wr.heap.size, 0, none⟩ 1 1 [.int .i64 (k : Int)] rfl rfl (cell_one_new _ _ _) (by simp [Value.oneCell']) (by unfold maxLen; omega) (by omega) (by have := hbq.size; simp; omega) ?_; intro v' w3 hown3 hgrow3 _; have HB3 := Below.grown (hbq.alloc hbq.size _) hgrow3 (by have := hbq.size; simp; omega) (fun j hj => (ho.lt j hj).1); have HO := Lib.hid hown3; clear hown3 hgrow3))
            go_roundg (hs.length - (k + 1))
            case measure => omega
            case rel => exact ⟨k + 1, by omega, by go_num, HB3, by rw [HG.out, nums_append, List.length_append]; exact HO.out⟩
          | false =>
            have HG : Hid ((nats (k + 1)).filter (fun e => S.testBit e.toNat) = F) := by show _ = _; rw [HF.out]; exact List.append_nil _
            clear HF
            go_wp2_with (go_at_call 75; (with_reducible refine (HH _).mono ?_); rintro e w2 ⟨rfl, rfl⟩)
            go_roundg (hs.length - (k + 1))
            case measure => omega
            case rel => exact ⟨k + 1, by omega, by go_num, hbq, by rw [HG.out]; exact ho⟩
        · obtain rfl : k = hs.length := by omega
          rw [← HM.out] at ho
          have HR : Hid ((Kd.int .i64).R 3 wr W2.heap.size (fun _ => True) _ R) := Kd.R_of_own ho (fun _ _ => trivial)
          clear ho
          go_wp2
          go_ret
          exact ⟨_, rfl, Kd.R_lower HR.out hb.size, below_then hb hb.size hbq⟩

set_option maxHeartbeats 1000000 in
set_option maxRecDepth 100000 in
theorem trade_May.calls (A0_0 : Option Addr) (c0_0 : Nat) (l0_0 : List (S51)) (A0_1 : Option Addr) (c0_1 : Nat) (l0_1 : List (S39)) (a1 : ByteArray) (r1 : List Int) (r2 : Int) (w : World) (hr0_0 : Kd.C k51 w A0_0 l0_0.length l0_0) (hc0_0 : l0_0.length ≤ c0_0) (hr0_1 : Kd.C k39 w A0_1 l0_1.length l0_1) (hc0_1 : l0_1.length ≤ c0_1) (h : trade_May.f l0_0 l0_1 a1 = some (r1, r2)) :
    Calls Try.prog 19 #[.agg #[.slice A0_0 l0_0.length c0_0, .slice A0_1 l0_1.length c0_1], .string a1] w fun e w' => ∃ v0_ : Value, e = .returned (.tuple #[v0_, .int .i64 r2]) ∧ Kd.R (Kd.int .i64) 3 w' w.heap.size (fun _ => True) v0_ r1 ∧ Below w.heap.size w w' := by
  have hu2 := Try.underlying26
  have hB0 := (Below.refl w.heap.size w).alloc (Nat.le_refl _) (.cells #[.slice A0_0 l0_0.length c0_0, .slice A0_1 l0_1.length c0_1] 26)
  have h := Option.some.inj h
  by_cases hz : checkT l0_0 l0_1 = 0
  · have hv : Valid l0_0 l0_1 := ⟨hz⟩
    have HG := fun W (hW : Below w.heap.size w W) => begin_good A0_0 A0_1 c0_0 c0_1 l0_0 l0_1 W (Kd.C_below hr0_0 hW) (Kd.C_below hr0_1 hW) hc0_0 hc0_1 hv
    rw [if_neg (by omega)] at h
    simp only [Prod.mk.injEq] at h
    obtain ⟨rfl, rfl⟩ := h
    have HP := fun W g (hL : IsList W g l0_0 l0_1) => may_any g l0_0 l0_1 a1 W hL hv
    obtain ⟨R, hR⟩ : ∃ R, mayT l0_1 a1 = R := ⟨_, rfl⟩
    simp only [hR] at HP ⊢
    clear hz hR
    go_enter Try.func19, Try.ntmps19
    go_wp2_with (first
      | (go_at_call 42; (with_reducible refine (HG _ hB0).mono ?_); rintro e w1 ⟨g, rfl, hL1, hb1⟩; obtain ⟨HB1, hT1⟩ := one_box hb1; clear hb1)
      | (go_at_call 53; (with_reducible refine (HP _ _ hL1).mono ?_); rintro e w3 ⟨v, rfl, hR3, hb3⟩))
    go_ret2
    exact ⟨_, rfl, Kd.R_lower hR3 HB1.size, below_then HB1 HB1.size hb3⟩
  · rw [if_pos hz] at h
    simp only [Prod.mk.injEq] at h
    obtain ⟨rfl, rfl⟩ := h
    have HG := fun W (hW : Below w.heap.size w W) => begin_bad A0_0 A0_1 c0_0 c0_1 l0_0 l0_1 W (Kd.C_below hr0_0 hW) (Kd.C_below hr0_1 hW) hc0_0 hc0_1 hz
    obtain ⟨z, hze⟩ : ∃ z, checkT l0_0 l0_1 = z := ⟨_, rfl⟩
    simp only [hze] at HG hz ⊢
    have hz1 : (z != 0) = true := bne_iff_ne.mpr hz
    clear hz hze
    go_enter Try.func19, Try.ntmps19
    go_wp2_with (go_at_call 42; (with_reducible refine (HG _ hB0).mono ?_); rintro e w1 ⟨rfl, hb1⟩; obtain ⟨HB1, hT1⟩ := one_box hb1; clear hb1)
    go_ret2
    exact ⟨_, rfl, Kd.R_nil _ _ _ _ _, HB1⟩
end Go.Proofs.Ytfbimhnlcmdcpaa.Pa
/- The contracts of short and Short. -/
namespace Go.Proofs.Ytfbimhnlcmdcpaa.Pa
open Go.RowKit Go.Proofs.YtfbimhnlcmdcpaaW.PrintWords Go.Proofs.YtfbimhnlcmdcpaaW.PrintLast Go.Proofs.YtfbimhnlcmdcpaaW.PrintMore
set_option linter.unusedVariables false
set_option linter.unusedSimpArgs false

/-- the shortest beginning, of i bytes or more, that means just one trade -/
def shortGo (hs : List Hd) (s : ByteArray) : Nat → Nat → Option ByteArray
  | 0, _ => if (mayT hs s).length = 1 then some s else none
  | m + 1, i => if (mayT hs (s.extract 0 i)).length = 1 then some (s.extract 0 i) else shortGo hs s m (i + 1)
def shortT (hs : List Hd) (h : Int) : Option ByteArray := shortGo hs (hs.getD h.toNat zHd).f0 (hs.getD h.toNat zHd).f0.size 0
def shortR (r : Option ByteArray) : ByteArray × Int := match r with
  | none => (.empty, 11)
  | some s => (s, 0)
def trade_Short.f (cs : List Cl) (hs : List Hd) (h : Int) : Option (ByteArray × Int) :=
  some (if askT cs hs h ≠ 0 then (.empty, askT cs hs h) else shortR (shortT hs h))
theorem shortGo_zero (hs : List Hd) (s : ByteArray) (i : Nat) : shortGo hs s 0 i = if (mayT hs s).length = 1 then some s else none := rfl
theorem shortGo_succ (hs : List Hd) (s : ByteArray) (m i : Nat) : shortGo hs s (m + 1) i = if (mayT hs (s.extract 0 i)).length = 1 then some (s.extract 0 i) else shortGo hs s m (i + 1) := rfl
def shortV (s : ByteArray) (r : Option ByteArray) : Value := match r with
  | none => .tuple #[.string s, .bool false]
  | some x => .tuple #[.string x, .bool true]

theorem word_ascii {s : ByteArray} (h : wordOk s = true) (pos : Nat) (hp : pos < s.size) : Utf8.decode s pos = (((s[pos]'hp).toNat), 1) := by
  have ha : (s[pos]'hp).toNat < 128 := by
    unfold wordOk at h
    simp only [Bool.and_eq_true, List.all_eq_true] at h
    have := h.2 (s[pos]'hp) (by
      have hd := drop_data s pos hp
      have : s[pos]'hp ∈ s.data.toList.drop pos := by rw [hd]; simp
      exact List.mem_of_mem_drop this)
    unfold lowB at this
    simp only [Bool.and_eq_true, decide_eq_true_eq] at this
    omega
  rw [decode_ascii s pos hp ha]

set_option maxHeartbeats 4000000 in
set_option maxRecDepth 100000 in
theorem short_any (g : Nat) (cs : List Cl) (hs : List Hd) (h : Nat) (w : World) (hL : IsList w g cs hs) (hv : Valid cs hs) (hh : h < hs.length) :
    Calls Try.prog 62 #[.pointer (some ⟨g, 0, none⟩), .int .i64 h] w fun e w' => e = .returned (shortV (hs.getD h zHd).f0 (shortT hs h)) ∧ Below w.heap.size w w' := by
  have hu2 := Try.underlying26
  have hu3 := Try.underlying81
  have hu4 := Try.underlying39
  have hgd := hv.head h hh
  have HM := fun b W (hW : Below w.heap.size w W) => may_any g cs hs b W (hL.below hW) hv
  have HR : Hid (shortT hs h = shortGo hs (hs.getD h zHd).f0 (hs.getD h zHd).f0.size 0) := rfl
  obtain ⟨R, hR⟩ : ∃ R, shortT hs h = R := ⟨_, rfl⟩
  rw [hR] at HR ⊢
  obtain ⟨A0, c0, A1, c1, A2, c2, A3, c3, hg, l0, l1, r0, r1, r2, r3⟩ := hL.ok
  obtain ⟨g0, g1, g2, g3⟩ := cells4 hg
  obtain ⟨ad, A3', c3', e, h0, h1, h2, h3, h4, h5⟩ := hdAt r1 h hh
  cases e
  obtain ⟨x, hx⟩ : ∃ x, hs.getD h zHd = x := ⟨_, rfl⟩
  rw [hx] at h0 h1 h2 h3 h4 h5 hgd HR ⊢
  have hw := hgd.word
  obtain ⟨s, hse⟩ : ∃ s, x.f0 = s := ⟨_, rfl⟩
  rw [hse] at h0 hw HR ⊢
  have HD := fun pos hp => Lib.hid (word_ascii hw pos hp)
  have hsz : s.size ≤ 12 := by
    unfold wordOk at hw
    simp only [Bool.and_eq_true, decide_eq_true_eq] at hw
    omega
  clear hL hR hgd hx hse hw
  go_enter Try.func62, Try.ntmps62
  go_wp2
  go_loopg [5] s.size (fun gk v wr => ∃ i : Nat, v = .bool false ∧ i + gk = s.size ∧ wr.heap[w.heap.size]? = some (.stringIter s i) ∧ Below w.heap.size w wr ∧ Hid (shortGo hs s gk i = R))
  case atStart => exact ⟨0, rfl, by omega, World.iter_heap w s 0, (Below.refl _ _).alloc (Nat.le_refl _) _, by show _ = _; exact HR.out.symm⟩
  case round =>
    obtain ⟨i, rfl, hi, hit, hbw, HK⟩ := hrel
    by_cases hp : i < s.size
    · obtain ⟨m, rfl⟩ : ∃ m, gk = m + 1 := ⟨gk - 1, by omega⟩
      rw [shortGo_succ] at HK
      have hnx : ∀ ty, (Instr.next (.pointer (some ⟨w.heap.size, 0, none⟩)) true ty).run Try.prog wr = _ := fun ty => Lib.run_next_any_at wr w.heap.size s i ty hit hp
      have hde := (HD i hp).out
      rw [hde] at hnx
      have hit2 := Lib.iterAt_heap wr w.heap.size s i (i + 1) hit
      have hbw2 := Lib.below_iterAt hbw (k := w.heap.size) (Nat.le_refl _) s (i + 1)
      obtain ⟨W1, hW1⟩ : ∃ W1, W1 = wr.iterAt w.heap.size s (i + 1) := ⟨_, rfl⟩
      rw [← hW1] at hnx hit2 hbw2
      have HM := HM (s.extract 0 i) W1 hbw2
      have hile : (i : Int) ≤ s.size := by omega
      have hi0 : (0 : Int) ≤ i := by omega
      clear hW1 hit hbw hde
      obtain ⟨T, hT⟩ : ∃ T, mayT hs (s.extract 0 i) = T := ⟨_, rfl⟩
      rw [hT] at HM HK
      clear hT
      by_cases h1 : T.length = 1
      · rw [if_pos h1] at HK
        have h1a : ((T.length : Int) == 1) = true := beq_iff_eq.mpr (by omega)
        have HV : Hid (shortV s R = .tuple #[.string (s.extract 0 i), .bool true]) := by show _ = _; rw [← HK.out]; rfl
        clear h1 HK
        go_wp2_with (go_at_call 53; (with_reducible refine HM.mono ?_); rintro e w3 ⟨v, rfl, hR3, hb3⟩; obtain ⟨Ar, cr, rfl, -, -⟩ := Kd.R_reads hR3; have HB3 := below_then hbw2 hbw2.size hb3; clear hR3)
        go_ret2
        exact ⟨by rw [HV.out]; rfl, HB3⟩
      · rw [if_neg h1] at HK
        have h1a : ((T.length : Int) == 1) = false := beq_eq_false_iff_ne.mpr (by omega)
        clear h1
        go_wp2_with (go_at_call 53; (with_reducible refine HM.mono ?_); rintro e w3 ⟨v, rfl, hR3, hb3⟩; obtain ⟨Ar, cr, rfl, -, -⟩ := Kd.R_reads hR3; have HB3 := below_then hbw2 hbw2.size hb3; have hit3 := blk_below hit2 hb3; clear hR3)
        go_roundg m
        case measure => omega
        case rel => exact ⟨i + 1, rfl, by omega, hit3, HB3, HK⟩
    · obtain rfl : i = s.size := by omega
      obtain rfl : gk = 0 := by omega
      rw [shortGo_zero] at HK
      have hnx : ∀ ty, (Instr.next (.pointer (some ⟨w.heap.size, 0, none⟩)) true ty).run Try.prog wr = _ := fun ty => Lib.run_next_end_at wr w.heap.size s s.size ty hit hp
      have HM := HM s wr hbw
      obtain ⟨T, hT⟩ : ∃ T, mayT hs s = T := ⟨_, rfl⟩
      rw [hT] at HM HK
      have HV : Hid (shortV s R = .tuple #[.string s, .bool ((T.length : Int) == 1)]) := by
        show _ = _
        rw [← HK.out]
        by_cases h1 : T.length = 1
        · rw [if_pos h1, h1]; rfl
        · have h1a : ((T.length : Int) == 1) = false := beq_eq_false_iff_ne.mpr (by omega)
          rw [if_neg h1, h1a]; rfl
      clear hT HK
      go_wp2_with (go_at_call 53; (with_reducible refine HM.mono ?_); rintro e w3 ⟨v, rfl, hR3, hb3⟩; obtain ⟨Ar, cr, rfl, -, -⟩ := Kd.R_reads hR3; have HB3 := below_then hbw hbw.size hb3; clear hR3)
      go_ret2
      exact ⟨by rw [HV.out]; rfl, HB3⟩

set_option maxHeartbeats 1000000 in
set_option maxRecDepth 100000 in
theorem trade_Short.calls (A0_0 : Option Addr) (c0_0 : Nat) (l0_0 : List (S51)) (A0_1 : Option Addr) (c0_1 : Nat) (l0_1 : List (S39)) (a1 : Int) (r1 : ByteArray) (r2 : Int) (w : World) (hr0_0 : Kd.C k51 w A0_0 l0_0.length l0_0) (hc0_0 : l0_0.length ≤ c0_0) (hr0_1 : Kd.C k39 w A0_1 l0_1.length l0_1) (hc0_1 : l0_1.length ≤ c0_1) (h : trade_Short.f l0_0 l0_1 a1 = some (r1, r2)) :
    Calls Try.prog 27 #[.agg #[.slice A0_0 l0_0.length c0_0, .slice A0_1 l0_1.length c0_1], .int .i64 a1] w fun e w' => e = .returned (.tuple #[.string r1, .int .i64 r2]) ∧ Below w.heap.size w w' := by
  have hu2 := Try.underlying26
  have hB0 := (Below.refl w.heap.size w).alloc (Nat.le_refl _) (.cells #[.slice A0_0 l0_0.length c0_0, .slice A0_1 l0_1.length c0_1] 26)
  have hB1 := hB0.alloc hB0.size (.cells #[.int .i64 a1] 3)
  have hcq := second_cell w (.cells #[.slice A0_0 l0_0.length c0_0, .slice A0_1 l0_1.length c0_1] 26) (.int .i64 a1)
  have h := Option.some.inj h
  by_cases hz : askT l0_0 l0_1 a1 = 0
  · obtain ⟨hv, n, rfl, hn⟩ := askT_zero hz
    have HG := fun W q (hW : Below w.heap.size w W) hq => ask_good A0_0 A0_1 c0_0 c0_1 l0_0 l0_1 q n W (Kd.C_below hr0_0 hW) (Kd.C_below hr0_1 hW) hc0_0 hc0_1 hq hv hn
    have HF := fun W g (hL : IsList W g l0_0 l0_1) => short_any g l0_0 l0_1 n W hL hv hn
    rw [if_neg (by omega)] at h
    obtain ⟨R, hRe⟩ : ∃ R, shortT l0_1 n = R := ⟨_, rfl⟩
    rw [hRe] at h
    simp only [hRe] at HF
    clear hz hRe
    match R, h with
    | none, hR =>
      simp only [shortR, Prod.mk.injEq] at hR
      obtain ⟨rfl, rfl⟩ := hR
      simp only [shortV] at HF
      go_enter Try.func27, Try.ntmps27
      go_wp2_with (first
        | (go_at_call 51; (with_reducible refine (HG _ _ hB1 hcq).mono ?_); rintro e w1 ⟨g, rfl, hL1, hb1⟩; obtain HB1 := below_then hB1 hB1.size hb1; clear hb1)
        | (go_at_call 62; (with_reducible refine (HF _ _ hL1).mono ?_); rintro e w3 ⟨rfl, hb3⟩))
      go_ret2
      exact ⟨rfl, below_then HB1 HB1.size hb3⟩
    | some s, hR =>
      simp only [shortR, Prod.mk.injEq] at hR
      obtain ⟨rfl, rfl⟩ := hR
      simp only [shortV] at HF
      go_enter Try.func27, Try.ntmps27
      go_wp2_with (first
        | (go_at_call 51; (with_reducible refine (HG _ _ hB1 hcq).mono ?_); rintro e w1 ⟨g, rfl, hL1, hb1⟩; obtain HB1 := below_then hB1 hB1.size hb1; clear hb1)
        | (go_at_call 62; (with_reducible refine (HF _ _ hL1).mono ?_); rintro e w3 ⟨rfl, hb3⟩))
      go_ret2
      exact ⟨rfl, below_then HB1 HB1.size hb3⟩
  · have HG := fun W q (hW : Below w.heap.size w W) hq => ask_bad A0_0 A0_1 c0_0 c0_1 l0_0 l0_1 q a1 W (Kd.C_below hr0_0 hW) (Kd.C_below hr0_1 hW) hc0_0 hc0_1 hq hz
    rw [if_pos hz] at h
    obtain ⟨z, hze⟩ : ∃ z, askT l0_0 l0_1 a1 = z := ⟨_, rfl⟩
    rw [hze] at h hz
    simp only [Prod.mk.injEq] at h
    obtain ⟨rfl, rfl⟩ := h
    simp only [hze] at HG
    have hz1 : (z != 0) = true := bne_iff_ne.mpr hz
    clear hz hze
    go_enter Try.func27, Try.ntmps27
    go_wp2_with (go_at_call 51; (with_reducible refine (HG _ _ hB1 hcq).mono ?_); rintro e w1 ⟨rfl, hb1⟩; obtain HB1 := below_then hB1 hB1.size hb1; clear hb1)
    go_ret2
    exact ⟨rfl, HB1⟩
end Go.Proofs.Ytfbimhnlcmdcpaa.Pa
/- The contracts of next, trades and nets. -/
namespace Go.Proofs.Ytfbimhnlcmdcpaa.Pa
open Go.RowKit Go.Proofs.YtfbimhnlcmdcpaaW.PrintWords Go.Proofs.YtfbimhnlcmdcpaaW.PrintLast Go.Proofs.YtfbimhnlcmdcpaaW.PrintMore
set_option linter.unusedVariables false
set_option linter.unusedSimpArgs false

/-- to which headings one can go in one step -/
def nextT (x : Hd) : List Int := if x.f2 ≠ -1 then [x.f2] else x.f3

theorem next_art (cl : Int) (A : Option Addr) (n c : Nat) (w : World) :
    Calls Try.prog 140 #[.agg #[.int .i64 cl, .slice A n c]] w fun e w' => e = .returned (.slice A n c) ∧ Below w.heap.size w w' := by
  have hu5 := Try.underlying103
  have hB0 := (Below.refl w.heap.size w).alloc (Nat.le_refl _) (.cells #[.int .i64 cl, .slice A n c] 103)
  go_enter Try.func140, Try.ntmps140
  go_wp2
  go_ret
  exact ⟨rfl, hB0⟩
theorem next_idx (A : Option Addr) (n c : Nat) (w : World) :
    Calls Try.prog 142 #[.agg #[.slice A n c]] w fun e w' => e = .returned (.slice A n c) ∧ Below w.heap.size w w' := by
  have hu5 := Try.underlying115
  have hB0 := (Below.refl w.heap.size w).alloc (Nat.le_refl _) (.cells #[.slice A n c] 115)
  go_enter Try.func142, Try.ntmps142
  go_wp2
  go_ret
  exact ⟨rfl, hB0⟩
theorem C_int1 {w : World} {g : Nat} {x : Int} (h : w.cell? ⟨g, 0, none⟩ = some (.int .i64 x)) : (Kd.int .i64).C w (some ⟨g, 0, none⟩) 1 [x] := by
  refine ⟨rfl, by decide, fun _ => ⟨_, rfl, fun j p hj => ?_⟩⟩
  have hj0 : j = 0 := by
    have := (List.getElem?_eq_some_iff.1 hj).1
    simp at this
    exact this
  subst hj0
  obtain rfl : x = p := by simpa using hj
  refine ⟨[.int .i64 x], rfl, rfl, fun i u hu => ?_⟩
  have hi0 : i = 0 := by
    have := (List.getElem?_eq_some_iff.1 hu).1
    simp at this
    exact this
  subst hi0
  obtain rfl : Value.int .i64 x = u := by simpa using hu
  exact h
theorem next_ptr (s : Int) (w : World) :
    Calls Try.prog 141 #[.agg #[.int .i64 s]] w fun e w' => ∃ g, e = .returned (.slice (some ⟨g, 0, none⟩) 1 1) ∧ w.heap.size ≤ g ∧ g < w'.heap.size ∧ w'.cell? ⟨g, 0, none⟩ = some (.int .i64 s) ∧ Below w.heap.size w w' := by
  have hu5 := Try.underlying113
  have hB0 := (Below.refl w.heap.size w).alloc (Nat.le_refl _) (.cells #[.int .i64 s] 113)
  have hB1 := hB0.alloc hB0.size (.cells #[.int .i64 s] 3)
  have hcq := second_cell w (.cells #[.int .i64 s] 113) (.int .i64 s)
  go_enter Try.func141, Try.ntmps141
  go_wp2
  go_ret
  exact ⟨_, rfl, by omega, by simp, hcq, hB1⟩

theorem meth_ptr (n : Nat) (v : Value) (W : World) : Sem.run Try.prog (method (n + 1) 113 v "wayzgoose/trade.next") W = .ok (141, v) W := by kernel_rfl
theorem meth_art (n : Nat) (v : Value) (W : World) : Sem.run Try.prog (method (n + 1) 103 v "wayzgoose/trade.next") W = .ok (140, v) W := by kernel_rfl
theorem meth_idx (n : Nat) (v : Value) (W : World) : Sem.run Try.prog (method (n + 1) 115 v "wayzgoose/trade.next") W = .ok (142, v) W := by kernel_rfl

/-- a method next, in one word: what is read of its result stays so while block B alone is written -/
def NextOk (w : World) (B : Nat) (L : List Int) (f : FuncId) (pv : Value) : Prop :=
  ∀ W : World, Below w.heap.size w W → B < W.heap.size → Calls Try.prog f #[pv] W fun e w' => ∃ A c, e = .returned (.slice A L.length c) ∧ Below W.heap.size W w' ∧ ∀ W' : World, w'.grownBy W' (some B) → (Kd.int .i64).C W' A L.length L
theorem next_any {w : World} {x : Hd} {v : Value} (h : KindVal w x v) (B : Nat) (hB : w.heap.size ≤ B) :
    (x.f2 ≠ -1 ∧ ∃ pv, v = .iface 113 pv ∧ NextOk w B (nextT x) 141 pv) ∨ (x.f2 = -1 ∧ x.f1 ≠ -1 ∧ ∃ pv, v = .iface 103 pv ∧ NextOk w B (nextT x) 140 pv) ∨ (x.f2 = -1 ∧ x.f1 = -1 ∧ ∃ pv, v = .iface 115 pv ∧ NextOk w B (nextT x) 142 pv) := by
  have keep : ∀ {W w' W' : World}, Below w.heap.size w W → Below W.heap.size W w' → w'.grownBy W' (some B) → Below w.heap.size w W' := fun hW hw hg =>
    (below_then hW hW.size hw).grown hg (below_then hW hW.size hw).size (fun j hj => by cases hj; exact hB)
  rcases h with ⟨k1, rfl⟩ | ⟨k1, k2, B3, d3, rfl, k3, k4⟩ | ⟨k1, k2, B3, d3, rfl, k3, k4⟩
  · refine .inl ⟨k1, _, rfl, fun W hW hBW => (next_ptr x.f2 W).mono ?_⟩
    rintro e w' ⟨g, rfl, hg0, hg1, hgc, hb⟩
    have hL : nextT x = [x.f2] := if_pos k1
    rw [hL]
    refine ⟨_, _, rfl, hb, fun W' hg => C_int1 ((hg.cell_far ⟨g, 0, none⟩ hg1 (fun e => ?_)).trans hgc)⟩
    have e2 : g = B := by simpa using e
    omega
  · refine .inr (.inl ⟨k1, k2, _, rfl, fun W hW hBW => (next_art x.f1 B3 x.f3.length d3 W).mono ?_⟩)
    rintro e w' ⟨rfl, hb⟩
    have hL : nextT x = x.f3 := if_neg (by omega)
    rw [hL]
    exact ⟨_, _, rfl, hb, fun W' hg => Kd.C_below k4 (keep hW hb hg)⟩
  · refine .inr (.inr ⟨k1, k2, _, rfl, fun W hW hBW => (next_idx B3 x.f3.length d3 W).mono ?_⟩)
    rintro e w' ⟨rfl, hb⟩
    have hL : nextT x = x.f3 := if_neg (by omega)
    rw [hL]
    exact ⟨_, _, rfl, hb, fun W' hg => Kd.C_below k4 (keep hW hb hg)⟩
theorem nextT_in {cs : List Cl} {hs : List Hd} (hv : Valid cs hs) (k : Nat) (hk : k < hs.length) (j : Nat) (hj : j < (nextT (hs.getD k zHd)).length) : ∃ p : Nat, (nextT (hs.getD k zHd)).getD j 0 = p ∧ p < hs.length := by
  have hg := hv.head k hk
  obtain ⟨x, hx⟩ : ∃ x, hs.getD k zHd = x := ⟨_, rfl⟩
  rw [hx] at hg hj ⊢
  unfold nextT at hj ⊢
  by_cases h : x.f2 ≠ -1
  · rw [if_pos h] at hj ⊢
    have h0 : j = 0 := by simpa using hj
    subst h0
    have := hg.see
    exact ⟨x.f2.toNat, by simp; omega, by omega⟩
  · rw [if_neg h] at hj ⊢
    have := (hg.also j hj).1
    exact ⟨(x.f3.getD j 0).toNat, by omega, by omega⟩

/-! ### trades -/
def tradesS (hs : List Hd) : Nat → Nat
  | 0 => 0
  | k + 1 => if artB (hs.getD k zHd) = true then tradesS hs k ||| 2 ^ k else tradesS hs k
theorem tradesS_lt (hs : List Hd) : ∀ k, k ≤ 6 → tradesS hs k < 256
  | 0, _ => by show 0 < 256; omega
  | k + 1, hk => by
    have ih := tradesS_lt hs k (by omega)
    show (if _ then _ else _) < 256
    split
    · exact or_lt _ _ ih (by omega)
    · exact ih
set_option maxHeartbeats 1000000 in
set_option maxRecDepth 100000 in
theorem trades_any (g : Nat) (cs : List Cl) (hs : List Hd) (w : World) (hL : IsList w g cs hs) (hv : Valid cs hs) :
    Calls Try.prog 86 #[.pointer (some ⟨g, 0, none⟩)] w fun e w' => e = .returned (.int .u8 (tradesS hs hs.length)) ∧ Below w.heap.size w w' := by
  obtain ⟨m0, m1, -, -⟩ := hv.split
  have hu3 := Try.underlying81
  obtain ⟨A0, c0, A1, c1, A2, c2, A3, c3, hg, l0, l1, r0, r1, r2, r3⟩ := hL.ok
  obtain ⟨g0, g1, g2, g3⟩ := cells4 hg
  have HT := fun (n : Nat) (hn : n < hs.length) W (hW : Below w.heap.size w W) => isTrade_any g cs hs n W (hL.below hW) hn
  clear hL
  go_enter Try.func86, Try.ntmps86
  go_wp2
  go_loopg [3, 10] hs.length (fun gk v3 v wr => ∃ k : Nat, k + gk = hs.length ∧ v = .int .i64 k ∧ v3 = .int .u8 (tradesS hs k : Int) ∧ Below w.heap.size w wr)
  case atStart => exact ⟨0, by omega, rfl, rfl, Below.refl _ _⟩
  case round =>
    obtain ⟨k, hk, rfl, rfl, hb⟩ := hrel
    by_cases hlt : k < hs.length
    · have hSl := tradesS_lt hs k (by omega)
      have HS : Hid (tradesS hs (k + 1) = if artB (hs.getD k zHd) = true then tradesS hs k ||| 2 ^ k else tradesS hs k) := rfl
      have HT := HT k hlt
      have HW := fun W => heads_with (tradesS hs k) k hSl (by omega) W
      obtain ⟨S, hS⟩ : ∃ S, tradesS hs k = S := ⟨_, rfl⟩
      obtain ⟨q, hq⟩ : ∃ q, artB (hs.getD k zHd) = q := ⟨_, rfl⟩
      rw [hS, hq] at HS
      simp only [hS] at HW
      simp only [hq] at HT
      rw [hS]
      clear hS hq
      cases q with
      | true =>
        have HS4 : Hid (tradesS hs (k + 1) = S ||| 2 ^ k) := by show _ = _; rw [HS.out]; rfl
        go_wp2_with (first
          | (go_at_call 63; (with_reducible refine (HT _ hb).mono ?_); rintro e w4 ⟨rfl, hb4⟩; have HB4 := below_then hb hb.size hb4; clear hb4)
          | (go_at_call 74; (with_reducible refine (HW _).mono ?_); rintro e w5 ⟨rfl, rfl⟩))
        go_roundg (hs.length - (k + 1))
        case measure => omega
        case rel => exact ⟨k + 1, by omega, by go_num, by rw [HS4.out], HB4⟩
      | false =>
        have HS4 : Hid (tradesS hs (k + 1) = S) := by show _ = _; rw [HS.out]; rfl
        go_wp2_with (go_at_call 63; (with_reducible refine (HT _ hb).mono ?_); rintro e w4 ⟨rfl, hb4⟩; have HB4 := below_then hb hb.size hb4; clear hb4)
        go_roundg (hs.length - (k + 1))
        case measure => omega
        case rel => exact ⟨k + 1, by omega, by go_num, by rw [HS4.out], HB4⟩
    · obtain rfl : k = hs.length := by omega
      go_wp2
      go_ret
      exact ⟨rfl, hb⟩

/-! ### nets -/
def addAll (s : Nat) (l : List Int) : Nat := l.foldl (fun s n => s ||| 2 ^ n.toNat) s
/-- the nets of the first k headings, and of the first j references of heading k -/
def stN (hs : List Hd) (k j : Nat) (i : Nat) : Nat := if i < k then addAll 0 (nextT (hs.getD i zHd)) else if i = k then addAll 0 ((nextT (hs.getD k zHd)).take j) else 0
def upd (st : Nat → Nat) (h v : Nat) (i : Nat) : Nat := if i = h then v else st i
def netCells (st : Nat → Nat) : Array Value := #[.int .u8 (st 0), .int .u8 (st 1), .int .u8 (st 2), .int .u8 (st 3), .int .u8 (st 4), .int .u8 (st 5)]
theorem addAll_lt (l : List Int) (h : ∀ n, n ∈ l → n < 8) : ∀ s, s < 256 → addAll s l < 256 := by
  induction l with
  | nil => exact fun s hs => hs
  | cons a l ih =>
    intro s hs
    show addAll (s ||| 2 ^ a.toNat) l < 256
    refine ih (fun n hn => h n (List.mem_cons_of_mem _ hn)) _ (or_lt _ _ hs ?_)
    have := h a List.mem_cons_self
    omega
theorem six {P : Nat → Prop} (h0 : P 0) (h1 : P 1) (h2 : P 2) (h3 : P 3) (h4 : P 4) (h5 : P 5) : ∀ h, h < 6 → P h
  | 0, _ => h0 | 1, _ => h1 | 2, _ => h2 | 3, _ => h3 | 4, _ => h4 | 5, _ => h5 | n + 6, h => by omega
theorem netCells_get {w : World} {b : Nat} {st : Nat → Nat} {t : TypeId} (hb : w.heap[b]? = some (.cells (netCells st) t (0, 0))) : ∀ h, h < 6 → w.cell? ⟨b, h, none⟩ = some (.int .u8 (st h)) := by
  apply six <;> (simp [World.cell?, hb, netCells])
theorem netCells_set {w : World} {b : Nat} {st : Nat → Nat} {t : TypeId} (hb : w.heap[b]? = some (.cells (netCells st) t (0, 0))) (v : Nat) : ∀ h, h < 6 → (w.setCell ⟨b, h, none⟩ (.int .u8 v)).heap[b]? = some (.cells (netCells (upd st h v)) t (0, 0)) := by
  apply six <;> (simp [World.setCell, Array.getElem?_modify, hb, netCells, upd])

end Go.Proofs.Ytfbimhnlcmdcpaa.Pa
/- The contract of nets. -/
namespace Go.Proofs.Ytfbimhnlcmdcpaa.Pa
open Go.RowKit Go.Proofs.YtfbimhnlcmdcpaaW.PrintWords Go.Proofs.YtfbimhnlcmdcpaaW.PrintLast Go.Proofs.YtfbimhnlcmdcpaaW.PrintMore
set_option linter.unusedVariables false
set_option linter.unusedSimpArgs false

theorem stN_full (hs : List Hd) (k : Nat) : stN hs k (nextT (hs.getD k zHd)).length = stN hs (k + 1) 0 := by
  funext i
  unfold stN
  by_cases h1 : i < k
  · rw [if_pos h1, if_pos (by omega)]
  · by_cases h2 : i = k
    · subst h2
      rw [if_neg h1, if_pos rfl, if_pos (by omega), List.take_length]
    · rw [if_neg h1, if_neg h2, if_neg (by omega)]
      split <;> rfl
theorem stN_next (hs : List Hd) (k j : Nat) (L : List Int) (hL : nextT (hs.getD k zHd) = L) (p : Nat) (hj : j < L.length) (hp : L.getD j 0 = p) : upd (stN hs k j) k (stN hs k j k ||| 2 ^ p) = stN hs k (j + 1) := by
  funext i
  unfold upd stN
  by_cases h2 : i = k
  · subst h2
    rw [if_pos rfl, if_neg (by omega), if_pos rfl, if_neg (by omega), if_pos rfl, hL, List.take_succ_eq_append_getElem hj]
    unfold addAll
    rw [List.foldl_append]
    have : L[j] = (p : Int) := by rw [← hp, List.getD_eq_getElem?_getD, List.getElem?_eq_getElem hj]; rfl
    simp [this]
  · rw [if_neg h2, if_neg h2, if_neg h2]
theorem stN_lt {cs : List Cl} {hs : List Hd} (hv : Valid cs hs) (k j : Nat) (hk : k < hs.length) (i : Nat) : stN hs k j i < 256 := by
  have m1 := hv.split.2.1
  have key : ∀ q, q < hs.length → ∀ n, n ∈ nextT (hs.getD q zHd) → n < 8 := fun q hq n hn => by
    obtain ⟨j, hj, rfl⟩ := List.mem_iff_getElem.1 hn
    obtain ⟨p, hp, hpl⟩ := nextT_in hv q hq j hj
    rw [List.getD_eq_getElem?_getD, List.getElem?_eq_getElem hj] at hp
    have : (nextT (hs.getD q zHd))[j] = (p : Int) := hp
    omega
  unfold stN
  split
  · exact addAll_lt _ (key i (by omega)) 0 (by omega)
  · split
    · exact addAll_lt _ (fun n hn => key k hk n (List.mem_of_mem_take hn)) 0 (by omega)
    · omega
def netVal (st : Nat → Nat) : Value := .agg #[.int .u8 (st 0), .int .u8 (st 1), .int .u8 (st 2), .int .u8 (st 3), .int .u8 (st 4), .int .u8 (st 5)]
def netT (hs : List Hd) : Nat → Nat := stN hs hs.length 0

theorem cells6 {w : World} {b : Nat} {t : TypeId} {a0 a1 a2 a3 a4 a5 : Value} (hb : w.heap[b]? = some (.cells #[a0, a1, a2, a3, a4, a5] t (0, 0))) :
    w.cell? ⟨b, 0, none⟩ = some a0 ∧ w.cell? ⟨b, 1, none⟩ = some a1 ∧ w.cell? ⟨b, 2, none⟩ = some a2 ∧ w.cell? ⟨b, 3, none⟩ = some a3 ∧ w.cell? ⟨b, 4, none⟩ = some a4 ∧ w.cell? ⟨b, 5, none⟩ = some a5 := by
  refine ⟨?_, ?_, ?_, ?_, ?_, ?_⟩ <;> simp [World.cell?, hb]

theorem results_c1 {P : Program} {fn : Func} {p : Tmp} {ty : TypeId} (h : fn.results = #[.cell p ty]) (tmps : Array Value) (w : World) (g : Nat) (t : TypeId) (cs : Array Value) (fr : Nat × Nat) (d : TypeDesc)
    (hp : tmps.getD p undef = .pointer (some ⟨g, 0, none⟩)) (hg : w.heap[g]? = some (.cells cs t fr))
    (hu : P.underlying ty = some d) (hd : (match d with | .struct _ | .array _ _ => true | _ => false) = true) (hi : (P.info? ty).map (·.size) = some cs.size) :
    (results fn tmps).run P w = .ok (.agg cs) w := by
  have hp' : tmps[p]?.getD undef = .pointer (some ⟨g, 0, none⟩) := by simpa using hp
  simp [results, h, hp', asAddr, run_loadVar_row w g t ty cs fr d hg hu hd hi]

set_option maxHeartbeats 4000000 in
set_option maxRecDepth 100000 in
theorem nets_any (g : Nat) (cs : List Cl) (hs : List Hd) (w : World) (hL : IsList w g cs hs) (hv : Valid cs hs) :
    Calls Try.prog 87 #[.pointer (some ⟨g, 0, none⟩)] w fun e w' => e = .returned (netVal (netT hs)) ∧ Below w.heap.size w w' := by
  obtain ⟨m0, m1, -, -⟩ := hv.split
  have hu3 := Try.underlying81
  have hun := Try.underlying134
  obtain ⟨A0, c0, A1, c1, A2, c2, A3, c3, hg, l0, l1, r0, r1, r2, r3⟩ := hL.ok
  obtain ⟨g0, g1, g2, g3⟩ := cells4 hg
  have hz : ∀ i, stN hs 0 0 i = 0 := fun i => by unfold stN; split; omega; split <;> rfl
  have hN : Hid (netT hs = stN hs hs.length 0) := rfl
  obtain ⟨T, hT⟩ : ∃ T, netT hs = T := ⟨_, rfl⟩
  rw [hT] at hN ⊢
  clear hL hT
  have HZ : Hid (netCells (stN hs 0 0) = #[.int .u8 0, .int .u8 0, .int .u8 0, .int .u8 0, .int .u8 0, .int .u8 0]) := by show _ = _; simp only [netCells, hz]; rfl
  clear hz
  have hglt : g < w.heap.size := World.block_lt_of_cell? _ _ g3
  have eg := World.new_ne w ⟨g, 3, none⟩ g3
  have eg2 : g ≠ w.heap.size + 1 := by omega
  go_enter Try.func87, Try.ntmps87
  go_wp2
  go_loopg [13] hs.length (fun gk v wr => ∃ k : Nat, k + gk = hs.length ∧ v = .int .i64 k ∧ wr.heap[w.heap.size]? = some (.cells #[.int .u8 0, .int .u8 0, .int .u8 0, .int .u8 0, .int .u8 0, .int .u8 0] 134 (0, 0)) ∧ wr.heap[w.heap.size + 1]? = some (.cells (netCells (stN hs k 0)) 134 (0, 0)) ∧ Below w.heap.size w wr)
  case atStart =>
    refine ⟨0, by omega, rfl, ?_, ?_, ((Below.refl w.heap.size w).alloc (Nat.le_refl _) _).alloc (by simp) _⟩
    · exact blk_below (heap_alloc_new w _) ((Below.refl _ _).alloc (Nat.le_refl _) _)
    · rw [HZ.out]
      have := heap_alloc_new (w.alloc (.cells #[.int .u8 0, .int .u8 0, .int .u8 0, .int .u8 0, .int .u8 0, .int .u8 0] 134)) (.cells #[.int .u8 0, .int .u8 0, .int .u8 0, .int .u8 0, .int .u8 0, .int .u8 0] 134)
      rwa [World.size_alloc] at this
  case round =>
    obtain ⟨k, hk, rfl, hr, hx, hb⟩ := hrel
    by_cases hlt : k < hs.length
    · have q3 := pw_cell_below hb g3
      obtain ⟨ad, v, e, hcv, hkv⟩ := kindAt (Kd.C_below r3 hb) k hlt
      cases e
      have hkv0 : KindVal w (hs.getD k zHd) v := by
        obtain ⟨ad', v', e', hcv', hkv'⟩ := kindAt r3 k hlt
        have : v = v' := by
          cases e'
          have := pw_cell_below hb hcv'
          rw [hcv] at this
          exact Option.some.inj this
        rw [this]; exact hkv'
      have HIn := fun j hj => nextT_in hv k hlt j hj
      have HSt := fun j => stN_lt hv k j hlt k
      have HFu := Lib.hid (stN_full hs k)
      have HNx := fun L hL j p hj hp => Lib.hid (stN_next hs k j L hL p hj hp)
      have hnx := next_any hkv0 (w.heap.size + 1) (by omega)
      obtain ⟨L, hL⟩ : ∃ L, nextT (hs.getD k zHd) = L := ⟨_, rfl⟩
      rw [hL] at HIn HFu hnx
      replace HNx := HNx L hL
      clear hL hkv hkv0
      rcases hnx with ⟨-, pv, rfl, HN⟩ | ⟨-, -, pv, rfl, HN⟩ | ⟨-, -, pv, rfl, HN⟩
      all_goals
        have HN := HN wr hb (blk_lt hx)
        have hm1 := fun n W => meth_ptr n pv W
        have hm2 := fun n W => meth_art n pv W
        have hm3 := fun n W => meth_idx n pv W
        go_wp2_with (first
          | (go_at_call 141; (with_reducible refine HN.mono ?_); rintro e W2 ⟨Ax, cx, rfl, hb2, hC⟩; have hx2 := blk_below hx hb2; have hr2 := blk_below hr hb2; have HB2 := below_then hb hb.size hb2; clear hx hr hb hb2)
          | (go_at_call 140; (with_reducible refine HN.mono ?_); rintro e W2 ⟨Ax, cx, rfl, hb2, hC⟩; have hx2 := blk_below hx hb2; have hr2 := blk_below hr hb2; have HB2 := below_then hb hb.size hb2; clear hx hr hb hb2)
          | (go_at_call 142; (with_reducible refine HN.mono ?_); rintro e W2 ⟨Ax, cx, rfl, hb2, hC⟩; have hx2 := blk_below hx hb2; have hr2 := blk_below hr hb2; have HB2 := below_then hb hb.size hb2; clear hx hr hb hb2))
        go_loopg [21] L.length (fun gj v wr => ∃ j : Nat, j + gj = L.length ∧ v = .int .i64 j ∧ W2.grownBy wr (some (w.heap.size + 1)) ∧ wr.heap[w.heap.size + 1]? = some (.cells (netCells (stN hs k j)) 134 (0, 0)))
        case atStart => exact ⟨0, by omega, rfl, World.grownBy.refl _ _, hx2⟩
        case round =>
          obtain ⟨j, hj, rfl, hgr, hx⟩ := hrel
          by_cases hjl : j < L.length
          · obtain ⟨p, hp, hpl⟩ := HIn j hjl
            obtain ⟨aj, ej, hcj⟩ := intAt (hC wr hgr) j hjl
            cases ej
            rw [hp] at hcj
            have hLm : L.length ≤ 9223372036854775807 := (hC wr hgr).2.1
            have hck := netCells_get hx k (by omega)
            have hfz := blk_frozen hx k
            have HW := fun W => heads_with (stN hs k j k) p (HSt j) (by omega) W
            have HNj := HNx j p hjl hp
            obtain ⟨S, hS⟩ : ∃ S, stN hs k j k = S := ⟨_, rfl⟩
            rw [hS] at hck HNj
            simp only [hS] at HW
            have hxn := netCells_set hx (S ||| 2 ^ p) k (by omega)
            rw [HNj.out] at hxn
            have HXn := Lib.hid hxn
            have hk6 : (k : Int) < 6 := by omega
            clear hS hxn HNj
            go_wp2_with (go_at_call 74; (with_reducible refine (HW _).mono ?_); rintro e w5 ⟨rfl, rfl⟩)
            go_roundg (L.length - (j + 1))
            case measure => omega
            case rel => exact ⟨j + 1, by omega, by go_num, hgr.trans (grownBy_setCell _ _ _), HXn.out⟩
          · obtain rfl : j = L.length := by omega
            rw [HFu.out] at hx
            have hr3 := (hgr.block w.heap.size (blk_lt hr2) (by simp)).trans hr2
            have HB3 := HB2.grown hgr HB2.size (fun q hq => by cases hq; omega)
            go_wp2
            go_roundg (hs.length - (k + 1))
            case measure => omega
            case rel => exact ⟨k + 1, by omega, by go_num, hr3, hx, HB3⟩
    · obtain rfl : k = hs.length := by omega
      rw [← hN.out] at hx
      obtain ⟨x0, x1, x2, x3, x4, x5⟩ := cells6 hx
      obtain ⟨z0, z1, z2, z3, z4, z5⟩ := cells6 hr
      have zf := fun j => blk_frozen hr j
      have hne : w.heap.size ≠ w.heap.size + 1 := by omega
      have hq := netCells_set (netCells_set (netCells_set (netCells_set (netCells_set (netCells_set (st := fun _ => 0) (b := w.heap.size) hr (T 0) 0 (by omega)) (T 1) 1 (by omega)) (T 2) 2 (by omega)) (T 3) 3 (by omega)) (T 4) 4 (by omega)) (T 5) 5 (by omega)
      have hB2 := (((((hb.setCell (p := ⟨w.heap.size, 0, none⟩) (Nat.le_refl _) (.int .u8 (T 0))).setCell (p := ⟨w.heap.size, 1, none⟩) (Nat.le_refl _) (.int .u8 (T 1))).setCell (p := ⟨w.heap.size, 2, none⟩) (Nat.le_refl _) (.int .u8 (T 2))).setCell (p := ⟨w.heap.size, 3, none⟩) (Nat.le_refl _) (.int .u8 (T 3))).setCell (p := ⟨w.heap.size, 4, none⟩) (Nat.le_refl _) (.int .u8 (T 4))).setCell (p := ⟨w.heap.size, 5, none⟩) (Nat.le_refl _) (.int .u8 (T 5))
      have HQ := Lib.hid hq
      clear hq
      go_wp2
      refine bodyPost_ret (results_c1 rfl _ _ _ _ _ _ _ rfl HQ.out hun rfl (by kernel_rfl)) rfl ?_
      exact ⟨rfl, hB2⟩
end Go.Proofs.Ytfbimhnlcmdcpaa.Pa
/- The contract of found. -/
namespace Go.Proofs.Ytfbimhnlcmdcpaa.Pa
open Go.RowKit Go.Proofs.YtfbimhnlcmdcpaaW.PrintWords Go.Proofs.YtfbimhnlcmdcpaaW.PrintLast Go.Proofs.YtfbimhnlcmdcpaaW.PrintMore
set_option linter.unusedVariables false
set_option linter.unusedSimpArgs false

/-- one step more, over the first k headings -/
def stepS (st : Nat → Nat) (all : Nat) : Nat → Nat
  | 0 => all
  | k + 1 => if all.testBit k = true then stepS st all k ||| st k else stepS st all k
def foundS (st : Nat → Nat) (a : Nat) : Nat → Nat
  | 0 => a
  | n + 1 => stepS st (foundS st a n) 6
theorem or8 {a b : Nat} (ha : a < 256) (hb : b < 256) : a ||| b < 256 := Nat.or_lt_two_pow (n := 8) ha hb
theorem stepS_lt {st : Nat → Nat} (hs : ∀ i, st i < 256) {all : Nat} (ha : all < 256) : ∀ k, stepS st all k < 256
  | 0 => ha
  | k + 1 => by
    have ih := stepS_lt hs ha k
    show (if _ then _ else _) < 256
    split
    · exact or8 ih (hs k)
    · exact ih
theorem foundS_lt {st : Nat → Nat} (hs : ∀ i, st i < 256) {a : Nat} (ha : a < 256) : ∀ n, foundS st a n < 256
  | 0 => ha
  | n + 1 => stepS_lt hs (foundS_lt hs ha n) 6

theorem index_net (st : Nat → Nat) (W : World) : ∀ i : Nat, i < 6 → Sem.run Try.prog (Instr.index 134 (.agg #[.int .u8 (st 0), .int .u8 (st 1), .int .u8 (st 2), .int .u8 (st 3), .int .u8 (st 4), .int .u8 (st 5)]) (.int .i64 i)) W = .ok (.int .u8 (st i)) W := by
  apply six <;> kernel_rfl

set_option maxHeartbeats 2000000 in
set_option maxRecDepth 100000 in
theorem found_any (st : Nat → Nat) (hs : ∀ i, st i < 256) (h n : Nat) (hh : h < 8) (hn : n ≤ 6) (w : World) :
    Calls Try.prog 90 #[netVal st, .int .i64 h, .int .i64 n] w fun e w' => e = .returned (.int .u8 (foundS st (2 ^ h) n : Int)) ∧ Below w.heap.size w w' := by
  have hun := Try.underlying134
  have hB0 := (Below.refl w.heap.size w).alloc (Nat.le_refl _) (.cells (netCells st) 134)
  have hbx := heap_alloc_new w (.cells (netCells st) 134)
  have HW0 := fun W => heads_with0 h hh W
  have hp8 := pow_lt h hh
  have HF : Hid (foundS st (2 ^ h) 0 = 2 ^ h) := rfl
  have hl := foundS_lt hs hp8
  have hsl := fun {all} ha k => stepS_lt (all := all) hs ha k
  have HFn : ∀ k, Hid (foundS st (2 ^ h) (k + 1) = stepS st (foundS st (2 ^ h) k) 6) := fun k => rfl
  obtain ⟨P, hP⟩ : ∃ P, 2 ^ h = P := ⟨_, rfl⟩
  rw [hP] at hp8 HF
  simp only [hP] at HW0 HFn hl ⊢
  clear hP
  simp only [netVal]
  go_enter Try.func90, Try.ntmps90
  go_wp2_with (go_at_call 74; (with_reducible refine (HW0 _).mono ?_); rintro e w5 ⟨rfl, rfl⟩)
  simp only [netCells] at hB0 hbx
  obtain ⟨W1, hW1⟩ : ∃ W1, W1 = w.alloc (.cells #[.int .u8 (st 0), .int .u8 (st 1), .int .u8 (st 2), .int .u8 (st 3), .int .u8 (st 4), .int .u8 (st 5)] 134) := ⟨_, rfl⟩
  rw [← hW1] at hB0 hbx ⊢
  clear hW1
  go_loopg [7, 14] n (fun gk v7 v wr => ∃ k : Nat, k + gk = n ∧ v = .int .i64 k ∧ v7 = .int .u8 (foundS st P k : Int) ∧ W1 = wr)
  case atStart => exact ⟨0, by omega, rfl, by rw [HF.out], rfl⟩
  case round =>
    obtain ⟨k, hk, rfl, rfl, rfl⟩ := hrel
    by_cases hlt : k < n
    · obtain ⟨x0, x1, x2, x3, x4, x5⟩ := cells6 hbx
      have HFk := HFn k
      have hlk := hl k
      obtain ⟨S, hS⟩ : ∃ S, foundS st P k = S := ⟨_, rfl⟩
      rw [hS] at HFk hlk ⊢
      clear hS
      go_wp2
      go_loopg [8, 18] 6 (fun gk v7 v wr => ∃ k : Nat, k + gk = 6 ∧ v = .int .i64 k ∧ v7 = .int .u8 (stepS st S k : Int) ∧ W1 = wr)
      case atStart => exact ⟨0, by omega, rfl, rfl, rfl⟩
      case round =>
        obtain ⟨i, hi, rfl, rfl, rfl⟩ := hrel
        by_cases hlt6 : i < 6
        · have HH := fun W => heads_has S i hlk (by omega) W
          have HB : Hid (stepS st S (i + 1) = if S.testBit i = true then stepS st S i ||| st i else stepS st S i) := rfl
          have hli := hsl hlk i
          have HO := Lib.hid (bitsOr (stepS st S i) (st i) hli (hs i))
          obtain ⟨b, hb⟩ : ∃ b, S.testBit i = b := ⟨_, rfl⟩
          rw [hb] at HB
          simp only [hb] at HH
          have hix := fun W => index_net st W i hlt6
          have hi6 : (i : Int) < 6 := by omega
          clear hb
          cases b with
          | true =>
            have HB2 : Hid (stepS st S (i + 1) = stepS st S i ||| st i) := by show _ = _; rw [HB.out]; rfl
            have hor := HO.out
            go_wp2_with (go_at_call 75; (with_reducible refine (HH _).mono ?_); rintro e w5 ⟨rfl, rfl⟩)
            go_roundg (6 - (i + 1))
            case measure => omega
            case rel => exact ⟨i + 1, by omega, by go_num, by rw [HB2.out], rfl⟩
          | false =>
            have HB2 : Hid (stepS st S (i + 1) = stepS st S i) := by show _ = _; rw [HB.out]; rfl
            go_wp2_with (go_at_call 75; (with_reducible refine (HH _).mono ?_); rintro e w5 ⟨rfl, rfl⟩)
            go_roundg (6 - (i + 1))
            case measure => omega
            case rel => exact ⟨i + 1, by omega, by go_num, by rw [HB2.out], rfl⟩
        · obtain rfl : i = 6 := by omega
          rw [← HFk.out]
          go_wp2
          go_roundg (n - (k + 1))
          case measure => omega
          case rel => exact ⟨k + 1, by omega, by go_num, rfl, rfl⟩
    · obtain rfl : k = n := by omega
      go_wp2
      go_ret
      exact ⟨rfl, hB0⟩
end Go.Proofs.Ytfbimhnlcmdcpaa.Pa
/- The contract of join's test: is no trade hidden, some references added. -/
namespace Go.Proofs.Ytfbimhnlcmdcpaa.Pa
open Go.RowKit Go.Proofs.YtfbimhnlcmdcpaaW.PrintWords Go.Proofs.YtfbimhnlcmdcpaaW.PrintLast Go.Proofs.YtfbimhnlcmdcpaaW.PrintMore
set_option linter.unusedVariables false
set_option linter.unusedSimpArgs false

abbrev Rf := Nat × Nat
def kRf : Kd Rf := Kd.iso (Kd.pair (Kd.int .i64) (Kd.int .i64)) (fun r : Rf => ((r.1 : Int), (r.2 : Int)))
theorem kRf_open {w : World} {x : Rf} {cs : List Value} (h : kRf.K w x cs) : cs = [.int .i64 (x.1 : Int), .int .i64 (x.2 : Int)] := by
  obtain ⟨c0, c1, rfl, rfl, rfl⟩ := h
  rfl
theorem rfAt {w : World} {A : Option Addr} {n : Nat} {xs : List Rf} (h : Kd.C kRf w A n xs) (k : Nat) (hk : k < n) :
    ∃ ad, A = some ad ∧ w.cell? (ad.add (k * 2)) = some (.int .i64 ((xs.getD k (0, 0)).1 : Int)) ∧ w.cell? ⟨(ad.add (k * 2)).block, (ad.add (k * 2)).off + 1, none⟩ = some (.int .i64 ((xs.getD k (0, 0)).2 : Int)) := by
  obtain ⟨ad, c, e, _, hK, hc0⟩ := Kd.C_get h (0, 0) (k : Int) (by omega) (by omega)
  rw [Int.toNat_natCast] at hK hc0
  have hc : ∀ j u, c[j]? = some u → w.cell? (ad.add (k * 2 + j)) = some u := hc0
  have := kRf_open hK
  subst this
  exact ⟨ad, e, hc 0 _ rfl, by rw [← add_field _ _ 1 (by omega)]; exact hc 1 _ rfl⟩

/-- the nets with some references more -/
def netR (st : Nat → Nat) (refs : List Rf) : Nat → Nat := refs.foldl (fun st r => upd st r.1 (st r.1 ||| 2 ^ r.2)) st
def goodT (due : Nat) (st : Nat → Nat) (head steps : Nat) (refs : List Rf) : Bool := (List.range 8).all (fun i => !due.testBit i || (foundS (netR st refs) (2 ^ head) steps).testBit i)
theorem upd_lt {st : Nat → Nat} (hs : ∀ i, st i < 256) {h v : Nat} (hv : v < 256) : ∀ i, upd st h v i < 256 := fun i => by
  unfold upd; split; exact hv; exact hs i
theorem netR_lt {refs : List Rf} (hr : ∀ r, r ∈ refs → r.2 < 8) : ∀ {st : Nat → Nat}, (∀ i, st i < 256) → ∀ i, netR st refs i < 256 := by
  induction refs with
  | nil => exact fun hs => hs
  | cons r l ih => exact fun hs => ih (fun q hq => hr q (List.mem_cons_of_mem _ hq)) (upd_lt hs (or_lt _ _ (hs r.1) (hr r List.mem_cons_self)))
theorem netR_take (st : Nat → Nat) (refs : List Rf) (j : Nat) (hj : j < refs.length) : netR st (refs.take (j + 1)) = upd (netR st (refs.take j)) (refs.getD j (0, 0)).1 (netR st (refs.take j) (refs.getD j (0, 0)).1 ||| 2 ^ (refs.getD j (0, 0)).2) := by
  have : refs.getD j (0, 0) = refs[j] := by rw [List.getD_eq_getElem?_getD, List.getElem?_eq_getElem hj]; rfl
  rw [this, List.take_succ_eq_append_getElem hj]
  unfold netR
  rw [List.foldl_append]
  rfl

set_option maxHeartbeats 4000000 in
set_option maxRecDepth 100000 in
theorem with_any (A : Option Addr) (c : Nat) (refs : List Rf) (bn bd bh bs : Nat) (st : Nat → Nat) (due head steps : Nat) (w : World)
    (hC : kRf.C w A refs.length refs) (hr : ∀ r, r ∈ refs → r.1 < 6 ∧ r.2 < 6) (hst : ∀ i, st i < 256) (hdue : due < 256) (hh : head < 8) (hs : steps ≤ 6)
    (hbn : w.heap[bn]? = some (.cells (netCells st) 134 (0, 0))) (hbd : w.cell? ⟨bd, 0, none⟩ = some (.int .u8 due)) (hbh : w.cell? ⟨bh, 0, none⟩ = some (.int .i64 head)) (hbs : w.cell? ⟨bs, 0, none⟩ = some (.int .i64 steps)) :
    Calls Try.prog 89 #[.slice A refs.length c, .pointer (some ⟨bn, 0, none⟩), .pointer (some ⟨bd, 0, none⟩), .pointer (some ⟨bh, 0, none⟩), .pointer (some ⟨bs, 0, none⟩)] w fun e w' => e = .returned (.bool (goodT due st head steps refs)) ∧ Below w.heap.size w w' := by
  have hun := Try.underlying134
  have hur := Try.underlying139
  obtain ⟨y0, y1, y2, y3, y4, y5⟩ := cells6 hbn
  have hB0 := (Below.refl w.heap.size w).alloc (Nat.le_refl _) (.cells (netCells st) 134)
  have hbx := heap_alloc_new w (.cells (netCells st) 134)
  have hlm : refs.length ≤ 9223372036854775807 := hC.2.1
  have HG : Hid (goodT due st head steps refs = (Go.bits .andNot .u8 (due : Int) (foundS (netR st (refs.take refs.length)) (2 ^ head) steps : Int) == 0)) := by
    show _ = _
    rw [List.take_length, bitsAndNot _ _ hdue (foundS_lt (netR_lt (fun r h => by have := (hr r h).2; omega) hst) (pow_lt head hh) steps)]
    rfl
  obtain ⟨R, hR⟩ : ∃ R, goodT due st head steps refs = R := ⟨_, rfl⟩
  rw [hR] at HG ⊢
  clear hR
  go_enter Try.func89, Try.ntmps89
  go_wp2
  simp only [netCells] at hB0 hbx
  obtain ⟨W1, hW1⟩ : ∃ W1, W1 = w.alloc (.cells #[.int .u8 (st 0), .int .u8 (st 1), .int .u8 (st 2), .int .u8 (st 3), .int .u8 (st 4), .int .u8 (st 5)] 134) := ⟨_, rfl⟩
  rw [← hW1] at hB0 hbx ⊢
  clear hW1
  go_loopg [13] refs.length (fun gk v wr => ∃ j : Nat, j + gk = refs.length ∧ v = .int .i64 j ∧ Below w.heap.size w wr ∧ wr.heap[w.heap.size]? = some (.cells (netCells (netR st (refs.take j))) 134 (0, 0)))
  case atStart => exact ⟨0, by omega, rfl, hB0, hbx⟩
  case round =>
    obtain ⟨j, hj, rfl, hb, hx⟩ := hrel
    by_cases hlt : j < refs.length
    · obtain ⟨ad, e, h0, h1⟩ := rfAt (Kd.C_below hC hb) j hlt
      cases e
      have hin := hr (refs.getD j (0, 0)) (by rw [List.getD_eq_getElem?_getD, List.getElem?_eq_getElem hlt]; exact List.getElem_mem _)
      have hnl := netR_lt (fun r h => by have := (hr r (List.mem_of_mem_take h)).2; omega : ∀ r, r ∈ refs.take j → r.2 < 8) hst
      have HT := Lib.hid (netR_take st refs j hlt)
      obtain ⟨T, hT⟩ : ∃ T, netR st (refs.take j) = T := ⟨_, rfl⟩
      obtain ⟨r, hre⟩ : ∃ r, refs.getD j (0, 0) = r := ⟨_, rfl⟩
      rw [hT] at hx hnl HT
      rw [hre] at h0 h1 hin HT
      clear hT hre
      obtain ⟨a, b⟩ := r
      obtain ⟨ha, hb6⟩ := hin
      simp only at h0 h1 ha hb6 HT
      have hlt' : (j : Int) < refs.length := by omega
      go_upto_region 5 with (fail)
      have hx1 := fun o => blk_alloc hx o
      have HBa := fun o => hb.alloc hb.size o
      have hbx2 := heap_alloc_new wr (.cells #[.int .i64 a, .int .i64 b] 139)
      have hnw : w.heap.size < wr.heap.size := blk_lt hx
      obtain ⟨W2, hW2⟩ : ∃ W2, W2 = wr.alloc (.cells #[.int .i64 a, .int .i64 b] 139) := ⟨_, rfl⟩
      replace hx1 := hx1 (.cells #[.int .i64 a, .int .i64 b] 139)
      replace HBa := HBa (.cells #[.int .i64 a, .int .i64 b] 139)
      rw [← hW2] at hx1 HBa hbx2 ⊢
      obtain ⟨q0, q1⟩ := cells2 hbx2
      clear hW2 hb h0 h1 hx
      have hca := netCells_get hx1 a ha
      have hfz := blk_frozen hx1 a
      have HW := fun W => heads_with (T a) b (hnl a) (by omega) W
      obtain ⟨S, hS⟩ : ∃ S, T a = S := ⟨_, rfl⟩
      rw [hS] at hca HT
      simp only [hS] at HW
      have HXn := Lib.hid (netCells_set hx1 (S ||| 2 ^ b) a ha)
      rw [← HT.out] at HXn
      have hk6 : (a : Int) < 6 := by omega
      clear hS
      go_region_law ((go_simp; go_at_call 74; (with_reducible refine (HW _).mono ?_); rintro e w5 ⟨rfl, rfl⟩))
      all_goals
        go_wp2
        go_roundg (refs.length - (j + 1))
        case measure => omega
        case rel => exact ⟨j + 1, by omega, by go_num, (HBa.setCell (p := ⟨w.heap.size, a, none⟩) (Nat.le_refl _) _).drew, HXn.out⟩
    · obtain rfl : j = refs.length := by omega
      have hnl := netR_lt (fun r h => by have := (hr r (List.mem_of_mem_take h)).2; omega : ∀ r, r ∈ refs.take refs.length → r.2 < 8) hst
      have HF := fun W => found_any (netR st (refs.take refs.length)) hnl head steps hh hs W
      obtain ⟨x0, x1, x2, x3, x4, x5⟩ := cells6 hx
      obtain ⟨F, hF⟩ : ∃ F, foundS (netR st (refs.take refs.length)) (2 ^ head) steps = F := ⟨_, rfl⟩
      rw [hF] at HG
      simp only [hF, netVal] at HF
      obtain ⟨T, hT⟩ : ∃ T, netR st (refs.take refs.length) = T := ⟨_, rfl⟩
      simp only [hT] at HF x0 x1 x2 x3 x4 x5
      replace hbd := pw_cell_below hb hbd
      replace hbh := pw_cell_below hb hbh
      replace hbs := pw_cell_below hb hbs
      clear hF hT hx hnl
      go_wp2
      go_region_law ((go_simp; go_at_call 90; (with_reducible refine (HF _).mono ?_); rintro e w3 ⟨rfl, hb3⟩; have hbd3 := pw_cell_below hb3 hbd))
      all_goals
        go_wp2
        go_ret
        exact ⟨by rw [HG.out]; rfl, below_then hb.drew hb.drew.size hb3⟩
end Go.Proofs.Ytfbimhnlcmdcpaa.Pa
/- A map of references: look-up and update. -/
namespace Go.Proofs.Ytfbimhnlcmdcpaa.Pa
open Go.RowKit Go.Proofs.YtfbimhnlcmdcpaaW.PrintWords Go.Proofs.YtfbimhnlcmdcpaaW.PrintLast Go.Proofs.YtfbimhnlcmdcpaaW.PrintMore
set_option linter.unusedVariables false
set_option linter.unusedSimpArgs false

def rfV (r : Rf) : Value := .agg #[.int .i64 (r.1 : Int), .int .i64 (r.2 : Int)]
theorem rf_eqIn (d : Nat) (w : World) (x0 y0 x1 y1 : Int) :
    (Op.equalIn (d + 2) 139 (.agg #[.int .i64 x0, .int .i64 x1]) (.agg #[.int .i64 y0, .int .i64 y1])).run Try.prog w = .ok ((x0 == y0) && (x1 == y1)) w := by
  refine eqA_of Try.underlying139 (by kernel_rfl) ?_
  refine eqf_cons (by rfl) (by go_simp; rfl) (by go_simp; rfl) (by go_simp) ?_
  exact eqf_last (by rfl) (by go_simp; rfl) (by go_simp; rfl) (by go_simp)
theorem rf_eq (a b : Rf) (w : World) : (Op.equal 139 (rfV a) (rfV b)).run Try.prog w = .ok (a == b) w := by
  have h := rf_eqIn 9998 w a.1 b.1 a.2 b.2
  have e : (((a.1 : Int) == (b.1 : Int)) && ((a.2 : Int) == (b.2 : Int))) = (a == b) := by
    obtain ⟨a1, a2⟩ := a
    obtain ⟨b1, b2⟩ := b
    rw [Bool.eq_iff_iff]
    simp only [Bool.and_eq_true, beq_iff_eq, Prod.mk.injEq]
    omega
  rw [e] at h
  exact h

/-- a map of references that are there -/
structure RMap (w : World) (b : Nat) (S : List Rf) : Prop where mk ::
  ok : ∃ es clock, w.heap[b]? = some (.map es clock) ∧ es.toList.map (fun e => (e.key, e.val)) = S.map (fun r => (rfV r, Value.bool true))

theorem rf_find (k : Rf) (w : World) : ∀ (S : List Rf) (es : List MapEntry) (i : Nat), es.map (fun e => (e.key, e.val)) = S.map (fun r => (rfV r, Value.bool true)) →
    (Instr.findAsking 139 (rfV k) es i).run Try.prog w = .ok (if S.contains k = true then some (i + S.idxOf k, .bool true) else none) w
  | [], [], i, _ => by simp [Instr.findAsking]
  | r :: S, [], i, h => by simp at h
  | [], e :: es, i, h => by simp at h
  | r :: S, e :: es, i, h => by
    simp only [List.map_cons, List.cons.injEq, Prod.mk.injEq] at h
    obtain ⟨⟨hk, hv⟩, ht⟩ := h
    rw [Instr.findAsking, hk]
    simp only [Sem.run_bind, rf_eq, Result.andThen_ok]
    by_cases hkr : k = r
    · subst hkr
      simp [hv]
    · have h1 : (k == r) = false := beq_eq_false_iff_ne.mpr hkr
      have h2 : (r == k) = false := beq_eq_false_iff_ne.mpr (Ne.symm hkr)
      have ih := rf_find k w S es (i + 1) ht
      simp only [h1, Bool.false_eq_true, if_false, ih, List.contains_cons, Bool.false_or, List.idxOf_cons, h2, cond_false]
      split <;> simp <;> omega
theorem rf_check (b : Bool) (k : Rf) (w : World) : (Instr.checkKey b 10000 139 (rfV k)).run Try.prog w = .ok () w := by kernel_rfl
theorem rf_findKey (k : Rf) (S : List Rf) (es : List MapEntry) (w : World) (h : es.map (fun e => (e.key, e.val)) = S.map (fun r => (rfV r, Value.bool true))) :
    (Instr.findKey 139 (rfV k) es).run Try.prog w = .ok (if S.contains k = true then some (S.idxOf k, .bool true) else none) w := by
  have hf := rf_find k w S es 0 h
  rw [Nat.zero_add] at hf
  unfold Instr.findKey
  simp only [Sem.run_bind, run_underlying Try.underlying139, Result.andThen_ok]
  cases es with
  | nil =>
    cases S with
    | nil => simp [Instr.findNow]
    | cons r S => simp at h
  | cons e es =>
    have hn : Instr.findNow (TypeDesc.struct (Try.prog.fieldsOf 139)) (rfV k) (e :: es) 0 = none := rfl
    have hu : Try.prog.underlying 139 = some (TypeDesc.struct (Try.prog.fieldsOf 139)) := by kernel_rfl
    rw [Try.underlying139] at hu
    rw [Option.some.inj hu, hn]
    exact hf
theorem RMap.look {w : World} {b : Nat} {S : List Rf} (h : RMap w b S) (k : Rf) : (Instr.lookup 164 (.map (some b)) (rfV k) false).run Try.prog w = .ok (.bool (S.contains k)) w := by
  obtain ⟨es, clock, hb, hl⟩ := h.ok
  have hf := rf_findKey k S es.toList w hl
  unfold Instr.lookup
  simp only [Sem.run_bind, run_underlying Try.underlying164, Result.andThen_ok, MapKept.run_getObj_map hb, Sem.run_pure, rf_check, hf]
  have hz : (zeroValue 4).run Try.prog w = .ok (.bool false) w := by kernel_rfl
  cases hc : S.contains k <;> simp [hz, Result.andThen]
theorem rf_same (n : Nat) (k : Rf) : Instr.sameBits (n + 2) (rfV k) (rfV k) = true := by simp [rfV, Instr.sameBits]
theorem rf_stays (k : Rf) (w : World) : (Instr.keyThatStays (rfV k) (rfV k)).run Try.prog w = .ok (rfV k) w := by
  unfold Instr.keyThatStays
  rw [if_pos (rf_same 9998 k)]
  simp
theorem grownBy_set (w : World) (b : Nat) (o : Obj) : w.grownBy { w with heap := w.heap.setIfInBounds b o } (some b) :=
  ⟨rfl, rfl, rfl, by simp, fun k _ hk => by
    have : b ≠ k := fun e => hk (by rw [e])
    simp only [Array.getElem?_setIfInBounds_ne this]⟩
def putRf (S : List Rf) (k : Rf) : List Rf := if S.contains k = true then S else S ++ [k]
theorem RMap.put {w : World} {b : Nat} {S : List Rf} (h : RMap w b S) (k : Rf) :
    ∃ w1, (Instr.mapUpdate 164 (.map (some b)) (rfV k) (.bool true)).run Try.prog w = .ok () w1 ∧ RMap w1 b (putRf S k) ∧ w.grownBy w1 (some b) := by
  obtain ⟨es, clock, hb, hl⟩ := h.ok
  have hf := rf_findKey k S es.toList w hl
  have hlt : b < w.heap.size := (Array.getElem?_eq_some_iff.1 hb).1
  unfold Instr.mapUpdate putRf
  simp only [Sem.run_bind, run_underlying Try.underlying164, Result.andThen_ok, MapKept.run_getObj_map hb, rf_check, hf]
  cases hc : S.contains k with
  | false =>
    refine ⟨_, by simp [MapKept.run_setObj_map _ hb]; rfl, ⟨_, _, by simp [hlt]; exact ⟨rfl, rfl⟩, ?_⟩, grownBy_set _ _ _⟩
    simp [hl]
  | true =>
    have hm : k ∈ S := by simpa using hc
    have hi : S.idxOf k < S.length := List.idxOf_lt_length_of_mem hm
    have hle : es.toList.length = S.length := by
      have := congrArg List.length hl
      simpa using this
    have hie : S.idxOf k < es.size := by simpa using (show S.idxOf k < es.toList.length by omega)
    have hke : (es.toList.map (fun e => (e.key, e.val)))[S.idxOf k]? = some (rfV k, Value.bool true) := by
      rw [hl, List.getElem?_map, List.getElem?_eq_getElem hi]
      simp
    rw [List.getElem?_map] at hke
    obtain ⟨e, he, hkv⟩ := Option.map_eq_some_iff.1 hke
    simp only [Prod.mk.injEq] at hkv
    have he2 : es[S.idxOf k]? = some e := by simpa using he
    simp only [if_true, he2, Option.map_some, Option.getD_some, hkv.1, Sem.run_bind, rf_stays, Result.andThen_ok]
    refine ⟨_, by simp [MapKept.run_setObj_map _ hb]; rfl, ⟨_, _, by simp [hlt]; exact ⟨rfl, rfl⟩, ?_⟩, grownBy_set _ _ _⟩
    rw [← hl]
    apply List.ext_getElem?
    intro j
    simp only [List.getElem?_map, Array.getElem?_toList, Array.getElem?_modify]
    split
    · rename_i hj
      subst hj
      rw [he2]
      simp [hkv]
    · rfl
end Go.Proofs.Ytfbimhnlcmdcpaa.Pa
/- The contract of free. -/
namespace Go.Proofs.Ytfbimhnlcmdcpaa.Pa
open Go.RowKit Go.Proofs.YtfbimhnlcmdcpaaW.PrintWords Go.Proofs.YtfbimhnlcmdcpaaW.PrintLast Go.Proofs.YtfbimhnlcmdcpaaW.PrintMore
set_option linter.unusedVariables false
set_option linter.unusedSimpArgs false

theorem mem_putRf (S : List Rf) (k x : Rf) : x ∈ putRf S k ↔ x ∈ S ∨ x = k := by
  unfold putRf
  split
  · rename_i h
    have hm : k ∈ S := by simpa using h
    constructor
    · exact .inl
    · rintro (h | rfl)
      · exact h
      · exact hm
  · simp
/-- the references of the first k headings, and the first j of heading k -/
def Known (hs : List Hd) (k j : Nat) (S : List Rf) : Prop := ∀ f t : Nat, (f, t) ∈ S ↔ (f < k ∧ (t : Int) ∈ nextT (hs.getD f zHd)) ∨ (f = k ∧ (t : Int) ∈ (nextT (hs.getD k zHd)).take j)
theorem Known.zero (hs : List Hd) : Known hs 0 0 [] := fun f t => by simp
theorem Known.next {hs : List Hd} {k j : Nat} {S : List Rf} (h : Known hs k j S) {L : List Int} (hL : nextT (hs.getD k zHd) = L) {p : Nat} (hj : j < L.length) (hp : L.getD j 0 = p) : Known hs k (j + 1) (putRf S (k, p)) := fun f t => by
  rw [mem_putRf, h f t, hL, List.take_succ_eq_append_getElem hj]
  have : L[j] = (p : Int) := by rw [← hp, List.getD_eq_getElem?_getD, List.getElem?_eq_getElem hj]; rfl
  rw [this]
  simp only [Prod.mk.injEq, List.mem_append, List.mem_singleton]
  have hc : ((t : Int) = (p : Int)) ↔ t = p := by omega
  rw [hc]
  constructor
  · rintro ((h | h) | h)
    · exact .inl h
    · exact .inr ⟨h.1, .inl h.2⟩
    · exact .inr ⟨h.1, .inr h.2⟩
  · rintro (h | ⟨h1, h2 | h2⟩)
    · exact .inl (.inl h)
    · exact .inl (.inr ⟨h1, h2⟩)
    · exact .inr ⟨h1, h2⟩
theorem Known.full {hs : List Hd} {k : Nat} {S : List Rf} {L : List Int} (hL : nextT (hs.getD k zHd) = L) (h : Known hs k L.length S) : Known hs (k + 1) 0 S := fun f t => by
  rw [h f t, hL, List.take_length]
  constructor
  · rintro (⟨h1, h2⟩ | ⟨rfl, h2⟩)
    · exact .inl ⟨by omega, h2⟩
    · exact .inl ⟨by omega, by rw [hL]; exact h2⟩
  · rintro (⟨h1, h2⟩ | ⟨_, h2⟩)
    · by_cases hf : f = k
      · subst hf
        exact .inr ⟨rfl, by rw [← hL]; exact h2⟩
      · exact .inl ⟨by omega, h2⟩
    · simp at h2

theorem RMap.below {w w1 : World} {b : Nat} {S : List Rf} (h : RMap w b S) (hb : Below w.heap.size w w1) : RMap w1 b S := by
  obtain ⟨es, clock, h1, h2⟩ := h.ok
  exact ⟨es, clock, blk_below h1 hb, h2⟩
/-- may a reference from f to t be added -/
def freeP (hs : List Hd) (f t : Nat) : Bool := !(f == t) && !((nextT (hs.getD f zHd)).contains (t : Int))
def freeRow (hs : List Hd) (f m : Nat) : List Rf := ((List.range m).filter (freeP hs f)).map (fun t => (f, t))
def freeTo (hs : List Hd) : Nat → List Rf
  | 0 => []
  | f + 1 => freeTo hs f ++ (if (hs.getD f zHd).f2 ≠ -1 then [] else freeRow hs f hs.length)
def freeT (hs : List Hd) : List Rf := freeTo hs hs.length
def rfCells (l : List Rf) : List Value := l.flatMap (fun r => [.int .i64 (r.1 : Int), .int .i64 (r.2 : Int)])
theorem freeRow_succ (hs : List Hd) (f m : Nat) : freeRow hs f (m + 1) = freeRow hs f m ++ (if freeP hs f m = true then [(f, m)] else []) := by
  unfold freeRow
  rw [List.range_succ, List.filter_append, List.map_append]
  congr 1
  by_cases h : freeP hs f m = true <;> simp [h]
theorem freeRow_len (hs : List Hd) (f m : Nat) : (freeRow hs f m).length ≤ m := by
  unfold freeRow
  rw [List.length_map]
  have := List.length_filter_le (freeP hs f) (List.range m)
  rwa [List.length_range] at this
theorem freeTo_len (hs : List Hd) : ∀ k, (freeTo hs k).length ≤ k * hs.length
  | 0 => by simp [freeTo]
  | k + 1 => by
    have ih := freeTo_len hs k
    show (freeTo hs k ++ _).length ≤ _
    rw [List.length_append, Nat.add_mul, Nat.one_mul]
    split
    · simp; omega
    · have := freeRow_len hs k hs.length
      omega
theorem Known.free {hs : List Hd} {S : List Rf} {n : Nat} (h : Known hs n 0 S) {f t : Nat} (hf : f < n) : S.contains (f, t) = (nextT (hs.getD f zHd)).contains (t : Int) := by
  rw [Bool.eq_iff_iff, List.contains_iff_mem, List.contains_iff_mem, h f t]
  constructor
  · rintro (h | h)
    · exact h.2
    · simp at h
  · exact fun h => .inl ⟨hf, h⟩
theorem rfCells_append (a b : List Rf) : rfCells (a ++ b) = rfCells a ++ rfCells b := by simp [rfCells]
theorem rfCells_len (a : List Rf) : (rfCells a).length = a.length * 2 := by
  induction a with
  | nil => rfl
  | cons r l ih =>
    show ([_, _] ++ rfCells l).length = _
    simp [ih]; omega
theorem infoRf : (Try.prog.info? 139).map (fun i => (i.zero, i.size, i.bytes)) = some (some (.agg #[.int .i64 0, .int .i64 0]), 2, 16) := by kernel_rfl

attribute [local go_sem high] rf_eqIn
set_option maxHeartbeats 4000000 in
set_option maxRecDepth 100000 in
theorem free_any (g : Nat) (cs : List Cl) (hs : List Hd) (w : World) (hL : IsList w g cs hs) (hv : Valid cs hs) :
    Calls Try.prog 88 #[.pointer (some ⟨g, 0, none⟩)] w fun e w' => ∃ v, e = .returned v ∧ w'.ownsRow w.heap.size 139 2 v (freeT hs).length (rfCells (freeT hs)) ∧ Below w.heap.size w w' := by
  obtain ⟨m0, m1, -, -⟩ := hv.split
  have hu3 := Try.underlying81
  have hur := Try.underlying139
  have hup := Try.underlying113
  obtain ⟨i0, hi, hz0, hz1, hz2⟩ := info_parts infoRf
  obtain ⟨A0, c0, A1, c1, A2, c2, A3, c3, hg, l0, l1, r0, r1, r2, r3⟩ := hL.ok
  obtain ⟨g0, g1, g2, g3⟩ := cells4 hg
  have hglt : g < w.heap.size := World.block_lt_of_cell? _ _ g3
  have eg := World.new_ne w ⟨g, 3, none⟩ g3
  have HR : Hid (freeT hs = freeTo hs hs.length) := rfl
  obtain ⟨R, hR⟩ : ∃ R, freeT hs = R := ⟨_, rfl⟩
  rw [hR] at HR ⊢
  clear hL hR
  have hmm := @run_makeMap Try.prog
  go_enter Try.func88, Try.ntmps88
  go_wp2
  go_loopg [21] hs.length (fun gk v wr => ∃ (k : Nat) (S : List Rf), k + gk = hs.length ∧ v = .int .i64 k ∧ RMap wr w.heap.size S ∧ Known hs k 0 S ∧ Below w.heap.size w wr)
  case atStart => exact ⟨0, [], by omega, rfl, ⟨_, _, heap_alloc_new w _, rfl⟩, Known.zero hs, (Below.refl w.heap.size w).alloc (Nat.le_refl _) _⟩
  case round =>
    obtain ⟨k, S, hk, rfl, hm, hkn, hb⟩ := hrel
    have hblt : w.heap.size < wr.heap.size := by
      obtain ⟨es, clock, hes, _⟩ := hm.ok
      exact blk_lt hes
    by_cases hlt : k < hs.length
    · have q3 := pw_cell_below hb g3
      obtain ⟨ad, v, e, hcv, hkv⟩ := kindAt (Kd.C_below r3 hb) k hlt
      cases e
      have hkv0 : KindVal w (hs.getD k zHd) v := by
        obtain ⟨ad', v', e', hcv', hkv'⟩ := kindAt r3 k hlt
        have : v = v' := by
          cases e'
          have := pw_cell_below hb hcv'
          rw [hcv] at this
          exact Option.some.inj this
        rw [this]; exact hkv'
      have HIn := fun j hj => nextT_in hv k hlt j hj
      have hnx := next_any hkv0 w.heap.size (Nat.le_refl _)
      obtain ⟨L, hL⟩ : ∃ L, nextT (hs.getD k zHd) = L := ⟨_, rfl⟩
      rw [hL] at HIn hnx
      clear hkv hkv0
      rcases hnx with ⟨-, pv, rfl, HN⟩ | ⟨-, -, pv, rfl, HN⟩ | ⟨-, -, pv, rfl, HN⟩
      all_goals
        have HN := HN wr hb hblt
        have hm1 := fun n W => meth_ptr n pv W
        have hm2 := fun n W => meth_art n pv W
        have hm3 := fun n W => meth_idx n pv W
        go_wp2_with (first
          | (go_at_call 141; (with_reducible refine HN.mono ?_); rintro e W2 ⟨Ax, cx, rfl, hb2, hC⟩; have hx2 := hm.below hb2; have HB2 := below_then hb hb.size hb2; clear hm hb hb2)
          | (go_at_call 140; (with_reducible refine HN.mono ?_); rintro e W2 ⟨Ax, cx, rfl, hb2, hC⟩; have hx2 := hm.below hb2; have HB2 := below_then hb hb.size hb2; clear hm hb hb2)
          | (go_at_call 142; (with_reducible refine HN.mono ?_); rintro e W2 ⟨Ax, cx, rfl, hb2, hC⟩; have hx2 := hm.below hb2; have HB2 := below_then hb hb.size hb2; clear hm hb hb2))
        go_loopg [29] L.length (fun gj v wr => ∃ (j : Nat) (S : List Rf), j + gj = L.length ∧ v = .int .i64 j ∧ W2.grownBy wr (some w.heap.size) ∧ RMap wr w.heap.size S ∧ Known hs k j S)
        case atStart => exact ⟨0, S, by omega, rfl, World.grownBy.refl _ _, hx2, hkn⟩
        case round =>
          obtain ⟨j, S, hj, rfl, hgr, hx, hkj⟩ := hrel
          by_cases hjl : j < L.length
          · obtain ⟨p, hp, hpl⟩ := HIn j hjl
            obtain ⟨aj, ej, hcj⟩ := intAt (hC wr hgr) j hjl
            cases ej
            rw [hp] at hcj
            have hLm : L.length ≤ 9223372036854775807 := (hC wr hgr).2.1
            obtain ⟨w9, hrun, hR9, hg9⟩ := hx.put (k, p)
            have HKn := hkj.next hL hjl hp
            simp only [rfV] at hrun
            go_wp2
            go_roundg (L.length - (j + 1))
            case measure => omega
            case rel => exact ⟨j + 1, _, by omega, by go_num, hgr.trans hg9, hR9, HKn⟩
          · obtain rfl : j = L.length := by omega
            have HKf := Known.full hL hkj
            have HB3 := HB2.grown hgr HB2.size (fun q hq => by cases hq; omega)
            go_wp2
            go_roundg (hs.length - (k + 1))
            case measure => omega
            case rel => exact ⟨k + 1, _, by omega, by go_num, hx, HKf, HB3⟩
    · obtain rfl : k = hs.length := by omega
      clear hmm hglt eg
      have q3 := pw_cell_below hb g3
      have hr3 := Kd.C_below r3 hb
      have hfr := fun f t (hf : f < hs.length) => hkn.free (t := t) hf
      obtain ⟨Wm, hWm⟩ : ∃ Wm, Wm = wr := ⟨_, rfl⟩
      subst hWm
      clear hk hkn
      go_wp2
      go_loopg [8, 44] hs.length (fun gk v8 v wr => ∃ k : Nat, k + gk = hs.length ∧ v = .int .i64 k ∧ Below Wm.heap.size Wm wr ∧ wr.ownsRow Wm.heap.size 139 2 v8 (freeTo hs k).length (rfCells (freeTo hs k)))
      case atStart => exact ⟨0, by omega, rfl, Below.refl _ _, own_nil _ _ _ _⟩
      case round =>
        obtain ⟨k, hk, rfl, hbw, ho⟩ := hrel
        by_cases hlt : k < hs.length
        · have q33 := pw_cell_below hbw q3
          obtain ⟨ad, v, e, hcv, hkv⟩ := kindAt (Kd.C_below hr3 hbw) k hlt
          cases e
          have hfr := fun t => hfr k t hlt
          have HFt : Hid (freeTo hs (k + 1) = freeTo hs k ++ (if (hs.getD k zHd).f2 ≠ -1 then [] else freeRow hs k hs.length)) := rfl
          have HFn := fun m => Lib.hid (freeRow_succ hs k m)
          have hrl := fun m => freeRow_len hs k m
          have hFl := freeTo_len hs k
          have hFP : ∀ t, Hid (freeP hs k t = (!(k == t) && !(nextT (hs.getD k zHd)).contains (t : Int))) := fun t => rfl
          have hR0 : Hid (freeRow hs k 0 = []) := rfl
          obtain ⟨x, hx⟩ : ∃ x, hs.getD k zHd = x := ⟨_, rfl⟩
          obtain ⟨Fk, hFk⟩ : ∃ Fk, freeTo hs k = Fk := ⟨_, rfl⟩
          obtain ⟨fr, hfrr⟩ : ∃ fr, freeRow hs k = fr := ⟨_, rfl⟩
          rw [hx] at hkv HFt
          simp only [hx] at hFP hfr
          rw [hFk] at ho HFt hFl
          rw [hfrr] at HFt hR0
          simp only [hfrr] at HFn hrl
          have hF36 : Fk.length ≤ 36 := Nat.le_trans hFl (by have := Nat.mul_le_mul (show k ≤ 6 by omega) m1; omega)
          clear hx hFk hfrr hFl
          rcases hkv with ⟨k1, rfl⟩ | ⟨k1, k2, B3, d3, rfl, k3, k4⟩ | ⟨k1, k2, B3, d3, rfl, k3, k4⟩
          · have hta := ta_ptr (.agg #[.int .i64 x.f2])
            have HG : Hid (freeTo hs (k + 1) = Fk) := by show _ = _; rw [HFt.out, if_pos k1, List.append_nil]
            clear k1 HFt
            go_wp2
            go_roundg (hs.length - (k + 1))
            case measure => omega
            case rel => exact ⟨k + 1, by omega, by go_num, hbw.alloc hbw.size _, by rw [HG.out]; exact ho.alloc _⟩
          all_goals
            have HG : Hid (freeTo hs (k + 1) = Fk ++ fr hs.length) := by show _ = _; rw [HFt.out, if_neg (by omega)]
            have hta1 := ta_ptr_art (.agg #[.int .i64 x.f1, .slice B3 x.f3.length d3])
            have hta2 := ta_ptr_idx (.agg #[.slice B3 x.f3.length d3])
            clear HFt k1 k2
            go_upto_region 17 with (fail)
            have hbw1 := hbw.alloc hbw.size (.cells #[.int .i64 0] 113)
            have ho1 := ho.alloc (.cells #[.int .i64 0] 113)
            obtain ⟨W1, hW1⟩ : ∃ W1, W1 = wr.alloc (.cells #[.int .i64 0] 113) := ⟨_, rfl⟩
            rw [← hW1] at hbw1 ho1 ⊢
            clear hW1 hbw ho q33 hta1 hta2 hcv
            have q34 := pw_cell_below hbw1 q3
            go_wp2
            go_loopg [8, 60] hs.length (fun gk v8 v wr => ∃ t : Nat, t + gk = hs.length ∧ v = .int .i64 t ∧ Below Wm.heap.size Wm wr ∧ wr.ownsRow Wm.heap.size 139 2 v8 (Fk ++ fr t).length (rfCells (Fk ++ fr t)))
            case atStart => exact ⟨0, by omega, rfl, hbw1, by rw [hR0.out, List.append_nil]; exact ho1⟩
            case round =>
              clear hbw1 ho1 q34
              clear W1
              obtain ⟨t, ht, rfl, hbw, ho⟩ := hrel
              by_cases htl : t < hs.length
              · have HN := HFn t
                have hP := hFP t
                have hfl := hrl t
                have hlk := hfr t
                obtain ⟨c, hc⟩ : ∃ c, (nextT x).contains (t : Int) = c := ⟨_, rfl⟩
                rw [hc] at hP hlk
                obtain ⟨F, hF⟩ : ∃ F, fr t = F := ⟨_, rfl⟩
                rw [hF] at ho HN hfl
                clear hc hF
                have HM := fun W (hW : Below Wm.heap.size Wm W) => (hm.below hW).look (k, t)
                simp only [hlk, rfV] at HM
                go_upto_region 21 with (fail)
                have hbw1 := hbw.alloc hbw.size (.cells #[.int .i64 k, .int .i64 t] 139)
                have ho1 := ho.alloc (.cells #[.int .i64 k, .int .i64 t] 139)
                have hbx := cells2 (heap_alloc_new wr (.cells #[.int .i64 k, .int .i64 t] 139))
                obtain ⟨W1, hW1⟩ : ∃ W1, W1 = wr.alloc (.cells #[.int .i64 k, .int .i64 t] 139) := ⟨_, rfl⟩
                rw [← hW1] at hbw1 ho1 hbx ⊢
                clear hW1 hbw ho
                obtain ⟨x0, x1⟩ := hbx
                have hlo := HM W1 hbw1
                have hsz := hbw1.size
                have hkk : ((k : Int) == (k : Int)) = true := beq_self_eq_true _
                by_cases hkt : k = t
                · have hkt2 : ((t : Int) == (k : Int)) = true := beq_iff_eq.mpr (by omega)
                  have HG2 : Hid (fr (t + 1) = F) := by show _ = _; rw [HN.out, hP.out, hkt]; simp
                  clear hP HN hkt
                  go_wp2
                  go_roundg (hs.length - (t + 1))
                  case measure => omega
                  case rel => exact ⟨t + 1, by omega, by go_num, hbw1, by rw [HG2.out]; exact ho1⟩
                · have hkt2 : ((t : Int) == (k : Int)) = false := beq_eq_false_iff_ne.mpr (by omega)
                  have hkt3 : (k == t) = false := beq_eq_false_iff_ne.mpr hkt
                  cases c with
                  | true =>
                    have HG2 : Hid (fr (t + 1) = F) := by show _ = _; rw [HN.out, hP.out, hkt3]; simp
                    clear hP HN hkt hkt3
                    go_wp2
                    go_roundg (hs.length - (t + 1))
                    case measure => omega
                    case rel => exact ⟨t + 1, by omega, by go_num, hbw1, by rw [HG2.out]; exact ho1⟩
                  | false =>
                    have HG2 : Hid (fr (t + 1) = F ++ [(k, t)]) := by show _ = _; rw [HN.out, hP.out, hkt3]; simp
                    have hll : (Fk ++ F).length ≤ 42 := by rw [List.length_append]; omega
                    clear hP HN hkt hkt3
                    go_wp2_with (at_builtin; refine wpList_append_own _ rfl _ _ 136 rfl Wm.heap.size 139 i0 (.agg #[.int .i64 0, .int .i64 0]) 2 16 Try.underlying136 hi hz0 hz1 hz2 rfl (by decide) _ _ _ rfl (ho1.alloc _) ⟨W1.heap.size, 0, none⟩ 1 1 [.int .i64 (k : Int), .int .i64 (t : Int)] rfl rfl (World.news_of_block (cs := #[.int .i64 (k : Int), .int .i64 (t : Int)]) (t := 139) (fr := (0, 0)) (heap_alloc_new W1 _)) (by simp [Value.oneCell']) (by unfold maxLen; omega) (by omega) (by simp; omega) ?_; intro v' w3 hown3 hgrow3 _; have HB3 := Below.grown (hbw1.alloc hbw1.size _) hgrow3 (by have := hbw1.size; simp; omega) (fun j hj => (ho1.lt j hj).1); have HO := Lib.hid hown3; clear hown3 hgrow3)
                    go_roundg (hs.length - (t + 1))
                    case measure => omega
                    case rel => exact ⟨t + 1, by omega, by go_num, HB3, by rw [HG2.out, ← List.append_assoc, rfCells_append, List.length_append]; exact HO.out⟩
              · obtain rfl : t = hs.length := by omega
                rw [← HG.out] at ho
                go_wp2
                go_roundg (hs.length - (k + 1))
                case measure => omega
                case rel => exact ⟨k + 1, by omega, by go_num, hbw, ho⟩
        · obtain rfl : k = hs.length := by omega
          rw [← HR.out] at ho
          go_wp2
          go_ret
          exact ⟨_, rfl, own_weaken ho hb.size, below_then hb hb.size hbw⟩
end Go.Proofs.Ytfbimhnlcmdcpaa.Pa
/- The contract of picks: all lists of so many references, until one is enough. -/
namespace Go.Proofs.Ytfbimhnlcmdcpaa.Pa
open Go.RowKit Go.Proofs.YtfbimhnlcmdcpaaW.PrintWords Go.Proofs.YtfbimhnlcmdcpaaW.PrintLast Go.Proofs.YtfbimhnlcmdcpaaW.PrintMore
attribute [local go_sem] Oper.semAt_some
set_option linter.unusedVariables false
set_option linter.unusedSimpArgs false

/-- all lists of k elements, in order -/
def combos {α : Type} : List α → Nat → List (List α)
  | _, 0 => [[]]
  | [], _ + 1 => []
  | x :: l, k + 1 => (combos l k).map (x :: ·) ++ combos l (k + 1)
theorem combos_zero {α : Type} (l : List α) : combos l 0 = [[]] := by cases l <;> rfl
theorem combos_drop {α : Type} (l : List α) (z : α) (i k : Nat) (hi : i < l.length) : combos (l.drop i) (k + 1) = (combos (l.drop (i + 1)) k).map (l.getD i z :: ·) ++ combos (l.drop (i + 1)) (k + 1) := by
  have : l.getD i z = l[i] := by rw [List.getD_eq_getElem?_getD, List.getElem?_eq_getElem hi]; rfl
  rw [List.drop_eq_getElem_cons hi, this]
  rfl
theorem combos_end {α : Type} (l : List α) (k : Nat) : combos (l.drop l.length) (k + 1) = [] := by rw [List.drop_length]; rfl

/-- append where there is room, and where the new slice lies, at a step of a region that draws -/
theorem step_append_fits {P : Program} {w : World} {ops : Array Oper} {o : Oper} {a : Act} {K : Act → World → Prop} {Q : Exit → Act → World → Prop} {E : Prop} (hgd : o.guard = none) (s x : Operand) (t : TypeId)
    (ho : o.op = .call { callee := .builtin .append, args := #[s, x], argTypes := #[t, t] })
    (base : Nat) (e : TypeId) (i : TypeInfo) (size : Nat) (ht : P.underlying t = some (.slice e)) (hi : P.info? e = some i) (hsize : i.size = size)
    (g n cap : Nat) (xs : List Value) (hs : a.eval s = .slice (some ⟨g, 0, none⟩) n cap) (hown : w.ownsRow base e size (.slice (some ⟨g, 0, none⟩) n cap) n xs)
    (ad : Addr) (m c : Nat) (news : List Value) (hx : a.eval x = .slice (some ad) m c) (hl : news.length = m * size) (hnews : ∀ j u, news[j]? = some u → w.cell? (ad.add j) = some u) (h1 : ∀ u ∈ news, u.oneCell' = true) (hroom : n + m ≤ cap)
    (h : ∀ w', w'.ownsRow base e size (.slice (some ⟨g, 0, none⟩) (n + m) cap) (n + m) (xs ++ news) → w.grownBy w' (some g) → K (a.put o.dst (.slice (some ⟨g, 0, none⟩) (n + m) cap)) w') :
    if Region.wanted o (yielded ops a.tmps) = true then Oper.wp P o a w K Q else E := by
  have hw : Region.wanted o (yielded ops a.tmps) = true := by simp [Region.wanted, hgd]
  rw [if_pos hw]
  obtain ⟨w', hr, h2, h3⟩ := run_append_fits (P := P) w base t o.type e i size ht hi hsize g n cap xs hown ad m c news hl hnews h1 hroom
  unfold Oper.wp execOp
  simp only [ho, resolve, invoke, builtin, Sem.run_bind, Sem.run_pure, Result.andThen_ok, List.map_toArray, List.map_cons, List.map_nil, hs, hx, hr]
  exact h w' h2 h3

/-- a shorter beginning of the same row -/
theorem own_prefix {w : World} {base : Nat} {e : TypeId} {size g n m cap : Nat} {xs ys : List Value} (h : w.ownsRow base e size (.slice (some ⟨g, 0, none⟩) (n + m) cap) (n + m) (xs ++ ys)) (hx : xs.length = n * size) :
    w.ownsRow base e size (.slice (some ⟨g, 0, none⟩) n cap) n xs := by
  rcases h.2 with ⟨h0, _⟩ | ⟨g', cap', cur, hv, hb, hg, hn, hc, hs, ht⟩
  · cases h0
  · simp only [Value.slice.injEq, Option.some.injEq, Addr.mk.injEq, and_true, true_and] at hv
    obtain ⟨rfl, rfl⟩ := hv
    refine ⟨hx, .inr ⟨g, cap, cur, rfl, hb, hg, by omega, hc, hs, ?_⟩⟩
    have h2 := congrArg (List.take (n * size)) ht
    rw [List.take_take, List.take_left' hx, Nat.min_eq_left (Nat.mul_le_mul_right _ (by omega))] at h2
    exact h2

/-- what a round of the loop answers -/
def RoundOk (B : Nat) (WB : World) (many : Nat) (l : Nat) (free : List Rf) (good : List Rf → Bool) (Stop : List Rf → World → Prop) : Prop :=
  ∀ (W : World) (v : Value) (refs : List Rf), Below B WB W → W.ownsRow B 139 2 v refs.length (rfCells refs) → refs.length = many → (∀ r, r ∈ refs → r ∈ free) →
    YieldAt Fence.wide 0 Try.prog l #[v] W fun e W' => (good refs = false ∧ e = .returned (.bool true) ∧ Below W.heap.size W W') ∨ (good refs = true ∧ e = .returned (.bool false) ∧ Stop refs W')

theorem room_of_wide (k : Nat) : Fence.wide.room k := fun d h => by cases h
theorem RoundIn.any {m m' : Nat} {P : Program} {l : Nat} {f : FuncId} {tmps : Array Value} {assign body : Code} {w : World} {R : Ending → World → Prop}
    (h : RoundIn Fence.wide m P l f tmps assign body w R) : RoundIn Fence.wide m' P l f tmps assign body w R := ⟨h.1, fun c cs _ => h.2 c cs (room_of_wide _)⟩

/-- what the cells of the iterator hold -/
structure Boxes (W : World) (bm b_y bl bg : Nat) (many l : Nat) (A : Option Addr) (c : Nat) (free : List Rf) : Prop where
  m : W.cell? ⟨bm, 0, none⟩ = some (.int .i64 many)
  y : W.cell? ⟨b_y, 0, none⟩ = some (.func (.yield l) #[] #[])
  l : W.cell? ⟨bl, 0, none⟩ = some (.slice A free.length c)
  g : W.cell? ⟨bg, 0, none⟩ = some (.func (.func 112) #[] #[.pointer (some ⟨bm, 0, none⟩), .pointer (some ⟨b_y, 0, none⟩), .pointer (some ⟨bl, 0, none⟩), .pointer (some ⟨bg, 0, none⟩)])
  C : kRf.C W A free.length free
theorem Boxes.below {W W1 : World} {bm b_y bl bg many l : Nat} {A : Option Addr} {c : Nat} {free : List Rf} (h : Boxes W bm b_y bl bg many l A c free) (hb : Below W.heap.size W W1) : Boxes W1 bm b_y bl bg many l A c free :=
  ⟨pw_cell_below hb h.m, pw_cell_below hb h.y, pw_cell_below hb h.l, pw_cell_below hb h.g, Kd.C_below h.C hb⟩

/-- what grow answers -/
def GrowPost (base G many : Nat) (W : World) (good : List Rf → Bool) (Stop : List Rf → World → Prop) (pre : List Rf) (cands : List (List Rf)) (e : Ending) (W' : World) : Prop :=
  ∃ b, e = .returned (.bool b) ∧ ((b = true ∧ cands.find? (fun c => good (pre ++ c)) = none ∧ W.grownBy W' (some G) ∧ W'.ownsRow base 139 2 (.slice (some ⟨G, 0, none⟩) pre.length many) pre.length (rfCells pre)) ∨ (b = false ∧ ∃ c, cands.find? (fun c => good (pre ++ c)) = some c ∧ Stop (pre ++ c) W'))

set_option maxHeartbeats 2000000 in
set_option maxRecDepth 100000 in
theorem grow_zero {WB : World} {bm b_y bl bg many l : Nat} {A : Option Addr} {c : Nat} {free : List Rf} {good : List Rf → Bool} {Stop : List Rf → World → Prop} (hE : Boxes WB bm b_y bl bg many l A c free)
    (hY : RoundOk WB.heap.size WB many l free good Stop) (G : Nat) (hG : WB.heap.size ≤ G) (pre : List Rf) (i : Nat) (W : World) (hm : pre.length = many) (hpre : ∀ r, r ∈ pre → r ∈ free) (hW : Below WB.heap.size WB W)
    (ho : W.ownsRow WB.heap.size 139 2 (.slice (some ⟨G, 0, none⟩) pre.length many) pre.length (rfCells pre)) :
    Calls Try.prog 112 #[.slice (some ⟨G, 0, none⟩) pre.length many, .int .i64 i, .pointer (some ⟨bm, 0, none⟩), .pointer (some ⟨b_y, 0, none⟩), .pointer (some ⟨bl, 0, none⟩), .pointer (some ⟨bg, 0, none⟩)] W (GrowPost WB.heap.size G many W good Stop pre (combos (free.drop i) 0)) := by
  have hB := hE.below hW
  have hy := hB.y
  have hmm := hB.m
  subst hm
  obtain ⟨fn, tmps, assign, body, hyr, hR⟩ := hY W _ pre hW ho rfl hpre
  have hR2 := RoundIn.any (m' := 1 - 1) hR
  clear hR
  have hdd : ∀ k : Nat, (Fence.wide.depth.isSome = true → 1 ≤ k) := fun k h => by cases h
  have hcz : combos (free.drop i) 0 = [[]] := combos_zero _
  rw [hcz]
  refine (callsIn_wide (n := 1)).1 ?_
  refine callsIn_of_wp Try.func112 rfl trivial ?_ rfl
  simp only [Try.ntmps112, List.size_toArray, List.length_cons, List.length_nil, Nat.reduceAdd, Nat.reduceSub, Array.replicate_succ, Array.replicate_zero, List.push_toArray, List.append_toArray, List.nil_append, List.cons_append]
  gi_wp2_with ((try refine ⟨hdd _, ?_⟩); refine hR2.mono ?_; clear hR2; rintro e W2 (⟨hg, rfl, hb2⟩ | ⟨hg, rfl, hS⟩))
  · go_ret
    exact ⟨true, rfl, .inl ⟨rfl, by simp [hg], ⟨hb2.os, hb2.tape, hb2.output, hb2.size, fun k hk _ => hb2.block k hk⟩, own_move ho (fun k hk => hb2.block k (own_lt ho k hk))⟩⟩
  · go_ret
    exact ⟨false, rfl, .inr ⟨rfl, [], by simp [hg], by simpa using hS⟩⟩

theorem find_step (good : List Rf → Bool) (pre : List Rf) (x : Rf) (l1 l2 : List (List Rf)) : (l1.map (x :: ·) ++ l2).find? (fun c => good (pre ++ c)) = match l1.find? (fun c => good ((pre ++ [x]) ++ c)) with
    | some c => some (x :: c)
    | none => l2.find? (fun c => good (pre ++ c)) := by
  rw [List.find?_append, List.find?_map]
  have : ((fun c => good (pre ++ c)) ∘ (x :: ·)) = (fun c => good ((pre ++ [x]) ++ c)) := by funext c; simp
  rw [this]
  cases l1.find? (fun c => good ((pre ++ [x]) ++ c)) <;> rfl

set_option maxHeartbeats 8000000 in
set_option maxRecDepth 100000 in
theorem grow_any {WB : World} {bm b_y bl bg many l : Nat} {A : Option Addr} {c : Nat} {free : List Rf} {good : List Rf → Bool} {Stop : List Rf → World → Prop} (hE : Boxes WB bm b_y bl bg many l A c free) (hmany : many ≤ 100)
    (hY : RoundOk WB.heap.size WB many l free good Stop) (G : Nat) (hG : WB.heap.size ≤ G) : ∀ (r : Nat) (pre : List Rf) (i : Nat) (W : World), pre.length + r = many → i ≤ free.length → (∀ r, r ∈ pre → r ∈ free) → Below WB.heap.size WB W →
    W.ownsRow WB.heap.size 139 2 (.slice (some ⟨G, 0, none⟩) pre.length many) pre.length (rfCells pre) →
    Calls Try.prog 112 #[.slice (some ⟨G, 0, none⟩) pre.length many, .int .i64 i, .pointer (some ⟨bm, 0, none⟩), .pointer (some ⟨b_y, 0, none⟩), .pointer (some ⟨bl, 0, none⟩), .pointer (some ⟨bg, 0, none⟩)] W (GrowPost WB.heap.size G many W good Stop pre (combos (free.drop i) r))
  | 0, pre, i, W, hm, hi, hpre, hW, ho => grow_zero hE hY G hG pre i W (by omega) hpre hW ho
  | r + 1, pre, i, W, hm, hi, hpre, hW, ho => by
    have ih := grow_any hE hmany hY G hG r
    have hur := Try.underlying139
    obtain ⟨i0, hin, hz0, hz1, hz2⟩ := info_parts infoRf
    have hne : ((pre.length : Int) == (many : Int)) = false := beq_eq_false_iff_ne.mpr (by omega)
    have hlm : free.length ≤ 9223372036854775807 := hE.C.2.1
    obtain ⟨R, hR⟩ : ∃ R, (combos (free.drop i) (r + 1)).find? (fun c => good (pre ++ c)) = R := ⟨_, rfl⟩
    have hB := hE.below hW
    have hy0 := hB.m
    clear hB
    unfold GrowPost
    rw [hR]
    go_enter Try.func112, Try.ntmps112
    go_wp2
    go_loopg [9] (free.length - i) (fun gk v wr => ∃ k : Nat, i ≤ k ∧ k + gk = free.length ∧ v = .int .i64 k ∧ W.grownBy wr (some G) ∧ wr.ownsRow WB.heap.size 139 2 (.slice (some ⟨G, 0, none⟩) pre.length many) pre.length (rfCells pre) ∧ Hid ((combos (free.drop k) (r + 1)).find? (fun c => good (pre ++ c)) = R))
    case atStart => exact ⟨i, Nat.le_refl _, by omega, rfl, World.grownBy.refl _ _, ho, hR⟩
    case round =>
      obtain ⟨k, hik, hk, rfl, hgr, hok, HK⟩ := hrel
      have hWr : Below WB.heap.size WB wr := hW.grown hgr hW.size (fun j hj => by cases hj; exact hG)
      have hBr := hE.below hWr
      have y1 := hBr.m
      have y2 := hBr.l
      have y3 := hBr.g
      by_cases hlt : k < free.length
      · have HC := Lib.hid (combos_drop free (0, 0) (k := r) k hlt)
        obtain ⟨ad, e, h0, h1⟩ := rfAt hBr.C k hlt
        cases e
        have hxm : free.getD k (0, 0) ∈ free := by rw [List.getD_eq_getElem?_getD, List.getElem?_eq_getElem hlt]; exact List.getElem_mem _
        obtain ⟨x, hx⟩ : ∃ x, free.getD k (0, 0) = x := ⟨_, rfl⟩
        rw [hx] at HC h0 h1 hxm
        have hkl : (k : Int) < free.length := by omega
        have hroom : pre.length + 1 ≤ many := by omega
        have egl := hWr.size
        have e1 := World.new_ne wr ⟨bg, 0, none⟩ y3
        have hIH := fun W' (hW' : Below WB.heap.size WB W') ho' => ih (pre ++ [x]) (k + 1) W' (by rw [List.length_append]; simp; omega) (by omega) (fun q hq => by
          rcases List.mem_append.1 hq with hq | hq
          · exact hpre q hq
          · rw [List.mem_singleton.1 hq]; exact hxm) hW' ho'
        have hln : (pre ++ [x]).length = pre.length + 1 := by simp
        have hcs : ((k + 1 : Nat) : Int) = (k : Int) + 1 := by omega
        simp only [hln, hcs] at hIH
        have hwk : IntKind.i64.wrap ((k : Int) + 1) = (k : Int) + 1 := by rw [IntKind.wrap_i64]; omega
        have y3a := fun o => (hE.below (hWr.alloc hWr.size o)).g
        clear hx ih hxm
        go_wp2
        go_region_law (first
          | (refine step_append_fits (by rfl) _ _ _ (by rfl) WB.heap.size 139 i0 2 Try.underlying136 hin hz1 G pre.length many (rfCells pre) (by rfl) ((hok.alloc _).drew) ⟨wr.heap.size, 0, none⟩ 1 1 [.int .i64 (x.1 : Int), .int .i64 (x.2 : Int)] (by rfl) (by rfl) (World.news_of_block (cs := #[.int .i64 (x.1 : Int), .int .i64 (x.2 : Int)]) (t := 139) (fr := (0, 0)) (heap_alloc_new wr _)) (by simp [Value.oneCell']) hroom ?_; intro w1 hown1 hgr1; have hW1 := ((hWr.alloc hWr.size (.cells #[.int .i64 (x.1 : Int), .int .i64 (x.2 : Int)] 139)).drew).grown hgr1 (by simp; omega) (fun j hj => by cases hj; exact hG); have y3b := (hE.below hW1).g)
          | (go_simp; go_at_call 112; go_loud (refine (hIH w1 hW1 (by rw [rfCells_append]; exact hown1)).mono ?_); rintro e w3 ⟨b, rfl, hd⟩))
        all_goals
          have hgA : wr.grownBy w1 (some G) := (World.grownBy_alloc wr (.cells #[.int .i64 (x.1 : Int), .int .i64 (x.2 : Int)] 139) (some G)).trans ⟨hgr1.os, hgr1.tape, hgr1.output, hgr1.size, hgr1.block⟩
          rw [HC.out, find_step] at HK
          rcases hd with ⟨rfl, hf, hg3, ho3⟩ | ⟨rfl, c', hf, hst⟩
          · have HK2 : Hid ((combos (free.drop (k + 1)) (r + 1)).find? (fun c => good (pre ++ c)) = R) := by show _ = _; rw [← HK.out, hf]
            clear HK hf
            go_wp2
            go_roundg (free.length - (k + 1))
            case measure => omega
            case rel => exact ⟨k + 1, by omega, by omega, by go_num, (hgr.trans hgA).trans hg3, own_prefix (by rw [← rfCells_append]; simpa using ho3) (rfCells_len _), HK2⟩
          · have HR2 : Hid (R = some (x :: c')) := by show _ = _; rw [← HK.out, hf]
            clear HK hf
            go_wp2
            go_ret
            exact ⟨false, rfl, .inr ⟨rfl, _, HR2.out, by simpa using hst⟩⟩
      · obtain rfl : k = free.length := by omega
        have HR2 : Hid (R = none) := by show _ = _; rw [← HK.out, combos_end]; rfl
        go_wp2
        go_ret
        exact ⟨true, rfl, .inl ⟨rfl, HR2.out, hgr, hok⟩⟩
end Go.Proofs.Ytfbimhnlcmdcpaa.Pa
/- picks as an iterator; a loop over it. -/
namespace Go.Proofs.Ytfbimhnlcmdcpaa.Pa
open Go.RowKit Go.Proofs.YtfbimhnlcmdcpaaW.PrintWords Go.Proofs.YtfbimhnlcmdcpaaW.PrintLast Go.Proofs.YtfbimhnlcmdcpaaW.PrintMore
set_option linter.unusedVariables false
set_option linter.unusedSimpArgs false

theorem picks_any (A : Option Addr) (n c : Nat) (many : Int) (w : World) :
    Calls Try.prog 91 #[.slice A n c, .int .i64 many] w fun e w' => e = .returned (.func (.func 111) #[] #[.pointer (some ⟨w.heap.size + 1, 0, none⟩), .pointer (some ⟨w.heap.size, 0, none⟩)]) ∧ w' = (w.alloc (.cells #[.slice A n c] 136)).alloc (.cells #[.int .i64 many] 3) := by
  go_enter Try.func91, Try.ntmps91
  go_wp2
  go_ret
  exact ⟨rfl, rfl⟩

/-- what the iterator answers -/
def IterPost (W : World) (good : List Rf → Bool) (Stop : List Rf → World → Prop) (cands : List (List Rf)) (e : Ending) (W' : World) : Prop :=
  (∃ v, e = .returned v) ∧ ((cands.find? good = none ∧ Below W.heap.size W W') ∨ (∃ c, cands.find? good = some c ∧ Stop c W'))

theorem RoundOk.mono {W WB : World} {many l : Nat} {free : List Rf} {good : List Rf → Bool} {Stop : List Rf → World → Prop} (h : RoundOk W.heap.size W many l free good Stop) (hb : Below W.heap.size W WB) : RoundOk WB.heap.size WB many l free good Stop :=
  fun W' v refs hW ho hl hr => h W' v refs (below_then hb hb.size hW) (own_weaken ho hb.size) hl hr

set_option maxHeartbeats 4000000 in
set_option maxRecDepth 100000 in
theorem picks1_any {bm bl many l : Nat} {A : Option Addr} {c : Nat} {free : List Rf} {good : List Rf → Bool} {Stop : List Rf → World → Prop} (hmany : many ≤ 100) (W : World)
    (hm : W.cell? ⟨bm, 0, none⟩ = some (.int .i64 many)) (hl : W.cell? ⟨bl, 0, none⟩ = some (.slice A free.length c)) (hC : kRf.C W A free.length free)
    (hY : RoundOk W.heap.size W many l free good Stop) :
    Calls Try.prog 111 #[.func (.yield l) #[] #[], .pointer (some ⟨bm, 0, none⟩), .pointer (some ⟨bl, 0, none⟩)] W (IterPost W good Stop (combos free many)) := by
  obtain ⟨i0, hin, hz0, hz1, hz2⟩ := info_parts infoRf
  have hbm := World.new_ne W ⟨bm, 0, none⟩ hm
  have hbl := World.new_ne W ⟨bl, 0, none⟩ hl
  have hbml : bm < W.heap.size := World.block_lt_of_cell? _ _ hm
  have hbll : bl < W.heap.size := World.block_lt_of_cell? _ _ hl
  obtain ⟨R, hR⟩ : ∃ R, combos free many = R := ⟨_, rfl⟩
  rw [hR]
  go_enter Try.func111, Try.ntmps111
  go_upto_region 2 with (fail)
  have hB2 := ((Below.refl W.heap.size W).alloc (Nat.le_refl _) (.cells #[.func (.yield l) #[] #[]] 141)).alloc (by simp) (.cells #[.nilFunc] 166)
  have hy1 := blk_alloc (heap_alloc_new W (.cells #[.func (.yield l) #[] #[]] 141)) (.cells #[.nilFunc] 166)
  have hg1 := heap_alloc_new (W.alloc (.cells #[.func (.yield l) #[] #[]] 141)) (.cells #[.nilFunc] 166)
  rw [World.size_alloc] at hg1
  obtain ⟨W2, hW2⟩ : ∃ W2, W2 = (W.alloc (.cells #[.func (.yield l) #[] #[]] 141)).alloc (.cells #[.nilFunc] 166) := ⟨_, rfl⟩
  rw [← hW2] at hB2 hy1 hg1 ⊢
  have hs2 : W2.heap.size = W.heap.size + 2 := by rw [hW2]; simp
  clear hW2
  have hgc := cells1 hg1
  have hgf := blk_frozen hg1 0
  have e1 := World.new_ne W2 ⟨W.heap.size + 1, 0, none⟩ hgc
  go_upto_region 3 with (fail)
  have hB3 := hB2.setCell (p := ⟨W.heap.size + 1, 0, none⟩) (by simp) (.func (.func 112) #[] #[.pointer (some ⟨bm, 0, none⟩), .pointer (some ⟨W.heap.size, 0, none⟩), .pointer (some ⟨bl, 0, none⟩), .pointer (some ⟨W.heap.size + 1, 0, none⟩)])
  have hy3 := (Below.heap_setCell W2 ⟨W.heap.size + 1, 0, none⟩ (.func (.func 112) #[] #[.pointer (some ⟨bm, 0, none⟩), .pointer (some ⟨W.heap.size, 0, none⟩), .pointer (some ⟨bl, 0, none⟩), .pointer (some ⟨W.heap.size + 1, 0, none⟩)]) W.heap.size (by simp)).trans hy1
  have hg3 : (W2.setCell ⟨W.heap.size + 1, 0, none⟩ (.func (.func 112) #[] #[.pointer (some ⟨bm, 0, none⟩), .pointer (some ⟨W.heap.size, 0, none⟩), .pointer (some ⟨bl, 0, none⟩), .pointer (some ⟨W.heap.size + 1, 0, none⟩)])).cell? ⟨W.heap.size + 1, 0, none⟩ = some (.func (.func 112) #[] #[.pointer (some ⟨bm, 0, none⟩), .pointer (some ⟨W.heap.size, 0, none⟩), .pointer (some ⟨bl, 0, none⟩), .pointer (some ⟨W.heap.size + 1, 0, none⟩)]) := World.cell?_setCell_same' _ _ _ (by rw [hgc]; rfl)
  obtain ⟨W3, hW3⟩ : ∃ W3, W3 = W2.setCell ⟨W.heap.size + 1, 0, none⟩ (.func (.func 112) #[] #[.pointer (some ⟨bm, 0, none⟩), .pointer (some ⟨W.heap.size, 0, none⟩), .pointer (some ⟨bl, 0, none⟩), .pointer (some ⟨W.heap.size + 1, 0, none⟩)]) := ⟨_, rfl⟩
  rw [← hW3] at hB3 hy3 hg3 ⊢
  have hs3 : W3.heap.size = W.heap.size + 2 := by rw [hW3]; simp [World.setCell, hs2]
  clear hW3 hB2 hy1 hg1 hgc hgf e1 hs2
  clear W2
  have hE : Boxes W3 bm W.heap.size bl (W.heap.size + 1) many l A c free := ⟨pw_cell_below hB3 hm, cells1 hy3, pw_cell_below hB3 hl, hg3, Kd.C_below hC hB3⟩
  have hm3 := hE.m
  have e2 := World.new_ne W3 ⟨W.heap.size + 1, 0, none⟩ hg3
  have e3 := World.new_ne W3 ⟨bm, 0, none⟩ hm3
  have hmk : ∀ W4 : World, (Instr.makeSlice 136 (.int .i64 0) (.int .i64 many)).run Try.prog W4 = .ok (.slice (some ⟨W4.heap.size, 0, none⟩) 0 many) (W4.alloc (.cells (madeCells (Value.agg #[.int .i64 0, .int .i64 0]).cells (many * 2)) 139)) := fun W4 => by
    have h := run_make (P := Try.prog) W4 136 139 i0 _ Try.underlying136 hin hz0 .i64 .i64 0 many (Int.le_refl _) (by omega) (by rw [hz2]; omega) (by omega)
    rw [hz1] at h
    simpa using h
  have hmc := size_madeCells (Value.agg #[.int .i64 0, .int .i64 0]).cells (many * 2)
  obtain ⟨mc, hmce⟩ : ∃ mc, madeCells (Value.agg #[.int .i64 0, .int .i64 0]).cells (many * 2) = mc := ⟨_, rfl⟩
  rw [hmce] at hmc
  simp only [hmce] at hmk
  have hIH := grow_any hE hmany (RoundOk.mono hY hB3) W3.heap.size (Nat.le_refl _) many [] 0 (W3.alloc (.cells mc 139)).drew (by simp) (by omega) (fun q hq => by simp at hq) (((Below.refl _ W3).alloc (Nat.le_refl _) _).drew) ⟨by simp [rfCells], .inr ⟨_, many, mc, rfl, Nat.le_refl _, heap_alloc_new W3 _, by simp, by unfold maxLen; omega, hmc, by simp [rfCells]⟩⟩
  have y3a := fun o => (hE.below ((Below.refl _ W3).alloc (Nat.le_refl _) o)).g
  have hi0 : ((0 : Nat) : Int) = 0 := rfl
  rw [List.drop_zero, hR, hi0, List.length_nil, hs3] at hIH
  clear hmce hY
  go_region_law ((go_simp; go_at_call 112; go_loud (with_reducible refine hIH.mono ?_); rintro e w3 ⟨b, rfl, hd⟩))
  all_goals
    rcases hd with ⟨rfl, hf, hg3, -⟩ | ⟨rfl, c', hf, hst⟩
    · have hBB := ((hB3.alloc hB3.size (.cells mc 139)).drew).grown hg3 (by simp; omega) (fun j hj => by cases hj; omega)
      go_wp2
      go_end0
      exact ⟨⟨_, rfl⟩, .inl ⟨hf, hBB⟩⟩
    · go_wp2
      go_end0
      exact ⟨⟨_, rfl⟩, .inr ⟨c', hf, hst⟩⟩
end Go.Proofs.Ytfbimhnlcmdcpaa.Pa
/- A loop over picks: one law. -/
namespace Go.Proofs.Ytfbimhnlcmdcpaa.Pa
open Go.RowKit Go.Shelf Go.Proofs.YtfbimhnlcmdcpaaW.PrintWords Go.Proofs.YtfbimhnlcmdcpaaW.PrintLast Go.Proofs.YtfbimhnlcmdcpaaW.PrintMore
set_option linter.unusedVariables false
set_option linter.unusedSimpArgs false

/-- how a round's body is left -/
def BodyPost (D : Nat) (ID : Nat) (good : List Rf → Bool) (Stop : List Rf → World → Prop) (refs : List Rf) (W : World) : Exit → Act → World → Prop
  | .normal, _, W' => good refs = false ∧ Below W.heap.size W W'
  | .exit id, _, W' => id = ID ∧ good refs = true ∧ W'.heap[D]? = W.heap[D]? ∧ W'.heap[D + 1]? = W.heap[D + 1]? ∧ Stop refs W'
  | _, _, _ => False

theorem own_put {w : World} {base : Nat} {e : TypeId} {size n : Nat} {v : Value} {xs : List Value} {l : Nat} (h : w.ownsRow base e size v n xs) (hl : l < base) (o : Obj) : (w.putObj l o).ownsRow base e size v n xs :=
  own_move h (fun k hk => World.putObj_heap_other (by have := own_base h k hk; omega))

set_option maxHeartbeats 1000000 in
theorem wp_range_picks {g : Operand} {ps : Array Tmp} {assign body : Code} {Q : Exit → Act → World → Prop} {a : Act} {w : World} {bm bl many : Nat} {A : Option Addr} {c : Nat} {free : List Rf} {good : List Rf → Bool} {Stop : List Rf → World → Prop} {ID : Nat}
    (hmany : many ≤ 100) (hm : w.cell? ⟨bm, 0, none⟩ = some (.int .i64 many)) (hl : w.cell? ⟨bl, 0, none⟩ = some (.slice A free.length c)) (hC : kRf.C w A free.length free)
    (hg : a.eval g = .func (.func 111) #[] #[.pointer (some ⟨bm, 0, none⟩), .pointer (some ⟨bl, 0, none⟩)]) (hps : ps.size = 1)
    (hStop : ∀ refs W o, Stop refs W → (∃ r, W.heap[w.heap.size + 1]? = some (.loop r)) → Stop refs (W.putObj (w.heap.size + 1) o)) (a₁ : Value → Act)
    (hassign : ∀ (l : Nat) (v : Value) (W : World) (K : Act → World → Prop), K (a₁ v) W →
      assign.wpIn (Fence.wide.inRound l) 0 Try.prog (Exit.then K (fun _ _ _ => False)) { tmps := (ps.zip #[v]).foldl (fun t (p, v) => t.setIfInBounds p v) a.tmps, defers := [] } W)
    (hbody : ∀ (l : Nat) (v : Value) (refs : List Rf) (W : World), Below w.heap.size w W → w.heap.size + 2 ≤ W.heap.size → W.ownsRow (w.heap.size + 2) 139 2 v refs.length (rfCells refs) → refs.length = many → (∀ r, r ∈ refs → r ∈ free) →
      body.wpIn (Fence.wide.inRound l) 0 Try.prog (BodyPost w.heap.size ID good Stop refs W) (a₁ v) W)
    (hdone : ∀ W, (combos free many).find? good = none → Below w.heap.size w W → W.heap[w.heap.size]? = some (.deferred (some [])) → Q .normal { a with defers := { target := .collected w.heap.size, args := #[] } :: a.defers } W)
    (hstop : ∀ refs W, (combos free many).find? good = some refs → Stop refs W → W.heap[w.heap.size]? = some (.deferred (some [])) → Q (.exit ID) { a with defers := { target := .collected w.heap.size, args := #[] } :: a.defers } W) :
    (Code.rangeFunc g ps assign body).wp Try.prog Q a w := by
  refine (wpIn_wide (n := 1)).1 (wpIn_rangeFunc ?_)
  intro fn _
  obtain ⟨rec, hrec⟩ : ∃ rec : LoopState → Option Code → Loop, rec = fun st pe => { state := st, pending := pe, fn, tmps := a.tmps, params := ps, assign, body, defers := w.heap.size } := ⟨_, rfl⟩
  obtain ⟨W1, hW1⟩ : ∃ W1, (w.alloc (.deferred (some []))).alloc (.loop (rec .ready none)) = W1 := ⟨_, rfl⟩
  have hs1 : W1.heap.size = w.heap.size + 2 := by rw [← hW1]; simp
  have hL1 : W1.heap[w.heap.size + 1]? = some (.loop (rec .ready none)) := by
    rw [← hW1]; have := World.alloc_heap_new (w.alloc (.deferred (some []))) (.loop (rec .ready none)); rwa [World.size_alloc] at this
  have hK1 : W1.heap[w.heap.size]? = some (.deferred (some [])) := by
    rw [← hW1]; exact (Below.heap_alloc _ _ _ (by simp)).trans (World.alloc_heap_new w _)
  have hb1 : Below w.heap.size w W1 := by
    rw [← hW1]; exact ((Below.refl _ w).alloc (Nat.le_refl _) _).alloc (by simp) _
  have hrun : (Instr.enterLoop fn a.tmps ps assign body Fence.wide.round).run Try.prog w = .ok (w.heap.size + 1, [{ target := .collected w.heap.size, args := #[] }]) W1 := by
    rw [← hW1, hrec]; exact run_enterLoop_outer _ _ _ _ _
  have eg : ∀ args w, (callFunc 111 args).run Try.prog w = .ok (.enter 111 args) w := enters_of Try.func111 (by kernel_rfl) rfl
  refine ⟨w.heap.size + 1, [{ target := .collected w.heap.size, args := #[] }], W1, { target := .fn (.func 111) #[.pointer (some ⟨bm, 0, none⟩), .pointer (some ⟨bl, 0, none⟩)], args := #[.func (.yield (w.heap.size + 1)) #[] #[]] }, W1, 111,
    #[.func (.yield (w.heap.size + 1)) #[] #[]] ++ #[.pointer (some ⟨bm, 0, none⟩), .pointer (some ⟨bl, 0, none⟩)], W1, hrun, ?_, fun _ _ => trivial, ?_, fun _ => Nat.le_refl _, ?_⟩
  · simp only [resolve, hg]
    simp [go_sem]
  · simp [invoke, go_sem, eg]
  have hit := picks1_any (l := w.heap.size + 1) (good := good) (Stop := fun refs W => Stop refs W ∧ W.heap[w.heap.size + 1]? = some (.loop (rec .done (some (.exit ID)))) ∧ W.heap[w.heap.size]? = some (.deferred (some []))) hmany W1
    (pw_cell_below hb1 hm) (pw_cell_below hb1 hl) (Kd.C_below hC hb1) ?_
  · refine (callsIn_wide.2 hit).mono ?_
    rintro e W2 ⟨⟨v, rfl⟩, (⟨hf, hb⟩ | ⟨refs, hf, hS, hl2, hk2⟩)⟩
    · have hl2 : W2.heap[w.heap.size + 1]? = some (.loop (rec .ready none)) := (hb.block _ (by omega)).trans hL1
      have hk2 : W2.heap[w.heap.size]? = some (.deferred (some [])) := (hb.block _ (by omega)).trans hK1
      refine ⟨none, _, by have := run_endLoop (P := Try.prog) hl2 (by rw [hrec]; simp); rw [hrec] at this; exact this, ?_⟩
      refine hdone _ hf ?_ ((World.putObj_heap_other (by omega)).trans hk2)
      have hbw := below_then hb1 hb1.size hb
      exact ⟨hbw.os, hbw.tape, hbw.output, by simp; exact hbw.size, fun k hk => (World.putObj_heap_other (by omega)).trans (hbw.block k hk)⟩
    · refine ⟨some (.exit ID), _, by have := run_endLoop (P := Try.prog) hl2 (by rw [hrec]; simp); rw [hrec] at this; exact this, ?_⟩
      exact wpIn_exit (hstop _ _ hf (hStop _ _ _ hS ⟨_, hl2⟩) ((World.putObj_heap_other (by omega)).trans hk2))
  · intro W v refs hW ho hlen hmem
    have hl2 : W.heap[w.heap.size + 1]? = some (.loop (rec .ready none)) := (hW.block _ (by omega)).trans hL1
    have hk2 : W.heap[w.heap.size]? = some (.deferred (some [])) := (hW.block _ (by omega)).trans hK1
    have hlt : w.heap.size + 1 < W.heap.size := (Array.getElem?_eq_some_iff.1 hl2).1
    have hy := run_yield (P := Try.prog) (args := #[v]) hl2 (by rw [hrec]; simp [hps])
    rw [hrec] at hy
    refine ⟨fn, _, assign, body, hy, roundIn_of_wpIn trivial (hassign _ v W _ ⟨_, run_beginRound hl2 (by rw [hrec]), ?_⟩)⟩
    obtain ⟨Wb, hWb⟩ : ∃ Wb, W.putObj (w.heap.size + 1) (.loop { rec .ready none with state := .busy }) = Wb := ⟨_, rfl⟩
    rw [hWb]
    have hsb : Wb.heap.size = W.heap.size := by rw [← hWb]; simp
    have hl3 : Wb.heap[w.heap.size + 1]? = some (.loop { rec .ready none with state := .busy }) := by rw [← hWb]; exact World.putObj_heap_same hlt
    have hoth : ∀ k, k ≠ w.heap.size + 1 → Wb.heap[k]? = W.heap[k]? := fun k hk => by rw [← hWb]; exact World.putObj_heap_other hk
    have hbw := below_then hb1 hb1.size hW
    have hbb : Below w.heap.size w Wb := by
      rw [← hWb]
      exact ⟨hbw.os, hbw.tape, hbw.output, by simp; exact hbw.size, fun k hk => (World.putObj_heap_other (by omega)).trans (hbw.block k hk)⟩
    have hob : Wb.ownsRow (w.heap.size + 2) 139 2 v refs.length (rfCells refs) := by
      rw [hs1] at ho
      rw [← hWb]
      exact own_put ho (by omega) _
    refine wpIn_mono (hbody (w.heap.size + 1) v refs Wb hbb (by omega) hob hlen hmem) ?_
    rintro e a3 W3 hp
    cases e with
    | normal =>
      obtain ⟨hgd, hb3⟩ := hp
      have hl4 := (hb3.block (w.heap.size + 1) (by omega)).trans hl3
      have hr := run_endRound (P := Try.prog) none hl4
      rw [hrec] at hr
      refine ⟨_, _, hr, .inl ⟨hgd, rfl, ?_⟩⟩
      have hWb' := hWb.symm
      refine ⟨hb3.os.trans (by rw [← hWb]; rfl), hb3.tape.trans (by rw [← hWb]; rfl), hb3.output.trans (by rw [← hWb]; rfl), by have := hb3.size; simp; omega, fun k hk => ?_⟩
      by_cases hkl : k = w.heap.size + 1
      · subst hkl
        rw [hl2, World.putObj_heap_same (Array.getElem?_eq_some_iff.1 hl4).1, hrec]
        rfl
      · exact (World.putObj_heap_other hkl).trans ((hb3.block k (by omega)).trans (hoth k hkl))
    | exit id =>
      obtain ⟨rfl, hgd, hd0, hd1, hS⟩ := hp
      have hl4 := hd1.trans hl3
      have hk4 := hd0.trans ((hoth _ (by omega)).trans hk2)
      have hr := run_endRound (P := Try.prog) (some (.exit id)) hl4
      rw [hrec] at hr
      refine ⟨_, _, hr, .inr ⟨hgd, rfl, hStop _ _ _ hS ⟨_, hl4⟩, ?_, (World.putObj_heap_other (by omega)).trans hk4⟩⟩
      rw [World.putObj_heap_same (Array.getElem?_eq_some_iff.1 hl4).1, hrec]
      rfl
    | ret => exact hp.elim
    | goto t => exact hp.elim
    | panic ch => exact hp.elim
    | outgrown => exact hp.elim
end Go.Proofs.Ytfbimhnlcmdcpaa.Pa
/- The contracts of join and Join. -/
namespace Go.Proofs.Ytfbimhnlcmdcpaa.Pa
open Go.RowKit Go.Proofs.YtfbimhnlcmdcpaaW.PrintWords Go.Proofs.YtfbimhnlcmdcpaaW.PrintLast Go.Proofs.YtfbimhnlcmdcpaaW.PrintMore
attribute [local go_sem] Oper.semAt_some
set_option linter.unusedVariables false
set_option linter.unusedSimpArgs false

/-- the first list that is enough, of m references or more -/
def firstMany (free : List Rf) (good : List Rf → Bool) : Nat → Nat → List Rf
  | 0, _ => []
  | k + 1, m => match (combos free m).find? good with | some c => c | none => firstMany free good k (m + 1)
def goodJ (hs : List Hd) (h s : Nat) : List Rf → Bool := goodT (tradesS hs hs.length) (netT hs) h s
def joinT (hs : List Hd) (h s : Nat) : Option (List Rf) :=
  if goodJ hs h s (freeT hs) = false then none else some (firstMany (freeT hs) (goodJ hs h s) ((freeT hs).length + 1) 0)

theorem freeT_in (hs : List Hd) (m1 : hs.length ≤ 6) : ∀ r, r ∈ freeT hs → r.1 < 6 ∧ r.2 < 6 := by
  have key : ∀ k, k ≤ 6 → ∀ r, r ∈ freeTo hs k → r.1 < 6 ∧ r.2 < 6 := by
    intro k
    induction k with
    | zero => intro _ r hr; simp [freeTo] at hr
    | succ k ih =>
      intro hk r hr
      have hr : r ∈ freeTo hs k ++ (if (hs.getD k zHd).f2 ≠ -1 then [] else freeRow hs k hs.length) := hr
      rcases List.mem_append.1 hr with hr | hr
      · exact ih (by omega) r hr
      · split at hr
        · simp at hr
        · unfold freeRow at hr
          obtain ⟨t, ht, rfl⟩ := List.mem_map.1 hr
          have := List.mem_range.1 (List.mem_filter.1 ht).1
          exact ⟨by show k < 6; omega, by show t < 6; omega⟩
  exact key hs.length m1
theorem freeT_len (hs : List Hd) (m1 : hs.length ≤ 6) : (freeT hs).length ≤ 36 := by
  have := freeTo_len hs hs.length
  have h2 : hs.length * hs.length ≤ 36 := Nat.le_trans (Nat.mul_le_mul m1 m1) (by omega)
  unfold freeT
  omega
theorem netT_lt {cs : List Cl} {hs : List Hd} (hv : Valid cs hs) : ∀ i, netT hs i < 256 := fun i => by
  by_cases h0 : hs.length = 0
  · unfold netT stN
    rw [h0, if_neg (by omega)]
    split <;> simp [addAll]
  · have := stN_full hs (hs.length - 1)
    rw [show hs.length - 1 + 1 = hs.length by omega] at this
    unfold netT
    rw [← this]
    exact stN_lt hv _ _ (by omega) i
theorem kRf_mkM (w : World) (base : Nat) (ok : Nat → Prop) (x : Rf) : kRf.M w base ok x [.int .i64 (x.1 : Int), .int .i64 (x.2 : Int)] := ⟨[.int .i64 (x.1 : Int)], [.int .i64 (x.2 : Int)], rfl, rfl, rfl⟩
theorem rf_reps (w : World) (base : Nat) (ok : Nat → Prop) (l : List Rf) : Reps (kRf.M w base ok) 2 l (rfCells l) := by
  induction l with
  | nil => exact Reps.none _ _
  | cons r l ih => exact Kd.reps_append (Reps.snoc (Reps.none _ _) (kRf_mkM w base ok r) rfl) ih
theorem rf_reads {w : World} {base : Nat} {v : Value} {l : List Rf} (h : w.ownsRow base 139 2 v l.length (rfCells l)) : ∃ A c, v = .slice A l.length c ∧ kRf.C w A l.length l := by
  have hR : kRf.R 139 w base (fun _ => True) v l := ⟨fun _ _ => trivial, rfCells l, h, rf_reps _ _ _ _⟩
  obtain ⟨A, c, e, _, hC⟩ := Kd.R_reads hR
  exact ⟨A, c, e, hC⟩

theorem infoSl : (Try.prog.info? 22).map (fun i => (i.zero, i.size, i.bytes)) = some (some (.slice none 0 0), 1, 24) := by kernel_rfl
/-! ### the result's rows -/
def toRows (l : List Rf) : List (List Int) := l.map (fun r => [(r.1 : Int), (r.2 : Int)])
/-- rows of two numbers each, every one in a block of its own -/
structure OutRows (w : World) (base : Nat) (v : Value) (l : List Rf) : Prop where mk ::
  ok : ∃ gs : List Nat, w.ownsRow base 22 1 v l.length (gs.map (fun g => .slice (some ⟨g, 0, none⟩) 2 2)) ∧ ∀ (i : Nat) (r : Rf), l[i]? = some r → ∃ g, gs[i]? = some g ∧ base ≤ g ∧ w.heap[g]? = some (.cells #[.int .i64 (r.1 : Int), .int .i64 (r.2 : Int)] 3 (0, 0))
theorem OutRows.nil (w : World) (base : Nat) : OutRows w base (.slice none 0 0) [] := ⟨[], own_nil _ _ _ _, fun i r h => by simp at h⟩
theorem OutRows.move {w w1 : World} {base : Nat} {v : Value} {l : List Rf} (h : OutRows w base v l) (hm : ∀ k, base ≤ k → k < w.heap.size → w1.heap[k]? = w.heap[k]?) : OutRows w1 base v l := by
  obtain ⟨gs, ho, hr⟩ := h.ok
  refine ⟨gs, own_move ho (fun k hk => hm k (own_base ho k hk) (own_lt ho k hk)), fun i r hi => ?_⟩
  obtain ⟨g, hg, hb, hc⟩ := hr i r hi
  exact ⟨g, hg, hb, (hm g hb (blk_lt hc)).trans hc⟩
theorem OutRows.lower {w : World} {base base' : Nat} {v : Value} {l : List Rf} (h : OutRows w base v l) (hb : base' ≤ base) : OutRows w base' v l := by
  obtain ⟨gs, ho, hr⟩ := h.ok
  refine ⟨gs, own_weaken ho hb, fun i r hi => ?_⟩
  obtain ⟨g, h1, h2, h3⟩ := hr i r hi
  exact ⟨g, h1, by omega, h3⟩
theorem heap_set_one {w : World} {b : Nat} {u : Value} {t : TypeId} (h : w.heap[b]? = some (.cells #[u] t (0, 0))) (v : Value) : (w.setCell ⟨b, 0, none⟩ v).heap[b]? = some (.cells #[v] t (0, 0)) := by
  simp [World.setCell, Array.getElem?_modify, h]
/-- a row more: it lies in block g, a new one -/
theorem OutRows.snoc {w w1 : World} {base : Nat} {v v1 : Value} {l : List Rf} (r : Rf) (g : Nat) (gs : List Nat) (ho0 : w.ownsRow base 22 1 v l.length (gs.map (fun g => .slice (some ⟨g, 0, none⟩) 2 2)))
    (hr : ∀ (i : Nat) (r : Rf), l[i]? = some r → ∃ g, gs[i]? = some g ∧ base ≤ g ∧ w.heap[g]? = some (.cells #[.int .i64 (r.1 : Int), .int .i64 (r.2 : Int)] 3 (0, 0)))
    (hb : base ≤ g) (hg : w.heap[g]? = some (.cells #[.int .i64 (r.1 : Int), .int .i64 (r.2 : Int)] 3 (0, 0)))
    (ho : w1.ownsRow base 22 1 v1 (l.length + 1) (gs.map (fun g => .slice (some ⟨g, 0, none⟩) 2 2) ++ [.slice (some ⟨g, 0, none⟩) 2 2])) (hgr : w.grownBy w1 v.ownBlock) : OutRows w1 base v1 (l ++ [r]) := by
  have hl : gs.length = l.length := by have := ho0.1; simpa using this
  have hne : ∀ k cells, w.heap[k]? = some (Obj.cells cells 3 (0, 0)) → w1.heap[k]? = w.heap[k]? := fun k cells hk => hgr.block k (blk_lt hk) (fun e => by
    obtain ⟨c2, h2⟩ := own_typed ho0 k e.symm
    rw [hk] at h2
    injection h2 with h2
    injection h2 with _ h2
    exact absurd h2 (by decide))
  refine ⟨gs ++ [g], by rw [List.length_append, List.map_append]; exact ho, fun i q hq => ?_⟩
  by_cases hi : i < l.length
  · rw [List.getElem?_append_left hi] at hq
    obtain ⟨k, hk, hkb, hkc⟩ := hr i q hq
    exact ⟨k, by rw [List.getElem?_append_left (by omega)]; exact hk, hkb, (hne k _ hkc).trans hkc⟩
  · have hi2 : i = l.length := by
      have := (List.getElem?_eq_some_iff.1 hq).1
      simp at this
      omega
    subst hi2
    have : q = r := by simpa using hq.symm
    subst this
    exact ⟨g, by rw [← hl]; simp, hb, (hne g _ hg).trans hg⟩
theorem OutRows.R {w : World} {base : Nat} {v : Value} {l : List Rf} (h : OutRows w base v l) : Kd.R (Kd.slice 3 (Kd.int .i64)) 22 w base (fun _ => True) v (toRows l) := by
  obtain ⟨gs, ho, hr⟩ := h.ok
  have hl : gs.length = l.length := by have := ho.1; simpa using this
  refine ⟨fun _ _ => trivial, gs.map (fun g => .slice (some ⟨g, 0, none⟩) 2 2), by rw [show (toRows l).length = l.length by simp [toRows]]; exact ho, by simp [toRows, hl, Kd.slice], fun i p hp => ?_⟩
  unfold toRows at hp
  rw [List.getElem?_map] at hp
  obtain ⟨r, hr1, rfl⟩ := Option.map_eq_some_iff.1 hp
  obtain ⟨g, hg, hb, hc⟩ := hr i r hr1
  have hgi : i < gs.length := (List.getElem?_eq_some_iff.1 hg).1
  have hge : gs[i] = g := (List.getElem?_eq_some_iff.1 hg).2
  refine ⟨.slice (some ⟨g, 0, none⟩) 2 2, ?_, ?_⟩
  · show (List.drop (i * 1) _).take 1 = _
    rw [Nat.mul_one, List.drop_eq_getElem_cons (by simpa using hgi)]
    simp [hge]
  · refine Kd.R_of_own (xs := [(r.1 : Int), (r.2 : Int)]) ⟨rfl, .inr ⟨g, 2, _, rfl, hb, hc, Nat.le_refl _, by unfold maxLen; omega, rfl, rfl⟩⟩ (fun k hk => ⟨trivial, fun e => ?_⟩)
    have hk2 : g = k := by simpa [Value.ownBlock] using hk
    subst hk2
    obtain ⟨c2, h2⟩ := own_typed ho g e.symm
    rw [hc] at h2
    injection h2 with h2
    injection h2 with _ h2
    exact absurd h2 (by decide)


def markOf (D : Nat) : Deferred := { target := .collected D, args := #[] }
def slotNat (a : Act) (k : Nat) : Nat := match a.tmps.getD k undef with | .int _ i => i.toNat | _ => 0

theorem leaves_marks {P : Program} {fn : Func} {tmps : Array Value} {R : Ending → World → Prop} {v : Value} (Inv : World → Prop) (PD : Nat → Prop) (hput : ∀ W D, PD D → Inv W → Inv (W.putObj D (.deferred none)))
    (hres : ∀ W, (results fn tmps).run P W = .ok v W) (hR : ∀ W, Inv W → R (.returned v) W) : ∀ (Ds : List Nat) (W : World), Inv W → (∀ D, D ∈ Ds → PD D ∧ W.heap[D]? = some (.deferred (some []))) → Ds.Nodup → LeavesInM Fence.wide 1 P fn tmps R (Ds.map markOf) .returning W
  | [], W, hI, _, _ => ⟨_, hres W, hR W hI⟩
  | D :: Ds, W, hI, hD, hn => by
    obtain ⟨hp, hd⟩ := hD D List.mem_cons_self
    obtain ⟨hn1, hn2⟩ := List.nodup_cons.1 hn
    refine ⟨by simp, .inl ⟨D, _, rfl, run_takeDeferred hd, leaves_marks Inv PD hput hres hR Ds _ (hput W D hp hI) (fun D' h' => ?_) hn2⟩⟩
    obtain ⟨hp', hd'⟩ := hD D' (List.mem_cons_of_mem _ h')
    exact ⟨hp', (World.putObj_heap_other (fun e => hn1 (by rw [← e]; exact h'))).trans hd'⟩

set_option maxHeartbeats 4000000 in
set_option maxRecDepth 100000 in
theorem join_any (g : Nat) (cs : List Cl) (hs : List Hd) (h s : Nat) (w : World) (hL : IsList w g cs hs) (hv : Valid cs hs) (hh : h < hs.length) (hs6' : s ≤ 6) :
    Calls Try.prog 72 #[.pointer (some ⟨g, 0, none⟩), .int .i64 h, .int .i64 s] w fun e w' => ∃ v b, e = .returned (.tuple #[v, .bool b]) ∧ Below w.heap.size w w' ∧
      ((b = false ∧ joinT hs h s = none) ∨ (b = true ∧ ∃ l, joinT hs h s = some l ∧ Kd.R (Kd.slice 3 (Kd.int .i64)) 22 w' w.heap.size (fun _ => True) v (toRows l))) := by
  obtain ⟨m0, m1, -, -⟩ := hv.split
  obtain ⟨i0, hi, hz0, hz1, hz2⟩ := info_parts infoSl
  have hun := Try.underlying134
  have hur := Try.underlying139
  have HT := fun W (hW : Below w.heap.size w W) => trades_any g cs hs W (hL.below hW) hv
  have HN := fun W (hW : Below w.heap.size w W) => nets_any g cs hs W (hL.below hW) hv
  have HF := fun W (hW : Below w.heap.size w W) => free_any g cs hs W (hL.below hW) hv
  have hfin := freeT_in hs m1
  have hflen := freeT_len hs m1
  have hnl := netT_lt hv
  have htl := tradesS_lt hs hs.length m1
  have HJ : Hid (joinT hs h s = if goodT (tradesS hs hs.length) (netT hs) h s (freeT hs) = false then none else some (firstMany (freeT hs) (goodT (tradesS hs hs.length) (netT hs) h s) ((freeT hs).length + 1) 0)) := rfl
  obtain ⟨J, hJ⟩ : ∃ J, joinT hs h s = J := ⟨_, rfl⟩
  obtain ⟨free, hfree⟩ : ∃ free, freeT hs = free := ⟨_, rfl⟩
  obtain ⟨net, hnet⟩ : ∃ net, netT hs = net := ⟨_, rfl⟩
  obtain ⟨due, hdue⟩ : ∃ due, tradesS hs hs.length = due := ⟨_, rfl⟩
  rw [hJ] at HJ ⊢
  rw [hfree, hnet, hdue] at HJ
  rw [hfree] at hfin hflen
  rw [hnet] at hnl
  rw [hdue] at htl
  simp only [hdue] at HT
  simp only [hnet, netVal] at HN
  simp only [hfree] at HF
  clear hJ hfree hnet hdue hL
  have hB0 := Below.refl w.heap.size w
  refine (callsIn_wide (n := 1)).1 (callsIn_of_wp_marks Try.func72 rfl trivial ((wpIn_wide (n := 1)).2 ?_) rfl)
  simp only [Try.ntmps72, List.size_toArray, List.length_cons, List.length_nil, Nat.reduceAdd, Nat.reduceSub, Array.replicate_succ, Array.replicate_zero, List.push_toArray, List.append_toArray, List.nil_append, List.cons_append]
  go_upto_region 1 with (fail)
  have hB1 := ((Below.refl w.heap.size w).alloc (Nat.le_refl _) (.cells #[.int .i64 (h : Int)] 3)).alloc (by simp) (.cells #[.int .i64 (s : Int)] 3)
  have hbh := cells1 (blk_alloc (heap_alloc_new w (.cells #[.int .i64 (h : Int)] 3)) (.cells #[.int .i64 (s : Int)] 3))
  have hbs := second_cell w (.cells #[.int .i64 (h : Int)] 3) (.int .i64 (s : Int))
  obtain ⟨W1, hW1⟩ : ∃ W1, W1 = (w.alloc (.cells #[.int .i64 (h : Int)] 3)).alloc (.cells #[.int .i64 (s : Int)] 3) := ⟨_, rfl⟩
  rw [← hW1] at hB1 hbh hbs ⊢
  clear hW1
  refine wp_scope_straight ?_
  go_upto_region 2 with (first
    | (go_at_call 86; (with_reducible refine (HT _ hB1).mono ?_); rintro e w2 ⟨rfl, hb2⟩; have hB2 := below_then hB1 hB1.size hb2)
    | (go_at_call 87; (with_reducible refine (HN _ hB2).mono ?_); rintro e w3 ⟨rfl, hb3⟩; have hB3 := below_then hB2 hB2.size hb3)
    | (go_at_call 88; (with_reducible refine (HF _ hB3).mono ?_); rintro e w4 ⟨vf, rfl, ho4, hb4⟩; have hB4 := below_then hB3 hB3.size hb4; obtain ⟨Af, cf, rfl, hCf⟩ := rf_reads ho4))
  have hB5 := (hB4.alloc hB4.size (.cells #[.int .u8 (due : Int)] 120)).alloc (by have := hB4.size; simp; omega) (.cells (netCells net) 134)
  have hbd := cells1 (blk_alloc (heap_alloc_new w4 (.cells #[.int .u8 (due : Int)] 120)) (.cells (netCells net) 134))
  have hbn := heap_alloc_new (w4.alloc (.cells #[.int .u8 (due : Int)] 120)) (.cells (netCells net) 134)
  rw [World.size_alloc] at hbn
  have hb45 := ((Below.refl w4.heap.size w4).alloc (Nat.le_refl _) (.cells #[.int .u8 (due : Int)] 120)).alloc (by simp) (.cells (netCells net) 134)
  have hb15 := below_then (below_then (below_then hb2 hb2.size hb3) (Nat.le_trans hb2.size hb3.size) hb4) (Nat.le_trans (Nat.le_trans hb2.size hb3.size) hb4.size) hb45
  replace hbh := pw_cell_below hb15 hbh
  replace hbs := pw_cell_below hb15 hbs
  replace hCf := Kd.C_below hCf hb45
  obtain ⟨W5, hW5⟩ : ∃ W5, W5 = (w4.alloc (.cells #[.int .u8 (due : Int)] 120)).alloc (.cells (netCells net) 134) := ⟨_, rfl⟩
  have hs5 : W5.heap.size = w4.heap.size + 2 := by rw [hW5]; simp
  rw [← hW5] at hB5 hbd hbn hbh hbs hCf
  simp only [netCells] at hW5
  rw [← hW5]
  obtain ⟨q4, hq4⟩ : ∃ q, w4.heap.size = q := ⟨_, rfl⟩
  rw [hq4] at hbd hbn hs5 ⊢
  clear hW5 hb45 hb15 hb2 hb3 hb4 ho4 HT HN HF hB1 hB2 hB3 hB4 hB0 hq4
  go_upto_region 3 with (fail)
  have hbc := cells1 (heap_alloc_new W5 (.cells #[.func (.func 89) #[] #[.pointer (some ⟨q4 + 1, 0, none⟩), .pointer (some ⟨q4, 0, none⟩), .pointer (some ⟨w.heap.size, 0, none⟩), .pointer (some ⟨w.heap.size + 1, 0, none⟩)]] 141))
  rw [hs5] at hbc
  have h56 := (Below.refl W5.heap.size W5).alloc (Nat.le_refl _) (.cells #[.func (.func 89) #[] #[.pointer (some ⟨q4 + 1, 0, none⟩), .pointer (some ⟨q4, 0, none⟩), .pointer (some ⟨w.heap.size, 0, none⟩), .pointer (some ⟨w.heap.size + 1, 0, none⟩)]] 141)
  have hB6 := below_then hB5 hB5.size h56
  replace hbd := pw_cell_below h56 hbd
  replace hbn := blk_below hbn h56
  replace hbh := pw_cell_below h56 hbh
  replace hbs := pw_cell_below h56 hbs
  replace hCf := Kd.C_below hCf h56
  obtain ⟨W6, hW6⟩ : ∃ W6, W6 = W5.alloc (.cells #[.func (.func 89) #[] #[.pointer (some ⟨q4 + 1, 0, none⟩), .pointer (some ⟨q4, 0, none⟩), .pointer (some ⟨w.heap.size, 0, none⟩), .pointer (some ⟨w.heap.size + 1, 0, none⟩)]] 141) := ⟨_, rfl⟩
  have hs6 : W6.heap.size = q4 + 3 := by rw [hW6]; simp [hs5]
  rw [← hW6] at hbc hbd hbn hbh hbs hCf hB6 ⊢
  clear hW6 h56 hs5 hB5
  clear W5
  have HW := fun A' c' refs W (hW : Below W6.heap.size W6 W) (hC' : kRf.C W A' refs.length refs) hr' => with_any A' c' refs (q4 + 1) q4 w.heap.size (w.heap.size + 1) net due h s W hC' hr' hnl htl (by omega) hs6' (blk_below hbn hW) (pw_cell_below hW hbd) (pw_cell_below hW hbh) (pw_cell_below hW hbs)
  obtain ⟨good, hgood⟩ : ∃ good, goodT due net h s = good := ⟨_, rfl⟩
  rw [hgood] at HJ
  simp only [hgood] at HW
  clear hgood hbd hbn hbh hbs
  have HW0 := HW Af cf free W6 (Below.refl _ _) hCf hfin
  cases hgf : good free with
  | false =>
    rw [hgf] at HW0
    have HJ2 : Hid (J = none) := by show _ = _; rw [HJ.out, if_pos hgf]
    go_wp2_with (go_at_call 89; (with_reducible refine HW0.mono ?_); rintro e w7 ⟨rfl, hb7⟩)
    exact ⟨_, results_tmp2 rfl _ _ _, _, _, rfl, below_then hB6 hB6.size hb7, .inl ⟨rfl, HJ2.out⟩⟩
  | true =>
    rw [hgf] at HW0
    have HJ2 : Hid (J = some (firstMany free good (free.length + 1) 0)) := by show _ = _; rw [HJ.out, if_neg (by rw [hgf]; decide)]
    go_upto_region 6 with (go_at_call 89; (with_reducible refine HW0.mono ?_); rintro e w7 ⟨rfl, hb7⟩)
    refine wp_label ?_
    go_upto_region 6 with (fail)
    have hB7 := below_then hB6 hB6.size hb7
    have hB8 := hB7.alloc hB7.size (.cells #[.slice none 0 0] 62)
    have hbo := heap_alloc_new w7 (.cells #[.slice none 0 0] 62)
    have h68 := hb7.alloc hb7.size (.cells #[.slice none 0 0] 62)
    obtain ⟨W8, hW8⟩ : ∃ W8, W8 = w7.alloc (.cells #[.slice none 0 0] 62) := ⟨_, rfl⟩
    obtain ⟨q7, hq7⟩ : ∃ q, w7.heap.size = q := ⟨_, rfl⟩
    have hs8 : W8.heap.size = q7 + 1 := by rw [hW8, ← hq7]; simp
    have hq67 : W6.heap.size ≤ q7 := by rw [← hq7]; exact hb7.size
    have hq07 : w.heap.size ≤ q7 := by rw [← hq7]; exact hB7.size
    rw [hq7] at hbo ⊢
    rw [← hW8] at hB8 hbo h68 ⊢
    clear hW8 hB7 hb7 hq7 HW0 hB6
    clear w7
    replace HW := fun A' c' refs W (hW : Below W8.heap.size W8 W) (hC' : kRf.C W A' refs.length refs) hr' => HW A' c' refs W (below_then h68 h68.size hW) hC' hr'
    have hbc8 := pw_cell_below h68 hbc
    have hCf8 := Kd.C_below hCf h68
    clear hbc hCf h68 hs6
    obtain ⟨L, hLe⟩ : ∃ L, firstMany free good (free.length + 1 - 0) 0 = L := ⟨_, rfl⟩
    rw [Nat.sub_zero] at hLe
    rw [hLe] at HJ2
    replace hLe : Hid (firstMany free good (free.length + 1 - 0) 0 = L) := hLe
    go_upto_region 7 with (fail)
    refine wp_loop (fun a wr => ∃ (m : Nat) (Ds : List Nat) (u13 u32 u33 u34 u35 u36 u57 : Value), a = { tmps := #[.pointer (some ⟨g, 0, none⟩), .int .i64 (h : Int), .int .i64 (s : Int), undef, .pointer (some ⟨w.heap.size, 0, none⟩), .pointer (some ⟨w.heap.size + 1, 0, none⟩), .slice none 0 0, .bool false, .pointer (some ⟨q4, 0, none⟩), .pointer (some ⟨q4 + 1, 0, none⟩), .slice Af free.length cf, .pointer (some ⟨q4 + 2, 0, none⟩), .pointer (some ⟨q7, 0, none⟩), u13, undef, undef, undef, .pointer (some ⟨g, 0, none⟩), .int .u8 (due : Int), .pointer (some ⟨g, 0, none⟩), .agg #[.int .u8 (net 0 : Int), .int .u8 (net 1 : Int), .int .u8 (net 2 : Int), .int .u8 (net 3 : Int), .int .u8 (net 4 : Int), .int .u8 (net 5 : Int)], .pointer (some ⟨g, 0, none⟩), .slice Af free.length cf, .func (.func 89) #[] #[.pointer (some ⟨q4 + 1, 0, none⟩), .pointer (some ⟨q4, 0, none⟩), .pointer (some ⟨w.heap.size, 0, none⟩), .pointer (some ⟨w.heap.size + 1, 0, none⟩)], .func (.func 89) #[] #[.pointer (some ⟨q4 + 1, 0, none⟩), .pointer (some ⟨q4, 0, none⟩), .pointer (some ⟨w.heap.size, 0, none⟩), .pointer (some ⟨w.heap.size + 1, 0, none⟩)], .slice Af free.length cf, .bool true, .bool false, .slice Af free.length cf, .int .i64 (free.length : Int), .int .i64 ((free.length : Int) + 1), .int .i64 (m : Int), u32, u33, u34, u35, u36, undef, undef, undef, undef, undef, undef, undef, undef, undef, undef, undef, undef, undef, undef, undef, undef, undef, undef, undef, undef, u57, undef], defers := Ds.map markOf } ∧ m ≤ free.length + 1 ∧ Below W8.heap.size W8 wr ∧ (∀ D, D ∈ Ds → W8.heap.size ≤ D ∧ wr.heap[D]? = some (.deferred (some []))) ∧ Ds.Nodup ∧ Hid (firstMany free good (free.length + 1 - m) m = L))
      (fun a _ => free.length + 1 - slotNat a 31) ⟨0, [], _, _, _, _, _, _, _, rfl, by omega, Below.refl _ _, fun D hD => by simp at hD, List.nodup_nil, hLe⟩ ?_
    rintro a wr ⟨m, Ds, u13, u32, u33, u34, u35, u36, u57, rfl, hm, hbw, hDs, hnd, HK⟩
    by_cases hlt : m < free.length + 1
    · have hml : (m : Int) < (free.length : Int) + 1 := by omega
      have HP := fun W => picks_any Af free.length cf (m : Int) W
      go_wp2_with (go_at_call 91; (with_reducible refine (HP _).mono ?_); rintro e w9 ⟨rfl, rfl⟩)
      have h9 := (hbw.alloc hbw.size (.cells #[.slice Af free.length cf] 136)).alloc (by have := hbw.size; simp; omega) (.cells #[.int .i64 (m : Int)] 3)
      have hr9 := ((Below.refl wr.heap.size wr).alloc (Nat.le_refl _) (.cells #[.slice Af free.length cf] 136)).alloc (by simp) (.cells #[.int .i64 (m : Int)] 3)
      have hbl := cells1 (blk_alloc (heap_alloc_new wr (.cells #[.slice Af free.length cf] 136)) (.cells #[.int .i64 (m : Int)] 3))
      have hbm := second_cell wr (.cells #[.slice Af free.length cf] 136) (.int .i64 (m : Int))
      obtain ⟨W9, hW9⟩ : ∃ W9, W9 = (wr.alloc (.cells #[.slice Af free.length cf] 136)).alloc (.cells #[.int .i64 (m : Int)] 3) := ⟨_, rfl⟩
      have hs9 : W9.heap.size = wr.heap.size + 2 := by rw [hW9]; simp
      rw [← hW9] at h9 hr9 hbl hbm ⊢
      clear hW9
      have hq79 : q7 < W9.heap.size := by have := h9.size; omega
      have hbo9 := blk_below hbo h9
      refine wp_range_picks (A := Af) (c := cf) (free := free) (good := good) (Stop := fun refs W => W9.grownBy W (some q7) ∧ ∃ vb, W.cell? ⟨q7, 0, none⟩ = some vb ∧ OutRows W (W9.heap.size + 2) vb refs) (ID := 0) (by omega) hbm hbl (Kd.C_below hCf8 h9) rfl rfl ?stops (fun v => { tmps := #[.pointer (some ⟨g, 0, none⟩), .int .i64 (h : Int), .int .i64 (s : Int), undef, .pointer (some ⟨w.heap.size, 0, none⟩), .pointer (some ⟨w.heap.size + 1, 0, none⟩), .slice none 0 0, .bool false, .pointer (some ⟨q4, 0, none⟩), .pointer (some ⟨q4 + 1, 0, none⟩), .slice Af free.length cf, .pointer (some ⟨q4 + 2, 0, none⟩), .pointer (some ⟨q7, 0, none⟩), .int .i64 (m : Int), v, undef, undef, .pointer (some ⟨g, 0, none⟩), .int .u8 (due : Int), .pointer (some ⟨g, 0, none⟩), .agg #[.int .u8 (net 0 : Int), .int .u8 (net 1 : Int), .int .u8 (net 2 : Int), .int .u8 (net 3 : Int), .int .u8 (net 4 : Int), .int .u8 (net 5 : Int)], .pointer (some ⟨g, 0, none⟩), .slice Af free.length cf, .func (.func 89) #[] #[.pointer (some ⟨q4 + 1, 0, none⟩), .pointer (some ⟨q4, 0, none⟩), .pointer (some ⟨w.heap.size, 0, none⟩), .pointer (some ⟨w.heap.size + 1, 0, none⟩)], .func (.func 89) #[] #[.pointer (some ⟨q4 + 1, 0, none⟩), .pointer (some ⟨q4, 0, none⟩), .pointer (some ⟨w.heap.size, 0, none⟩), .pointer (some ⟨w.heap.size + 1, 0, none⟩)], .slice Af free.length cf, .bool true, .bool false, .slice Af free.length cf, .int .i64 (free.length : Int), .int .i64 ((free.length : Int) + 1), .int .i64 (m : Int), .bool true, .int .i64 (m : Int), .slice Af free.length cf, .int .i64 (m : Int), .func (.func 111) #[] #[.pointer (some ⟨wr.heap.size + 1, 0, none⟩), .pointer (some ⟨wr.heap.size, 0, none⟩)], v, undef, undef, undef, undef, undef, undef, undef, undef, undef, undef, undef, undef, undef, undef, undef, undef, undef, undef, undef, u57, undef], defers := [] }) ?assign ?body ?done ?stop
      case stops =>
        rintro refs W o ⟨hgr, vb, hvb, hO⟩ -
        refine ⟨⟨hgr.os, hgr.tape, hgr.output, by simp; exact hgr.size, fun k hk hne => (World.putObj_heap_other (by omega)).trans (hgr.block k hk hne)⟩, vb, ?_, hO.move (fun k hk _ => World.putObj_heap_other (by omega))⟩
        rw [World.cell?_of_block (w := W) (World.putObj_heap_other (by show q7 ≠ _; omega))]
        exact hvb
      case assign =>
        intro l v W K hK
        gi_wp2
        exact hK
      case body =>
        intro l v refs W hW hsW ho hlen hmem
        have hW' := (show Below W9.heap.size W9 W from hW)
        obtain ⟨Ar, cr, rfl, hCr⟩ := rf_reads ho
        have hdd : ∀ k : Nat, ((Fence.wide.inRound l).depth.isSome = true → 1 ≤ k) := fun k h => by cases h
        have hbW := below_then h9 h9.size hW
        have hbcW := pw_cell_below hbW hbc8
        have HWr := HW Ar cr refs W hbW hCr (fun r hr => hfin r (hmem r hr))
        have HLn := Lib.hid hlen
        clear hlen
        cases hgd : good refs with
        | false =>
          rw [hgd] at HWr
          have HWi := CallsIn.inRound l ((callsIn_wide (n := 0 - 1)).2 HWr)
          gi_wp2_with ((try refine ⟨trivial, rfl, ?_⟩); gi_at_call 89; (with_reducible refine HWi.mono ?_); rintro e W2 ⟨rfl, hb2⟩)
          exact ⟨hgd, hb2⟩
        | true =>
          rw [hgd] at HWr
          have HWi := CallsIn.inRound l ((callsIn_wide (n := 0 - 1)).2 HWr)
          have hl36 : refs.length ≤ 100 := by have := HLn.out; omega
          gi_wp2_with ((try refine ⟨trivial, rfl, ?_⟩); gi_at_call 89; go_loud ((with_reducible refine HWi.mono ?_); rintro e W2 ⟨rfl, hb2⟩))
          have hbo2 := blk_below (blk_below hbo9 hW') hb2
          gi_loopg [44] refs.length (fun gk v wr => ∃ (j : Nat) (vb : Value), j + gk = refs.length ∧ v = .int .i64 j ∧ W2.grownBy wr (some q7) ∧ wr.heap[q7]? = some (.cells #[vb] 62 (0, 0)) ∧ OutRows wr W2.heap.size vb (refs.take j))
          case atStart => exact ⟨0, _, by omega, rfl, World.grownBy.refl _ _, hbo2, OutRows.nil _ _⟩
          case round =>
            obtain ⟨j, vb, hj, rfl, hgr, hbx, hO⟩ := hrel
            by_cases hjl : j < refs.length
            · have how : wr.ownsRow (W9.heap.size + 2) 139 2 (.slice Ar refs.length cr) refs.length (rfCells refs) := own_move ho (fun k hk => by
                have h1 := own_base ho k hk
                have h2 := own_lt ho k hk
                exact (hgr.block k (by have := hb2.size; omega) (fun e => by cases e; omega)).trans (hb2.block k h2))
              obtain ⟨Ar', cr', hee, hCw⟩ := rf_reads how
              cases hee
              obtain ⟨ad, e, h0, h1⟩ := rfAt hCw j hjl
              cases e
              have hTk : Hid (refs.take (j + 1) = refs.take j ++ [refs.getD j (0, 0)]) := by
                show _ = _
                rw [List.take_succ_eq_append_getElem hjl, List.getD_eq_getElem?_getD, List.getElem?_eq_getElem hjl]
                rfl
              obtain ⟨gs, hog, hrr⟩ := hO.ok
              have htl : (refs.take j).length = j := by rw [List.length_take]; omega
              obtain ⟨tk, htk⟩ : ∃ tk, refs.take j = tk := ⟨_, rfl⟩
              obtain ⟨r, hre⟩ : ∃ r, refs.getD j (0, 0) = r := ⟨_, rfl⟩
              rw [hre] at h0 h1 hTk
              rw [htk] at hog hrr htl hTk
              obtain ⟨a, b⟩ := r
              simp only at h0 h1
              have hqw : q7 < wr.heap.size := blk_lt hbx
              have hsw : W2.heap.size ≤ wr.heap.size := hgr.size
              have e1 := World.new_ne wr ⟨q7, 0, none⟩ (cells1 hbx)
              have hx1 := fun o => cells1 (blk_alloc hbx o)
              have hjl' : (j : Int) < refs.length := by omega
              have hg1 := heap_alloc_new (wr.alloc (.cells #[.int .i64 (a : Int), .int .i64 (b : Int)] 139)) (.cells #[.int .i64 (a : Int), .int .i64 (b : Int)] 3)
              rw [World.size_alloc] at hg1
              have hg2 := heap_alloc_new ((wr.alloc (.cells #[.int .i64 (a : Int), .int .i64 (b : Int)] 139)).alloc (.cells #[.int .i64 (a : Int), .int .i64 (b : Int)] 3)) (.cells #[.slice (some ⟨wr.heap.size + 1, 0, none⟩) 2 2] 22)
              rw [World.size_alloc, World.size_alloc] at hg2
              have hg3 := blk_alloc hg1 (.cells #[.slice (some ⟨wr.heap.size + 1, 0, none⟩) 2 2] 22)
              have hbx3 := blk_alloc (blk_alloc (blk_alloc hbx (.cells #[.int .i64 (a : Int), .int .i64 (b : Int)] 139)) (.cells #[.int .i64 (a : Int), .int .i64 (b : Int)] 3)) (.cells #[.slice (some ⟨wr.heap.size + 1, 0, none⟩) 2 2] 22)
              have how3 := ((hog.alloc (.cells #[.int .i64 (a : Int), .int .i64 (b : Int)] 139)).alloc (.cells #[.int .i64 (a : Int), .int .i64 (b : Int)] 3)).alloc (.cells #[.slice (some ⟨wr.heap.size + 1, 0, none⟩) 2 2] 22)
              have hgr3 : W2.grownBy (((wr.alloc (.cells #[.int .i64 (a : Int), .int .i64 (b : Int)] 139)).alloc (.cells #[.int .i64 (a : Int), .int .i64 (b : Int)] 3)).alloc (.cells #[.slice (some ⟨wr.heap.size + 1, 0, none⟩) 2 2] 22)) (some q7) := ((hgr.trans (World.grownBy_alloc _ _ _)).trans (World.grownBy_alloc _ _ _)).trans (World.grownBy_alloc _ _ _)
              have hqb : some q7 ≠ vb.ownBlock := fun e => by have := own_base hog q7 e.symm; have := hb2.size; omega
              have hrr3 : ∀ (i : Nat) (r : Rf), tk[i]? = some r → ∃ g, gs[i]? = some g ∧ W2.heap.size ≤ g ∧ (((wr.alloc (.cells #[.int .i64 (a : Int), .int .i64 (b : Int)] 139)).alloc (.cells #[.int .i64 (a : Int), .int .i64 (b : Int)] 3)).alloc (.cells #[.slice (some ⟨wr.heap.size + 1, 0, none⟩) 2 2] 22)).heap[g]? = some (.cells #[.int .i64 (r.1 : Int), .int .i64 (r.2 : Int)] 3 (0, 0)) := fun i r hi => by
                obtain ⟨g, k1, k2, k3⟩ := hrr i r hi
                exact ⟨g, k1, k2, blk_alloc (blk_alloc (blk_alloc k3 _) _) _⟩
              have htk100 : tk.length ≤ 100 := by omega
              clear hrr how hCw
              gi_wp2_with (gi_at_builtin; go_loud (refine wpListIn_append_own _ rfl _ _ 62 rfl W2.heap.size 22 i0 (.slice none 0 0) 1 24 Try.underlying62 hi hz0 hz1 hz2 rfl (by decide) _ _ _ rfl how3 ⟨wr.heap.size + 2, 0, none⟩ 1 1 [.slice (some ⟨wr.heap.size + 1, 0, none⟩) 2 2] rfl rfl (World.news_of_block (cs := #[.slice (some ⟨wr.heap.size + 1, 0, none⟩) 2 2]) (t := 22) (fr := (0, 0)) hg2) (by simp [Value.oneCell']) (by unfold maxLen; omega) (by omega) (by simp; omega) ?_); intro v' w3 hown3 hgrow3 _; obtain ⟨gv, cv, rfl, -, -⟩ := hown3.form (by omega); have hO3 := OutRows.snoc (a, b) (wr.heap.size + 1) gs how3 hrr3 (by omega) hg3 hown3 hgrow3; have hbx4 := (hgrow3.block q7 (by simp; omega) hqb).trans hbx3; have hc4 := cells1 hbx4; have hf4 := blk_frozen hbx4 0)
              gi_roundg (refs.length - (j + 1))
              case measure => omega
              case rel =>
                refine ⟨j + 1, _, by omega, by go_num, ?_, heap_set_one hbx4 _, ?_⟩
                · have hst := grownBy_setCell w3 ⟨q7, 0, none⟩ (.slice (some ⟨gv, 0, none⟩) (j + 1) cv)
                  exact ⟨hst.os.trans (hgrow3.os.trans hgr3.os), hst.tape.trans (hgrow3.tape.trans hgr3.tape), hst.output.trans (hgrow3.output.trans hgr3.output), Nat.le_trans hgr3.size (Nat.le_trans hgrow3.size hst.size), fun k hk hne => (hst.block k (by have := hgr3.size; have := hgrow3.size; omega) hne).trans ((hgrow3.block k (by have := hgr3.size; omega) (fun e => by have := own_base hog k e.symm; omega)).trans (hgr3.block k hk hne))⟩
                · rw [hTk.out]
                  rw [htl] at hO3
                  exact hO3.move (fun k hk _ => Below.heap_setCell _ ⟨q7, 0, none⟩ _ k (by have := hb2.size; simp; omega))
            · obtain rfl : j = refs.length := by omega
              rw [List.take_length] at hO
              gi_wp2
              refine ⟨rfl, hgd, ?_, ?_, ?_, _, cells1 hbx, hO.lower (by have := hb2.size; omega)⟩
              · exact (hgr.block _ (by have := hb2.size; omega) (by simp; omega)).trans (hb2.block _ (by omega))
              · exact (hgr.block _ (by have := hb2.size; omega) (by simp; omega)).trans (hb2.block _ (by omega))
              · exact ⟨hgr.os.trans (hb2.os.trans hW'.os), hgr.tape.trans (hb2.tape.trans hW'.tape), hgr.output.trans (hb2.output.trans hW'.output), Nat.le_trans hW'.size (Nat.le_trans hb2.size hgr.size), fun k hk hne => (hgr.block k (by have := hb2.size; have := hW'.size; omega) hne).trans ((hb2.block k (by have := hW'.size; omega)).trans (hW'.block k hk))⟩
      case done =>
        intro W hf hb hD
        have hbW := below_then h9 h9.size hb
        have HK2 : Hid (firstMany free good (free.length + 1 - (m + 1)) (m + 1) = L) := by
          show _ = _
          have h1 := HK.out
          rw [show free.length + 1 - m = (free.length + 1 - (m + 1)) + 1 by omega] at h1
          rw [← h1]
          show _ = (match (combos free m).find? good with | some c => c | none => _)
          rw [hf]
        have hDs2 : ∀ D, D ∈ W9.heap.size :: Ds → W8.heap.size ≤ D ∧ W.heap[D]? = some (.deferred (some [])) := fun D hDm => by
          rcases List.mem_cons.1 hDm with rfl | hDm
          · exact ⟨h9.size, hD⟩
          · obtain ⟨h1, h2⟩ := hDs D hDm
            exact ⟨h1, blk_below (blk_below h2 hr9) hb⟩
        have hnd2 : (W9.heap.size :: Ds).Nodup := List.nodup_cons.2 ⟨fun hDm => by
          have := blk_lt (hDs _ hDm).2
          omega, hnd⟩
        clear HW hbm hbl
        go_wp2
        exact ⟨⟨m + 1, W9.heap.size :: Ds, _, _, _, _, _, _, _, rfl, by omega, below_then h9 h9.size hb, hDs2, hnd2, HK2⟩, by show free.length + 1 - ((m : Int) + 1).toNat < free.length + 1 - ((m : Int)).toNat; omega⟩
      case stop =>
        rintro refs W hf ⟨hgr, vb, hvb, hO⟩ hD
        have HL : Hid (L = refs) := by
          show _ = _
          have h1 := HK.out
          rw [show free.length + 1 - m = (free.length + 1 - (m + 1)) + 1 by omega] at h1
          rw [← h1]
          show (match (combos free m).find? good with | some c => c | none => _) = _
          rw [hf]
        clear HW hbm hbl
        go_wp2
        have hB9 := below_then hB8 hB8.size h9
        refine leaves_marks (v := .tuple #[vb, .bool true]) (fun W => Below w.heap.size w W ∧ OutRows W (W9.heap.size + 2) vb refs) (fun D => w.heap.size ≤ D ∧ D < W9.heap.size + 2) ?hput (fun W => results_tmp2 (show (Try.f72).results = #[ResultVar.tmp 6, ResultVar.tmp 7] from rfl) _ _ _) (fun W hI => ?hR) (W9.heap.size :: Ds) W ⟨hB9.grown hgr hB9.size (fun j hj => by cases hj; exact hq07), hO⟩ (fun D hDm => ?hD) ?hn
        case hput =>
          rintro W D ⟨hD1, hD2⟩ ⟨h1, h2⟩
          exact ⟨⟨h1.os, h1.tape, h1.output, by simp; exact h1.size, fun k hk => (World.putObj_heap_other (by omega)).trans (h1.block k hk)⟩, h2.move (fun k hk _ => World.putObj_heap_other (by omega))⟩
        case hR =>
          obtain ⟨h1, h2⟩ := hI
          exact ⟨_, _, rfl, h1, .inr ⟨rfl, refs, by rw [HJ2.out, HL.out], Kd.R_lower h2.R (by have := hB9.size; omega)⟩⟩
        case hD =>
          rcases List.mem_cons.1 hDm with rfl | hDm
          · exact ⟨⟨hB9.size, by omega⟩, hD⟩
          · obtain ⟨h1, h2⟩ := hDs D hDm
            have h3 := blk_lt h2
            exact ⟨⟨Nat.le_trans hB8.size h1, by omega⟩, (hgr.block D (by omega) (fun e => by cases e; omega)).trans (blk_below h2 hr9)⟩
        case hn =>
          exact List.nodup_cons.2 ⟨fun hDm => by
            have := blk_lt (hDs _ hDm).2
            omega, hnd⟩
    · obtain rfl : m = free.length + 1 := by omega
      have HL : Hid (L = []) := by
        show _ = _
        rw [← HK.out, Nat.sub_self]
        rfl
      have hboc := pw_cell_below hbw (cells1 hbo)
      have hB9 := below_then hB8 hB8.size hbw
      clear HW
      go_wp2
      refine leaves_marks (v := .tuple #[.slice none 0 0, .bool true]) (fun W => Below w.heap.size w W) (fun D => w.heap.size ≤ D) ?_ (fun W => results_tmp2 (show (Try.f72).results = #[ResultVar.tmp 6, ResultVar.tmp 7] from rfl) _ _ _) (fun W h1 => ?_) Ds wr hB9 (fun D hDm => ?_) hnd
      · intro W D hD1 h1
        exact ⟨h1.os, h1.tape, h1.output, by simp; exact h1.size, fun k hk => (World.putObj_heap_other (by omega)).trans (h1.block k hk)⟩
      · exact ⟨_, _, rfl, h1, .inr ⟨rfl, [], by rw [HJ2.out, HL.out], Kd.R_nil _ _ _ _ _⟩⟩
      · obtain ⟨h1, h2⟩ := hDs D hDm
        exact ⟨Nat.le_trans hB8.size h1, h2⟩
end Go.Proofs.Ytfbimhnlcmdcpaa.Pa
/- The contract of Join. -/
namespace Go.Proofs.Ytfbimhnlcmdcpaa.Pa
open Go.RowKit Go.Proofs.YtfbimhnlcmdcpaaW.PrintWords Go.Proofs.YtfbimhnlcmdcpaaW.PrintLast Go.Proofs.YtfbimhnlcmdcpaaW.PrintMore
set_option linter.unusedVariables false
set_option linter.unusedSimpArgs false

def joinR (r : Option (List Rf)) : List (List Int) × Int := match r with
  | none => ([], 11)
  | some l => (toRows l, 0)
def trade_Join.f (cs : List Cl) (hs : List Hd) (h s : Int) : Option (List (List Int) × Int) :=
  some (if askT cs hs h ≠ 0 then ([], askT cs hs h) else if betw s 0 6 = false then ([], 1) else joinR (joinT hs h.toNat s.toNat))

set_option maxHeartbeats 1000000 in
set_option maxRecDepth 100000 in
theorem trade_Join.calls (A0_0 : Option Addr) (c0_0 : Nat) (l0_0 : List (S51)) (A0_1 : Option Addr) (c0_1 : Nat) (l0_1 : List (S39)) (a1 : Int) (a2 : Int) (r1 : List (List Int)) (r2 : Int) (w : World) (hr0_0 : Kd.C k51 w A0_0 l0_0.length l0_0) (hc0_0 : l0_0.length ≤ c0_0) (hr0_1 : Kd.C k39 w A0_1 l0_1.length l0_1) (hc0_1 : l0_1.length ≤ c0_1) (h : trade_Join.f l0_0 l0_1 a1 a2 = some (r1, r2)) :
    Calls Try.prog 46 #[.agg #[.slice A0_0 l0_0.length c0_0, .slice A0_1 l0_1.length c0_1], .int .i64 a1, .int .i64 a2] w fun e w' => ∃ v0_ : Value, e = .returned (.tuple #[v0_, .int .i64 r2]) ∧ Kd.R (Kd.slice 3 (Kd.int .i64)) 22 w' w.heap.size (fun _ => True) v0_ r1 ∧ Below w.heap.size w w' := by
  have hu2 := Try.underlying26
  have hB0 := (Below.refl w.heap.size w).alloc (Nat.le_refl _) (.cells #[.slice A0_0 l0_0.length c0_0, .slice A0_1 l0_1.length c0_1] 26)
  have hB1 := hB0.alloc hB0.size (.cells #[.int .i64 a1] 3)
  have hcq := second_cell w (.cells #[.slice A0_0 l0_0.length c0_0, .slice A0_1 l0_1.length c0_1] 26) (.int .i64 a1)
  have h := Option.some.inj h
  have HT := fun W => between_any a2 0 6 W
  by_cases hz : askT l0_0 l0_1 a1 = 0
  · obtain ⟨hv, n, rfl, hn⟩ := askT_zero hz
    have HG := fun W q (hW : Below w.heap.size w W) hq => ask_good A0_0 A0_1 c0_0 c0_1 l0_0 l0_1 q n W (Kd.C_below hr0_0 hW) (Kd.C_below hr0_1 hW) hc0_0 hc0_1 hq hv hn
    rw [if_neg (by omega)] at h
    by_cases hb : betw a2 0 6 = false
    · rw [if_pos hb] at h
      simp only [Prod.mk.injEq] at h
      obtain ⟨rfl, rfl⟩ := h
      simp only [hb] at HT
      clear hz hb
      go_enter Try.func46, Try.ntmps46
      go_wp2_with (first
        | (go_at_call 51; (with_reducible refine (HG _ _ hB1 hcq).mono ?_); rintro e w1 ⟨g, rfl, hL1, hb1⟩; obtain HB1 := below_then hB1 hB1.size hb1; clear hb1)
        | (go_at_call 43; (with_reducible refine (HT _).mono ?_); rintro e w2 ⟨rfl, rfl⟩))
      go_ret2
      exact ⟨_, rfl, Kd.R_nil _ _ _ _ _, HB1⟩
    · have hb1 : betw a2 0 6 = true := by simpa using hb
      rw [if_neg hb] at h
      obtain ⟨s, rfl, hs6⟩ : ∃ s : Nat, a2 = s ∧ s ≤ 6 := by
        unfold betw at hb1
        simp only [Bool.and_eq_true, decide_eq_true_eq] at hb1
        exact ⟨a2.toNat, by omega, by omega⟩
      rw [Int.toNat_natCast, Int.toNat_natCast] at h
      have HF := fun W g (hL : IsList W g l0_0 l0_1) => join_any g l0_0 l0_1 n s W hL hv hn hs6
      obtain ⟨R, hRe⟩ : ∃ R, joinT l0_1 n s = R := ⟨_, rfl⟩
      rw [hRe] at h
      simp only [hRe] at HF
      simp only [hb1] at HT
      clear hz hRe hb hb1
      match R, h with
      | none, hR =>
        simp only [joinR, Prod.mk.injEq] at hR
        obtain ⟨rfl, rfl⟩ := hR
        have HF2 := fun W g hL => (HF W g hL).mono (R' := fun e w' => ∃ v, e = .returned (.tuple #[v, .bool false]) ∧ Below W.heap.size W w') (by
          rintro e w' ⟨v, b, rfl, hb, (⟨rfl, -⟩ | ⟨-, l, hl, -⟩)⟩
          · exact ⟨v, rfl, hb⟩
          · cases hl)
        clear HF
        go_enter Try.func46, Try.ntmps46
        go_wp2_with (first
          | (go_at_call 51; (with_reducible refine (HG _ _ hB1 hcq).mono ?_); rintro e w1 ⟨g, rfl, hL1, hb1⟩; obtain HB1 := below_then hB1 hB1.size hb1; clear hb1)
          | (go_at_call 43; (with_reducible refine (HT _).mono ?_); rintro e w2 ⟨rfl, rfl⟩)
          | (go_at_call 72; (with_reducible refine (HF2 _ _ hL1).mono ?_); rintro e w3 ⟨v, rfl, hb3⟩))
        go_ret2
        exact ⟨_, rfl, Kd.R_nil _ _ _ _ _, below_then HB1 HB1.size hb3⟩
      | some l, hR =>
        simp only [joinR, Prod.mk.injEq] at hR
        obtain ⟨rfl, rfl⟩ := hR
        have HF2 := fun W g hL => (HF W g hL).mono (R' := fun e w' => ∃ v, e = .returned (.tuple #[v, .bool true]) ∧ Kd.R (Kd.slice 3 (Kd.int .i64)) 22 w' W.heap.size (fun _ => True) v (toRows l) ∧ Below W.heap.size W w') (by
          rintro e w' ⟨v, b, rfl, hb, (⟨-, hl⟩ | ⟨rfl, l', hl, hR⟩)⟩
          · cases hl
          · cases hl
            exact ⟨v, rfl, hR, hb⟩)
        clear HF
        go_enter Try.func46, Try.ntmps46
        go_wp2_with (first
          | (go_at_call 51; (with_reducible refine (HG _ _ hB1 hcq).mono ?_); rintro e w1 ⟨g, rfl, hL1, hb1⟩; obtain HB1 := below_then hB1 hB1.size hb1; clear hb1)
          | (go_at_call 43; (with_reducible refine (HT _).mono ?_); rintro e w2 ⟨rfl, rfl⟩)
          | (go_at_call 72; (with_reducible refine (HF2 _ _ hL1).mono ?_); rintro e w3 ⟨v, rfl, hR3, hb3⟩))
        go_ret2
        exact ⟨_, rfl, Kd.R_lower hR3 HB1.size, below_then HB1 HB1.size hb3⟩
  · have HG := fun W q (hW : Below w.heap.size w W) hq => ask_bad A0_0 A0_1 c0_0 c0_1 l0_0 l0_1 q a1 W (Kd.C_below hr0_0 hW) (Kd.C_below hr0_1 hW) hc0_0 hc0_1 hq hz
    rw [if_pos hz] at h
    obtain ⟨z, hze⟩ : ∃ z, askT l0_0 l0_1 a1 = z := ⟨_, rfl⟩
    rw [hze] at h hz
    simp only [Prod.mk.injEq] at h
    obtain ⟨rfl, rfl⟩ := h
    simp only [hze] at HG
    have hz1 : (z != 0) = true := bne_iff_ne.mpr hz
    clear hz hze
    go_enter Try.func46, Try.ntmps46
    go_wp2_with (go_at_call 51; (with_reducible refine (HG _ _ hB1 hcq).mono ?_); rintro e w1 ⟨rfl, hb1⟩; obtain HB1 := below_then hB1 hB1.size hb1; clear hb1)
    go_ret2
    exact ⟨_, rfl, Kd.R_nil _ _ _ _ _, HB1⟩
end Go.Proofs.Ytfbimhnlcmdcpaa.Pa
