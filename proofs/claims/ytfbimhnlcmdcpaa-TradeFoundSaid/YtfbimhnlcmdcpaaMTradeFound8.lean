/- A part of the proof: A heading is found in n steps just if some heading found in n - 1 steps has a reference to it, and none found in fewer; trades are hidden just if they are not found so: for all lists of numbers. Without conditions of its own. -/
import Derived.Test.YtfbimhnlcmdcpaaMTradeFound4
import Derived.Test.YtfbimhnlcmdcpaaMTradeFound5
import Derived.Test.YtfbimhnlcmdcpaaMTradeFound7
import Derived.Test.YtfbimhnlcmdcpaaMTradeFound2
import Derived.KernelRfl
namespace Go.Proofs.Ytfbimhnlcmdcpaa.Pa
open Go.RowKit Go.Proofs.YtfbimhnlcmdcpaaW.PrintWords Go.Proofs.YtfbimhnlcmdcpaaW.PrintLast Go.Proofs.YtfbimhnlcmdcpaaW.PrintMore
attribute [local go_sem] max2_int min2_int max_two min_two max_three min_three max_four min_four   -- for this text's walks alone
set_option linter.unusedVariables false
set_option linter.unusedSimpArgs false


/-! ### wayzgooselaw04_TradeFound: function 11 -/
mutual
def wayzgooselaw04_TradeFound.j0 : Nat → Int → List Int → Bool → List (S51) → List (S39) → Option (Bool)
  | 0, _, _, _, _, _ => none
  | k + 1, x5, x6, x53, x704000, x704001 => if x53 = true then (some false) else (wayzgooselaw04_TradeFound.l0 k x5 x6 0 x704000 x704001)
def wayzgooselaw04_TradeFound.l0 : Nat → Int → List Int → Int → List (S51) → List (S39) → Option (Bool)
  | 0, _, _, _, _, _ => none
  | k + 1, x5, x6, x8, x704000, x704001 => if x8 < (x6.length : Int) then (wayzgooselaw04_TradeFound.l1 k x5 x6 x8 (-1) 0 x704000 x704001) else (wayzgooselaw04_TradeFound.l2 k x5 x6 0 x704000 x704001)
def wayzgooselaw04_TradeFound.l1 : Nat → Int → List Int → Int → Int → Int → List (S51) → List (S39) → Option (Bool)
  | 0, _, _, _, _, _, _, _ => none
  | k + 1, x5, x6, x8, x9, x10, x704000, x704001 => if x10 < (x6.length : Int) then ((wayzgooselaw04_leads.f k x704000 x704001 x10 x8).bind fun t713 => (if t713 = true then (if 0 ≤ x10 then (if (rd x6 x10) ≥ 0 then (if x9 < 0 then (wayzgooselaw04_TradeFound.l1 k x5 x6 x8 (wrap64 ((rd x6 x10) + 1)) (wrap64 (x10 + 1)) x704000 x704001) else (if (wrap64 ((rd x6 x10) + 1)) < x9 then (wayzgooselaw04_TradeFound.l1 k x5 x6 x8 (wrap64 ((rd x6 x10) + 1)) (wrap64 (x10 + 1)) x704000 x704001) else (wayzgooselaw04_TradeFound.l1 k x5 x6 x8 x9 (wrap64 (x10 + 1)) x704000 x704001))) else (wayzgooselaw04_TradeFound.l1 k x5 x6 x8 x9 (wrap64 (x10 + 1)) x704000 x704001)) else (none)) else (wayzgooselaw04_TradeFound.l1 k x5 x6 x8 x9 (wrap64 (x10 + 1)) x704000 x704001))) else (if x8 = x5 then (if 0 ≤ x8 then (if x8 < (x6.length : Int) then (if (rd x6 x8) > (x6.length : Int) then (some false) else (wayzgooselaw04_TradeFound.l0 k x5 x6 (wrap64 (x8 + 1)) x704000 x704001)) else (none)) else (none)) else (if 0 ≤ x8 then (if x8 < (x6.length : Int) then (if (rd x6 x8) = x9 then (if (rd x6 x8) > (x6.length : Int) then (some false) else (wayzgooselaw04_TradeFound.l0 k x5 x6 (wrap64 (x8 + 1)) x704000 x704001)) else (some false)) else (none)) else (none)))
def wayzgooselaw04_TradeFound.l2 : Nat → Int → List Int → Int → List (S51) → List (S39) → Option (Bool)
  | 0, _, _, _, _, _ => none
  | k + 1, x5, x6, x11, x704000, x704001 => if x11 ≤ 6 then ((trade_Hidden.f x704000 x704001 x5 x11).bind fun bt722 => (wayzgooselaw04_TradeFound.l3 k x5 x6 x11 bt722.1 bt722.2 0 0 x704000 x704001)) else ((wayzgooselaw04_indexed.f).bind fun t721 => (some t721))
def wayzgooselaw04_TradeFound.l3 : Nat → Int → List Int → Int → List Int → Int → Int → Int → List (S51) → List (S39) → Option (Bool)
  | 0, _, _, _, _, _, _, _, _, _ => none
  | k + 1, x5, x6, x11, x12, x13, x14, x15, x704000, x704001 => if x15 < (x6.length : Int) then (wayzgooselaw04_TradeFound.j5 k x5 x6 x11 x12 x13 x14 x15 (x13 == 0) x704000 x704001) else (wayzgooselaw04_TradeFound.j5 k x5 x6 x11 x12 x13 x14 x15 false x704000 x704001)
def wayzgooselaw04_TradeFound.j5 : Nat → Int → List Int → Int → List Int → Int → Int → Int → Bool → List (S51) → List (S39) → Option (Bool)
  | 0, _, _, _, _, _, _, _, _, _, _ => none
  | k + 1, x5, x6, x11, x12, x13, x14, x15, x133, x704000, x704001 => if x133 = true then (if 0 ≤ x15 then (if x15 < (x704001.length : Int) then (if ((rd_T39 x704001 x15).f1) ≥ 0 then (if x15 < (x6.length : Int) then (if (rd x6 x15) < 0 then (wayzgooselaw04_TradeFound.j6 k x5 x6 x11 x12 x13 x14 x15 true x704000 x704001) else (wayzgooselaw04_TradeFound.j6 k x5 x6 x11 x12 x13 x14 x15 (decide ((rd x6 x15) > x11)) x704000 x704001)) else (none)) else (wayzgooselaw04_TradeFound.j6 k x5 x6 x11 x12 x13 x14 x15 false x704000 x704001)) else (none)) else (none)) else (if x13 = 0 then (if x14 = (x12.length : Int) then (wayzgooselaw04_TradeFound.l2 k x5 x6 (wrap64 (x11 + 1)) x704000 x704001) else (some false)) else (some false))
def wayzgooselaw04_TradeFound.j6 : Nat → Int → List Int → Int → List Int → Int → Int → Int → Bool → List (S51) → List (S39) → Option (Bool)
  | 0, _, _, _, _, _, _, _, _, _, _ => none
  | k + 1, x5, x6, x11, x12, x13, x14, x15, x157, x704000, x704001 => if x157 = true then (if x14 ≥ (x12.length : Int) then (some false) else (if 0 ≤ x14 then (if x14 < (x12.length : Int) then (if (rd x12 x14) = x15 then (wayzgooselaw04_TradeFound.l3 k x5 x6 x11 x12 x13 (wrap64 (x14 + 1)) (wrap64 (x15 + 1)) x704000 x704001) else (some false)) else (none)) else (none))) else (wayzgooselaw04_TradeFound.l3 k x5 x6 x11 x12 x13 x14 (wrap64 (x15 + 1)) x704000 x704001)
end
def wayzgooselaw04_TradeFound.f (k : Nat) (l0 : List Int) : Option (Bool) := (wayzgoosekit_NewDice.f l0).bind fun bt691 => ((wayzgoosekit_TradesOf.f k bt691.1 bt691.2.1 bt691.2.2 2 6).bind fun bt695 => (if (bt695.2.1.length : Int) = 0 then ((wayzgooselaw04_indexed.f).bind fun t704 => (some t704)) else ((wayzgoosekit_Dice_To.f bt691.1 bt695.2.2.1 bt695.2.2.2 (wrap64 ((bt695.2.1.length : Int) - 1))).bind fun bt705 => ((trade_Steps.f bt695.1 bt695.2.1 bt705.1).bind fun bt708 => (if bt708.2 = 0 then (if (bt708.1.length : Int) = (bt695.2.1.length : Int) then (if 0 ≤ bt705.1 then (if bt705.1 < (bt708.1.length : Int) then (wayzgooselaw04_TradeFound.j0 k bt705.1 bt708.1 ((rd bt708.1 bt705.1) != 0) bt695.1 bt695.2.1) else (none)) else (none)) else (wayzgooselaw04_TradeFound.j0 k bt705.1 bt708.1 true bt695.1 bt695.2.1)) else (wayzgooselaw04_TradeFound.j0 k bt705.1 bt708.1 true bt695.1 bt695.2.1))))))
theorem wayzgooselaw04_TradeFound.mono_l : ∀ k, (∀ y0 y1 y2 y3 y4, LeO (wayzgooselaw04_TradeFound.j0 k y0 y1 y2 y3 y4) (wayzgooselaw04_TradeFound.j0 (k + 1) y0 y1 y2 y3 y4)) ∧ (∀ y0 y1 y2 y3 y4, LeO (wayzgooselaw04_TradeFound.l0 k y0 y1 y2 y3 y4) (wayzgooselaw04_TradeFound.l0 (k + 1) y0 y1 y2 y3 y4)) ∧ (∀ y0 y1 y2 y3 y4 y5 y6, LeO (wayzgooselaw04_TradeFound.l1 k y0 y1 y2 y3 y4 y5 y6) (wayzgooselaw04_TradeFound.l1 (k + 1) y0 y1 y2 y3 y4 y5 y6)) ∧ (∀ y0 y1 y2 y3 y4, LeO (wayzgooselaw04_TradeFound.l2 k y0 y1 y2 y3 y4) (wayzgooselaw04_TradeFound.l2 (k + 1) y0 y1 y2 y3 y4)) ∧ (∀ y0 y1 y2 y3 y4 y5 y6 y7 y8, LeO (wayzgooselaw04_TradeFound.l3 k y0 y1 y2 y3 y4 y5 y6 y7 y8) (wayzgooselaw04_TradeFound.l3 (k + 1) y0 y1 y2 y3 y4 y5 y6 y7 y8)) ∧ (∀ y0 y1 y2 y3 y4 y5 y6 y7 y8 y9, LeO (wayzgooselaw04_TradeFound.j5 k y0 y1 y2 y3 y4 y5 y6 y7 y8 y9) (wayzgooselaw04_TradeFound.j5 (k + 1) y0 y1 y2 y3 y4 y5 y6 y7 y8 y9)) ∧ (∀ y0 y1 y2 y3 y4 y5 y6 y7 y8 y9, LeO (wayzgooselaw04_TradeFound.j6 k y0 y1 y2 y3 y4 y5 y6 y7 y8 y9) (wayzgooselaw04_TradeFound.j6 (k + 1) y0 y1 y2 y3 y4 y5 y6 y7 y8 y9))
  | 0 => ⟨fun _ _ _ _ _ r h => by simp [wayzgooselaw04_TradeFound.j0] at h, fun _ _ _ _ _ r h => by simp [wayzgooselaw04_TradeFound.l0] at h, fun _ _ _ _ _ _ _ r h => by simp [wayzgooselaw04_TradeFound.l1] at h, fun _ _ _ _ _ r h => by simp [wayzgooselaw04_TradeFound.l2] at h, fun _ _ _ _ _ _ _ _ _ r h => by simp [wayzgooselaw04_TradeFound.l3] at h, fun _ _ _ _ _ _ _ _ _ _ r h => by simp [wayzgooselaw04_TradeFound.j5] at h, fun _ _ _ _ _ _ _ _ _ _ r h => by simp [wayzgooselaw04_TradeFound.j6] at h⟩
  | k + 1 => by
    obtain ⟨ih0, ih1, ih2, ih3, ih4, ih5, ih6⟩ := wayzgooselaw04_TradeFound.mono_l k
    refine ⟨?_, ?_, ?_, ?_, ?_, ?_, ?_⟩
    · intro y0 y1 y2 y3 y4
      unfold wayzgooselaw04_TradeFound.j0
      repeat' first
      | (with_reducible exact ih0 _ _ _ _ _)
      | (with_reducible exact ih1 _ _ _ _ _)
      | (with_reducible exact ih2 _ _ _ _ _ _ _)
      | (with_reducible exact ih3 _ _ _ _ _)
      | (with_reducible exact ih4 _ _ _ _ _ _ _ _ _)
      | (with_reducible exact ih5 _ _ _ _ _ _ _ _ _ _)
      | (with_reducible exact ih6 _ _ _ _ _ _ _ _ _ _)
      | (with_reducible exact wayzgoosekit_TradesOf.mono _ _ _ _ _ _)
      | (with_reducible exact wayzgooselaw04_leads.mono _ _ _ _ _)
      | (with_reducible exact LeO.refl _)
      | (with_reducible exact LeO.none _)
      | (with_reducible refine LeO.ite ?_ ?_)
      | (with_reducible refine LeO.bind ?_ (fun _ => ?_))
      | exact ih0 _ _ _ _ _
      | exact ih1 _ _ _ _ _
      | exact ih2 _ _ _ _ _ _ _
      | exact ih3 _ _ _ _ _
      | exact ih4 _ _ _ _ _ _ _ _ _
      | exact ih5 _ _ _ _ _ _ _ _ _ _
      | exact ih6 _ _ _ _ _ _ _ _ _ _
      | exact wayzgoosekit_TradesOf.mono _ _ _ _ _ _
      | exact wayzgooselaw04_leads.mono _ _ _ _ _
      | exact LeO.none _
      | refine LeO.ite ?_ ?_
      | refine LeO.bind ?_ (fun _ => ?_)
    · intro y0 y1 y2 y3 y4
      unfold wayzgooselaw04_TradeFound.l0
      repeat' first
      | (with_reducible exact ih0 _ _ _ _ _)
      | (with_reducible exact ih1 _ _ _ _ _)
      | (with_reducible exact ih2 _ _ _ _ _ _ _)
      | (with_reducible exact ih3 _ _ _ _ _)
      | (with_reducible exact ih4 _ _ _ _ _ _ _ _ _)
      | (with_reducible exact ih5 _ _ _ _ _ _ _ _ _ _)
      | (with_reducible exact ih6 _ _ _ _ _ _ _ _ _ _)
      | (with_reducible exact wayzgoosekit_TradesOf.mono _ _ _ _ _ _)
      | (with_reducible exact wayzgooselaw04_leads.mono _ _ _ _ _)
      | (with_reducible exact LeO.refl _)
      | (with_reducible exact LeO.none _)
      | (with_reducible refine LeO.ite ?_ ?_)
      | (with_reducible refine LeO.bind ?_ (fun _ => ?_))
      | exact ih0 _ _ _ _ _
      | exact ih1 _ _ _ _ _
      | exact ih2 _ _ _ _ _ _ _
      | exact ih3 _ _ _ _ _
      | exact ih4 _ _ _ _ _ _ _ _ _
      | exact ih5 _ _ _ _ _ _ _ _ _ _
      | exact ih6 _ _ _ _ _ _ _ _ _ _
      | exact wayzgoosekit_TradesOf.mono _ _ _ _ _ _
      | exact wayzgooselaw04_leads.mono _ _ _ _ _
      | exact LeO.none _
      | refine LeO.ite ?_ ?_
      | refine LeO.bind ?_ (fun _ => ?_)
    · intro y0 y1 y2 y3 y4 y5 y6
      unfold wayzgooselaw04_TradeFound.l1
      repeat' first
      | (with_reducible exact ih0 _ _ _ _ _)
      | (with_reducible exact ih1 _ _ _ _ _)
      | (with_reducible exact ih2 _ _ _ _ _ _ _)
      | (with_reducible exact ih3 _ _ _ _ _)
      | (with_reducible exact ih4 _ _ _ _ _ _ _ _ _)
      | (with_reducible exact ih5 _ _ _ _ _ _ _ _ _ _)
      | (with_reducible exact ih6 _ _ _ _ _ _ _ _ _ _)
      | (with_reducible exact wayzgoosekit_TradesOf.mono _ _ _ _ _ _)
      | (with_reducible exact wayzgooselaw04_leads.mono _ _ _ _ _)
      | (with_reducible exact LeO.refl _)
      | (with_reducible exact LeO.none _)
      | (with_reducible refine LeO.ite ?_ ?_)
      | (with_reducible refine LeO.bind ?_ (fun _ => ?_))
      | exact ih0 _ _ _ _ _
      | exact ih1 _ _ _ _ _
      | exact ih2 _ _ _ _ _ _ _
      | exact ih3 _ _ _ _ _
      | exact ih4 _ _ _ _ _ _ _ _ _
      | exact ih5 _ _ _ _ _ _ _ _ _ _
      | exact ih6 _ _ _ _ _ _ _ _ _ _
      | exact wayzgoosekit_TradesOf.mono _ _ _ _ _ _
      | exact wayzgooselaw04_leads.mono _ _ _ _ _
      | exact LeO.none _
      | refine LeO.ite ?_ ?_
      | refine LeO.bind ?_ (fun _ => ?_)
    · intro y0 y1 y2 y3 y4
      unfold wayzgooselaw04_TradeFound.l2
      repeat' first
      | (with_reducible exact ih0 _ _ _ _ _)
      | (with_reducible exact ih1 _ _ _ _ _)
      | (with_reducible exact ih2 _ _ _ _ _ _ _)
      | (with_reducible exact ih3 _ _ _ _ _)
      | (with_reducible exact ih4 _ _ _ _ _ _ _ _ _)
      | (with_reducible exact ih5 _ _ _ _ _ _ _ _ _ _)
      | (with_reducible exact ih6 _ _ _ _ _ _ _ _ _ _)
      | (with_reducible exact wayzgoosekit_TradesOf.mono _ _ _ _ _ _)
      | (with_reducible exact wayzgooselaw04_leads.mono _ _ _ _ _)
      | (with_reducible exact LeO.refl _)
      | (with_reducible exact LeO.none _)
      | (with_reducible refine LeO.ite ?_ ?_)
      | (with_reducible refine LeO.bind ?_ (fun _ => ?_))
      | exact ih0 _ _ _ _ _
      | exact ih1 _ _ _ _ _
      | exact ih2 _ _ _ _ _ _ _
      | exact ih3 _ _ _ _ _
      | exact ih4 _ _ _ _ _ _ _ _ _
      | exact ih5 _ _ _ _ _ _ _ _ _ _
      | exact ih6 _ _ _ _ _ _ _ _ _ _
      | exact wayzgoosekit_TradesOf.mono _ _ _ _ _ _
      | exact wayzgooselaw04_leads.mono _ _ _ _ _
      | exact LeO.none _
      | refine LeO.ite ?_ ?_
      | refine LeO.bind ?_ (fun _ => ?_)
    · intro y0 y1 y2 y3 y4 y5 y6 y7 y8
      unfold wayzgooselaw04_TradeFound.l3
      repeat' first
      | (with_reducible exact ih0 _ _ _ _ _)
      | (with_reducible exact ih1 _ _ _ _ _)
      | (with_reducible exact ih2 _ _ _ _ _ _ _)
      | (with_reducible exact ih3 _ _ _ _ _)
      | (with_reducible exact ih4 _ _ _ _ _ _ _ _ _)
      | (with_reducible exact ih5 _ _ _ _ _ _ _ _ _ _)
      | (with_reducible exact ih6 _ _ _ _ _ _ _ _ _ _)
      | (with_reducible exact wayzgoosekit_TradesOf.mono _ _ _ _ _ _)
      | (with_reducible exact wayzgooselaw04_leads.mono _ _ _ _ _)
      | (with_reducible exact LeO.refl _)
      | (with_reducible exact LeO.none _)
      | (with_reducible refine LeO.ite ?_ ?_)
      | (with_reducible refine LeO.bind ?_ (fun _ => ?_))
      | exact ih0 _ _ _ _ _
      | exact ih1 _ _ _ _ _
      | exact ih2 _ _ _ _ _ _ _
      | exact ih3 _ _ _ _ _
      | exact ih4 _ _ _ _ _ _ _ _ _
      | exact ih5 _ _ _ _ _ _ _ _ _ _
      | exact ih6 _ _ _ _ _ _ _ _ _ _
      | exact wayzgoosekit_TradesOf.mono _ _ _ _ _ _
      | exact wayzgooselaw04_leads.mono _ _ _ _ _
      | exact LeO.none _
      | refine LeO.ite ?_ ?_
      | refine LeO.bind ?_ (fun _ => ?_)
    · intro y0 y1 y2 y3 y4 y5 y6 y7 y8 y9
      unfold wayzgooselaw04_TradeFound.j5
      repeat' first
      | (with_reducible exact ih0 _ _ _ _ _)
      | (with_reducible exact ih1 _ _ _ _ _)
      | (with_reducible exact ih2 _ _ _ _ _ _ _)
      | (with_reducible exact ih3 _ _ _ _ _)
      | (with_reducible exact ih4 _ _ _ _ _ _ _ _ _)
      | (with_reducible exact ih5 _ _ _ _ _ _ _ _ _ _)
      | (with_reducible exact ih6 _ _ _ _ _ _ _ _ _ _)
      | (with_reducible exact wayzgoosekit_TradesOf.mono _ _ _ _ _ _)
      | (with_reducible exact wayzgooselaw04_leads.mono _ _ _ _ _)
      | (with_reducible exact LeO.refl _)
      | (with_reducible exact LeO.none _)
      | (with_reducible refine LeO.ite ?_ ?_)
      | (with_reducible refine LeO.bind ?_ (fun _ => ?_))
      | exact ih0 _ _ _ _ _
      | exact ih1 _ _ _ _ _
      | exact ih2 _ _ _ _ _ _ _
      | exact ih3 _ _ _ _ _
      | exact ih4 _ _ _ _ _ _ _ _ _
      | exact ih5 _ _ _ _ _ _ _ _ _ _
      | exact ih6 _ _ _ _ _ _ _ _ _ _
      | exact wayzgoosekit_TradesOf.mono _ _ _ _ _ _
      | exact wayzgooselaw04_leads.mono _ _ _ _ _
      | exact LeO.none _
      | refine LeO.ite ?_ ?_
      | refine LeO.bind ?_ (fun _ => ?_)
    · intro y0 y1 y2 y3 y4 y5 y6 y7 y8 y9
      unfold wayzgooselaw04_TradeFound.j6
      repeat' first
      | (with_reducible exact ih0 _ _ _ _ _)
      | (with_reducible exact ih1 _ _ _ _ _)
      | (with_reducible exact ih2 _ _ _ _ _ _ _)
      | (with_reducible exact ih3 _ _ _ _ _)
      | (with_reducible exact ih4 _ _ _ _ _ _ _ _ _)
      | (with_reducible exact ih5 _ _ _ _ _ _ _ _ _ _)
      | (with_reducible exact ih6 _ _ _ _ _ _ _ _ _ _)
      | (with_reducible exact wayzgoosekit_TradesOf.mono _ _ _ _ _ _)
      | (with_reducible exact wayzgooselaw04_leads.mono _ _ _ _ _)
      | (with_reducible exact LeO.refl _)
      | (with_reducible exact LeO.none _)
      | (with_reducible refine LeO.ite ?_ ?_)
      | (with_reducible refine LeO.bind ?_ (fun _ => ?_))
      | exact ih0 _ _ _ _ _
      | exact ih1 _ _ _ _ _
      | exact ih2 _ _ _ _ _ _ _
      | exact ih3 _ _ _ _ _
      | exact ih4 _ _ _ _ _ _ _ _ _
      | exact ih5 _ _ _ _ _ _ _ _ _ _
      | exact ih6 _ _ _ _ _ _ _ _ _ _
      | exact wayzgoosekit_TradesOf.mono _ _ _ _ _ _
      | exact wayzgooselaw04_leads.mono _ _ _ _ _
      | exact LeO.none _
      | refine LeO.ite ?_ ?_
      | refine LeO.bind ?_ (fun _ => ?_)
theorem wayzgooselaw04_TradeFound.mono : ∀ a0 k, LeO (wayzgooselaw04_TradeFound.f k a0) (wayzgooselaw04_TradeFound.f (k + 1) a0) := by
  intro a0 k
  obtain ⟨ih0, ih1, ih2, ih3, ih4, ih5, ih6⟩ := wayzgooselaw04_TradeFound.mono_l k
  unfold wayzgooselaw04_TradeFound.f
  repeat' first
      | (with_reducible exact ih0 _ _ _ _ _)
      | (with_reducible exact ih1 _ _ _ _ _)
      | (with_reducible exact ih2 _ _ _ _ _ _ _)
      | (with_reducible exact ih3 _ _ _ _ _)
      | (with_reducible exact ih4 _ _ _ _ _ _ _ _ _)
      | (with_reducible exact ih5 _ _ _ _ _ _ _ _ _ _)
      | (with_reducible exact ih6 _ _ _ _ _ _ _ _ _ _)
      | (with_reducible exact wayzgoosekit_TradesOf.mono _ _ _ _ _ _)
      | (with_reducible exact wayzgooselaw04_leads.mono _ _ _ _ _)
      | (with_reducible exact LeO.refl _)
      | (with_reducible exact LeO.none _)
      | (with_reducible refine LeO.ite ?_ ?_)
      | (with_reducible refine LeO.bind ?_ (fun _ => ?_))
      | exact ih0 _ _ _ _ _
      | exact ih1 _ _ _ _ _
      | exact ih2 _ _ _ _ _ _ _
      | exact ih3 _ _ _ _ _
      | exact ih4 _ _ _ _ _ _ _ _ _
      | exact ih5 _ _ _ _ _ _ _ _ _ _
      | exact ih6 _ _ _ _ _ _ _ _ _ _
      | exact wayzgoosekit_TradesOf.mono _ _ _ _ _ _
      | exact wayzgooselaw04_leads.mono _ _ _ _ _
      | exact LeO.none _
      | refine LeO.ite ?_ ?_
      | refine LeO.bind ?_ (fun _ => ?_)
set_option maxHeartbeats 8000000 in
set_option maxRecDepth 100000 in
theorem wayzgooselaw04_TradeFound.calls (k : Nat) (A0 : Option Addr) (c0 : Nat) (l0 : List Int) (r : Bool) (w : World) (hr0 : Kd.C (Kd.int .i64) w A0 l0.length l0) (hc0 : l0.length ≤ c0) (h : wayzgooselaw04_TradeFound.f k l0 = some r) :
    Calls Try.prog 11 #[.slice A0 l0.length c0] w fun e w' => e = .returned (.bool r) ∧ Below w.heap.size w w' := by
  have hu26 := Try.underlying26
  have HR0 := Aside0.mk hr0
  have HC0 := Aside0.mk hc0
  clear hr0 hc0
  have HB := Aside0.mk (Below.refl w.heap.size w)
  have H : ((wayzgoosekit_NewDice.f l0).bind fun bt691 => ((wayzgoosekit_TradesOf.f k bt691.1 bt691.2.1 bt691.2.2 2 6).bind fun bt695 => (if (bt695.2.1.length : Int) = 0 then ((wayzgooselaw04_indexed.f).bind fun t704 => (some t704)) else ((wayzgoosekit_Dice_To.f bt691.1 bt695.2.2.1 bt695.2.2.2 (wrap64 ((bt695.2.1.length : Int) - 1))).bind fun bt705 => ((trade_Steps.f bt695.1 bt695.2.1 bt705.1).bind fun bt708 => (if bt708.2 = 0 then (if (bt708.1.length : Int) = (bt695.2.1.length : Int) then (if 0 ≤ bt705.1 then (if bt705.1 < (bt708.1.length : Int) then (wayzgooselaw04_TradeFound.j0 k bt705.1 bt708.1 ((rd bt708.1 bt705.1) != 0) bt695.1 bt695.2.1) else (none)) else (none)) else (wayzgooselaw04_TradeFound.j0 k bt705.1 bt708.1 true bt695.1 bt695.2.1)) else (wayzgooselaw04_TradeFound.j0 k bt705.1 bt708.1 true bt695.1 bt695.2.1))))))) = some r := h
  clear h
  replace H := Option.bind_eq_some_iff.mp H
  obtain ⟨⟨t691, t692, t693⟩, A20, H⟩ := H
  replace H : ((wayzgoosekit_TradesOf.f k t691 t692 t693 2 6).bind fun bt695 => (if (bt695.2.1.length : Int) = 0 then ((wayzgooselaw04_indexed.f).bind fun t704 => (some t704)) else ((wayzgoosekit_Dice_To.f t691 bt695.2.2.1 bt695.2.2.2 (wrap64 ((bt695.2.1.length : Int) - 1))).bind fun bt705 => ((trade_Steps.f bt695.1 bt695.2.1 bt705.1).bind fun bt708 => (if bt708.2 = 0 then (if (bt708.1.length : Int) = (bt695.2.1.length : Int) then (if 0 ≤ bt705.1 then (if bt705.1 < (bt708.1.length : Int) then (wayzgooselaw04_TradeFound.j0 k bt705.1 bt708.1 ((rd bt708.1 bt705.1) != 0) bt695.1 bt695.2.1) else (none)) else (none)) else (wayzgooselaw04_TradeFound.j0 k bt705.1 bt708.1 true bt695.1 bt695.2.1)) else (wayzgooselaw04_TradeFound.j0 k bt705.1 bt708.1 true bt695.1 bt695.2.1)))))) = some r := H
  have A2 := Aside0.mk A20
  clear A20
  replace H := Option.bind_eq_some_iff.mp H
  obtain ⟨⟨t695, t698, t701, t702⟩, A30, H⟩ := H
  replace H : (if (t698.length : Int) = 0 then ((wayzgooselaw04_indexed.f).bind fun t704 => (some t704)) else ((wayzgoosekit_Dice_To.f t691 t701 t702 (wrap64 ((t698.length : Int) - 1))).bind fun bt705 => ((trade_Steps.f t695 t698 bt705.1).bind fun bt708 => (if bt708.2 = 0 then (if (bt708.1.length : Int) = (t698.length : Int) then (if 0 ≤ bt705.1 then (if bt705.1 < (bt708.1.length : Int) then (wayzgooselaw04_TradeFound.j0 k bt705.1 bt708.1 ((rd bt708.1 bt705.1) != 0) t695 t698) else (none)) else (none)) else (wayzgooselaw04_TradeFound.j0 k bt705.1 bt708.1 true t695 t698)) else (wayzgooselaw04_TradeFound.j0 k bt705.1 bt708.1 true t695 t698))))) = some r := H
  have A3 := Aside0.mk A30
  clear A30
  by_cases c4 : (t698.length : Int) = 0
  · rw [if_pos c4] at H
    have c4b0 : ((t698.length : Int) == 0) = true := beq_iff_eq.mpr c4
    have c4b1 : ((t698.length : Int) != 0) = false := bne_eq_false_iff_eq.mpr c4
    clear c4
    replace H := Option.bind_eq_some_iff.mp H
    obtain ⟨t704, A50, H⟩ := H
    replace H : (some t704) = some r := H
    have A5 := Aside0.mk A50
    clear A50
    obtain rfl := Option.some.inj H
    go_enter Try.func11, Try.ntmps11
    go_wp2_with (first | ((with_reducible refine gate_callee (f := 14) rfl ?_); refine goesL_ (some 17) rfl rfl Try.func14 (by kernel_rfl) rfl #[.slice A0 l0.length c0] rfl (by (try simp only [List.map_toArray, List.map_cons, List.map_nil]); first | done | rfl | (simp only [List.length_drop, List.length_take]; rfl)) ?_; (with_reducible refine (wayzgoosekit_NewDice.calls _ _ l0 t691 t692 t693 w _ ?side1 ?side2 ?side3 A2.out).mono ?_); (case side1 => repeat (first | (with_reducible first | exact HB.out | apply below_alloc | apply pw_below_drewN | apply below_drew1) | exact HB.out)); (case side2 => exact HR0.out); (case side3 => exact HC0.out); rintro e w6 ⟨g694, rfl, hi, hb, hb2⟩; refine ⟨_, rfl, ?_⟩; have n0_ := Aside0.mk (hb); have n1_ := Aside0.mk (hi); clear HB; have HB := n0_; have HI694 := n1_; clear n0_ n1_; (try clear hb); (try clear hb2); (try clear hk); (try clear hi)) | ((with_reducible refine gate_callee (f := 13) rfl ?_); refine goesL_ (some 19) rfl rfl Try.func13 (by kernel_rfl) rfl #[.pointer (some ⟨g694, 0, none⟩), .int .i64 2, .int .i64 6] rfl (by (try simp only [List.map_toArray, List.map_cons, List.map_nil]); first | done | rfl | (simp only [List.length_drop, List.length_take]; rfl)) ?_; (with_reducible refine (wayzgoosekit_TradesOf.calls k g694 t691 t692 t693 2 6 t695 t698 t701 t702 w _ ?side1 ?side2 A3.out).mono ?_); (case side1 => repeat (first | (with_reducible first | exact HI694.out | apply IsS72.alloc | apply IsS72.drewN | apply IsS72.drew | apply IsS72.set_1 | apply IsS72.set_2) | exact HI694.out)); (case side2 => repeat (first | (with_reducible first | exact HB.out | apply below_alloc | apply pw_below_drewN | apply below_drew1 | refine below_set ?_ (IsS72.ge HI694.out)) | exact HB.out)); rintro e w7 ⟨v696, v699, rfl, ho0, ho1, hi, hb, hk⟩; refine ⟨_, rfl, ?_⟩; have n0_ := Aside0.mk (Kd.R_lower ho0 (below_size (by repeat (first | (with_reducible first | exact HB.out | apply below_alloc | apply pw_below_drewN | apply below_drew1 | refine below_set ?_ (IsS72.ge HI694.out)) | exact HB.out)))); have n1_ := Aside0.mk (Kd.S_lower ho1 (below_size (by repeat (first | (with_reducible first | exact HB.out | apply below_alloc | apply pw_below_drewN | apply below_drew1 | refine below_set ?_ (IsS72.ge HI694.out)) | exact HB.out)))); have n2_ := Aside0.mk (hb); have n3_ := Aside0.mk (hi); clear HB; clear HI694; have HO697 := n0_; have HO700 := n1_; have HB := n2_; have HI694 := n3_; clear n0_ n1_ n2_ n3_; (try clear hb); (try clear hb2); (try clear hk); (try clear hi); (try clear ho0); (try clear ho1)) | ((with_reducible refine gate_dst (N := 4) rfl ?_); (try (refine gate_guard (by rfl) ?_; dsimp only)); refine box_event ?hg (N := 4) ?hd (cs := #[.slice none 0 0, .slice none 0 0]) (t := 26) ?hr ?_; (case hd => rfl); (case hg => rfl); (case hr => first | (go_simp; done) | (go_simp; rfl)); intro gb703 hg w8 hbox hb; have n0_ := Aside0.mk (Kd.R_below (by (with_reducible repeat (first | apply Kd.R_alloc | apply Kd.R_drewN | apply Kd.R_drew)); exact HO697.out) hb); have n1_ := Aside0.mk (Kd.S_below (by (with_reducible repeat (first | apply Kd.S_alloc | apply Kd.S_drewN | apply Kd.S_drew)); exact HO700.out) hb); have n2_ := Aside0.mk (IsS72.below (by repeat (first | (with_reducible first | exact HI694.out | apply IsS72.alloc | apply IsS72.drewN | apply IsS72.drew | apply IsS72.set_1 | apply IsS72.set_2) | exact HI694.out)) hb); have n3_ := Aside0.mk (below_step (by repeat (first | (with_reducible first | exact HB.out | apply below_alloc | apply pw_below_drewN | apply below_drew1 | refine below_set ?_ (IsS72.ge HI694.out)) | exact HB.out)) hb); have n4_ := Aside0.mk (hbox); have n5_ := Aside0.mk ((by rw [hg]; exact (below_size (by repeat (first | (with_reducible first | exact HB.out | apply below_alloc | apply pw_below_drewN | apply below_drew1 | refine below_set ?_ (IsS72.ge HI694.out)) | exact HB.out))) : w.heap.size ≤ gb703)); have n6_ := Aside0.mk ((by rw [hg]; exact (below_size (by repeat (first | (with_reducible first | exact HB.out | apply below_alloc | apply pw_below_drewN | apply below_drew1 | refine below_set ?_ (IsS72.ge HI694.out)) | exact HB.out))) : w.heap.size ≤ gb703)); have n7_ := Aside0.mk ((by rw [hg]; exact Nat.ne_of_lt (IsS72.lt (show IsS72 w _ g694 t691 t701 t702 from by repeat (first | (with_reducible first | exact HI694.out | apply IsS72.alloc | apply IsS72.drewN | apply IsS72.drew | apply IsS72.set_1 | apply IsS72.set_2) | exact HI694.out))) : g694 ≠ gb703)); have n8_ := Aside0.mk ((by rw [hg]; exact Nat.ne_of_gt (IsS72.lt (show IsS72 w _ g694 t691 t701 t702 from by repeat (first | (with_reducible first | exact HI694.out | apply IsS72.alloc | apply IsS72.drewN | apply IsS72.drew | apply IsS72.set_1 | apply IsS72.set_2) | exact HI694.out))) : gb703 ≠ g694)); clear HO697; clear HO700; clear HI694; clear HB; have HO697 := n0_; have HO700 := n1_; have HI694 := n2_; have HB := n3_; have BK703 := n4_; have GW703 := n5_; have GE703 := n6_; have NB694_703 := n7_; have NB703_694 := n8_; clear n0_ n1_ n2_ n3_ n4_ n5_ n6_ n7_ n8_; clear hb hbox hg; obtain ⟨Ao9, co9, eo9⟩ := Kd.R_slice HO697.out; subst eo9; have hnb10 := NB703_694.out; have hnc10 := NB694_703.out; have hcz11_0 : w8.cell? ⟨gb703, 0, none⟩ = some (.slice none 0 0) := (blk_cell BK703.out 0).trans rfl; have hcz11_1 : w8.cell? ⟨gb703, 1, none⟩ = some (.slice none 0 0) := (blk_cell BK703.out 1).trans rfl; have hfz11_0 := blk_frozen BK703.out 0; have hfz11_1 := blk_frozen BK703.out 1; obtain ⟨Ao12, co12, eo12⟩ := Kd.S_slice HO700.out; subst eo12) | ((with_reducible refine gate_callee (f := 17) rfl ?_); refine goesL_ (some 24) rfl rfl Try.func17 (by kernel_rfl) rfl #[] rfl (by (try simp only [List.map_toArray, List.map_cons, List.map_nil]); first | done | rfl | (simp only [List.length_drop, List.length_take]; rfl)) ?_; (with_reducible refine (wayzgooselaw04_indexed.calls  t704 _ A5.out).mono ?_); rintro e w13 ⟨rfl, hb⟩; refine ⟨_, rfl, ?_⟩; have n0_ := Aside0.mk (Kd.R_below (by (with_reducible repeat (first | apply Kd.R_alloc | apply Kd.R_drewN | apply Kd.R_drew)); exact (Kd.R_mono (Kd.R_far (p := ⟨gb703, 1, none⟩) (Kd.R_far (p := ⟨gb703, 0, none⟩) (Kd.R_types HO697.out BK703.out (by decide)) (fun _ hk => hk.2) (.slice Ao9 t695.length co9)) (fun _ hk => hk.2) (.slice Ao12 t698.length co12)) (fun _ h_ => h_.1))) hb); have n1_ := Aside0.mk (Kd.S_below (by (with_reducible repeat (first | apply Kd.S_alloc | apply Kd.S_drewN | apply Kd.S_drew)); exact (Kd.S_mono (Kd.S_far (p := ⟨gb703, 1, none⟩) (Kd.S_far (p := ⟨gb703, 0, none⟩) (Kd.S_types HO700.out BK703.out (by decide)) (fun _ hk => hk.2) (.slice Ao9 t695.length co9)) (fun _ hk => hk.2) (.slice Ao12 t698.length co12)) (fun _ h_ => h_.1))) hb); have n2_ := Aside0.mk (IsS72.below (show IsS72 w ((w8.setCell ⟨gb703, 0, none⟩ (.slice Ao9 t695.length co9)).setCell ⟨gb703, 1, none⟩ (.slice Ao12 t698.length co12)) g694 t691 t701 t702 from by repeat (first | (with_reducible first | exact HI694.out | apply IsS72.alloc | apply IsS72.drewN | apply IsS72.drew | apply IsS72.set_1 | apply IsS72.set_2 | refine IsS72.far ?_ NB694_703.out _) | exact HI694.out)) hb); have n3_ := Aside0.mk (blk_below (g := gb703) (o := .cells #[.slice Ao9 t695.length co9, .slice Ao12 t698.length co12] 26 (0, 0)) (by (with_reducible repeat (first | refine blk_drewN ?_ _ | refine blk_drew ?_ | refine blk_alloc ?_ _)); refine blk_put (cs := #[.slice Ao9 t695.length co9, .slice none 0 0]) ?_ 1 _ rfl; (with_reducible repeat (first | refine blk_drewN ?_ _ | refine blk_drew ?_ | refine blk_alloc ?_ _)); refine blk_put (cs := #[.slice none 0 0, .slice none 0 0]) ?_ 0 _ rfl; (with_reducible repeat (first | refine blk_drewN ?_ _ | refine blk_drew ?_ | refine blk_alloc ?_ _)); exact BK703.out) hb); have n4_ := Aside0.mk (below_step (by repeat (first | (with_reducible first | exact HB.out | apply below_alloc | apply pw_below_drewN | apply below_drew1 | refine below_set ?_ (IsS72.ge HI694.out) | refine below_set ?_ GE703.out) | exact HB.out)) hb); clear HO697; clear HO700; clear HI694; clear BK703; clear HB; have HO697 := n0_; have HO700 := n1_; have HI694 := n2_; have BK703 := n3_; have HB := n4_; clear n0_ n1_ n2_ n3_ n4_; (try clear hb); (try clear hb2); (try clear hk); (try clear hi)))
    go_ret
    exact ⟨by first | rfl | (simp [errW_none, errW_some] <;> rfl) | (simp [*, errW_none, errW_some] <;> rfl), by repeat (first | (with_reducible first | exact HB.out | apply below_alloc | apply pw_below_drewN | apply below_drew1 | refine below_set ?_ (IsS72.ge HI694.out) | refine below_set ?_ GE703.out) | exact HB.out)⟩
  · rw [if_neg c4] at H
    have c4b0 : ((t698.length : Int) == 0) = false := beq_eq_false_iff_ne.mpr c4
    have c4b1 : ((t698.length : Int) != 0) = true := bne_iff_ne.mpr c4
    have c4b2 : ¬ (t698 = []) := fun h_ => c4 (by rw [h_]; rfl)
    replace H := Option.bind_eq_some_iff.mp H
    obtain ⟨⟨t705, t706, t707⟩, A140, H⟩ := H
    replace H : ((trade_Steps.f t695 t698 t705).bind fun bt708 => (if bt708.2 = 0 then (if (bt708.1.length : Int) = (t698.length : Int) then (if 0 ≤ t705 then (if t705 < (bt708.1.length : Int) then (wayzgooselaw04_TradeFound.j0 k t705 bt708.1 ((rd bt708.1 t705) != 0) t695 t698) else (none)) else (none)) else (wayzgooselaw04_TradeFound.j0 k t705 bt708.1 true t695 t698)) else (wayzgooselaw04_TradeFound.j0 k t705 bt708.1 true t695 t698))) = some r := H
    have A14 := Aside0.mk A140
    clear A140
    replace H := Option.bind_eq_some_iff.mp H
    obtain ⟨⟨t708, t711⟩, A150, H⟩ := H
    replace H : (if t711 = 0 then (if (t708.length : Int) = (t698.length : Int) then (if 0 ≤ t705 then (if t705 < (t708.length : Int) then (wayzgooselaw04_TradeFound.j0 k t705 t708 ((rd t708 t705) != 0) t695 t698) else (none)) else (none)) else (wayzgooselaw04_TradeFound.j0 k t705 t708 true t695 t698)) else (wayzgooselaw04_TradeFound.j0 k t705 t708 true t695 t698)) = some r := H
    have A15 := Aside0.mk A150
    clear A150
    have HC16 := Aside0.mk H
    clear H
    go_enter Try.func11, Try.ntmps11
    go_upto_region 7 with (first | ((with_reducible refine gate_callee (f := 14) rfl ?_); refine goesL_ (some 17) rfl rfl Try.func14 (by kernel_rfl) rfl #[.slice A0 l0.length c0] rfl (by (try simp only [List.map_toArray, List.map_cons, List.map_nil]); first | done | rfl | (simp only [List.length_drop, List.length_take]; rfl)) ?_; (with_reducible refine (wayzgoosekit_NewDice.calls _ _ l0 t691 t692 t693 w _ ?side1 ?side2 ?side3 A2.out).mono ?_); (case side1 => repeat (first | (with_reducible first | exact HB.out | apply below_alloc | apply pw_below_drewN | apply below_drew1) | exact HB.out)); (case side2 => exact HR0.out); (case side3 => exact HC0.out); rintro e w17 ⟨g694, rfl, hi, hb, hb2⟩; refine ⟨_, rfl, ?_⟩; have n0_ := Aside0.mk (hb); have n1_ := Aside0.mk (hi); clear HB; have HB := n0_; have HI694 := n1_; clear n0_ n1_; (try clear hb); (try clear hb2); (try clear hk); (try clear hi)) | ((with_reducible refine gate_callee (f := 13) rfl ?_); refine goesL_ (some 19) rfl rfl Try.func13 (by kernel_rfl) rfl #[.pointer (some ⟨g694, 0, none⟩), .int .i64 2, .int .i64 6] rfl (by (try simp only [List.map_toArray, List.map_cons, List.map_nil]); first | done | rfl | (simp only [List.length_drop, List.length_take]; rfl)) ?_; (with_reducible refine (wayzgoosekit_TradesOf.calls k g694 t691 t692 t693 2 6 t695 t698 t701 t702 w _ ?side1 ?side2 A3.out).mono ?_); (case side1 => repeat (first | (with_reducible first | exact HI694.out | apply IsS72.alloc | apply IsS72.drewN | apply IsS72.drew | apply IsS72.set_1 | apply IsS72.set_2) | exact HI694.out)); (case side2 => repeat (first | (with_reducible first | exact HB.out | apply below_alloc | apply pw_below_drewN | apply below_drew1 | refine below_set ?_ (IsS72.ge HI694.out)) | exact HB.out)); rintro e w18 ⟨v696, v699, rfl, ho0, ho1, hi, hb, hk⟩; refine ⟨_, rfl, ?_⟩; have n0_ := Aside0.mk (Kd.R_lower ho0 (below_size (by repeat (first | (with_reducible first | exact HB.out | apply below_alloc | apply pw_below_drewN | apply below_drew1 | refine below_set ?_ (IsS72.ge HI694.out)) | exact HB.out)))); have n1_ := Aside0.mk (Kd.S_lower ho1 (below_size (by repeat (first | (with_reducible first | exact HB.out | apply below_alloc | apply pw_below_drewN | apply below_drew1 | refine below_set ?_ (IsS72.ge HI694.out)) | exact HB.out)))); have n2_ := Aside0.mk (hb); have n3_ := Aside0.mk (hi); clear HB; clear HI694; have HO697 := n0_; have HO700 := n1_; have HB := n2_; have HI694 := n3_; clear n0_ n1_ n2_ n3_; (try clear hb); (try clear hb2); (try clear hk); (try clear hi); (try clear ho0); (try clear ho1)) | ((with_reducible refine gate_dst (N := 4) rfl ?_); (try (refine gate_guard (by rfl) ?_; dsimp only)); refine box_event ?hg (N := 4) ?hd (cs := #[.slice none 0 0, .slice none 0 0]) (t := 26) ?hr ?_; (case hd => rfl); (case hg => rfl); (case hr => first | (go_simp; done) | (go_simp; rfl)); intro gb703 hg w19 hbox hb; have n0_ := Aside0.mk (Kd.R_below (by (with_reducible repeat (first | apply Kd.R_alloc | apply Kd.R_drewN | apply Kd.R_drew)); exact HO697.out) hb); have n1_ := Aside0.mk (Kd.S_below (by (with_reducible repeat (first | apply Kd.S_alloc | apply Kd.S_drewN | apply Kd.S_drew)); exact HO700.out) hb); have n2_ := Aside0.mk (IsS72.below (by repeat (first | (with_reducible first | exact HI694.out | apply IsS72.alloc | apply IsS72.drewN | apply IsS72.drew | apply IsS72.set_1 | apply IsS72.set_2) | exact HI694.out)) hb); have n3_ := Aside0.mk (below_step (by repeat (first | (with_reducible first | exact HB.out | apply below_alloc | apply pw_below_drewN | apply below_drew1 | refine below_set ?_ (IsS72.ge HI694.out)) | exact HB.out)) hb); have n4_ := Aside0.mk (hbox); have n5_ := Aside0.mk ((by rw [hg]; exact (below_size (by repeat (first | (with_reducible first | exact HB.out | apply below_alloc | apply pw_below_drewN | apply below_drew1 | refine below_set ?_ (IsS72.ge HI694.out)) | exact HB.out))) : w.heap.size ≤ gb703)); have n6_ := Aside0.mk ((by rw [hg]; exact (below_size (by repeat (first | (with_reducible first | exact HB.out | apply below_alloc | apply pw_below_drewN | apply below_drew1 | refine below_set ?_ (IsS72.ge HI694.out)) | exact HB.out))) : w.heap.size ≤ gb703)); have n7_ := Aside0.mk ((by rw [hg]; exact Nat.ne_of_lt (IsS72.lt (show IsS72 w _ g694 t691 t701 t702 from by repeat (first | (with_reducible first | exact HI694.out | apply IsS72.alloc | apply IsS72.drewN | apply IsS72.drew | apply IsS72.set_1 | apply IsS72.set_2) | exact HI694.out))) : g694 ≠ gb703)); have n8_ := Aside0.mk ((by rw [hg]; exact Nat.ne_of_gt (IsS72.lt (show IsS72 w _ g694 t691 t701 t702 from by repeat (first | (with_reducible first | exact HI694.out | apply IsS72.alloc | apply IsS72.drewN | apply IsS72.drew | apply IsS72.set_1 | apply IsS72.set_2) | exact HI694.out))) : gb703 ≠ g694)); clear HO697; clear HO700; clear HI694; clear HB; have HO697 := n0_; have HO700 := n1_; have HI694 := n2_; have HB := n3_; have BK703 := n4_; have GW703 := n5_; have GE703 := n6_; have NB694_703 := n7_; have NB703_694 := n8_; clear n0_ n1_ n2_ n3_ n4_ n5_ n6_ n7_ n8_; clear hb hbox hg; obtain ⟨Ao20, co20, eo20⟩ := Kd.R_slice HO697.out; subst eo20; have hnb21 := NB703_694.out; have hnc21 := NB694_703.out; have hcz22_0 : w19.cell? ⟨gb703, 0, none⟩ = some (.slice none 0 0) := (blk_cell BK703.out 0).trans rfl; have hcz22_1 : w19.cell? ⟨gb703, 1, none⟩ = some (.slice none 0 0) := (blk_cell BK703.out 1).trans rfl; have hfz22_0 := blk_frozen BK703.out 0; have hfz22_1 := blk_frozen BK703.out 1; obtain ⟨Ao23, co23, eo23⟩ := Kd.S_slice HO700.out; subst eo23) | ((with_reducible refine gate_callee (f := 32) rfl ?_); refine goesL_ (some 30) rfl rfl Try.func32 (by kernel_rfl) rfl #[.pointer (some ⟨g694, 0, none⟩), .int .i64 (wrap64 ((t698.length : Int) - 1))] rfl (by (try simp only [List.map_toArray, List.map_cons, List.map_nil]); first | done | rfl | (simp only [List.length_drop, List.length_take]; rfl)) ?_; (with_reducible refine (wayzgoosekit_Dice_To.calls g694 t691 t701 t702 (wrap64 ((t698.length : Int) - 1)) t705 t706 t707 w _ ?side1 ?side2 A14.out).mono ?_); (case side1 => repeat (first | (with_reducible first | exact HI694.out | apply IsS72.alloc | apply IsS72.drewN | apply IsS72.drew | apply IsS72.set_1 | apply IsS72.set_2 | refine IsS72.far ?_ NB694_703.out _) | exact HI694.out)); (case side2 => repeat (first | (with_reducible first | exact HB.out | apply below_alloc | apply pw_below_drewN | apply below_drew1 | refine below_set ?_ (IsS72.ge HI694.out) | refine below_set ?_ GE703.out) | exact HB.out)); rintro e w24 ⟨rfl, hi, hb, hk⟩; refine ⟨_, rfl, ?_⟩; have n0_ := Aside0.mk (Kd.R_mono (Kd.R_keep (IsS72.apart (show IsS72 w _ g694 t691 t701 t702 from by repeat (first | (with_reducible first | exact HI694.out | apply IsS72.alloc | apply IsS72.drewN | apply IsS72.drew | apply IsS72.set_1 | apply IsS72.set_2 | refine IsS72.far ?_ NB694_703.out _) | exact HI694.out)) (by (with_reducible repeat (first | apply Kd.R_alloc | apply Kd.R_drewN | apply Kd.R_drew)); exact (Kd.R_mono (Kd.R_far (p := ⟨gb703, 1, none⟩) (Kd.R_far (p := ⟨gb703, 0, none⟩) (Kd.R_types HO697.out BK703.out (by decide)) (fun _ hk => hk.2) (.slice Ao20 t695.length co20)) (fun _ hk => hk.2) (.slice Ao23 t698.length co23)) (fun _ h_ => h_.1))) (by decide)) hk (fun _ h => h.2)) (fun _ h => h.1)); have n1_ := Aside0.mk (Kd.S_mono (Kd.S_keep (IsS72.apartS (show IsS72 w _ g694 t691 t701 t702 from by repeat (first | (with_reducible first | exact HI694.out | apply IsS72.alloc | apply IsS72.drewN | apply IsS72.drew | apply IsS72.set_1 | apply IsS72.set_2 | refine IsS72.far ?_ NB694_703.out _) | exact HI694.out)) (by (with_reducible repeat (first | apply Kd.S_alloc | apply Kd.S_drewN | apply Kd.S_drew)); exact (Kd.S_mono (Kd.S_far (p := ⟨gb703, 1, none⟩) (Kd.S_far (p := ⟨gb703, 0, none⟩) (Kd.S_types HO700.out BK703.out (by decide)) (fun _ hk => hk.2) (.slice Ao20 t695.length co20)) (fun _ hk => hk.2) (.slice Ao23 t698.length co23)) (fun _ h_ => h_.1))) (by decide)) hk (fun _ h => h.2)) (fun _ h => h.1)); have n2_ := Aside0.mk (KeepBut.blk hk (g' := gb703) (o := .cells #[.slice Ao20 t695.length co20, .slice Ao23 t698.length co23] 26 (0, 0)) (by (with_reducible repeat (first | refine blk_drewN ?_ _ | refine blk_drew ?_ | refine blk_alloc ?_ _)); refine blk_put (cs := #[.slice Ao20 t695.length co20, .slice none 0 0]) ?_ 1 _ rfl; (with_reducible repeat (first | refine blk_drewN ?_ _ | refine blk_drew ?_ | refine blk_alloc ?_ _)); refine blk_put (cs := #[.slice none 0 0, .slice none 0 0]) ?_ 0 _ rfl; (with_reducible repeat (first | refine blk_drewN ?_ _ | refine blk_drew ?_ | refine blk_alloc ?_ _)); exact BK703.out) NB703_694.out (by simp)); have n3_ := Aside0.mk (hb); have n4_ := Aside0.mk (hi); clear HO697; clear HO700; clear BK703; clear HB; clear HI694; have HO697 := n0_; have HO700 := n1_; have BK703 := n2_; have HB := n3_; have HI694 := n4_; clear n0_ n1_ n2_ n3_ n4_; (try clear hb); (try clear hb2); (try clear hk); (try clear hi); have hcz25_0 : w24.cell? ⟨gb703, 0, none⟩ = some (.slice Ao20 t695.length co20) := (blk_cell BK703.out 0).trans rfl; have hcz25_1 : w24.cell? ⟨gb703, 1, none⟩ = some (.slice Ao23 t698.length co23) := (blk_cell BK703.out 1).trans rfl; have hfz25_0 := blk_frozen BK703.out 0; have hfz25_1 := blk_frozen BK703.out 1) | ((with_reducible refine gate_callee (f := 33) rfl ?_); refine goesL_ (some 34) rfl rfl Try.func33 (by kernel_rfl) rfl #[.agg #[.slice Ao20 t695.length co20, .slice Ao23 t698.length co23], .int .i64 t705] rfl (by (try simp only [List.map_toArray, List.map_cons, List.map_nil]); first | done | rfl | (simp only [List.length_drop, List.length_take]; rfl)) ?_; (with_reducible refine (trade_Steps.calls _ _ t695 _ _ t698 t705 t708 t711 _ ?side1 ?side2 ?side3 ?side4 A15.out).mono ?_); (case side1 => repeat (first | exact (Kd.R_reads' HO697.out).2.2 | (with_reducible refine Kd.C_alloc ?_ _) | (with_reducible refine Kd.C_drewN ?_ _) | (with_reducible refine Kd.C_drew ?_))); (case side2 => exact (Kd.R_reads' HO697.out).2.1); (case side3 => repeat (first | exact (Kd.S_reads' HO700.out).2.2 | (with_reducible refine Kd.C_alloc ?_ _) | (with_reducible refine Kd.C_drewN ?_ _) | (with_reducible refine Kd.C_drew ?_))); (case side4 => exact (Kd.S_reads' HO700.out).2.1); rintro e w26 ⟨v709, rfl, ho0, hb⟩; refine ⟨_, rfl, ?_⟩; have n0_ := Aside0.mk (Kd.R_below (by (with_reducible repeat (first | apply Kd.R_alloc | apply Kd.R_drewN | apply Kd.R_drew)); exact HO697.out) hb); have n1_ := Aside0.mk (Kd.S_elder' (by (with_reducible repeat (first | apply Kd.S_alloc | apply Kd.S_drewN | apply Kd.S_drew)); exact HO700.out) (Kd.R_base ho0) hb); have n2_ := Aside0.mk (Kd.R_lower ho0 (below_size (by repeat (first | (with_reducible first | exact HB.out | apply below_alloc | apply pw_below_drewN | apply below_drew1 | refine below_set ?_ (IsS72.ge HI694.out) | refine below_set ?_ GE703.out) | exact HB.out)))); have n3_ := Aside0.mk (IsS72.below (by repeat (first | (with_reducible first | exact HI694.out | apply IsS72.alloc | apply IsS72.drewN | apply IsS72.drew | apply IsS72.set_1 | apply IsS72.set_2 | refine IsS72.far ?_ NB694_703.out _) | exact HI694.out)) hb); have n4_ := Aside0.mk (blk_below (g := gb703) (o := .cells #[.slice Ao20 t695.length co20, .slice Ao23 t698.length co23] 26 (0, 0)) (by (with_reducible repeat (first | refine blk_drewN ?_ _ | refine blk_drew ?_ | refine blk_alloc ?_ _)); exact BK703.out) hb); have n5_ := Aside0.mk (below_step (by repeat (first | (with_reducible first | exact HB.out | apply below_alloc | apply pw_below_drewN | apply below_drew1 | refine below_set ?_ (IsS72.ge HI694.out) | refine below_set ?_ GE703.out) | exact HB.out)) hb); clear HO697; clear HO700; clear HI694; clear BK703; clear HB; have HO697 := n0_; have HO700 := n1_; have HO710 := n2_; have HI694 := n3_; have BK703 := n4_; have HB := n5_; clear n0_ n1_ n2_ n3_ n4_ n5_; (try clear hb); (try clear hb2); (try clear hk); (try clear hi); (try clear ho0)))
    (try simp only [Act.put, List.setIfInBounds_toArray, List.set_cons_zero, List.set_cons_succ])
    go_cut [53] (fun v53 wc => ∃ (kq : Nat) (x53_15 : Bool), v53 = .bool x53_15 ∧ Aside0 (wayzgooselaw04_TradeFound.j0 kq t705 t708 x53_15 t695 t698 = some r) ∧ Aside0 (kq ≤ k) ∧ Aside0 (Kd.R (Kd.int .i64) 3 wc w.heap.size (fun _ => True) v709 t708) ∧ Aside0 (Kd.R k51 51 wc w.heap.size (fun _ => True) (.slice Ao20 t695.length co20) t695) ∧ Aside0 (Kd.S k39 39 wc w.heap.size (fun k_ => some k_ ≠ (v709 : Value).ownBlock) (.slice Ao23 t698.length co23) t698) ∧ Aside0 (wc.heap[gb703]? = some (.cells #[(.slice Ao20 t695.length co20), (.slice Ao23 t698.length co23)] 26 (0, 0))) ∧ Aside0 (Below w.heap.size w wc))
    case first =>
      have H := HC16.out
      clear HC16
      by_cases c27 : t711 = 0
      · rw [if_pos c27] at H
        have c27b0 : (t711 == 0) = true := beq_iff_eq.mpr c27
        have c27b1 : (t711 != 0) = false := bne_eq_false_iff_eq.mpr c27
        clear c27
        (first | rw [c27b0] | (simp only [i64_w, i32_w]; rw [c27b0]) | skip)
        by_cases c28 : (t708.length : Int) = (t698.length : Int)
        · rw [if_pos c28] at H
          have c28b0 : ((t708.length : Int) == (t698.length : Int)) = true := beq_iff_eq.mpr c28
          have c28b1 : ((t708.length : Int) != (t698.length : Int)) = false := bne_eq_false_iff_eq.mpr c28
          have c28b2 : (t708.length == t698.length) = true := by first | simpa using c28 | (simp at c28 ⊢; omega)
          clear c28
          by_cases c29 : 0 ≤ t705
          · rw [if_pos c29] at H
            have c29b0 : decide (0 ≤ t705) = true := decide_eq_true c29
            clear c29
            by_cases c30 : t705 < (t708.length : Int)
            · rw [if_pos c30] at H
              have c30b0 : decide (t705 < (t708.length : Int)) = true := decide_eq_true c30
              clear c30
              have H' := Aside0.mk H
              clear H
              obtain ⟨Ao31, co31, eo31⟩ := Kd.R_slice HO710.out
              subst eo31
              have hnb32 := NB703_694.out
              have hnc32 := NB694_703.out
              have hcz33_0 : w26.cell? ⟨gb703, 0, none⟩ = some (.slice Ao20 t695.length co20) := (blk_cell BK703.out 0).trans rfl
              have hcz33_1 : w26.cell? ⟨gb703, 1, none⟩ = some (.slice Ao23 t698.length co23) := (blk_cell BK703.out 1).trans rfl
              have hfz33_0 := blk_frozen BK703.out 0
              have hfz33_1 := blk_frozen BK703.out 1
              have p712 : 0 ≤ (t705 : Int) := of_decide_eq_true (by first | (with_reducible assumption) | assumption)
              have q712 : t705 < (t708.length : Int) := of_decide_eq_true (by first | (with_reducible assumption) | assumption)
              obtain ⟨ad712, e712, hx712_0⟩ := Kd.at_int (Kd.R_reads' HO710.out).2.2 t705 p712 q712
              cases e712
              replace p712 := eq_true p712
              replace q712 := eq_true q712
              go_wp2
              go_meet
              case rel => exact ⟨_, (((rd t708 t705) != 0)), (by first | rfl | (simp; done) | (simp [*]; done)), H', ⟨by first | omega | exact Nat.le_refl _⟩, ⟨by (with_reducible repeat (first | apply Kd.R_alloc | apply Kd.R_drewN | apply Kd.R_drew)); exact HO710.out⟩, ⟨by (with_reducible repeat (first | apply Kd.R_alloc | apply Kd.R_drewN | apply Kd.R_drew)); exact HO697.out⟩, ⟨by (with_reducible repeat (first | apply Kd.S_alloc | apply Kd.S_drewN | apply Kd.S_drew)); exact Kd.S_mono HO700.out (fun _ hk => hk.2)⟩, ⟨by (with_reducible repeat (first | refine blk_drewN ?_ _ | refine blk_drew ?_ | refine blk_alloc ?_ _)); exact BK703.out⟩, ⟨by repeat (first | (with_reducible first | exact HB.out | apply below_alloc | apply pw_below_drewN | apply below_drew1 | refine below_set ?_ (IsS72.ge HI694.out) | refine below_set ?_ GE703.out) | exact HB.out)⟩⟩
            · rw [if_neg c30] at H
              exact absurd H (by simp)
          · rw [if_neg c29] at H
            exact absurd H (by simp)
        · rw [if_neg c28] at H
          have c28b0 : ((t708.length : Int) == (t698.length : Int)) = false := beq_eq_false_iff_ne.mpr c28
          have c28b1 : ((t708.length : Int) != (t698.length : Int)) = true := bne_iff_ne.mpr c28
          have c28b2 : (t708.length == t698.length) = false := by first | simpa using c28 | (simp at c28 ⊢; omega)
          have H' := Aside0.mk H
          clear H
          obtain ⟨Ao34, co34, eo34⟩ := Kd.R_slice HO710.out
          subst eo34
          have hnb35 := NB703_694.out
          have hnc35 := NB694_703.out
          have hcz36_0 : w26.cell? ⟨gb703, 0, none⟩ = some (.slice Ao20 t695.length co20) := (blk_cell BK703.out 0).trans rfl
          have hcz36_1 : w26.cell? ⟨gb703, 1, none⟩ = some (.slice Ao23 t698.length co23) := (blk_cell BK703.out 1).trans rfl
          have hfz36_0 := blk_frozen BK703.out 0
          have hfz36_1 := blk_frozen BK703.out 1
          go_wp2
          go_meet
          case rel => exact ⟨_, (true), (by first | rfl | (simp; done) | (simp [*]; done)), H', ⟨by first | omega | exact Nat.le_refl _⟩, ⟨by (with_reducible repeat (first | apply Kd.R_alloc | apply Kd.R_drewN | apply Kd.R_drew)); exact HO710.out⟩, ⟨by (with_reducible repeat (first | apply Kd.R_alloc | apply Kd.R_drewN | apply Kd.R_drew)); exact HO697.out⟩, ⟨by (with_reducible repeat (first | apply Kd.S_alloc | apply Kd.S_drewN | apply Kd.S_drew)); exact Kd.S_mono HO700.out (fun _ hk => hk.2)⟩, ⟨by (with_reducible repeat (first | refine blk_drewN ?_ _ | refine blk_drew ?_ | refine blk_alloc ?_ _)); exact BK703.out⟩, ⟨by repeat (first | (with_reducible first | exact HB.out | apply below_alloc | apply pw_below_drewN | apply below_drew1 | refine below_set ?_ (IsS72.ge HI694.out) | refine below_set ?_ GE703.out) | exact HB.out)⟩⟩
      · rw [if_neg c27] at H
        have c27b0 : (t711 == 0) = false := beq_eq_false_iff_ne.mpr c27
        have c27b1 : (t711 != 0) = true := bne_iff_ne.mpr c27
        (first | rw [c27b0] | (simp only [i64_w, i32_w]; rw [c27b0]) | skip)
        have H' := Aside0.mk H
        clear H
        go_wp2
        go_meet
        case rel => exact ⟨_, (true), (by first | rfl | (simp; done) | (simp [*]; done)), H', ⟨by first | omega | exact Nat.le_refl _⟩, ⟨by (with_reducible repeat (first | apply Kd.R_alloc | apply Kd.R_drewN | apply Kd.R_drew)); exact HO710.out⟩, ⟨by (with_reducible repeat (first | apply Kd.R_alloc | apply Kd.R_drewN | apply Kd.R_drew)); exact HO697.out⟩, ⟨by (with_reducible repeat (first | apply Kd.S_alloc | apply Kd.S_drewN | apply Kd.S_drew)); exact Kd.S_mono HO700.out (fun _ hk => hk.2)⟩, ⟨by (with_reducible repeat (first | refine blk_drewN ?_ _ | refine blk_drew ?_ | refine blk_alloc ?_ _)); exact BK703.out⟩, ⟨by repeat (first | (with_reducible first | exact HB.out | apply below_alloc | apply pw_below_drewN | apply below_drew1 | refine below_set ?_ (IsS72.ge HI694.out) | refine below_set ?_ GE703.out) | exact HB.out)⟩⟩
    case rest =>
      clear HC16
      try clear c1
      try clear c2
      try clear p2
      try clear c3
      try clear c4
      try clear c4b0
      try clear c4b1
      try clear c4b2
      try clear p6
      try clear p7
      try clear q7
      try clear hx7
      try clear c10
      try clear c11
      try clear c13
      try clear c14
      try clear c17
      try clear c21
      try clear c27
      try clear c27b0
      try clear c27b1
      try clear c28
      try clear c28b0
      try clear c28b1
      try clear c28b2
      try clear c29
      try clear c29b0
      try clear c30
      try clear c30b0
      try clear c32
      try clear c33
      try clear c35
      try clear hcz11_0
      try clear hcz11_1
      try clear hcz22_0
      try clear hcz22_1
      try clear hcz25_0
      try clear hcz25_1
      try clear hcz33_0
      try clear hcz33_1
      try clear hcz36_0
      try clear hcz36_1
      try clear hfz11_0
      try clear hfz11_1
      try clear hfz22_0
      try clear hfz22_1
      try clear hfz25_0
      try clear hfz25_1
      try clear hfz33_0
      try clear hfz33_1
      try clear hfz36_0
      try clear hfz36_1
      try clear hx712_0
      try clear p712
      try clear q712
      obtain ⟨kq, x53_15, rfl, HA, HJ15, HO_6, HO_704000, HO_704001, BK703, HB⟩ := hcut
      cases kq with
      | zero => exact absurd HA.out (by simp [wayzgooselaw04_TradeFound.j0])
      | succ kj15 =>
        have H := HA.out
        clear HA
        simp only [wayzgooselaw04_TradeFound.j0] at H
        by_cases c37 : x53_15 = true
        · subst c37
          have H1 : (some false) = some r := by rw [if_pos rfl] at H; exact H
          clear H
          have H := H1
          clear H1
          obtain rfl := Option.some.inj H
          go_wp2
          go_ret
          exact ⟨by first | rfl | (simp [errW_none, errW_some] <;> rfl) | (simp [*, errW_none, errW_some] <;> rfl), by repeat (first | (with_reducible first | exact HB.out | apply below_alloc | apply pw_below_drewN | apply below_drew1 | refine below_set ?_ GE703.out) | exact HB.out)⟩
        · replace c37 := Bool.eq_false_iff.mpr c37
          subst c37
          have H1 : (wayzgooselaw04_TradeFound.l0 kj15 t705 t708 0 t695 t698) = some r := by rw [if_neg (show ¬ (false = true) by decide)] at H; exact H
          clear H
          have H := H1
          clear H1
          have H' := Aside0.mk H
          clear H
          go_wp2
          go_loopg [8] kj15 (fun kq v8 w' => ∃ (x8_2 : Int), v8 = .int .i64 x8_2 ∧ Aside0 (wayzgooselaw04_TradeFound.l0 kq t705 t708 x8_2 t695 t698 = some r) ∧ Aside0 (kq ≤ kj15) ∧ Aside0 (Kd.R (Kd.int .i64) 3 w' w.heap.size (fun _ => True) v709 t708) ∧ Aside0 (Kd.R k51 51 w' w.heap.size (fun _ => True) (.slice Ao20 t695.length co20) t695) ∧ Aside0 (Kd.S k39 39 w' w.heap.size (fun k_ => some k_ ≠ (v709 : Value).ownBlock) (.slice Ao23 t698.length co23) t698) ∧ Aside0 (w'.heap[gb703]? = some (.cells #[(.slice Ao20 t695.length co20), (.slice Ao23 t698.length co23)] 26 (0, 0))) ∧ Aside0 (Below w.heap.size w w'))
          case atStart => exact ⟨(0), (by first | rfl | (simp; done) | (simp [*]; done)), H', ⟨Nat.le_refl _⟩, ⟨by (with_reducible repeat (first | apply Kd.R_alloc | apply Kd.R_drewN | apply Kd.R_drew)); exact HO_6.out⟩, ⟨by (with_reducible repeat (first | apply Kd.R_alloc | apply Kd.R_drewN | apply Kd.R_drew)); exact HO_704000.out⟩, ⟨by (with_reducible repeat (first | apply Kd.S_alloc | apply Kd.S_drewN | apply Kd.S_drew)); exact HO_704001.out⟩, ⟨by (with_reducible repeat (first | refine blk_drewN ?_ _ | refine blk_drew ?_ | refine blk_alloc ?_ _)); exact BK703.out⟩, ⟨by repeat (first | (with_reducible first | exact HB.out | apply below_alloc | apply pw_below_drewN | apply below_drew1 | refine below_set ?_ GE703.out) | exact HB.out)⟩⟩
          case round =>
            clear H'
            try clear c1
            try clear c2
            try clear p2
            try clear c3
            try clear c4
            try clear c4b0
            try clear c4b1
            try clear c4b2
            try clear p6
            try clear p7
            try clear q7
            try clear hx7
            try clear c10
            try clear c11
            try clear c13
            try clear c14
            try clear c17
            try clear c21
            try clear c27
            try clear c27b0
            try clear c27b1
            try clear c28
            try clear c28b0
            try clear c28b1
            try clear c28b2
            try clear c29
            try clear c29b0
            try clear c30
            try clear c30b0
            try clear c32
            try clear c33
            try clear c35
            try clear c37
            try clear hcz11_0
            try clear hcz11_1
            try clear hcz22_0
            try clear hcz22_1
            try clear hcz25_0
            try clear hcz25_1
            try clear hcz33_0
            try clear hcz33_1
            try clear hcz36_0
            try clear hcz36_1
            try clear hfz11_0
            try clear hfz11_1
            try clear hfz22_0
            try clear hfz22_1
            try clear hfz25_0
            try clear hfz25_1
            try clear hfz33_0
            try clear hfz33_1
            try clear hfz36_0
            try clear hfz36_1
            try clear hx712_0
            try clear p2
            try clear p6
            try clear p7
            try clear p712
            try clear q7
            try clear q712
            obtain ⟨x8_2, rfl, HA, HK2, HO_6, HO_704000, HO_704001, BK703, HB⟩ := hrel
            cases gk with
            | zero => exact absurd HA.out (by simp [wayzgooselaw04_TradeFound.l0])
            | succ k2 =>
              have H := HA.out
              clear HA
              simp only [wayzgooselaw04_TradeFound.l0] at H
              by_cases c38 : x8_2 < (t708.length : Int)
              · rw [if_pos c38] at H
                have c38b0 : decide (x8_2 < (t708.length : Int)) = true := decide_eq_true c38
                clear c38
                have H' := Aside0.mk H
                clear H
                obtain ⟨Ao39, co39, eo39⟩ := Kd.R_slice HO_6.out
                subst eo39
                go_wp2
                go_loopg [9, 10] k2 (fun kq v9 v10 w' => ∃ (x9_3 : Int) (x10_3 : Int), v9 = .int .i64 x9_3 ∧ v10 = .int .i64 x10_3 ∧ Aside0 (wayzgooselaw04_TradeFound.l1 kq t705 t708 x8_2 x9_3 x10_3 t695 t698 = some r) ∧ Aside0 (kq ≤ k2) ∧ Aside0 (Kd.R (Kd.int .i64) 3 w' w.heap.size (fun _ => True) (.slice Ao39 t708.length co39) t708) ∧ Aside0 (Kd.R k51 51 w' w.heap.size (fun _ => True) (.slice Ao20 t695.length co20) t695) ∧ Aside0 (Kd.S k39 39 w' w.heap.size (fun k_ => some k_ ≠ ((.slice Ao39 t708.length co39) : Value).ownBlock) (.slice Ao23 t698.length co23) t698) ∧ Aside0 (w'.heap[gb703]? = some (.cells #[(.slice Ao20 t695.length co20), (.slice Ao23 t698.length co23)] 26 (0, 0))) ∧ Aside0 (Below w.heap.size w w'))
                case atStart => exact ⟨((-1)), (0), (by first | rfl | (simp; done) | (simp [*]; done)), (by first | rfl | (simp; done) | (simp [*]; done)), H', ⟨Nat.le_refl _⟩, ⟨by (with_reducible repeat (first | apply Kd.R_alloc | apply Kd.R_drewN | apply Kd.R_drew)); exact HO_6.out⟩, ⟨by (with_reducible repeat (first | apply Kd.R_alloc | apply Kd.R_drewN | apply Kd.R_drew)); exact HO_704000.out⟩, ⟨by (with_reducible repeat (first | apply Kd.S_alloc | apply Kd.S_drewN | apply Kd.S_drew)); exact HO_704001.out⟩, ⟨by (with_reducible repeat (first | refine blk_drewN ?_ _ | refine blk_drew ?_ | refine blk_alloc ?_ _)); exact BK703.out⟩, ⟨by repeat (first | (with_reducible first | exact HB.out | apply below_alloc | apply pw_below_drewN | apply below_drew1 | refine below_set ?_ GE703.out) | exact HB.out)⟩⟩
                case round =>
                  clear H'
                  try clear c1
                  try clear c2
                  try clear p2
                  try clear c3
                  try clear c4
                  try clear c4b0
                  try clear c4b1
                  try clear c4b2
                  try clear p6
                  try clear p7
                  try clear q7
                  try clear hx7
                  try clear c10
                  try clear c11
                  try clear c13
                  try clear c14
                  try clear c17
                  try clear c21
                  try clear c27
                  try clear c27b0
                  try clear c27b1
                  try clear c28
                  try clear c28b0
                  try clear c28b1
                  try clear c28b2
                  try clear c29
                  try clear c29b0
                  try clear c30
                  try clear c30b0
                  try clear c32
                  try clear c33
                  try clear c35
                  try clear c37
                  try clear c38
                  try clear c38b0
                  try clear hcz11_0
                  try clear hcz11_1
                  try clear hcz22_0
                  try clear hcz22_1
                  try clear hcz25_0
                  try clear hcz25_1
                  try clear hcz33_0
                  try clear hcz33_1
                  try clear hcz36_0
                  try clear hcz36_1
                  try clear hfz11_0
                  try clear hfz11_1
                  try clear hfz22_0
                  try clear hfz22_1
                  try clear hfz25_0
                  try clear hfz25_1
                  try clear hfz33_0
                  try clear hfz33_1
                  try clear hfz36_0
                  try clear hfz36_1
                  try clear hx712_0
                  try clear p2
                  try clear p6
                  try clear p7
                  try clear p712
                  try clear q7
                  try clear q712
                  obtain ⟨x9_3, x10_3, rfl, rfl, HA, HK3, HO_6, HO_704000, HO_704001, BK703, HB⟩ := hrel
                  cases gk with
                  | zero => exact absurd HA.out (by simp [wayzgooselaw04_TradeFound.l1])
                  | succ k3 =>
                    have H := HA.out
                    clear HA
                    simp only [wayzgooselaw04_TradeFound.l1] at H
                    by_cases c40 : x10_3 < (t708.length : Int)
                    · rw [if_pos c40] at H
                      have c40b0 : decide (x10_3 < (t708.length : Int)) = true := decide_eq_true c40
                      clear c40
                      replace H := Option.bind_eq_some_iff.mp H
                      obtain ⟨t713, A410, H⟩ := H
                      replace H : (if t713 = true then (if 0 ≤ x10_3 then (if (rd t708 x10_3) ≥ 0 then (if x9_3 < 0 then (wayzgooselaw04_TradeFound.l1 k3 t705 t708 x8_2 (wrap64 ((rd t708 x10_3) + 1)) (wrap64 (x10_3 + 1)) t695 t698) else (if (wrap64 ((rd t708 x10_3) + 1)) < x9_3 then (wayzgooselaw04_TradeFound.l1 k3 t705 t708 x8_2 (wrap64 ((rd t708 x10_3) + 1)) (wrap64 (x10_3 + 1)) t695 t698) else (wayzgooselaw04_TradeFound.l1 k3 t705 t708 x8_2 x9_3 (wrap64 (x10_3 + 1)) t695 t698))) else (wayzgooselaw04_TradeFound.l1 k3 t705 t708 x8_2 x9_3 (wrap64 (x10_3 + 1)) t695 t698)) else (none)) else (wayzgooselaw04_TradeFound.l1 k3 t705 t708 x8_2 x9_3 (wrap64 (x10_3 + 1)) t695 t698)) = some r := H
                      have A41 := Aside0.mk A410
                      clear A410
                      by_cases c42 : t713 = true
                      · subst c42
                        have H1 : (if 0 ≤ x10_3 then (if (rd t708 x10_3) ≥ 0 then (if x9_3 < 0 then (wayzgooselaw04_TradeFound.l1 k3 t705 t708 x8_2 (wrap64 ((rd t708 x10_3) + 1)) (wrap64 (x10_3 + 1)) t695 t698) else (if (wrap64 ((rd t708 x10_3) + 1)) < x9_3 then (wayzgooselaw04_TradeFound.l1 k3 t705 t708 x8_2 (wrap64 ((rd t708 x10_3) + 1)) (wrap64 (x10_3 + 1)) t695 t698) else (wayzgooselaw04_TradeFound.l1 k3 t705 t708 x8_2 x9_3 (wrap64 (x10_3 + 1)) t695 t698))) else (wayzgooselaw04_TradeFound.l1 k3 t705 t708 x8_2 x9_3 (wrap64 (x10_3 + 1)) t695 t698)) else (none)) = some r := by rw [if_pos rfl] at H; exact H
                        clear H
                        have H := H1
                        clear H1
                        by_cases c43 : 0 ≤ x10_3
                        · rw [if_pos c43] at H
                          have c43b0 : decide (0 ≤ x10_3) = true := decide_eq_true c43
                          clear c43
                          by_cases c44 : (rd t708 x10_3) ≥ 0
                          · rw [if_pos c44] at H
                            have c44b0 : decide (0 ≤ (rd t708 x10_3)) = true := decide_eq_true c44
                            clear c44
                            by_cases c45 : x9_3 < 0
                            · rw [if_pos c45] at H
                              have c45b0 : decide (x9_3 < 0) = true := decide_eq_true c45
                              clear c45
                              have H' := Aside0.mk H
                              clear H
                              have hcz46_0 : wr.cell? ⟨gb703, 0, none⟩ = some (.slice Ao20 t695.length co20) := (blk_cell BK703.out 0).trans rfl
                              have hcz46_1 : wr.cell? ⟨gb703, 1, none⟩ = some (.slice Ao23 t698.length co23) := (blk_cell BK703.out 1).trans rfl
                              have hfz46_0 := blk_frozen BK703.out 0
                              have hfz46_1 := blk_frozen BK703.out 1
                              go_wp2_with (first | ((with_reducible refine gate_callee (f := 31) rfl ?_); refine goesL_ (some 69) rfl rfl Try.func31 (by kernel_rfl) rfl #[.agg #[.slice Ao20 t695.length co20, .slice Ao23 t698.length co23], .int .i64 x10_3, .int .i64 x8_2] rfl (by (try simp only [List.map_toArray, List.map_cons, List.map_nil]); first | done | rfl | (simp only [List.length_drop, List.length_take]; rfl)) ?_; (with_reducible refine (wayzgooselaw04_leads.calls k3 _ _ t695 _ _ t698 x10_3 x8_2 true _ ?side1 ?side2 ?side3 ?side4 A41.out).mono ?_); (case side1 => repeat (first | exact (Kd.R_reads' HO_704000.out).2.2 | (with_reducible refine Kd.C_alloc ?_ _) | (with_reducible refine Kd.C_drewN ?_ _) | (with_reducible refine Kd.C_drew ?_))); (case side2 => exact (Kd.R_reads' HO_704000.out).2.1); (case side3 => repeat (first | exact (Kd.S_reads' HO_704001.out).2.2 | (with_reducible refine Kd.C_alloc ?_ _) | (with_reducible refine Kd.C_drewN ?_ _) | (with_reducible refine Kd.C_drew ?_))); (case side4 => exact (Kd.S_reads' HO_704001.out).2.1); rintro e w47 ⟨rfl, hb⟩; refine ⟨_, rfl, ?_⟩; have n0_ := Aside0.mk (Kd.R_below (by (with_reducible repeat (first | apply Kd.R_alloc | apply Kd.R_drewN | apply Kd.R_drew)); exact HO_6.out) hb); have n1_ := Aside0.mk (Kd.R_below (by (with_reducible repeat (first | apply Kd.R_alloc | apply Kd.R_drewN | apply Kd.R_drew)); exact HO_704000.out) hb); have n2_ := Aside0.mk (Kd.S_below (by (with_reducible repeat (first | apply Kd.S_alloc | apply Kd.S_drewN | apply Kd.S_drew)); exact HO_704001.out) hb); have n3_ := Aside0.mk (blk_below (g := gb703) (o := .cells #[.slice Ao20 t695.length co20, .slice Ao23 t698.length co23] 26 (0, 0)) (by (with_reducible repeat (first | refine blk_drewN ?_ _ | refine blk_drew ?_ | refine blk_alloc ?_ _)); exact BK703.out) hb); have n4_ := Aside0.mk (below_step (by repeat (first | (with_reducible first | exact HB.out | apply below_alloc | apply pw_below_drewN | apply below_drew1 | refine below_set ?_ GE703.out) | exact HB.out)) hb); clear HO_6; clear HO_704000; clear HO_704001; clear BK703; clear HB; have HO_6 := n0_; have HO_704000 := n1_; have HO_704001 := n2_; have BK703 := n3_; have HB := n4_; clear n0_ n1_ n2_ n3_ n4_; (try clear hb); (try clear hb2); (try clear hk); (try clear hi); have p714 : 0 ≤ (x10_3 : Int) := of_decide_eq_true (by first | (with_reducible assumption) | assumption); have q714 : x10_3 < (t708.length : Int) := of_decide_eq_true (by first | (with_reducible assumption) | assumption); obtain ⟨ad714, e714, hx714_0⟩ := Kd.at_int (Kd.R_reads' HO_6.out).2.2 x10_3 p714 q714; cases e714; replace p714 := eq_true p714; replace q714 := eq_true q714; have p715 : 0 ≤ (x10_3 : Int) := of_decide_eq_true (by first | (with_reducible assumption) | assumption); have q715 : x10_3 < (t708.length : Int) := of_decide_eq_true (by first | (with_reducible assumption) | assumption); obtain ⟨ad715, e715, hx715_0⟩ := Kd.at_int (Kd.R_reads' HO_6.out).2.2 x10_3 p715 q715; obtain rfl : ad714 = ad715 := (by injection e715); replace p715 := eq_true p715; replace q715 := eq_true q715))
                              go_roundg k3
                              case measure => have := HJ15.out; have := HK2.out; have := HK3.out; omega
                              case rel => exact ⟨(wrap64 ((rd t708 x10_3) + 1)), (wrap64 (x10_3 + 1)), (by first | rfl | (simp; done) | (simp [*]; done)), (by first | rfl | (simp; done) | (simp [*]; done)), H', ⟨by have := HJ15.out; have := HK2.out; have := HK3.out; omega⟩, ⟨by (with_reducible repeat (first | apply Kd.R_alloc | apply Kd.R_drewN | apply Kd.R_drew)); exact HO_6.out⟩, ⟨by (with_reducible repeat (first | apply Kd.R_alloc | apply Kd.R_drewN | apply Kd.R_drew)); exact HO_704000.out⟩, ⟨by (with_reducible repeat (first | apply Kd.S_alloc | apply Kd.S_drewN | apply Kd.S_drew)); exact HO_704001.out⟩, ⟨by (with_reducible repeat (first | refine blk_drewN ?_ _ | refine blk_drew ?_ | refine blk_alloc ?_ _)); exact BK703.out⟩, ⟨by repeat (first | (with_reducible first | exact HB.out | apply below_alloc | apply pw_below_drewN | apply below_drew1 | refine below_set ?_ GE703.out) | exact HB.out)⟩⟩
                            · rw [if_neg c45] at H
                              have c45b0 : decide (x9_3 < 0) = false := decide_eq_false c45
                              clear c45
                              by_cases c48 : (wrap64 ((rd t708 x10_3) + 1)) < x9_3
                              · rw [if_pos c48] at H
                                have c48b0 : decide ((wrap64 ((rd t708 x10_3) + 1)) < x9_3) = true := decide_eq_true c48
                                clear c48
                                have H' := Aside0.mk H
                                clear H
                                have hcz49_0 : wr.cell? ⟨gb703, 0, none⟩ = some (.slice Ao20 t695.length co20) := (blk_cell BK703.out 0).trans rfl
                                have hcz49_1 : wr.cell? ⟨gb703, 1, none⟩ = some (.slice Ao23 t698.length co23) := (blk_cell BK703.out 1).trans rfl
                                have hfz49_0 := blk_frozen BK703.out 0
                                have hfz49_1 := blk_frozen BK703.out 1
                                go_wp2_with (first | ((with_reducible refine gate_callee (f := 31) rfl ?_); refine goesL_ (some 69) rfl rfl Try.func31 (by kernel_rfl) rfl #[.agg #[.slice Ao20 t695.length co20, .slice Ao23 t698.length co23], .int .i64 x10_3, .int .i64 x8_2] rfl (by (try simp only [List.map_toArray, List.map_cons, List.map_nil]); first | done | rfl | (simp only [List.length_drop, List.length_take]; rfl)) ?_; (with_reducible refine (wayzgooselaw04_leads.calls k3 _ _ t695 _ _ t698 x10_3 x8_2 true _ ?side1 ?side2 ?side3 ?side4 A41.out).mono ?_); (case side1 => repeat (first | exact (Kd.R_reads' HO_704000.out).2.2 | (with_reducible refine Kd.C_alloc ?_ _) | (with_reducible refine Kd.C_drewN ?_ _) | (with_reducible refine Kd.C_drew ?_))); (case side2 => exact (Kd.R_reads' HO_704000.out).2.1); (case side3 => repeat (first | exact (Kd.S_reads' HO_704001.out).2.2 | (with_reducible refine Kd.C_alloc ?_ _) | (with_reducible refine Kd.C_drewN ?_ _) | (with_reducible refine Kd.C_drew ?_))); (case side4 => exact (Kd.S_reads' HO_704001.out).2.1); rintro e w50 ⟨rfl, hb⟩; refine ⟨_, rfl, ?_⟩; have n0_ := Aside0.mk (Kd.R_below (by (with_reducible repeat (first | apply Kd.R_alloc | apply Kd.R_drewN | apply Kd.R_drew)); exact HO_6.out) hb); have n1_ := Aside0.mk (Kd.R_below (by (with_reducible repeat (first | apply Kd.R_alloc | apply Kd.R_drewN | apply Kd.R_drew)); exact HO_704000.out) hb); have n2_ := Aside0.mk (Kd.S_below (by (with_reducible repeat (first | apply Kd.S_alloc | apply Kd.S_drewN | apply Kd.S_drew)); exact HO_704001.out) hb); have n3_ := Aside0.mk (blk_below (g := gb703) (o := .cells #[.slice Ao20 t695.length co20, .slice Ao23 t698.length co23] 26 (0, 0)) (by (with_reducible repeat (first | refine blk_drewN ?_ _ | refine blk_drew ?_ | refine blk_alloc ?_ _)); exact BK703.out) hb); have n4_ := Aside0.mk (below_step (by repeat (first | (with_reducible first | exact HB.out | apply below_alloc | apply pw_below_drewN | apply below_drew1 | refine below_set ?_ GE703.out) | exact HB.out)) hb); clear HO_6; clear HO_704000; clear HO_704001; clear BK703; clear HB; have HO_6 := n0_; have HO_704000 := n1_; have HO_704001 := n2_; have BK703 := n3_; have HB := n4_; clear n0_ n1_ n2_ n3_ n4_; (try clear hb); (try clear hb2); (try clear hk); (try clear hi); have p714 : 0 ≤ (x10_3 : Int) := of_decide_eq_true (by first | (with_reducible assumption) | assumption); have q714 : x10_3 < (t708.length : Int) := of_decide_eq_true (by first | (with_reducible assumption) | assumption); obtain ⟨ad714, e714, hx714_0⟩ := Kd.at_int (Kd.R_reads' HO_6.out).2.2 x10_3 p714 q714; cases e714; replace p714 := eq_true p714; replace q714 := eq_true q714; have p716 : 0 ≤ (x10_3 : Int) := of_decide_eq_true (by first | (with_reducible assumption) | assumption); have q716 : x10_3 < (t708.length : Int) := of_decide_eq_true (by first | (with_reducible assumption) | assumption); obtain ⟨ad716, e716, hx716_0⟩ := Kd.at_int (Kd.R_reads' HO_6.out).2.2 x10_3 p716 q716; obtain rfl : ad714 = ad716 := (by injection e716); replace p716 := eq_true p716; replace q716 := eq_true q716; have p717 : 0 ≤ (x10_3 : Int) := of_decide_eq_true (by first | (with_reducible assumption) | assumption); have q717 : x10_3 < (t708.length : Int) := of_decide_eq_true (by first | (with_reducible assumption) | assumption); obtain ⟨ad717, e717, hx717_0⟩ := Kd.at_int (Kd.R_reads' HO_6.out).2.2 x10_3 p717 q717; obtain rfl : ad714 = ad717 := (by injection e717); replace p717 := eq_true p717; replace q717 := eq_true q717))
                                go_roundg k3
                                case measure => have := HJ15.out; have := HK2.out; have := HK3.out; omega
                                case rel => exact ⟨(wrap64 ((rd t708 x10_3) + 1)), (wrap64 (x10_3 + 1)), (by first | rfl | (simp; done) | (simp [*]; done)), (by first | rfl | (simp; done) | (simp [*]; done)), H', ⟨by have := HJ15.out; have := HK2.out; have := HK3.out; omega⟩, ⟨by (with_reducible repeat (first | apply Kd.R_alloc | apply Kd.R_drewN | apply Kd.R_drew)); exact HO_6.out⟩, ⟨by (with_reducible repeat (first | apply Kd.R_alloc | apply Kd.R_drewN | apply Kd.R_drew)); exact HO_704000.out⟩, ⟨by (with_reducible repeat (first | apply Kd.S_alloc | apply Kd.S_drewN | apply Kd.S_drew)); exact HO_704001.out⟩, ⟨by (with_reducible repeat (first | refine blk_drewN ?_ _ | refine blk_drew ?_ | refine blk_alloc ?_ _)); exact BK703.out⟩, ⟨by repeat (first | (with_reducible first | exact HB.out | apply below_alloc | apply pw_below_drewN | apply below_drew1 | refine below_set ?_ GE703.out) | exact HB.out)⟩⟩
                              · rw [if_neg c48] at H
                                have c48b0 : decide ((wrap64 ((rd t708 x10_3) + 1)) < x9_3) = false := decide_eq_false c48
                                clear c48
                                have H' := Aside0.mk H
                                clear H
                                have hcz51_0 : wr.cell? ⟨gb703, 0, none⟩ = some (.slice Ao20 t695.length co20) := (blk_cell BK703.out 0).trans rfl
                                have hcz51_1 : wr.cell? ⟨gb703, 1, none⟩ = some (.slice Ao23 t698.length co23) := (blk_cell BK703.out 1).trans rfl
                                have hfz51_0 := blk_frozen BK703.out 0
                                have hfz51_1 := blk_frozen BK703.out 1
                                go_wp2_with (first | ((with_reducible refine gate_callee (f := 31) rfl ?_); refine goesL_ (some 69) rfl rfl Try.func31 (by kernel_rfl) rfl #[.agg #[.slice Ao20 t695.length co20, .slice Ao23 t698.length co23], .int .i64 x10_3, .int .i64 x8_2] rfl (by (try simp only [List.map_toArray, List.map_cons, List.map_nil]); first | done | rfl | (simp only [List.length_drop, List.length_take]; rfl)) ?_; (with_reducible refine (wayzgooselaw04_leads.calls k3 _ _ t695 _ _ t698 x10_3 x8_2 true _ ?side1 ?side2 ?side3 ?side4 A41.out).mono ?_); (case side1 => repeat (first | exact (Kd.R_reads' HO_704000.out).2.2 | (with_reducible refine Kd.C_alloc ?_ _) | (with_reducible refine Kd.C_drewN ?_ _) | (with_reducible refine Kd.C_drew ?_))); (case side2 => exact (Kd.R_reads' HO_704000.out).2.1); (case side3 => repeat (first | exact (Kd.S_reads' HO_704001.out).2.2 | (with_reducible refine Kd.C_alloc ?_ _) | (with_reducible refine Kd.C_drewN ?_ _) | (with_reducible refine Kd.C_drew ?_))); (case side4 => exact (Kd.S_reads' HO_704001.out).2.1); rintro e w52 ⟨rfl, hb⟩; refine ⟨_, rfl, ?_⟩; have n0_ := Aside0.mk (Kd.R_below (by (with_reducible repeat (first | apply Kd.R_alloc | apply Kd.R_drewN | apply Kd.R_drew)); exact HO_6.out) hb); have n1_ := Aside0.mk (Kd.R_below (by (with_reducible repeat (first | apply Kd.R_alloc | apply Kd.R_drewN | apply Kd.R_drew)); exact HO_704000.out) hb); have n2_ := Aside0.mk (Kd.S_below (by (with_reducible repeat (first | apply Kd.S_alloc | apply Kd.S_drewN | apply Kd.S_drew)); exact HO_704001.out) hb); have n3_ := Aside0.mk (blk_below (g := gb703) (o := .cells #[.slice Ao20 t695.length co20, .slice Ao23 t698.length co23] 26 (0, 0)) (by (with_reducible repeat (first | refine blk_drewN ?_ _ | refine blk_drew ?_ | refine blk_alloc ?_ _)); exact BK703.out) hb); have n4_ := Aside0.mk (below_step (by repeat (first | (with_reducible first | exact HB.out | apply below_alloc | apply pw_below_drewN | apply below_drew1 | refine below_set ?_ GE703.out) | exact HB.out)) hb); clear HO_6; clear HO_704000; clear HO_704001; clear BK703; clear HB; have HO_6 := n0_; have HO_704000 := n1_; have HO_704001 := n2_; have BK703 := n3_; have HB := n4_; clear n0_ n1_ n2_ n3_ n4_; (try clear hb); (try clear hb2); (try clear hk); (try clear hi); have p714 : 0 ≤ (x10_3 : Int) := of_decide_eq_true (by first | (with_reducible assumption) | assumption); have q714 : x10_3 < (t708.length : Int) := of_decide_eq_true (by first | (with_reducible assumption) | assumption); obtain ⟨ad714, e714, hx714_0⟩ := Kd.at_int (Kd.R_reads' HO_6.out).2.2 x10_3 p714 q714; cases e714; replace p714 := eq_true p714; replace q714 := eq_true q714; have p716 : 0 ≤ (x10_3 : Int) := of_decide_eq_true (by first | (with_reducible assumption) | assumption); have q716 : x10_3 < (t708.length : Int) := of_decide_eq_true (by first | (with_reducible assumption) | assumption); obtain ⟨ad716, e716, hx716_0⟩ := Kd.at_int (Kd.R_reads' HO_6.out).2.2 x10_3 p716 q716; obtain rfl : ad714 = ad716 := (by injection e716); replace p716 := eq_true p716; replace q716 := eq_true q716))
                                go_roundg k3
                                case measure => have := HJ15.out; have := HK2.out; have := HK3.out; omega
                                case rel => exact ⟨(x9_3), (wrap64 (x10_3 + 1)), (by first | rfl | (simp; done) | (simp [*]; done)), (by first | rfl | (simp; done) | (simp [*]; done)), H', ⟨by have := HJ15.out; have := HK2.out; have := HK3.out; omega⟩, ⟨by (with_reducible repeat (first | apply Kd.R_alloc | apply Kd.R_drewN | apply Kd.R_drew)); exact HO_6.out⟩, ⟨by (with_reducible repeat (first | apply Kd.R_alloc | apply Kd.R_drewN | apply Kd.R_drew)); exact HO_704000.out⟩, ⟨by (with_reducible repeat (first | apply Kd.S_alloc | apply Kd.S_drewN | apply Kd.S_drew)); exact HO_704001.out⟩, ⟨by (with_reducible repeat (first | refine blk_drewN ?_ _ | refine blk_drew ?_ | refine blk_alloc ?_ _)); exact BK703.out⟩, ⟨by repeat (first | (with_reducible first | exact HB.out | apply below_alloc | apply pw_below_drewN | apply below_drew1 | refine below_set ?_ GE703.out) | exact HB.out)⟩⟩
                          · rw [if_neg c44] at H
                            have c44b0 : decide (0 ≤ (rd t708 x10_3)) = false := decide_eq_false c44
                            clear c44
                            have H' := Aside0.mk H
                            clear H
                            have hcz53_0 : wr.cell? ⟨gb703, 0, none⟩ = some (.slice Ao20 t695.length co20) := (blk_cell BK703.out 0).trans rfl
                            have hcz53_1 : wr.cell? ⟨gb703, 1, none⟩ = some (.slice Ao23 t698.length co23) := (blk_cell BK703.out 1).trans rfl
                            have hfz53_0 := blk_frozen BK703.out 0
                            have hfz53_1 := blk_frozen BK703.out 1
                            go_wp2_with (first | ((with_reducible refine gate_callee (f := 31) rfl ?_); refine goesL_ (some 69) rfl rfl Try.func31 (by kernel_rfl) rfl #[.agg #[.slice Ao20 t695.length co20, .slice Ao23 t698.length co23], .int .i64 x10_3, .int .i64 x8_2] rfl (by (try simp only [List.map_toArray, List.map_cons, List.map_nil]); first | done | rfl | (simp only [List.length_drop, List.length_take]; rfl)) ?_; (with_reducible refine (wayzgooselaw04_leads.calls k3 _ _ t695 _ _ t698 x10_3 x8_2 true _ ?side1 ?side2 ?side3 ?side4 A41.out).mono ?_); (case side1 => repeat (first | exact (Kd.R_reads' HO_704000.out).2.2 | (with_reducible refine Kd.C_alloc ?_ _) | (with_reducible refine Kd.C_drewN ?_ _) | (with_reducible refine Kd.C_drew ?_))); (case side2 => exact (Kd.R_reads' HO_704000.out).2.1); (case side3 => repeat (first | exact (Kd.S_reads' HO_704001.out).2.2 | (with_reducible refine Kd.C_alloc ?_ _) | (with_reducible refine Kd.C_drewN ?_ _) | (with_reducible refine Kd.C_drew ?_))); (case side4 => exact (Kd.S_reads' HO_704001.out).2.1); rintro e w54 ⟨rfl, hb⟩; refine ⟨_, rfl, ?_⟩; have n0_ := Aside0.mk (Kd.R_below (by (with_reducible repeat (first | apply Kd.R_alloc | apply Kd.R_drewN | apply Kd.R_drew)); exact HO_6.out) hb); have n1_ := Aside0.mk (Kd.R_below (by (with_reducible repeat (first | apply Kd.R_alloc | apply Kd.R_drewN | apply Kd.R_drew)); exact HO_704000.out) hb); have n2_ := Aside0.mk (Kd.S_below (by (with_reducible repeat (first | apply Kd.S_alloc | apply Kd.S_drewN | apply Kd.S_drew)); exact HO_704001.out) hb); have n3_ := Aside0.mk (blk_below (g := gb703) (o := .cells #[.slice Ao20 t695.length co20, .slice Ao23 t698.length co23] 26 (0, 0)) (by (with_reducible repeat (first | refine blk_drewN ?_ _ | refine blk_drew ?_ | refine blk_alloc ?_ _)); exact BK703.out) hb); have n4_ := Aside0.mk (below_step (by repeat (first | (with_reducible first | exact HB.out | apply below_alloc | apply pw_below_drewN | apply below_drew1 | refine below_set ?_ GE703.out) | exact HB.out)) hb); clear HO_6; clear HO_704000; clear HO_704001; clear BK703; clear HB; have HO_6 := n0_; have HO_704000 := n1_; have HO_704001 := n2_; have BK703 := n3_; have HB := n4_; clear n0_ n1_ n2_ n3_ n4_; (try clear hb); (try clear hb2); (try clear hk); (try clear hi); have p714 : 0 ≤ (x10_3 : Int) := of_decide_eq_true (by first | (with_reducible assumption) | assumption); have q714 : x10_3 < (t708.length : Int) := of_decide_eq_true (by first | (with_reducible assumption) | assumption); obtain ⟨ad714, e714, hx714_0⟩ := Kd.at_int (Kd.R_reads' HO_6.out).2.2 x10_3 p714 q714; cases e714; replace p714 := eq_true p714; replace q714 := eq_true q714))
                            go_roundg k3
                            case measure => have := HJ15.out; have := HK2.out; have := HK3.out; omega
                            case rel => exact ⟨(x9_3), (wrap64 (x10_3 + 1)), (by first | rfl | (simp; done) | (simp [*]; done)), (by first | rfl | (simp; done) | (simp [*]; done)), H', ⟨by have := HJ15.out; have := HK2.out; have := HK3.out; omega⟩, ⟨by (with_reducible repeat (first | apply Kd.R_alloc | apply Kd.R_drewN | apply Kd.R_drew)); exact HO_6.out⟩, ⟨by (with_reducible repeat (first | apply Kd.R_alloc | apply Kd.R_drewN | apply Kd.R_drew)); exact HO_704000.out⟩, ⟨by (with_reducible repeat (first | apply Kd.S_alloc | apply Kd.S_drewN | apply Kd.S_drew)); exact HO_704001.out⟩, ⟨by (with_reducible repeat (first | refine blk_drewN ?_ _ | refine blk_drew ?_ | refine blk_alloc ?_ _)); exact BK703.out⟩, ⟨by repeat (first | (with_reducible first | exact HB.out | apply below_alloc | apply pw_below_drewN | apply below_drew1 | refine below_set ?_ GE703.out) | exact HB.out)⟩⟩
                        · rw [if_neg c43] at H
                          exact absurd H (by simp)
                      · replace c42 := Bool.eq_false_iff.mpr c42
                        subst c42
                        have H1 : (wayzgooselaw04_TradeFound.l1 k3 t705 t708 x8_2 x9_3 (wrap64 (x10_3 + 1)) t695 t698) = some r := by rw [if_neg (show ¬ (false = true) by decide)] at H; exact H
                        clear H
                        have H := H1
                        clear H1
                        have H' := Aside0.mk H
                        clear H
                        have hcz55_0 : wr.cell? ⟨gb703, 0, none⟩ = some (.slice Ao20 t695.length co20) := (blk_cell BK703.out 0).trans rfl
                        have hcz55_1 : wr.cell? ⟨gb703, 1, none⟩ = some (.slice Ao23 t698.length co23) := (blk_cell BK703.out 1).trans rfl
                        have hfz55_0 := blk_frozen BK703.out 0
                        have hfz55_1 := blk_frozen BK703.out 1
                        go_wp2_with (first | ((with_reducible refine gate_callee (f := 31) rfl ?_); refine goesL_ (some 69) rfl rfl Try.func31 (by kernel_rfl) rfl #[.agg #[.slice Ao20 t695.length co20, .slice Ao23 t698.length co23], .int .i64 x10_3, .int .i64 x8_2] rfl (by (try simp only [List.map_toArray, List.map_cons, List.map_nil]); first | done | rfl | (simp only [List.length_drop, List.length_take]; rfl)) ?_; (with_reducible refine (wayzgooselaw04_leads.calls k3 _ _ t695 _ _ t698 x10_3 x8_2 false _ ?side1 ?side2 ?side3 ?side4 A41.out).mono ?_); (case side1 => repeat (first | exact (Kd.R_reads' HO_704000.out).2.2 | (with_reducible refine Kd.C_alloc ?_ _) | (with_reducible refine Kd.C_drewN ?_ _) | (with_reducible refine Kd.C_drew ?_))); (case side2 => exact (Kd.R_reads' HO_704000.out).2.1); (case side3 => repeat (first | exact (Kd.S_reads' HO_704001.out).2.2 | (with_reducible refine Kd.C_alloc ?_ _) | (with_reducible refine Kd.C_drewN ?_ _) | (with_reducible refine Kd.C_drew ?_))); (case side4 => exact (Kd.S_reads' HO_704001.out).2.1); rintro e w56 ⟨rfl, hb⟩; refine ⟨_, rfl, ?_⟩; have n0_ := Aside0.mk (Kd.R_below (by (with_reducible repeat (first | apply Kd.R_alloc | apply Kd.R_drewN | apply Kd.R_drew)); exact HO_6.out) hb); have n1_ := Aside0.mk (Kd.R_below (by (with_reducible repeat (first | apply Kd.R_alloc | apply Kd.R_drewN | apply Kd.R_drew)); exact HO_704000.out) hb); have n2_ := Aside0.mk (Kd.S_below (by (with_reducible repeat (first | apply Kd.S_alloc | apply Kd.S_drewN | apply Kd.S_drew)); exact HO_704001.out) hb); have n3_ := Aside0.mk (blk_below (g := gb703) (o := .cells #[.slice Ao20 t695.length co20, .slice Ao23 t698.length co23] 26 (0, 0)) (by (with_reducible repeat (first | refine blk_drewN ?_ _ | refine blk_drew ?_ | refine blk_alloc ?_ _)); exact BK703.out) hb); have n4_ := Aside0.mk (below_step (by repeat (first | (with_reducible first | exact HB.out | apply below_alloc | apply pw_below_drewN | apply below_drew1 | refine below_set ?_ GE703.out) | exact HB.out)) hb); clear HO_6; clear HO_704000; clear HO_704001; clear BK703; clear HB; have HO_6 := n0_; have HO_704000 := n1_; have HO_704001 := n2_; have BK703 := n3_; have HB := n4_; clear n0_ n1_ n2_ n3_ n4_; (try clear hb); (try clear hb2); (try clear hk); (try clear hi)))
                        go_roundg k3
                        case measure => have := HJ15.out; have := HK2.out; have := HK3.out; omega
                        case rel => exact ⟨(x9_3), (wrap64 (x10_3 + 1)), (by first | rfl | (simp; done) | (simp [*]; done)), (by first | rfl | (simp; done) | (simp [*]; done)), H', ⟨by have := HJ15.out; have := HK2.out; have := HK3.out; omega⟩, ⟨by (with_reducible repeat (first | apply Kd.R_alloc | apply Kd.R_drewN | apply Kd.R_drew)); exact HO_6.out⟩, ⟨by (with_reducible repeat (first | apply Kd.R_alloc | apply Kd.R_drewN | apply Kd.R_drew)); exact HO_704000.out⟩, ⟨by (with_reducible repeat (first | apply Kd.S_alloc | apply Kd.S_drewN | apply Kd.S_drew)); exact HO_704001.out⟩, ⟨by (with_reducible repeat (first | refine blk_drewN ?_ _ | refine blk_drew ?_ | refine blk_alloc ?_ _)); exact BK703.out⟩, ⟨by repeat (first | (with_reducible first | exact HB.out | apply below_alloc | apply pw_below_drewN | apply below_drew1 | refine below_set ?_ GE703.out) | exact HB.out)⟩⟩
                    · rw [if_neg c40] at H
                      have c40b0 : decide (x10_3 < (t708.length : Int)) = false := decide_eq_false c40
                      clear c40
                      by_cases c57 : x8_2 = t705
                      · rw [if_pos c57] at H
                        have c57b0 : (x8_2 == t705) = true := beq_iff_eq.mpr c57
                        have c57b1 : (x8_2 != t705) = false := bne_eq_false_iff_eq.mpr c57
                        clear c57
                        by_cases c58 : 0 ≤ x8_2
                        · rw [if_pos c58] at H
                          have c58b0 : decide (0 ≤ x8_2) = true := decide_eq_true c58
                          clear c58
                          by_cases c59 : x8_2 < (t708.length : Int)
                          · rw [if_pos c59] at H
                            have c59b0 : decide (x8_2 < (t708.length : Int)) = true := decide_eq_true c59
                            clear c59
                            by_cases c60 : (rd t708 x8_2) > (t708.length : Int)
                            · rw [if_pos c60] at H
                              have c60b0 : decide ((t708.length : Int) < (rd t708 x8_2)) = true := decide_eq_true c60
                              clear c60
                              obtain rfl := Option.some.inj H
                              have p718 : 0 ≤ (x8_2 : Int) := of_decide_eq_true (by first | (with_reducible assumption) | assumption)
                              have q718 : x8_2 < (t708.length : Int) := of_decide_eq_true (by first | (with_reducible assumption) | assumption)
                              obtain ⟨ad718, e718, hx718_0⟩ := Kd.at_int (Kd.R_reads' HO_6.out).2.2 x8_2 p718 q718
                              cases e718
                              replace p718 := eq_true p718
                              replace q718 := eq_true q718
                              go_wp2
                              go_ret
                              exact ⟨by first | rfl | (simp [errW_none, errW_some] <;> rfl) | (simp [*, errW_none, errW_some] <;> rfl), by repeat (first | (with_reducible first | exact HB.out | apply below_alloc | apply pw_below_drewN | apply below_drew1 | refine below_set ?_ GE703.out) | exact HB.out)⟩
                            · rw [if_neg c60] at H
                              have c60b0 : decide ((t708.length : Int) < (rd t708 x8_2)) = false := decide_eq_false c60
                              clear c60
                              have H' := Aside0.mk H
                              clear H
                              have p718 : 0 ≤ (x8_2 : Int) := of_decide_eq_true (by first | (with_reducible assumption) | assumption)
                              have q718 : x8_2 < (t708.length : Int) := of_decide_eq_true (by first | (with_reducible assumption) | assumption)
                              obtain ⟨ad718, e718, hx718_0⟩ := Kd.at_int (Kd.R_reads' HO_6.out).2.2 x8_2 p718 q718
                              cases e718
                              replace p718 := eq_true p718
                              replace q718 := eq_true q718
                              go_wp2
                              go_roundg k3
                              case measure => have := HJ15.out; have := HK2.out; have := HK3.out; omega
                              case rel => exact ⟨(wrap64 (x8_2 + 1)), (by first | rfl | (simp; done) | (simp [*]; done)), H', ⟨by have := HJ15.out; have := HK2.out; have := HK3.out; omega⟩, ⟨by (with_reducible repeat (first | apply Kd.R_alloc | apply Kd.R_drewN | apply Kd.R_drew)); exact HO_6.out⟩, ⟨by (with_reducible repeat (first | apply Kd.R_alloc | apply Kd.R_drewN | apply Kd.R_drew)); exact HO_704000.out⟩, ⟨by (with_reducible repeat (first | apply Kd.S_alloc | apply Kd.S_drewN | apply Kd.S_drew)); exact HO_704001.out⟩, ⟨by (with_reducible repeat (first | refine blk_drewN ?_ _ | refine blk_drew ?_ | refine blk_alloc ?_ _)); exact BK703.out⟩, ⟨by repeat (first | (with_reducible first | exact HB.out | apply below_alloc | apply pw_below_drewN | apply below_drew1 | refine below_set ?_ GE703.out) | exact HB.out)⟩⟩
                          · rw [if_neg c59] at H
                            exact absurd H (by simp)
                        · rw [if_neg c58] at H
                          exact absurd H (by simp)
                      · rw [if_neg c57] at H
                        have c57b0 : (x8_2 == t705) = false := beq_eq_false_iff_ne.mpr c57
                        have c57b1 : (x8_2 != t705) = true := bne_iff_ne.mpr c57
                        by_cases c61 : 0 ≤ x8_2
                        · rw [if_pos c61] at H
                          have c61b0 : decide (0 ≤ x8_2) = true := decide_eq_true c61
                          clear c61
                          by_cases c62 : x8_2 < (t708.length : Int)
                          · rw [if_pos c62] at H
                            have c62b0 : decide (x8_2 < (t708.length : Int)) = true := decide_eq_true c62
                            clear c62
                            by_cases c63 : (rd t708 x8_2) = x9_3
                            · rw [if_pos c63] at H
                              have c63b0 : ((rd t708 x8_2) == x9_3) = true := beq_iff_eq.mpr c63
                              have c63b1 : ((rd t708 x8_2) != x9_3) = false := bne_eq_false_iff_eq.mpr c63
                              clear c63
                              by_cases c64 : (rd t708 x8_2) > (t708.length : Int)
                              · rw [if_pos c64] at H
                                have c64b0 : decide ((t708.length : Int) < (rd t708 x8_2)) = true := decide_eq_true c64
                                clear c64
                                obtain rfl := Option.some.inj H
                                have p719 : 0 ≤ (x8_2 : Int) := of_decide_eq_true (by first | (with_reducible assumption) | assumption)
                                have q719 : x8_2 < (t708.length : Int) := of_decide_eq_true (by first | (with_reducible assumption) | assumption)
                                obtain ⟨ad719, e719, hx719_0⟩ := Kd.at_int (Kd.R_reads' HO_6.out).2.2 x8_2 p719 q719
                                cases e719
                                replace p719 := eq_true p719
                                replace q719 := eq_true q719
                                have p720 : 0 ≤ (x8_2 : Int) := of_decide_eq_true (by first | (with_reducible assumption) | assumption)
                                have q720 : x8_2 < (t708.length : Int) := of_decide_eq_true (by first | (with_reducible assumption) | assumption)
                                obtain ⟨ad720, e720, hx720_0⟩ := Kd.at_int (Kd.R_reads' HO_6.out).2.2 x8_2 p720 q720
                                obtain rfl : ad719 = ad720 := (by injection e720)
                                replace p720 := eq_true p720
                                replace q720 := eq_true q720
                                go_wp2
                                go_ret
                                exact ⟨by first | rfl | (simp [errW_none, errW_some] <;> rfl) | (simp [*, errW_none, errW_some] <;> rfl), by repeat (first | (with_reducible first | exact HB.out | apply below_alloc | apply pw_below_drewN | apply below_drew1 | refine below_set ?_ GE703.out) | exact HB.out)⟩
                              · rw [if_neg c64] at H
                                have c64b0 : decide ((t708.length : Int) < (rd t708 x8_2)) = false := decide_eq_false c64
                                clear c64
                                have H' := Aside0.mk H
                                clear H
                                have p719 : 0 ≤ (x8_2 : Int) := of_decide_eq_true (by first | (with_reducible assumption) | assumption)
                                have q719 : x8_2 < (t708.length : Int) := of_decide_eq_true (by first | (with_reducible assumption) | assumption)
                                obtain ⟨ad719, e719, hx719_0⟩ := Kd.at_int (Kd.R_reads' HO_6.out).2.2 x8_2 p719 q719
                                cases e719
                                replace p719 := eq_true p719
                                replace q719 := eq_true q719
                                have p720 : 0 ≤ (x8_2 : Int) := of_decide_eq_true (by first | (with_reducible assumption) | assumption)
                                have q720 : x8_2 < (t708.length : Int) := of_decide_eq_true (by first | (with_reducible assumption) | assumption)
                                obtain ⟨ad720, e720, hx720_0⟩ := Kd.at_int (Kd.R_reads' HO_6.out).2.2 x8_2 p720 q720
                                obtain rfl : ad719 = ad720 := (by injection e720)
                                replace p720 := eq_true p720
                                replace q720 := eq_true q720
                                go_wp2
                                go_roundg k3
                                case measure => have := HJ15.out; have := HK2.out; have := HK3.out; omega
                                case rel => exact ⟨(wrap64 (x8_2 + 1)), (by first | rfl | (simp; done) | (simp [*]; done)), H', ⟨by have := HJ15.out; have := HK2.out; have := HK3.out; omega⟩, ⟨by (with_reducible repeat (first | apply Kd.R_alloc | apply Kd.R_drewN | apply Kd.R_drew)); exact HO_6.out⟩, ⟨by (with_reducible repeat (first | apply Kd.R_alloc | apply Kd.R_drewN | apply Kd.R_drew)); exact HO_704000.out⟩, ⟨by (with_reducible repeat (first | apply Kd.S_alloc | apply Kd.S_drewN | apply Kd.S_drew)); exact HO_704001.out⟩, ⟨by (with_reducible repeat (first | refine blk_drewN ?_ _ | refine blk_drew ?_ | refine blk_alloc ?_ _)); exact BK703.out⟩, ⟨by repeat (first | (with_reducible first | exact HB.out | apply below_alloc | apply pw_below_drewN | apply below_drew1 | refine below_set ?_ GE703.out) | exact HB.out)⟩⟩
                            · rw [if_neg c63] at H
                              have c63b0 : ((rd t708 x8_2) == x9_3) = false := beq_eq_false_iff_ne.mpr c63
                              have c63b1 : ((rd t708 x8_2) != x9_3) = true := bne_iff_ne.mpr c63
                              obtain rfl := Option.some.inj H
                              have p719 : 0 ≤ (x8_2 : Int) := of_decide_eq_true (by first | (with_reducible assumption) | assumption)
                              have q719 : x8_2 < (t708.length : Int) := of_decide_eq_true (by first | (with_reducible assumption) | assumption)
                              obtain ⟨ad719, e719, hx719_0⟩ := Kd.at_int (Kd.R_reads' HO_6.out).2.2 x8_2 p719 q719
                              cases e719
                              replace p719 := eq_true p719
                              replace q719 := eq_true q719
                              go_wp2
                              go_ret
                              exact ⟨by first | rfl | (simp [errW_none, errW_some] <;> rfl) | (simp [*, errW_none, errW_some] <;> rfl), by repeat (first | (with_reducible first | exact HB.out | apply below_alloc | apply pw_below_drewN | apply below_drew1 | refine below_set ?_ GE703.out) | exact HB.out)⟩
                          · rw [if_neg c62] at H
                            exact absurd H (by simp)
                        · rw [if_neg c61] at H
                          exact absurd H (by simp)
              · rw [if_neg c38] at H
                have c38b0 : decide (x8_2 < (t708.length : Int)) = false := decide_eq_false c38
                clear c38
                have H' := Aside0.mk H
                clear H
                obtain ⟨Ao65, co65, eo65⟩ := Kd.R_slice HO_6.out
                subst eo65
                go_wp2
                go_loopg [11] k2 (fun kq v11 w' => ∃ (x11_3 : Int), v11 = .int .i64 x11_3 ∧ Aside0 (wayzgooselaw04_TradeFound.l2 kq t705 t708 x11_3 t695 t698 = some r) ∧ Aside0 (kq ≤ k2) ∧ Aside0 (Kd.R (Kd.int .i64) 3 w' w.heap.size (fun _ => True) (.slice Ao65 t708.length co65) t708) ∧ Aside0 (Kd.R k51 51 w' w.heap.size (fun _ => True) (.slice Ao20 t695.length co20) t695) ∧ Aside0 (Kd.S k39 39 w' w.heap.size (fun k_ => some k_ ≠ ((.slice Ao65 t708.length co65) : Value).ownBlock) (.slice Ao23 t698.length co23) t698) ∧ Aside0 (w'.heap[gb703]? = some (.cells #[(.slice Ao20 t695.length co20), (.slice Ao23 t698.length co23)] 26 (0, 0))) ∧ Aside0 (Below w.heap.size w w'))
                case atStart => exact ⟨(0), (by first | rfl | (simp; done) | (simp [*]; done)), H', ⟨Nat.le_refl _⟩, ⟨by (with_reducible repeat (first | apply Kd.R_alloc | apply Kd.R_drewN | apply Kd.R_drew)); exact HO_6.out⟩, ⟨by (with_reducible repeat (first | apply Kd.R_alloc | apply Kd.R_drewN | apply Kd.R_drew)); exact HO_704000.out⟩, ⟨by (with_reducible repeat (first | apply Kd.S_alloc | apply Kd.S_drewN | apply Kd.S_drew)); exact HO_704001.out⟩, ⟨by (with_reducible repeat (first | refine blk_drewN ?_ _ | refine blk_drew ?_ | refine blk_alloc ?_ _)); exact BK703.out⟩, ⟨by repeat (first | (with_reducible first | exact HB.out | apply below_alloc | apply pw_below_drewN | apply below_drew1 | refine below_set ?_ GE703.out) | exact HB.out)⟩⟩
                case round =>
                  clear H'
                  try clear c1
                  try clear c2
                  try clear p2
                  try clear c3
                  try clear c4
                  try clear c4b0
                  try clear c4b1
                  try clear c4b2
                  try clear c5
                  try clear c6
                  try clear p6
                  try clear p7
                  try clear q7
                  try clear hx7
                  try clear c10
                  try clear c11
                  try clear c13
                  try clear c14
                  try clear c17
                  try clear c21
                  try clear c27
                  try clear c27b0
                  try clear c27b1
                  try clear c28
                  try clear c28b0
                  try clear c28b1
                  try clear c28b2
                  try clear c29
                  try clear c29b0
                  try clear c30
                  try clear c30b0
                  try clear c31
                  try clear c32
                  try clear c33
                  try clear c35
                  try clear c37
                  try clear c38
                  try clear c38b0
                  try clear c40
                  try clear c40b0
                  try clear c42
                  try clear c43
                  try clear c43b0
                  try clear c44
                  try clear c44b0
                  try clear c45
                  try clear c45b0
                  try clear c48
                  try clear c48b0
                  try clear c57
                  try clear c57b0
                  try clear c57b1
                  try clear c58
                  try clear c58b0
                  try clear c59
                  try clear c59b0
                  try clear c60
                  try clear c60b0
                  try clear c61
                  try clear c61b0
                  try clear c62
                  try clear c62b0
                  try clear c63
                  try clear c63b0
                  try clear c63b1
                  try clear c64
                  try clear c64b0
                  try clear p64
                  try clear hcz11_0
                  try clear hcz11_1
                  try clear hcz22_0
                  try clear hcz22_1
                  try clear hcz25_0
                  try clear hcz25_1
                  try clear hcz33_0
                  try clear hcz33_1
                  try clear hcz36_0
                  try clear hcz36_1
                  try clear hcz46_0
                  try clear hcz46_1
                  try clear hcz49_0
                  try clear hcz49_1
                  try clear hcz51_0
                  try clear hcz51_1
                  try clear hcz53_0
                  try clear hcz53_1
                  try clear hcz55_0
                  try clear hcz55_1
                  try clear hfz11_0
                  try clear hfz11_1
                  try clear hfz22_0
                  try clear hfz22_1
                  try clear hfz25_0
                  try clear hfz25_1
                  try clear hfz33_0
                  try clear hfz33_1
                  try clear hfz36_0
                  try clear hfz36_1
                  try clear hfz46_0
                  try clear hfz46_1
                  try clear hfz49_0
                  try clear hfz49_1
                  try clear hfz51_0
                  try clear hfz51_1
                  try clear hfz53_0
                  try clear hfz53_1
                  try clear hfz55_0
                  try clear hfz55_1
                  try clear hx712_0
                  try clear hx714_0
                  try clear hx715_0
                  try clear hx716_0
                  try clear hx717_0
                  try clear hx718_0
                  try clear hx719_0
                  try clear hx720_0
                  try clear p2
                  try clear p6
                  try clear p7
                  try clear p712
                  try clear p714
                  try clear p715
                  try clear p716
                  try clear p717
                  try clear p718
                  try clear p719
                  try clear p720
                  try clear q7
                  try clear q712
                  try clear q714
                  try clear q715
                  try clear q716
                  try clear q717
                  try clear q718
                  try clear q719
                  try clear q720
                  obtain ⟨x11_3, rfl, HA, HK3, HO_6, HO_704000, HO_704001, BK703, HB⟩ := hrel
                  cases gk with
                  | zero => exact absurd HA.out (by simp [wayzgooselaw04_TradeFound.l2])
                  | succ k3 =>
                    have H := HA.out
                    clear HA
                    simp only [wayzgooselaw04_TradeFound.l2] at H
                    by_cases c66 : x11_3 ≤ 6
                    · rw [if_pos c66] at H
                      have c66b0 : decide (x11_3 ≤ 6) = true := decide_eq_true c66
                      clear c66
                      replace H := Option.bind_eq_some_iff.mp H
                      obtain ⟨⟨t722, t725⟩, A670, H⟩ := H
                      replace H : (wayzgooselaw04_TradeFound.l3 k3 t705 t708 x11_3 t722 t725 0 0 t695 t698) = some r := H
                      have A67 := Aside0.mk A670
                      clear A670
                      have H' := Aside0.mk H
                      clear H
                      have hcz68_0 : wr.cell? ⟨gb703, 0, none⟩ = some (.slice Ao20 t695.length co20) := (blk_cell BK703.out 0).trans rfl
                      have hcz68_1 : wr.cell? ⟨gb703, 1, none⟩ = some (.slice Ao23 t698.length co23) := (blk_cell BK703.out 1).trans rfl
                      have hfz68_0 := blk_frozen BK703.out 0
                      have hfz68_1 := blk_frozen BK703.out 1
                      go_wp2_with (first | ((with_reducible refine gate_callee (f := 34) rfl ?_); refine goesL_ (some 123) rfl rfl Try.func34 (by kernel_rfl) rfl #[.agg #[.slice Ao20 t695.length co20, .slice Ao23 t698.length co23], .int .i64 t705, .int .i64 x11_3] rfl (by (try simp only [List.map_toArray, List.map_cons, List.map_nil]); first | done | rfl | (simp only [List.length_drop, List.length_take]; rfl)) ?_; (with_reducible refine (trade_Hidden.calls _ _ t695 _ _ t698 t705 x11_3 t722 t725 _ ?side1 ?side2 ?side3 ?side4 A67.out).mono ?_); (case side1 => repeat (first | exact (Kd.R_reads' HO_704000.out).2.2 | (with_reducible refine Kd.C_alloc ?_ _) | (with_reducible refine Kd.C_drewN ?_ _) | (with_reducible refine Kd.C_drew ?_))); (case side2 => exact (Kd.R_reads' HO_704000.out).2.1); (case side3 => repeat (first | exact (Kd.S_reads' HO_704001.out).2.2 | (with_reducible refine Kd.C_alloc ?_ _) | (with_reducible refine Kd.C_drewN ?_ _) | (with_reducible refine Kd.C_drew ?_))); (case side4 => exact (Kd.S_reads' HO_704001.out).2.1); rintro e w69 ⟨v723, rfl, ho0, hb⟩; refine ⟨_, rfl, ?_⟩; have n0_ := Aside0.mk (Kd.R_elder' (by (with_reducible repeat (first | apply Kd.R_alloc | apply Kd.R_drewN | apply Kd.R_drew)); exact HO_6.out) (Kd.R_base ho0) hb); have n1_ := Aside0.mk (Kd.R_below (by (with_reducible repeat (first | apply Kd.R_alloc | apply Kd.R_drewN | apply Kd.R_drew)); exact HO_704000.out) hb); have n2_ := Aside0.mk (Kd.S_elder' (by (with_reducible repeat (first | apply Kd.S_alloc | apply Kd.S_drewN | apply Kd.S_drew)); exact HO_704001.out) (Kd.R_base ho0) hb); have n3_ := Aside0.mk (Kd.R_lower (Kd.R_new' ho0 (Kd.R_lt (by (with_reducible repeat (first | apply Kd.R_alloc | apply Kd.R_drewN | apply Kd.R_drew)); exact HO_6.out))) (below_size (by repeat (first | (with_reducible first | exact HB.out | apply below_alloc | apply pw_below_drewN | apply below_drew1 | refine below_set ?_ GE703.out) | exact HB.out)))); have n4_ := Aside0.mk (blk_below (g := gb703) (o := .cells #[.slice Ao20 t695.length co20, .slice Ao23 t698.length co23] 26 (0, 0)) (by (with_reducible repeat (first | refine blk_drewN ?_ _ | refine blk_drew ?_ | refine blk_alloc ?_ _)); exact BK703.out) hb); have n5_ := Aside0.mk (below_step (by repeat (first | (with_reducible first | exact HB.out | apply below_alloc | apply pw_below_drewN | apply below_drew1 | refine below_set ?_ GE703.out) | exact HB.out)) hb); clear HO_6; clear HO_704000; clear HO_704001; clear BK703; clear HB; have HO_6 := n0_; have HO_704000 := n1_; have HO_704001 := n2_; have HO724 := n3_; have BK703 := n4_; have HB := n5_; clear n0_ n1_ n2_ n3_ n4_ n5_; (try clear hb); (try clear hb2); (try clear hk); (try clear hi); (try clear ho0)))
                      go_loopg [14, 15] k3 (fun kq v14 v15 w' => ∃ (x14_4 : Int) (x15_4 : Int), v14 = .int .i64 x14_4 ∧ v15 = .int .i64 x15_4 ∧ Aside0 (wayzgooselaw04_TradeFound.l3 kq t705 t708 x11_3 t722 t725 x14_4 x15_4 t695 t698 = some r) ∧ Aside0 (kq ≤ k3) ∧ Aside0 (Kd.R (Kd.int .i64) 3 w' w.heap.size (fun k_ => some k_ ≠ (v723 : Value).ownBlock) (.slice Ao65 t708.length co65) t708) ∧ Aside0 (Kd.R (Kd.int .i64) 3 w' w.heap.size (fun k_ => some k_ ≠ ((.slice Ao65 t708.length co65) : Value).ownBlock) v723 t722) ∧ Aside0 (Kd.R k51 51 w' w.heap.size (fun _ => True) (.slice Ao20 t695.length co20) t695) ∧ Aside0 (Kd.S k39 39 w' w.heap.size (fun k_ => some k_ ≠ ((.slice Ao65 t708.length co65) : Value).ownBlock ∧ some k_ ≠ (v723 : Value).ownBlock) (.slice Ao23 t698.length co23) t698) ∧ Aside0 (w'.heap[gb703]? = some (.cells #[(.slice Ao20 t695.length co20), (.slice Ao23 t698.length co23)] 26 (0, 0))) ∧ Aside0 (Below w.heap.size w w'))
                      case atStart => exact ⟨(0), (0), (by first | rfl | (simp; done) | (simp [*]; done)), (by first | rfl | (simp; done) | (simp [*]; done)), H', ⟨Nat.le_refl _⟩, ⟨by (with_reducible repeat (first | apply Kd.R_alloc | apply Kd.R_drewN | apply Kd.R_drew)); exact Kd.R_mono HO_6.out (fun _ hk => hk.2)⟩, ⟨by (with_reducible repeat (first | apply Kd.R_alloc | apply Kd.R_drewN | apply Kd.R_drew)); exact Kd.R_mono HO724.out (fun _ hk => hk.2)⟩, ⟨by (with_reducible repeat (first | apply Kd.R_alloc | apply Kd.R_drewN | apply Kd.R_drew)); exact HO_704000.out⟩, ⟨by (with_reducible repeat (first | apply Kd.S_alloc | apply Kd.S_drewN | apply Kd.S_drew)); exact HO_704001.out⟩, ⟨by (with_reducible repeat (first | refine blk_drewN ?_ _ | refine blk_drew ?_ | refine blk_alloc ?_ _)); exact BK703.out⟩, ⟨by repeat (first | (with_reducible first | exact HB.out | apply below_alloc | apply pw_below_drewN | apply below_drew1 | refine below_set ?_ GE703.out) | exact HB.out)⟩⟩
                      case round =>
                        clear H'
                        try clear c1
                        try clear c2
                        try clear p2
                        try clear c3
                        try clear c4
                        try clear c4b0
                        try clear c4b1
                        try clear c4b2
                        try clear c5
                        try clear c6
                        try clear p6
                        try clear p7
                        try clear q7
                        try clear hx7
                        try clear c10
                        try clear c11
                        try clear c13
                        try clear c14
                        try clear c17
                        try clear c21
                        try clear c27
                        try clear c27b0
                        try clear c27b1
                        try clear c28
                        try clear c28b0
                        try clear c28b1
                        try clear c28b2
                        try clear c29
                        try clear c29b0
                        try clear c30
                        try clear c30b0
                        try clear c31
                        try clear c32
                        try clear c33
                        try clear c34
                        try clear c35
                        try clear c37
                        try clear c38
                        try clear c38b0
                        try clear c40
                        try clear c40b0
                        try clear c42
                        try clear c43
                        try clear c43b0
                        try clear c44
                        try clear c44b0
                        try clear c45
                        try clear c45b0
                        try clear c48
                        try clear c48b0
                        try clear c57
                        try clear c57b0
                        try clear c57b1
                        try clear c58
                        try clear c58b0
                        try clear c59
                        try clear c59b0
                        try clear c60
                        try clear c60b0
                        try clear c61
                        try clear c61b0
                        try clear c62
                        try clear c62b0
                        try clear c63
                        try clear c63b0
                        try clear c63b1
                        try clear c64
                        try clear c64b0
                        try clear p64
                        try clear c66
                        try clear c66b0
                        try clear hcz11_0
                        try clear hcz11_1
                        try clear hcz22_0
                        try clear hcz22_1
                        try clear hcz25_0
                        try clear hcz25_1
                        try clear hcz33_0
                        try clear hcz33_1
                        try clear hcz36_0
                        try clear hcz36_1
                        try clear hcz46_0
                        try clear hcz46_1
                        try clear hcz49_0
                        try clear hcz49_1
                        try clear hcz51_0
                        try clear hcz51_1
                        try clear hcz53_0
                        try clear hcz53_1
                        try clear hcz55_0
                        try clear hcz55_1
                        try clear hcz68_0
                        try clear hcz68_1
                        try clear hfz11_0
                        try clear hfz11_1
                        try clear hfz22_0
                        try clear hfz22_1
                        try clear hfz25_0
                        try clear hfz25_1
                        try clear hfz33_0
                        try clear hfz33_1
                        try clear hfz36_0
                        try clear hfz36_1
                        try clear hfz46_0
                        try clear hfz46_1
                        try clear hfz49_0
                        try clear hfz49_1
                        try clear hfz51_0
                        try clear hfz51_1
                        try clear hfz53_0
                        try clear hfz53_1
                        try clear hfz55_0
                        try clear hfz55_1
                        try clear hfz68_0
                        try clear hfz68_1
                        try clear hx712_0
                        try clear hx714_0
                        try clear hx715_0
                        try clear hx716_0
                        try clear hx717_0
                        try clear hx718_0
                        try clear hx719_0
                        try clear hx720_0
                        try clear p2
                        try clear p6
                        try clear p64
                        try clear p7
                        try clear p712
                        try clear p714
                        try clear p715
                        try clear p716
                        try clear p717
                        try clear p718
                        try clear p719
                        try clear p720
                        try clear q7
                        try clear q712
                        try clear q714
                        try clear q715
                        try clear q716
                        try clear q717
                        try clear q718
                        try clear q719
                        try clear q720
                        obtain ⟨x14_4, x15_4, rfl, rfl, HA, HK4, HO_6, HO_12, HO_704000, HO_704001, BK703, HB⟩ := hrel
                        cases gk with
                        | zero => exact absurd HA.out (by simp [wayzgooselaw04_TradeFound.l3])
                        | succ k4 =>
                          have H := HA.out
                          clear HA
                          simp only [wayzgooselaw04_TradeFound.l3] at H
                          have HC70 := Aside0.mk H
                          clear H
                          go_upto_region 26 with (fail)
                          go_cut [133] (fun v133 wc => ∃ (kq : Nat) (x133_69 : Bool), v133 = .bool x133_69 ∧ Aside0 (wayzgooselaw04_TradeFound.j5 kq t705 t708 x11_3 t722 t725 x14_4 x15_4 x133_69 t695 t698 = some r) ∧ Aside0 (kq ≤ k4) ∧ Aside0 (Kd.R (Kd.int .i64) 3 wc w.heap.size (fun k_ => some k_ ≠ (v723 : Value).ownBlock) (.slice Ao65 t708.length co65) t708) ∧ Aside0 (Kd.R (Kd.int .i64) 3 wc w.heap.size (fun k_ => some k_ ≠ ((.slice Ao65 t708.length co65) : Value).ownBlock) v723 t722) ∧ Aside0 (Kd.R k51 51 wc w.heap.size (fun _ => True) (.slice Ao20 t695.length co20) t695) ∧ Aside0 (Kd.S k39 39 wc w.heap.size (fun k_ => some k_ ≠ ((.slice Ao65 t708.length co65) : Value).ownBlock ∧ some k_ ≠ (v723 : Value).ownBlock) (.slice Ao23 t698.length co23) t698) ∧ Aside0 (wc.heap[gb703]? = some (.cells #[(.slice Ao20 t695.length co20), (.slice Ao23 t698.length co23)] 26 (0, 0))) ∧ Aside0 (Below w.heap.size w wc))
                          case first =>
                            have H := HC70.out
                            clear HC70
                            by_cases c71 : x15_4 < (t708.length : Int)
                            · rw [if_pos c71] at H
                              have c71b0 : decide (x15_4 < (t708.length : Int)) = true := decide_eq_true c71
                              clear c71
                              (first | rw [c71b0] | (simp only [i64_w, i32_w]; rw [c71b0]) | skip)
                              have H' := Aside0.mk H
                              clear H
                              go_wp2
                              go_meet
                              case rel => exact ⟨_, ((t725 == 0)), (by first | rfl | (simp; done) | (simp [*]; done)), H', ⟨by have := HJ15.out; have := HK2.out; have := HK3.out; have := HK4.out; first | omega | exact Nat.le_refl _⟩, ⟨by (with_reducible repeat (first | apply Kd.R_alloc | apply Kd.R_drewN | apply Kd.R_drew)); exact HO_6.out⟩, ⟨by (with_reducible repeat (first | apply Kd.R_alloc | apply Kd.R_drewN | apply Kd.R_drew)); exact HO_12.out⟩, ⟨by (with_reducible repeat (first | apply Kd.R_alloc | apply Kd.R_drewN | apply Kd.R_drew)); exact HO_704000.out⟩, ⟨by (with_reducible repeat (first | apply Kd.S_alloc | apply Kd.S_drewN | apply Kd.S_drew)); exact HO_704001.out⟩, ⟨by (with_reducible repeat (first | refine blk_drewN ?_ _ | refine blk_drew ?_ | refine blk_alloc ?_ _)); exact BK703.out⟩, ⟨by repeat (first | (with_reducible first | exact HB.out | apply below_alloc | apply pw_below_drewN | apply below_drew1 | refine below_set ?_ GE703.out) | exact HB.out)⟩⟩
                            · rw [if_neg c71] at H
                              have c71b0 : decide (x15_4 < (t708.length : Int)) = false := decide_eq_false c71
                              clear c71
                              (first | rw [c71b0] | (simp only [i64_w, i32_w]; rw [c71b0]) | skip)
                              have H' := Aside0.mk H
                              clear H
                              go_wp2
                              go_meet
                              case rel => exact ⟨_, (false), (by first | rfl | (simp; done) | (simp [*]; done)), H', ⟨by have := HJ15.out; have := HK2.out; have := HK3.out; have := HK4.out; first | omega | exact Nat.le_refl _⟩, ⟨by (with_reducible repeat (first | apply Kd.R_alloc | apply Kd.R_drewN | apply Kd.R_drew)); exact HO_6.out⟩, ⟨by (with_reducible repeat (first | apply Kd.R_alloc | apply Kd.R_drewN | apply Kd.R_drew)); exact HO_12.out⟩, ⟨by (with_reducible repeat (first | apply Kd.R_alloc | apply Kd.R_drewN | apply Kd.R_drew)); exact HO_704000.out⟩, ⟨by (with_reducible repeat (first | apply Kd.S_alloc | apply Kd.S_drewN | apply Kd.S_drew)); exact HO_704001.out⟩, ⟨by (with_reducible repeat (first | refine blk_drewN ?_ _ | refine blk_drew ?_ | refine blk_alloc ?_ _)); exact BK703.out⟩, ⟨by repeat (first | (with_reducible first | exact HB.out | apply below_alloc | apply pw_below_drewN | apply below_drew1 | refine below_set ?_ GE703.out) | exact HB.out)⟩⟩
                          case rest =>
                            clear HC70
                            try clear c1
                            try clear c2
                            try clear p2
                            try clear c3
                            try clear c4
                            try clear c4b0
                            try clear c4b1
                            try clear c4b2
                            try clear c5
                            try clear c6
                            try clear p6
                            try clear c7
                            try clear p7
                            try clear q7
                            try clear hx7
                            try clear c10
                            try clear c11
                            try clear c13
                            try clear c14
                            try clear c17
                            try clear c21
                            try clear c27
                            try clear c27b0
                            try clear c27b1
                            try clear c28
                            try clear c28b0
                            try clear c28b1
                            try clear c28b2
                            try clear c29
                            try clear c29b0
                            try clear c30
                            try clear c30b0
                            try clear c31
                            try clear c32
                            try clear c33
                            try clear c34
                            try clear c35
                            try clear c37
                            try clear c38
                            try clear c38b0
                            try clear c40
                            try clear c40b0
                            try clear c42
                            try clear c43
                            try clear c43b0
                            try clear c44
                            try clear c44b0
                            try clear c45
                            try clear c45b0
                            try clear c48
                            try clear c48b0
                            try clear c57
                            try clear c57b0
                            try clear c57b1
                            try clear c58
                            try clear c58b0
                            try clear c59
                            try clear c59b0
                            try clear c60
                            try clear c60b0
                            try clear c61
                            try clear c61b0
                            try clear c62
                            try clear c62b0
                            try clear c63
                            try clear c63b0
                            try clear c63b1
                            try clear c64
                            try clear c64b0
                            try clear p64
                            try clear c66
                            try clear c66b0
                            try clear c71
                            try clear c71b0
                            try clear p71
                            try clear q71
                            try clear hx71
                            try clear hcz11_0
                            try clear hcz11_1
                            try clear hcz22_0
                            try clear hcz22_1
                            try clear hcz25_0
                            try clear hcz25_1
                            try clear hcz33_0
                            try clear hcz33_1
                            try clear hcz36_0
                            try clear hcz36_1
                            try clear hcz46_0
                            try clear hcz46_1
                            try clear hcz49_0
                            try clear hcz49_1
                            try clear hcz51_0
                            try clear hcz51_1
                            try clear hcz53_0
                            try clear hcz53_1
                            try clear hcz55_0
                            try clear hcz55_1
                            try clear hcz68_0
                            try clear hcz68_1
                            try clear hfz11_0
                            try clear hfz11_1
                            try clear hfz22_0
                            try clear hfz22_1
                            try clear hfz25_0
                            try clear hfz25_1
                            try clear hfz33_0
                            try clear hfz33_1
                            try clear hfz36_0
                            try clear hfz36_1
                            try clear hfz46_0
                            try clear hfz46_1
                            try clear hfz49_0
                            try clear hfz49_1
                            try clear hfz51_0
                            try clear hfz51_1
                            try clear hfz53_0
                            try clear hfz53_1
                            try clear hfz55_0
                            try clear hfz55_1
                            try clear hfz68_0
                            try clear hfz68_1
                            try clear hx712_0
                            try clear hx714_0
                            try clear hx715_0
                            try clear hx716_0
                            try clear hx717_0
                            try clear hx718_0
                            try clear hx719_0
                            try clear hx720_0
                            try clear p2
                            try clear p6
                            try clear p64
                            try clear p7
                            try clear p712
                            try clear p714
                            try clear p715
                            try clear p716
                            try clear p717
                            try clear p718
                            try clear p719
                            try clear p720
                            try clear q7
                            try clear q712
                            try clear q714
                            try clear q715
                            try clear q716
                            try clear q717
                            try clear q718
                            try clear q719
                            try clear q720
                            obtain ⟨kq, x133_69, rfl, HA, HJ69, HO_6, HO_12, HO_704000, HO_704001, BK703, HB⟩ := hcut
                            cases kq with
                            | zero => exact absurd HA.out (by simp [wayzgooselaw04_TradeFound.j5])
                            | succ kj69 =>
                              have H := HA.out
                              clear HA
                              simp only [wayzgooselaw04_TradeFound.j5] at H
                              by_cases c72 : x133_69 = true
                              · subst c72
                                have H1 : (if 0 ≤ x15_4 then (if x15_4 < (t698.length : Int) then (if ((rd_T39 t698 x15_4).f1) ≥ 0 then (if x15_4 < (t708.length : Int) then (if (rd t708 x15_4) < 0 then (wayzgooselaw04_TradeFound.j6 kj69 t705 t708 x11_3 t722 t725 x14_4 x15_4 true t695 t698) else (wayzgooselaw04_TradeFound.j6 kj69 t705 t708 x11_3 t722 t725 x14_4 x15_4 (decide ((rd t708 x15_4) > x11_3)) t695 t698)) else (none)) else (wayzgooselaw04_TradeFound.j6 kj69 t705 t708 x11_3 t722 t725 x14_4 x15_4 false t695 t698)) else (none)) else (none)) = some r := by rw [if_pos rfl] at H; exact H
                                clear H
                                have H := H1
                                clear H1
                                have HC73 := Aside0.mk H
                                clear H
                                go_upto_region 28 with (fail)
                                go_cut [157] (fun v157 wc => ∃ (kq : Nat) (x157_72 : Bool), v157 = .bool x157_72 ∧ Aside0 (wayzgooselaw04_TradeFound.j6 kq t705 t708 x11_3 t722 t725 x14_4 x15_4 x157_72 t695 t698 = some r) ∧ Aside0 (kq ≤ kj69) ∧ Aside0 (Kd.R (Kd.int .i64) 3 wc w.heap.size (fun k_ => some k_ ≠ (v723 : Value).ownBlock) (.slice Ao65 t708.length co65) t708) ∧ Aside0 (Kd.R (Kd.int .i64) 3 wc w.heap.size (fun k_ => some k_ ≠ ((.slice Ao65 t708.length co65) : Value).ownBlock) v723 t722) ∧ Aside0 (Kd.R k51 51 wc w.heap.size (fun _ => True) (.slice Ao20 t695.length co20) t695) ∧ Aside0 (Kd.S k39 39 wc w.heap.size (fun k_ => some k_ ≠ ((.slice Ao65 t708.length co65) : Value).ownBlock ∧ some k_ ≠ (v723 : Value).ownBlock) (.slice Ao23 t698.length co23) t698) ∧ Aside0 (wc.heap[gb703]? = some (.cells #[(.slice Ao20 t695.length co20), (.slice Ao23 t698.length co23)] 26 (0, 0))) ∧ Aside0 (Below w.heap.size w wc))
                                case first =>
                                  have H := HC73.out
                                  clear HC73
                                  by_cases c74 : 0 ≤ x15_4
                                  · rw [if_pos c74] at H
                                    have c74b0 : decide (0 ≤ x15_4) = true := decide_eq_true c74
                                    clear c74
                                    (first | rw [c74b0] | (simp only [i64_w, i32_w]; rw [c74b0]) | skip)
                                    by_cases c75 : x15_4 < (t698.length : Int)
                                    · rw [if_pos c75] at H
                                      have c75b0 : decide (x15_4 < (t698.length : Int)) = true := decide_eq_true c75
                                      clear c75
                                      by_cases c76 : ((rd_T39 t698 x15_4).f1) ≥ 0
                                      · rw [if_pos c76] at H
                                        have c76b0 : decide (0 ≤ ((rd_T39 t698 x15_4).f1)) = true := decide_eq_true c76
                                        clear c76
                                        by_cases c77 : x15_4 < (t708.length : Int)
                                        · rw [if_pos c77] at H
                                          have c77b0 : decide (x15_4 < (t708.length : Int)) = true := decide_eq_true c77
                                          clear c77
                                          by_cases c78 : (rd t708 x15_4) < 0
                                          · rw [if_pos c78] at H
                                            have c78b0 : decide ((rd t708 x15_4) < 0) = true := decide_eq_true c78
                                            clear c78
                                            have H' := Aside0.mk H
                                            clear H
                                            have hcz79_0 : wc.cell? ⟨gb703, 0, none⟩ = some (.slice Ao20 t695.length co20) := (blk_cell BK703.out 0).trans rfl
                                            have hcz79_1 : wc.cell? ⟨gb703, 1, none⟩ = some (.slice Ao23 t698.length co23) := (blk_cell BK703.out 1).trans rfl
                                            have hfz79_0 := blk_frozen BK703.out 0
                                            have hfz79_1 := blk_frozen BK703.out 1
                                            have p726 : 0 ≤ (x15_4 : Int) := of_decide_eq_true (by first | (with_reducible assumption) | assumption)
                                            have q726 : x15_4 < (t698.length : Int) := of_decide_eq_true (by first | (with_reducible assumption) | assumption)
                                            obtain ⟨ad726, A726_3, c726_3, e726, hx726_0, hx726_1, hx726_2, hx726_3, hl726_3, hi726_3⟩ := at_T39 (Kd.S_reads' HO_704001.out).2.2 x15_4 p726 q726
                                            cases e726
                                            obtain ⟨ce726, hce726, hMe726, hcc726⟩ := Kd.S_get HO_704001.out z39 x15_4 p726 (by first | exact q726 | exact of_decide_eq_true (by first | (with_reducible assumption) | assumption) | (have e_ := (Kd.S_reads' HO_704001.out).1; omega))
                                            obtain ⟨ve726_3, rfl, ge726_3⟩ := k39_openM hMe726
                                            have hv726_3 := hcc726 3 _ rfl
                                            rw [add_field _ _ 3 (by omega)] at hv726_3
                                            replace hv726_3 := Option.some.inj (hv726_3.symm.trans hx726_3)
                                            rw [hv726_3] at ge726_3
                                            have HL726_3 := Aside0.mk (show Kd.R (Kd.int .i64) 3 _ _ _ _ ((rd_T39 t698 x15_4).f3) from ge726_3)
                                            clear hv726_3 ge726_3
                                            clear hcc726 hce726
                                            have HR726_3 := Aside0.mk hi726_3
                                            have HC726_3 := Aside0.mk hl726_3
                                            clear hi726_3 hl726_3
                                            replace p726 := eq_true p726
                                            replace q726 := eq_true q726
                                            have p727 : 0 ≤ (x15_4 : Int) := of_decide_eq_true (by first | (with_reducible assumption) | assumption)
                                            have q727 : x15_4 < (t708.length : Int) := of_decide_eq_true (by first | (with_reducible assumption) | assumption)
                                            obtain ⟨ad727, e727, hx727_0⟩ := Kd.at_int (Kd.R_reads' HO_6.out).2.2 x15_4 p727 q727
                                            cases e727
                                            replace p727 := eq_true p727
                                            replace q727 := eq_true q727
                                            go_wp2
                                            go_meet
                                            case rel => exact ⟨_, (true), (by first | rfl | (simp; done) | (simp [*]; done)), H', ⟨by have := HJ15.out; have := HK2.out; have := HK3.out; have := HK4.out; have := HJ69.out; first | omega | exact Nat.le_refl _⟩, ⟨by (with_reducible repeat (first | apply Kd.R_alloc | apply Kd.R_drewN | apply Kd.R_drew)); exact HO_6.out⟩, ⟨by (with_reducible repeat (first | apply Kd.R_alloc | apply Kd.R_drewN | apply Kd.R_drew)); exact HO_12.out⟩, ⟨by (with_reducible repeat (first | apply Kd.R_alloc | apply Kd.R_drewN | apply Kd.R_drew)); exact HO_704000.out⟩, ⟨by (with_reducible repeat (first | apply Kd.S_alloc | apply Kd.S_drewN | apply Kd.S_drew)); exact HO_704001.out⟩, ⟨by (with_reducible repeat (first | refine blk_drewN ?_ _ | refine blk_drew ?_ | refine blk_alloc ?_ _)); exact BK703.out⟩, ⟨by repeat (first | (with_reducible first | exact HB.out | apply below_alloc | apply pw_below_drewN | apply below_drew1 | refine below_set ?_ GE703.out) | exact HB.out)⟩⟩
                                          · rw [if_neg c78] at H
                                            have c78b0 : decide ((rd t708 x15_4) < 0) = false := decide_eq_false c78
                                            clear c78
                                            have H' := Aside0.mk H
                                            clear H
                                            have hcz80_0 : wc.cell? ⟨gb703, 0, none⟩ = some (.slice Ao20 t695.length co20) := (blk_cell BK703.out 0).trans rfl
                                            have hcz80_1 : wc.cell? ⟨gb703, 1, none⟩ = some (.slice Ao23 t698.length co23) := (blk_cell BK703.out 1).trans rfl
                                            have hfz80_0 := blk_frozen BK703.out 0
                                            have hfz80_1 := blk_frozen BK703.out 1
                                            have p726 : 0 ≤ (x15_4 : Int) := of_decide_eq_true (by first | (with_reducible assumption) | assumption)
                                            have q726 : x15_4 < (t698.length : Int) := of_decide_eq_true (by first | (with_reducible assumption) | assumption)
                                            obtain ⟨ad726, A726_3, c726_3, e726, hx726_0, hx726_1, hx726_2, hx726_3, hl726_3, hi726_3⟩ := at_T39 (Kd.S_reads' HO_704001.out).2.2 x15_4 p726 q726
                                            cases e726
                                            obtain ⟨ce726, hce726, hMe726, hcc726⟩ := Kd.S_get HO_704001.out z39 x15_4 p726 (by first | exact q726 | exact of_decide_eq_true (by first | (with_reducible assumption) | assumption) | (have e_ := (Kd.S_reads' HO_704001.out).1; omega))
                                            obtain ⟨ve726_3, rfl, ge726_3⟩ := k39_openM hMe726
                                            have hv726_3 := hcc726 3 _ rfl
                                            rw [add_field _ _ 3 (by omega)] at hv726_3
                                            replace hv726_3 := Option.some.inj (hv726_3.symm.trans hx726_3)
                                            rw [hv726_3] at ge726_3
                                            have HL726_3 := Aside0.mk (show Kd.R (Kd.int .i64) 3 _ _ _ _ ((rd_T39 t698 x15_4).f3) from ge726_3)
                                            clear hv726_3 ge726_3
                                            clear hcc726 hce726
                                            have HR726_3 := Aside0.mk hi726_3
                                            have HC726_3 := Aside0.mk hl726_3
                                            clear hi726_3 hl726_3
                                            replace p726 := eq_true p726
                                            replace q726 := eq_true q726
                                            have p727 : 0 ≤ (x15_4 : Int) := of_decide_eq_true (by first | (with_reducible assumption) | assumption)
                                            have q727 : x15_4 < (t708.length : Int) := of_decide_eq_true (by first | (with_reducible assumption) | assumption)
                                            obtain ⟨ad727, e727, hx727_0⟩ := Kd.at_int (Kd.R_reads' HO_6.out).2.2 x15_4 p727 q727
                                            cases e727
                                            replace p727 := eq_true p727
                                            replace q727 := eq_true q727
                                            have p728 : 0 ≤ (x15_4 : Int) := of_decide_eq_true (by first | (with_reducible assumption) | assumption)
                                            have q728 : x15_4 < (t708.length : Int) := of_decide_eq_true (by first | (with_reducible assumption) | assumption)
                                            obtain ⟨ad728, e728, hx728_0⟩ := Kd.at_int (Kd.R_reads' HO_6.out).2.2 x15_4 p728 q728
                                            obtain rfl : ad727 = ad728 := (by injection e728)
                                            replace p728 := eq_true p728
                                            replace q728 := eq_true q728
                                            go_wp2
                                            go_meet
                                            case rel => exact ⟨_, (decide ((rd t708 x15_4) > x11_3)), (by first | rfl | (simp; done) | (simp [*]; done)), H', ⟨by have := HJ15.out; have := HK2.out; have := HK3.out; have := HK4.out; have := HJ69.out; first | omega | exact Nat.le_refl _⟩, ⟨by (with_reducible repeat (first | apply Kd.R_alloc | apply Kd.R_drewN | apply Kd.R_drew)); exact HO_6.out⟩, ⟨by (with_reducible repeat (first | apply Kd.R_alloc | apply Kd.R_drewN | apply Kd.R_drew)); exact HO_12.out⟩, ⟨by (with_reducible repeat (first | apply Kd.R_alloc | apply Kd.R_drewN | apply Kd.R_drew)); exact HO_704000.out⟩, ⟨by (with_reducible repeat (first | apply Kd.S_alloc | apply Kd.S_drewN | apply Kd.S_drew)); exact HO_704001.out⟩, ⟨by (with_reducible repeat (first | refine blk_drewN ?_ _ | refine blk_drew ?_ | refine blk_alloc ?_ _)); exact BK703.out⟩, ⟨by repeat (first | (with_reducible first | exact HB.out | apply below_alloc | apply pw_below_drewN | apply below_drew1 | refine below_set ?_ GE703.out) | exact HB.out)⟩⟩
                                        · rw [if_neg c77] at H
                                          exact absurd H (by simp)
                                      · rw [if_neg c76] at H
                                        have c76b0 : decide (0 ≤ ((rd_T39 t698 x15_4).f1)) = false := decide_eq_false c76
                                        clear c76
                                        have H' := Aside0.mk H
                                        clear H
                                        have hcz81_0 : wc.cell? ⟨gb703, 0, none⟩ = some (.slice Ao20 t695.length co20) := (blk_cell BK703.out 0).trans rfl
                                        have hcz81_1 : wc.cell? ⟨gb703, 1, none⟩ = some (.slice Ao23 t698.length co23) := (blk_cell BK703.out 1).trans rfl
                                        have hfz81_0 := blk_frozen BK703.out 0
                                        have hfz81_1 := blk_frozen BK703.out 1
                                        have p726 : 0 ≤ (x15_4 : Int) := of_decide_eq_true (by first | (with_reducible assumption) | assumption)
                                        have q726 : x15_4 < (t698.length : Int) := of_decide_eq_true (by first | (with_reducible assumption) | assumption)
                                        obtain ⟨ad726, A726_3, c726_3, e726, hx726_0, hx726_1, hx726_2, hx726_3, hl726_3, hi726_3⟩ := at_T39 (Kd.S_reads' HO_704001.out).2.2 x15_4 p726 q726
                                        cases e726
                                        obtain ⟨ce726, hce726, hMe726, hcc726⟩ := Kd.S_get HO_704001.out z39 x15_4 p726 (by first | exact q726 | exact of_decide_eq_true (by first | (with_reducible assumption) | assumption) | (have e_ := (Kd.S_reads' HO_704001.out).1; omega))
                                        obtain ⟨ve726_3, rfl, ge726_3⟩ := k39_openM hMe726
                                        have hv726_3 := hcc726 3 _ rfl
                                        rw [add_field _ _ 3 (by omega)] at hv726_3
                                        replace hv726_3 := Option.some.inj (hv726_3.symm.trans hx726_3)
                                        rw [hv726_3] at ge726_3
                                        have HL726_3 := Aside0.mk (show Kd.R (Kd.int .i64) 3 _ _ _ _ ((rd_T39 t698 x15_4).f3) from ge726_3)
                                        clear hv726_3 ge726_3
                                        clear hcc726 hce726
                                        have HR726_3 := Aside0.mk hi726_3
                                        have HC726_3 := Aside0.mk hl726_3
                                        clear hi726_3 hl726_3
                                        replace p726 := eq_true p726
                                        replace q726 := eq_true q726
                                        go_wp2
                                        go_meet
                                        case rel => exact ⟨_, (false), (by first | rfl | (simp; done) | (simp [*]; done)), H', ⟨by have := HJ15.out; have := HK2.out; have := HK3.out; have := HK4.out; have := HJ69.out; first | omega | exact Nat.le_refl _⟩, ⟨by (with_reducible repeat (first | apply Kd.R_alloc | apply Kd.R_drewN | apply Kd.R_drew)); exact HO_6.out⟩, ⟨by (with_reducible repeat (first | apply Kd.R_alloc | apply Kd.R_drewN | apply Kd.R_drew)); exact HO_12.out⟩, ⟨by (with_reducible repeat (first | apply Kd.R_alloc | apply Kd.R_drewN | apply Kd.R_drew)); exact HO_704000.out⟩, ⟨by (with_reducible repeat (first | apply Kd.S_alloc | apply Kd.S_drewN | apply Kd.S_drew)); exact HO_704001.out⟩, ⟨by (with_reducible repeat (first | refine blk_drewN ?_ _ | refine blk_drew ?_ | refine blk_alloc ?_ _)); exact BK703.out⟩, ⟨by repeat (first | (with_reducible first | exact HB.out | apply below_alloc | apply pw_below_drewN | apply below_drew1 | refine below_set ?_ GE703.out) | exact HB.out)⟩⟩
                                    · rw [if_neg c75] at H
                                      exact absurd H (by simp)
                                  · rw [if_neg c74] at H
                                    exact absurd H (by simp)
                                case rest =>
                                  clear HC73
                                  try clear c1
                                  try clear c2
                                  try clear p2
                                  try clear c3
                                  try clear c4
                                  try clear c4b0
                                  try clear c4b1
                                  try clear c4b2
                                  try clear c5
                                  try clear c6
                                  try clear p6
                                  try clear c7
                                  try clear p7
                                  try clear q7
                                  try clear hx7
                                  try clear c10
                                  try clear c11
                                  try clear c13
                                  try clear c14
                                  try clear c17
                                  try clear c21
                                  try clear c27
                                  try clear c27b0
                                  try clear c27b1
                                  try clear c28
                                  try clear c28b0
                                  try clear c28b1
                                  try clear c28b2
                                  try clear c29
                                  try clear c29b0
                                  try clear c30
                                  try clear c30b0
                                  try clear c31
                                  try clear c32
                                  try clear c33
                                  try clear c34
                                  try clear c35
                                  try clear c37
                                  try clear c38
                                  try clear c38b0
                                  try clear c40
                                  try clear c40b0
                                  try clear c42
                                  try clear c43
                                  try clear c43b0
                                  try clear c44
                                  try clear c44b0
                                  try clear c45
                                  try clear c45b0
                                  try clear c48
                                  try clear c48b0
                                  try clear c57
                                  try clear c57b0
                                  try clear c57b1
                                  try clear c58
                                  try clear c58b0
                                  try clear c59
                                  try clear c59b0
                                  try clear c60
                                  try clear c60b0
                                  try clear c61
                                  try clear c61b0
                                  try clear c62
                                  try clear c62b0
                                  try clear c63
                                  try clear c63b0
                                  try clear c63b1
                                  try clear c64
                                  try clear c64b0
                                  try clear p64
                                  try clear c66
                                  try clear c66b0
                                  try clear c71
                                  try clear c71b0
                                  try clear p71
                                  try clear q71
                                  try clear hx71
                                  try clear c72
                                  try clear p72
                                  try clear q72
                                  try clear hx72
                                  try clear c74
                                  try clear c74b0
                                  try clear c75
                                  try clear c75b0
                                  try clear c76
                                  try clear c76b0
                                  try clear c77
                                  try clear c77b0
                                  try clear c78
                                  try clear c78b0
                                  try clear hcz11_0
                                  try clear hcz11_1
                                  try clear hcz22_0
                                  try clear hcz22_1
                                  try clear hcz25_0
                                  try clear hcz25_1
                                  try clear hcz33_0
                                  try clear hcz33_1
                                  try clear hcz36_0
                                  try clear hcz36_1
                                  try clear hcz46_0
                                  try clear hcz46_1
                                  try clear hcz49_0
                                  try clear hcz49_1
                                  try clear hcz51_0
                                  try clear hcz51_1
                                  try clear hcz53_0
                                  try clear hcz53_1
                                  try clear hcz55_0
                                  try clear hcz55_1
                                  try clear hcz68_0
                                  try clear hcz68_1
                                  try clear hcz79_0
                                  try clear hcz79_1
                                  try clear hcz80_0
                                  try clear hcz80_1
                                  try clear hcz81_0
                                  try clear hcz81_1
                                  try clear hfz11_0
                                  try clear hfz11_1
                                  try clear hfz22_0
                                  try clear hfz22_1
                                  try clear hfz25_0
                                  try clear hfz25_1
                                  try clear hfz33_0
                                  try clear hfz33_1
                                  try clear hfz36_0
                                  try clear hfz36_1
                                  try clear hfz46_0
                                  try clear hfz46_1
                                  try clear hfz49_0
                                  try clear hfz49_1
                                  try clear hfz51_0
                                  try clear hfz51_1
                                  try clear hfz53_0
                                  try clear hfz53_1
                                  try clear hfz55_0
                                  try clear hfz55_1
                                  try clear hfz68_0
                                  try clear hfz68_1
                                  try clear hfz79_0
                                  try clear hfz79_1
                                  try clear hfz80_0
                                  try clear hfz80_1
                                  try clear hfz81_0
                                  try clear hfz81_1
                                  try clear hx712_0
                                  try clear hx714_0
                                  try clear hx715_0
                                  try clear hx716_0
                                  try clear hx717_0
                                  try clear hx718_0
                                  try clear hx719_0
                                  try clear hx720_0
                                  try clear hx726_0
                                  try clear hx726_1
                                  try clear hx726_2
                                  try clear hx726_3
                                  try clear hx727_0
                                  try clear hx728_0
                                  try clear p2
                                  try clear p6
                                  try clear p64
                                  try clear p7
                                  try clear p71
                                  try clear p712
                                  try clear p714
                                  try clear p715
                                  try clear p716
                                  try clear p717
                                  try clear p718
                                  try clear p719
                                  try clear p720
                                  try clear p726
                                  try clear p727
                                  try clear p728
                                  try clear q7
                                  try clear q71
                                  try clear q712
                                  try clear q714
                                  try clear q715
                                  try clear q716
                                  try clear q717
                                  try clear q718
                                  try clear q719
                                  try clear q720
                                  try clear q726
                                  try clear q727
                                  try clear q728
                                  obtain ⟨kq, x157_72, rfl, HA, HJ72, HO_6, HO_12, HO_704000, HO_704001, BK703, HB⟩ := hcut
                                  cases kq with
                                  | zero => exact absurd HA.out (by simp [wayzgooselaw04_TradeFound.j6])
                                  | succ kj72 =>
                                    have H := HA.out
                                    clear HA
                                    simp only [wayzgooselaw04_TradeFound.j6] at H
                                    by_cases c82 : x157_72 = true
                                    · subst c82
                                      have H1 : (if x14_4 ≥ (t722.length : Int) then (some false) else (if 0 ≤ x14_4 then (if x14_4 < (t722.length : Int) then (if (rd t722 x14_4) = x15_4 then (wayzgooselaw04_TradeFound.l3 kj72 t705 t708 x11_3 t722 t725 (wrap64 (x14_4 + 1)) (wrap64 (x15_4 + 1)) t695 t698) else (some false)) else (none)) else (none))) = some r := by rw [if_pos rfl] at H; exact H
                                      clear H
                                      have H := H1
                                      clear H1
                                      by_cases c83 : x14_4 ≥ (t722.length : Int)
                                      · rw [if_pos c83] at H
                                        have c83b0 : decide ((t722.length : Int) ≤ x14_4) = true := decide_eq_true c83
                                        clear c83
                                        obtain rfl := Option.some.inj H
                                        obtain ⟨Ao84, co84, eo84⟩ := Kd.R_slice HO_12.out
                                        subst eo84
                                        go_wp2
                                        go_ret
                                        exact ⟨by first | rfl | (simp [errW_none, errW_some] <;> rfl) | (simp [*, errW_none, errW_some] <;> rfl), by repeat (first | (with_reducible first | exact HB.out | apply below_alloc | apply pw_below_drewN | apply below_drew1 | refine below_set ?_ GE703.out) | exact HB.out)⟩
                                      · rw [if_neg c83] at H
                                        have c83b0 : decide ((t722.length : Int) ≤ x14_4) = false := decide_eq_false c83
                                        clear c83
                                        by_cases c85 : 0 ≤ x14_4
                                        · rw [if_pos c85] at H
                                          have c85b0 : decide (0 ≤ x14_4) = true := decide_eq_true c85
                                          clear c85
                                          by_cases c86 : x14_4 < (t722.length : Int)
                                          · rw [if_pos c86] at H
                                            have c86b0 : decide (x14_4 < (t722.length : Int)) = true := decide_eq_true c86
                                            clear c86
                                            by_cases c87 : (rd t722 x14_4) = x15_4
                                            · rw [if_pos c87] at H
                                              have c87b0 : ((rd t722 x14_4) == x15_4) = true := beq_iff_eq.mpr c87
                                              have c87b1 : ((rd t722 x14_4) != x15_4) = false := bne_eq_false_iff_eq.mpr c87
                                              clear c87
                                              have H' := Aside0.mk H
                                              clear H
                                              obtain ⟨Ao88, co88, eo88⟩ := Kd.R_slice HO_12.out
                                              subst eo88
                                              have p729 : 0 ≤ (x14_4 : Int) := of_decide_eq_true (by first | (with_reducible assumption) | assumption)
                                              have q729 : x14_4 < (t722.length : Int) := of_decide_eq_true (by first | (with_reducible assumption) | assumption)
                                              obtain ⟨ad729, e729, hx729_0⟩ := Kd.at_int (Kd.R_reads' HO_12.out).2.2 x14_4 p729 q729
                                              cases e729
                                              replace p729 := eq_true p729
                                              replace q729 := eq_true q729
                                              go_wp2
                                              go_roundg kj72
                                              case measure => have := HJ15.out; have := HK2.out; have := HK3.out; have := HK4.out; have := HJ69.out; have := HJ72.out; omega
                                              case rel => exact ⟨(wrap64 (x14_4 + 1)), (wrap64 (x15_4 + 1)), (by first | rfl | (simp; done) | (simp [*]; done)), (by first | rfl | (simp; done) | (simp [*]; done)), H', ⟨by have := HJ15.out; have := HK2.out; have := HK3.out; have := HK4.out; have := HJ69.out; have := HJ72.out; omega⟩, ⟨by (with_reducible repeat (first | apply Kd.R_alloc | apply Kd.R_drewN | apply Kd.R_drew)); exact HO_6.out⟩, ⟨by (with_reducible repeat (first | apply Kd.R_alloc | apply Kd.R_drewN | apply Kd.R_drew)); exact HO_12.out⟩, ⟨by (with_reducible repeat (first | apply Kd.R_alloc | apply Kd.R_drewN | apply Kd.R_drew)); exact HO_704000.out⟩, ⟨by (with_reducible repeat (first | apply Kd.S_alloc | apply Kd.S_drewN | apply Kd.S_drew)); exact HO_704001.out⟩, ⟨by (with_reducible repeat (first | refine blk_drewN ?_ _ | refine blk_drew ?_ | refine blk_alloc ?_ _)); exact BK703.out⟩, ⟨by repeat (first | (with_reducible first | exact HB.out | apply below_alloc | apply pw_below_drewN | apply below_drew1 | refine below_set ?_ GE703.out) | exact HB.out)⟩⟩
                                            · rw [if_neg c87] at H
                                              have c87b0 : ((rd t722 x14_4) == x15_4) = false := beq_eq_false_iff_ne.mpr c87
                                              have c87b1 : ((rd t722 x14_4) != x15_4) = true := bne_iff_ne.mpr c87
                                              obtain rfl := Option.some.inj H
                                              obtain ⟨Ao89, co89, eo89⟩ := Kd.R_slice HO_12.out
                                              subst eo89
                                              have p729 : 0 ≤ (x14_4 : Int) := of_decide_eq_true (by first | (with_reducible assumption) | assumption)
                                              have q729 : x14_4 < (t722.length : Int) := of_decide_eq_true (by first | (with_reducible assumption) | assumption)
                                              obtain ⟨ad729, e729, hx729_0⟩ := Kd.at_int (Kd.R_reads' HO_12.out).2.2 x14_4 p729 q729
                                              cases e729
                                              replace p729 := eq_true p729
                                              replace q729 := eq_true q729
                                              go_wp2
                                              go_ret
                                              exact ⟨by first | rfl | (simp [errW_none, errW_some] <;> rfl) | (simp [*, errW_none, errW_some] <;> rfl), by repeat (first | (with_reducible first | exact HB.out | apply below_alloc | apply pw_below_drewN | apply below_drew1 | refine below_set ?_ GE703.out) | exact HB.out)⟩
                                          · rw [if_neg c86] at H
                                            exact absurd H (by simp)
                                        · rw [if_neg c85] at H
                                          exact absurd H (by simp)
                                    · replace c82 := Bool.eq_false_iff.mpr c82
                                      subst c82
                                      have H1 : (wayzgooselaw04_TradeFound.l3 kj72 t705 t708 x11_3 t722 t725 x14_4 (wrap64 (x15_4 + 1)) t695 t698) = some r := by rw [if_neg (show ¬ (false = true) by decide)] at H; exact H
                                      clear H
                                      have H := H1
                                      clear H1
                                      have H' := Aside0.mk H
                                      clear H
                                      go_wp2
                                      go_roundg kj72
                                      case measure => have := HJ15.out; have := HK2.out; have := HK3.out; have := HK4.out; have := HJ69.out; have := HJ72.out; omega
                                      case rel => exact ⟨(x14_4), (wrap64 (x15_4 + 1)), (by first | rfl | (simp; done) | (simp [*]; done)), (by first | rfl | (simp; done) | (simp [*]; done)), H', ⟨by have := HJ15.out; have := HK2.out; have := HK3.out; have := HK4.out; have := HJ69.out; have := HJ72.out; omega⟩, ⟨by (with_reducible repeat (first | apply Kd.R_alloc | apply Kd.R_drewN | apply Kd.R_drew)); exact HO_6.out⟩, ⟨by (with_reducible repeat (first | apply Kd.R_alloc | apply Kd.R_drewN | apply Kd.R_drew)); exact HO_12.out⟩, ⟨by (with_reducible repeat (first | apply Kd.R_alloc | apply Kd.R_drewN | apply Kd.R_drew)); exact HO_704000.out⟩, ⟨by (with_reducible repeat (first | apply Kd.S_alloc | apply Kd.S_drewN | apply Kd.S_drew)); exact HO_704001.out⟩, ⟨by (with_reducible repeat (first | refine blk_drewN ?_ _ | refine blk_drew ?_ | refine blk_alloc ?_ _)); exact BK703.out⟩, ⟨by repeat (first | (with_reducible first | exact HB.out | apply below_alloc | apply pw_below_drewN | apply below_drew1 | refine below_set ?_ GE703.out) | exact HB.out)⟩⟩
                              · replace c72 := Bool.eq_false_iff.mpr c72
                                subst c72
                                have H1 : (if t725 = 0 then (if x14_4 = (t722.length : Int) then (wayzgooselaw04_TradeFound.l2 kj69 t705 t708 (wrap64 (x11_3 + 1)) t695 t698) else (some false)) else (some false)) = some r := by rw [if_neg (show ¬ (false = true) by decide)] at H; exact H
                                clear H
                                have H := H1
                                clear H1
                                by_cases c90 : t725 = 0
                                · rw [if_pos c90] at H
                                  have c90b0 : (t725 == 0) = true := beq_iff_eq.mpr c90
                                  have c90b1 : (t725 != 0) = false := bne_eq_false_iff_eq.mpr c90
                                  clear c90
                                  by_cases c91 : x14_4 = (t722.length : Int)
                                  · rw [if_pos c91] at H
                                    have c91b0 : (x14_4 == (t722.length : Int)) = true := beq_iff_eq.mpr c91
                                    have c91b1 : (x14_4 != (t722.length : Int)) = false := bne_eq_false_iff_eq.mpr c91
                                    clear c91
                                    have H' := Aside0.mk H
                                    clear H
                                    obtain ⟨Ao92, co92, eo92⟩ := Kd.R_slice HO_12.out
                                    subst eo92
                                    go_wp2
                                    go_roundg kj69
                                    case measure => have := HJ15.out; have := HK2.out; have := HK3.out; have := HK4.out; have := HJ69.out; omega
                                    case rel => exact ⟨(wrap64 (x11_3 + 1)), (by first | rfl | (simp; done) | (simp [*]; done)), H', ⟨by have := HJ15.out; have := HK2.out; have := HK3.out; have := HK4.out; have := HJ69.out; omega⟩, ⟨by (with_reducible repeat (first | apply Kd.R_alloc | apply Kd.R_drewN | apply Kd.R_drew)); exact Kd.R_mono HO_6.out (fun _ hk => trivial)⟩, ⟨by (with_reducible repeat (first | apply Kd.R_alloc | apply Kd.R_drewN | apply Kd.R_drew)); exact HO_704000.out⟩, ⟨by (with_reducible repeat (first | apply Kd.S_alloc | apply Kd.S_drewN | apply Kd.S_drew)); exact Kd.S_mono HO_704001.out (fun _ hk => hk.1)⟩, ⟨by (with_reducible repeat (first | refine blk_drewN ?_ _ | refine blk_drew ?_ | refine blk_alloc ?_ _)); exact BK703.out⟩, ⟨by repeat (first | (with_reducible first | exact HB.out | apply below_alloc | apply pw_below_drewN | apply below_drew1 | refine below_set ?_ GE703.out) | exact HB.out)⟩⟩
                                  · rw [if_neg c91] at H
                                    have c91b0 : (x14_4 == (t722.length : Int)) = false := beq_eq_false_iff_ne.mpr c91
                                    have c91b1 : (x14_4 != (t722.length : Int)) = true := bne_iff_ne.mpr c91
                                    obtain rfl := Option.some.inj H
                                    obtain ⟨Ao93, co93, eo93⟩ := Kd.R_slice HO_12.out
                                    subst eo93
                                    go_wp2
                                    go_ret
                                    exact ⟨by first | rfl | (simp [errW_none, errW_some] <;> rfl) | (simp [*, errW_none, errW_some] <;> rfl), by repeat (first | (with_reducible first | exact HB.out | apply below_alloc | apply pw_below_drewN | apply below_drew1 | refine below_set ?_ GE703.out) | exact HB.out)⟩
                                · rw [if_neg c90] at H
                                  have c90b0 : (t725 == 0) = false := beq_eq_false_iff_ne.mpr c90
                                  have c90b1 : (t725 != 0) = true := bne_iff_ne.mpr c90
                                  obtain rfl := Option.some.inj H
                                  go_wp2
                                  go_ret
                                  exact ⟨by first | rfl | (simp [errW_none, errW_some] <;> rfl) | (simp [*, errW_none, errW_some] <;> rfl), by repeat (first | (with_reducible first | exact HB.out | apply below_alloc | apply pw_below_drewN | apply below_drew1 | refine below_set ?_ GE703.out) | exact HB.out)⟩
                    · rw [if_neg c66] at H
                      have c66b0 : decide (x11_3 ≤ 6) = false := decide_eq_false c66
                      clear c66
                      replace H := Option.bind_eq_some_iff.mp H
                      obtain ⟨t721, A940, H⟩ := H
                      replace H : (some t721) = some r := H
                      have A94 := Aside0.mk A940
                      clear A940
                      obtain rfl := Option.some.inj H
                      go_wp2_with (first | ((with_reducible refine gate_callee (f := 17) rfl ?_); refine goesL_ (some 180) rfl rfl Try.func17 (by kernel_rfl) rfl #[] rfl (by (try simp only [List.map_toArray, List.map_cons, List.map_nil]); first | done | rfl | (simp only [List.length_drop, List.length_take]; rfl)) ?_; (with_reducible refine (wayzgooselaw04_indexed.calls  t721 _ A94.out).mono ?_); rintro e w95 ⟨rfl, hb⟩; refine ⟨_, rfl, ?_⟩; have n0_ := Aside0.mk (Kd.R_below (by (with_reducible repeat (first | apply Kd.R_alloc | apply Kd.R_drewN | apply Kd.R_drew)); exact HO_6.out) hb); have n1_ := Aside0.mk (Kd.R_below (by (with_reducible repeat (first | apply Kd.R_alloc | apply Kd.R_drewN | apply Kd.R_drew)); exact HO_704000.out) hb); have n2_ := Aside0.mk (Kd.S_below (by (with_reducible repeat (first | apply Kd.S_alloc | apply Kd.S_drewN | apply Kd.S_drew)); exact HO_704001.out) hb); have n3_ := Aside0.mk (blk_below (g := gb703) (o := .cells #[.slice Ao20 t695.length co20, .slice Ao23 t698.length co23] 26 (0, 0)) (by (with_reducible repeat (first | refine blk_drewN ?_ _ | refine blk_drew ?_ | refine blk_alloc ?_ _)); exact BK703.out) hb); have n4_ := Aside0.mk (below_step (by repeat (first | (with_reducible first | exact HB.out | apply below_alloc | apply pw_below_drewN | apply below_drew1 | refine below_set ?_ GE703.out) | exact HB.out)) hb); clear HO_6; clear HO_704000; clear HO_704001; clear BK703; clear HB; have HO_6 := n0_; have HO_704000 := n1_; have HO_704001 := n2_; have BK703 := n3_; have HB := n4_; clear n0_ n1_ n2_ n3_ n4_; (try clear hb); (try clear hb2); (try clear hk); (try clear hi)))
                      go_ret
                      exact ⟨by first | rfl | (simp [errW_none, errW_some] <;> rfl) | (simp [*, errW_none, errW_some] <;> rfl), by repeat (first | (with_reducible first | exact HB.out | apply below_alloc | apply pw_below_drewN | apply below_drew1 | refine below_set ?_ GE703.out) | exact HB.out)⟩

/-- THE ONE PURE STATEMENT of wayzgooselaw04_TradeFound: yours. -/
def wayzgooselaw04_TradeFound.Pure : Prop := ∀ (l0 : List Int), l0.length ≤ maxLen → l0.length * 8 ≤ 140737488351232 → (∀ x ∈ l0, (Lit.int .i64 x).wf = true) → ∃ k, wayzgooselaw04_TradeFound.f k l0 = some true
theorem wayzgooselaw04_TradeFound.walk (P : wayzgooselaw04_TradeFound.Pure) (a0 : Option Addr) (len0 cap0 : Nat) (z0 : List Int) (w : World) (w0 : (a0 = none ∧ len0 = 0 ∧ cap0 = 0 ∧ z0 = []) ∨ ∃ x, a0 = some x ∧ len0 ≤ cap0 ∧ cap0 ≤ maxLen ∧ z0.length = cap0 ∧ (∀ i, i < z0.length → w.cell? (x.add i) = some (.int .i64 (z0.getD i 0))) ∧ ∀ n ∈ z0, (Lit.int .i64 n).wf = true) (y0 : len0 * 8 ≤ 140737488351232) :
    Calls Try.prog 11 #[.slice a0 len0 cap0] w fun e w' => e = .returned (.bool true) ∧ Below w.heap.size w w' := by
  obtain ⟨l0, rfl, hr0, hm0, hw0, hc0⟩ := ReadsInt.ofRowC w0
  obtain ⟨k, h⟩ := P l0 hm0 y0 hw0
  refine (wayzgooselaw04_TradeFound.calls k _ _ l0 true w (Kd.C_of_reads (d := (0 : Int)) (h1 := fun _ => rfl) hr0) hc0 h).mono ?_
  rintro e w' ⟨rfl, hd⟩
  exact ⟨rfl, hd⟩

end Go.Proofs.Ytfbimhnlcmdcpaa.Pa
/- What the dice of the kit give: numbers in their bounds, orders, ascending lists. -/
namespace Go.Proofs.Ytfbimhnlcmdcpaa.Q
open Go.RowKit Go.Proofs.Ytfbimhnlcmdcpaa.Pa Go.Proofs.YtfbimhnlcmdcpaaW.PrintWords Go.Proofs.YtfbimhnlcmdcpaaW.PrintLast Go.Proofs.YtfbimhnlcmdcpaaW.PrintMore
set_option linter.unusedVariables false

theorem u64w (x : Int) : IntKind.u64.wrap x = x % 18446744073709551616 := rfl
theorem xor_range (a b : Int) : 0 ≤ Go.bits .xor .u64 a b ∧ Go.bits .xor .u64 a b < 18446744073709551616 := by
  unfold Go.bits
  rw [u64w]
  omega
theorem w64s {x : Int} (h0 : -9223372036854775808 ≤ x) (h1 : x < 9223372036854775808) : wrap64 x = x := by
  unfold wrap64
  omega
theorem Ev.last {α : Type} {g : Nat → Option α} {r : α} (h : ∀ k, g (k + 1) = some r) : Ev g r := Ev.step h (Ev.now r)
/-- Dice in order: so many numbers are used up. -/
structure DOK (l : List Int) (a : Int) : Prop where
  lo : 0 ≤ a
  hi : a ≤ l.length
  sz : l.length < 4611686018427387904

theorem raw_ok {l : List Int} {a s : Int} (h : DOK l a) : ∃ n a' s', wayzgoosekit_Dice_raw.f l a s = some (n, a', s') ∧ 0 ≤ n ∧ n < 18446744073709551616 ∧ DOK l a' := by
  have hz := h.sz
  have hlo := h.lo
  unfold wayzgoosekit_Dice_raw.f
  by_cases c : a < (l.length : Int)
  · rw [if_pos c, if_pos h.lo]
    refine ⟨_, _, _, rfl, (xor_range _ _).1, (xor_range _ _).2, ?_⟩
    rw [w64s (by omega) (by omega)]
    exact ⟨by omega, by omega, hz⟩
  · rw [if_neg c]
    exact ⟨_, _, _, rfl, (xor_range _ _).1, (xor_range _ _).2, h⟩
theorem to_ok {l : List Int} {a s n : Int} (h : DOK l a) (hn : n < 4611686018427387904) : ∃ v a' s', wayzgoosekit_Dice_To.f l a s n = some (v, a', s') ∧ 0 ≤ v ∧ (v ≤ n ∨ v = 0) ∧ DOK l a' := by
  unfold wayzgoosekit_Dice_To.f
  by_cases c : n < 1
  · rw [if_pos c]
    exact ⟨_, _, _, rfl, by omega, .inr rfl, h⟩
  · rw [if_neg c]
    obtain ⟨m, a', s', hr, h0, h1, hd⟩ := raw_ok (s := s) h
    rw [hr]
    have hw : IntKind.u64.wrap (wrap64 (n + 1)) = n + 1 := by
      rw [w64s (by omega) (by omega), u64w]
      omega
    simp only [Option.bind_some, hw]
    rw [if_neg (by omega)]
    have h2 : (m / 65536).tmod (n + 1) = m / 65536 % (n + 1) := Int.tmod_eq_emod_of_nonneg (by omega)
    have h3 := Int.emod_nonneg (m / 65536) (show n + 1 ≠ 0 by omega)
    have h4 := Int.emod_lt_of_pos (m / 65536) (show 0 < n + 1 by omega)
    rw [h2, w64s (by omega) (by omega)]
    exact ⟨_, _, _, rfl, h3, .inl (by omega), hd⟩
/-- n at least 0: a number from 0 to n. -/
theorem to_ok' {l : List Int} {a s n : Int} (h : DOK l a) (hn : n < 4611686018427387904) (h0 : 0 ≤ n) : ∃ v a' s', wayzgoosekit_Dice_To.f l a s n = some (v, a', s') ∧ 0 ≤ v ∧ v ≤ n ∧ DOK l a' := by
  obtain ⟨v, a', s', h1, h2, h3, h4⟩ := to_ok (s := s) h hn
  exact ⟨v, a', s', h1, h2, by omega, h4⟩
theorem from_ok {l : List Int} {a s lo hi : Int} (h : DOK l a) (hl : -1000000 ≤ lo) (hl2 : lo ≤ 1000000) (hh : -1000000 ≤ hi) (hh2 : hi ≤ 1000000) : ∃ v a' s', wayzgoosekit_Dice_From.f l a s lo hi = some (v, a', s') ∧ lo ≤ v ∧ (v ≤ hi ∨ v = lo) ∧ DOK l a' := by
  unfold wayzgoosekit_Dice_From.f
  rw [w64s (by omega) (by omega)]
  obtain ⟨v, a', s', h1, h2, h3, h4⟩ := to_ok (s := s) (n := hi - lo) h (by omega)
  rw [h1]
  simp only [Option.bind_some]
  rw [w64s (by omega) (by omega)]
  exact ⟨_, _, _, rfl, by omega, by omega, h4⟩
theorem once_ok {l : List Int} {a s n : Int} (h : DOK l a) (hn : -1000000 ≤ n) (hn2 : n < 1000000) : ∃ v a' s', wayzgoosekit_Dice_Once.f l a s n = some (v, a', s') ∧ DOK l a' := by
  unfold wayzgoosekit_Dice_Once.f
  rw [w64s (by omega) (by omega)]
  obtain ⟨v, a', s', h1, h2, h3, h4⟩ := to_ok (s := s) (n := n - 1) h (by omega)
  rw [h1]
  exact ⟨_, _, _, rfl, h4⟩

/-! ### Order -/
theorem set_set_perm (l : List Int) (i j : Nat) (hi : i < l.length) (hj : j < l.length) : ((l.set i (l.getD j 0)).set j (l.getD i 0)).Perm l := by
  have gi : l.getD i 0 = l[i] := by simp [List.getD_eq_getElem?_getD, hi]
  have gj : l.getD j 0 = l[j] := by simp [List.getD_eq_getElem?_getD, hj]
  rw [gi, gj, List.perm_iff_count]
  intro x
  have hi' : i < (l.set i l[j]).length := by rw [List.length_set]; exact hi
  have hj' : j < (l.set i l[j]).length := by rw [List.length_set]; exact hj
  have e1 := List.count_set (a := l[i]) (b := x) hj'
  have e2 := List.count_set (a := l[j]) (b := x) hi
  rw [e1, e2]
  have ci : (if (l[i] == x) = true then 1 else 0) ≤ List.count x l := by
    split
    · rename_i h
      have : l[i] = x := by simpa using h
      exact List.count_pos_iff.2 (this ▸ List.getElem_mem hi)
    · omega
  by_cases hij : i = j
  · subst hij
    simp only [List.getElem_set_self]
    split <;> rename_i h <;> simp_all
  · simp only [List.getElem_set_ne hij]
    have cj : (if (l[j] == x) = true then 1 else 0) ≤ List.count x l - (if (l[i] == x) = true then 1 else 0) + (if (l[j] == x) = true then 1 else 0) := by omega
    omega
theorem order_l1 {l : List Int} (d : Nat) : ∀ (p : List Int) (x a s : Int), DOK l a → x = d → (d : Int) < p.length ∨ d = 0 → p.length < 1000000 →
    ∃ q a' s', Ev (fun k => wayzgoosekit_Dice_Order.l1 k p x l a s) (q, a', s') ∧ q.Perm p ∧ DOK l a' := by
  induction d with
  | zero =>
    intro p x a s h hx hd hp
    refine ⟨p, a, s, Ev.last (fun k => ?_), List.Perm.refl _, h⟩
    simp only [wayzgoosekit_Dice_Order.l1]
    rw [if_neg (by omega)]
  | succ d ih =>
    intro p x a s h hx hd hp
    obtain ⟨v, a1, s1, hr, h0, h1, hd1⟩ := to_ok' (s := s) (n := x) h (by omega) (by omega)
    have hxl : x.toNat < p.length := by omega
    have hvl : v.toNat < p.length := by omega
    have hperm := set_set_perm p x.toNat v.toNat hxl hvl
    obtain ⟨q, a', s', he, hq, hdk⟩ := ih ((p.set x.toNat (rd p v)).set v.toNat (rd p x)) (x - 1) a1 s1 hd1 (by omega) (by simp only [List.length_set]; omega) (by simp only [List.length_set]; exact hp)
    refine ⟨q, a', s', Ev.step (fun k => ?_) he, hq.trans hperm, hdk⟩
    simp only [wayzgoosekit_Dice_Order.l1]
    rw [if_pos (by omega), hr]
    simp only [Option.bind_some]
    rw [if_pos (by omega), if_pos (by omega), if_pos (by omega), if_pos (by omega), w64s (by omega) (by omega)]
theorem order_ok {l : List Int} {a s : Int} (n : Nat) (h : DOK l a) (hn : n < 1000000) (h1 : 1 ≤ n) : ∃ q a' s', Ev (fun k => wayzgoosekit_Dice_Order.f k l a s n) (q, a', s') ∧ q.Perm (nats n) ∧ DOK l a' := by
  have key : ∀ (d i : Nat), i + d = n → ∃ q a' s', Ev (fun k => wayzgoosekit_Dice_Order.l0 k n (nats i) i l a s) (q, a', s') ∧ q.Perm (nats n) ∧ DOK l a' := by
    intro d
    induction d with
    | zero =>
      intro i hi
      obtain rfl : i = n := by omega
      have hlen : (nats i).length = i := by simp [nats]
      obtain ⟨q, a', s', he, hq, hd⟩ := order_l1 (l := l) (i - 1) (nats i) ((i : Int) - 1) a s h (by omega) (by rw [hlen]; omega) (by rw [hlen]; exact hn)
      refine ⟨q, a', s', Ev.step (fun k => ?_) he, hq, hd⟩
      simp only [wayzgoosekit_Dice_Order.l0]
      rw [if_neg (by omega), w64s (by omega) (by omega)]
    | succ d ih =>
      intro i hi
      obtain ⟨q, a', s', he, hq, hd⟩ := ih (i + 1) (by omega)
      have hlen : (nats i).length = i := by simp [nats]
      have hsucc : nats (i + 1) = nats i ++ [(i : Int)] := by simp [nats, List.range_succ]
      refine ⟨q, a', s', Ev.step (fun k => ?_) he, hq, hd⟩
      simp only [wayzgoosekit_Dice_Order.l0]
      rw [if_pos (by omega), if_pos (by rw [hlen]; omega), w64s (by omega) (by omega), hsucc, Int.natCast_add]
      rfl
  exact key n 0 (by omega)

/-! ### Index -/
/-- the first index of x from i on, -1 -/
def idxFrom (x : Int) : List Int → Int → Int
  | [], _ => -1
  | y :: t, i => if y = x then i else idxFrom x t (i + 1)
def idxT (l : List Int) (x : Int) : Int := idxFrom x l 0
theorem index_ok (l : List Int) (x : Int) (hl : l.length < 4611686018427387904) : Ev (fun k => wayzgoosekit_Index.f k l x) (idxT l x) := by
  have key : ∀ (d i : Nat), i + d = l.length → Ev (fun k => wayzgoosekit_Index.l0 k l x i) (idxFrom x (l.drop i) i) := by
    intro d
    induction d with
    | zero =>
      intro i hi
      rw [List.drop_of_length_le (by omega)]
      refine Ev.last (fun k => ?_)
      simp only [wayzgoosekit_Index.l0]
      rw [if_neg (by omega)]
      rfl
    | succ d ih =>
      intro i hi
      have hil : i < l.length := by omega
      rw [List.drop_eq_getElem_cons hil]
      have hrd : rd l (i : Int) = l[i] := by simp [rd, List.getD_eq_getElem?_getD, hil]
      by_cases c : l[i] = x
      · refine Ev.last (fun k => ?_)
        simp only [wayzgoosekit_Index.l0, idxFrom]
        rw [if_pos (by omega), if_pos (by omega), hrd, if_pos c, if_pos c]
      · refine Ev.step (fun k => ?_) (show Ev _ (idxFrom x (l[i] :: l.drop (i + 1)) i) by rw [idxFrom, if_neg c]; exact ih (i + 1) (by omega))
        simp only [wayzgoosekit_Index.l0]
        rw [if_pos (by omega), if_pos (by omega), hrd, if_neg c, w64s (by omega) (by omega)]
        rfl
  exact key l.length 0 (by omega)
theorem idxFrom_spec (x : Int) : ∀ (l : List Int) (i : Int), (x ∉ l ∧ idxFrom x l i = -1) ∨ (∃ j : Nat, j < l.length ∧ l.getD j 0 = x ∧ (∀ m, m < j → l.getD m 0 ≠ x) ∧ idxFrom x l i = i + j)
  | [], i => .inl ⟨by simp, rfl⟩
  | y :: t, i => by
    by_cases c : y = x
    · exact .inr ⟨0, by simp, by simpa using c, fun m hm => by omega, by simp [idxFrom, c]⟩
    · rcases idxFrom_spec x t (i + 1) with ⟨h1, h2⟩ | ⟨j, h1, h2, h3, h4⟩
      · exact .inl ⟨by simp [h1, Ne.symm c], by rw [idxFrom, if_neg c, h2]⟩
      · refine .inr ⟨j + 1, by simp; omega, by simpa using h2, fun m hm => ?_, by rw [idxFrom, if_neg c, h4]; omega⟩
        cases m with
        | zero => simpa using c
        | succ m => simpa using h3 m (by omega)
theorem idxT_spec (l : List Int) (x : Int) : (x ∉ l ∧ idxT l x = -1) ∨ (∃ j : Nat, j < l.length ∧ l.getD j 0 = x ∧ (∀ m, m < j → l.getD m 0 ≠ x) ∧ idxT l x = j) := by
  have := idxFrom_spec x l 0
  simpa [idxT] using this
theorem idxT_nonneg (l : List Int) (x : Int) : 0 ≤ idxT l x ↔ x ∈ l := by
  rcases idxT_spec l x with ⟨h1, h2⟩ | ⟨j, h1, h2, h3, h4⟩
  · rw [h2]; simp [h1]
  · rw [h4]
    refine ⟨fun _ => ?_, fun _ => by omega⟩
    rw [← h2, List.getD_eq_getElem?_getD, List.getElem?_eq_getElem h1]
    exact List.getElem_mem h1
end Go.Proofs.Ytfbimhnlcmdcpaa.Q
/- Trades that are made of numbers are valid. -/
namespace Go.Proofs.Ytfbimhnlcmdcpaa.Q
open Go.RowKit Go.Proofs.Ytfbimhnlcmdcpaa.Pa Go.Proofs.YtfbimhnlcmdcpaaW.PrintWords Go.Proofs.YtfbimhnlcmdcpaaW.PrintLast Go.Proofs.YtfbimhnlcmdcpaaW.PrintMore
set_option linter.unusedVariables false

/-! ### partOf -/
theorem nats_mem (n : Nat) (x : Int) : x ∈ nats n ↔ 0 ≤ x ∧ x < n := by
  unfold nats
  simp only [List.mem_map, List.mem_range]
  constructor
  · rintro ⟨m, hm, rfl⟩
    exact ⟨by simp, by simpa using hm⟩
  · rintro ⟨h0, h1⟩
    exact ⟨x.toNat, by omega, by simp; omega⟩
theorem nats_pairwise (n : Nat) : (nats n).Pairwise (· < ·) := by
  unfold nats
  rw [List.pairwise_map]
  exact (List.pairwise_lt_range).imp (fun h => by simpa using h)
theorem nats_nodup (n : Nat) : (nats n).Nodup := (nats_pairwise n).imp (fun h => by omega)
theorem nats_snoc (n : Nat) : nats (n + 1) = nats n ++ [(n : Int)] := by simp [nats, List.range_succ]
theorem idx_take (p : List Int) (x : Int) (m : Int) (hx : x ∈ p) (hm : idxT p x < m) : x ∈ p.take m.toNat := by
  rcases idxT_spec p x with ⟨h1, h2⟩ | ⟨j, h1, h2, h3, h4⟩
  · exact absurd hx h1
  · rw [h4] at hm
    have : p[j]? = some x := by
      rw [List.getElem?_eq_getElem h1, ← h2, List.getD_eq_getElem?_getD, List.getElem?_eq_getElem h1]
      rfl
    refine List.mem_of_getElem? (i := j) ?_
    rw [List.getElem?_take_of_lt (by omega), this]
theorem part_len (n : Nat) (p : List Int) (m : Int) (hp : p.Perm (nats n)) : ((nats n).filter (fun i => decide (idxT p i < m))).length ≤ m.toNat := by
  have hnd : p.Nodup := hp.nodup_iff.2 (nats_nodup n)
  have h1 : ((nats n).filter (fun i => decide (idxT p i < m))).length = (p.filter (fun i => decide (idxT p i < m))).length := (hp.symm.filter _).length_eq
  rw [h1]
  have h2 : (p.filter (fun i => decide (idxT p i < m))).length ≤ (p.filter (fun i => decide (i ∈ p.take m.toNat))).length := by
    rw [← List.countP_eq_length_filter, ← List.countP_eq_length_filter]
    exact List.countP_mono_left (fun x hx h => by simpa using idx_take p x m hx (by simpa using h))
  refine Nat.le_trans h2 ?_
  have h3 : p.filter (fun i => decide (i ∈ p.take m.toNat)) = (p.take m.toNat).filter (fun i => decide (i ∈ p.take m.toNat)) ++ (p.drop m.toNat).filter (fun i => decide (i ∈ p.take m.toNat)) := by
    conv => lhs; rw [show p.filter (fun i => decide (i ∈ p.take m.toNat)) = ((p.take m.toNat) ++ (p.drop m.toNat)).filter (fun i => decide (i ∈ p.take m.toNat)) by rw [List.take_append_drop]]
    rw [List.filter_append]
  have h4 : (p.drop m.toNat).filter (fun i => decide (i ∈ p.take m.toNat)) = [] := by
    rw [List.filter_eq_nil_iff]
    intro x hx h
    have hd : (p.take m.toNat ++ p.drop m.toNat).Nodup := by rw [List.take_append_drop]; exact hnd
    rw [List.nodup_append] at hd
    exact hd.2.2 x (by simpa using h) x hx rfl
  rw [h3, h4, List.append_nil]
  refine Nat.le_trans (List.length_filter_le _ _) ?_
  rw [List.length_take]
  omega
/-- Ascending numbers below n. -/
structure Asc (ws : List Int) (n : Nat) : Prop where
  lt : ws.Pairwise (· < ·)
  mem : ∀ x ∈ ws, 0 ≤ x ∧ x < n
theorem part_ok {l : List Int} {a s : Int} (n : Nat) (m : Int) (h : DOK l a) (hn : n < 1000000) (h1 : 1 ≤ n) (hm : 0 ≤ m) : ∃ ws a' s', Ev (fun k => wayzgoosekit_partOf.f k l a s n m) (ws, a', s') ∧ Asc ws n ∧ ws.length ≤ m.toNat ∧ DOK l a' := by
  obtain ⟨p, a1, s1, he, hp, hd⟩ := order_ok (s := s) n h hn h1
  have hpl : p.length = n := by rw [hp.length_eq]; simp [nats]
  have key : ∀ (d i : Nat), i + d = n → Ev (fun k => wayzgoosekit_partOf.l0 k n m p ((nats i).filter (fun i => decide (idxT p i < m))) i l a1 s1) ((nats n).filter (fun i => decide (idxT p i < m)), a1, s1) := by
    intro d
    induction d with
    | zero =>
      intro i hi
      obtain rfl : i = n := by omega
      refine Ev.last (fun k => ?_)
      simp only [wayzgoosekit_partOf.l0]
      rw [if_neg (by omega)]
    | succ d ih =>
      intro i hi
      have hlen : ((nats i).filter (fun i => decide (idxT p i < m))).length ≤ i := Nat.le_trans (List.length_filter_le _ _) (by simp [nats])
      have ih := ih (i + 1) (by omega)
      rw [nats_snoc, List.filter_append] at ih
      by_cases c : idxT p i < m
      · have e1 : [(i : Int)].filter (fun i => decide (idxT p i < m)) = [(i : Int)] := by simp [c]
        rw [e1] at ih
        refine Ev.step (f := fun k => (wayzgoosekit_Index.f k p i).bind fun t => if t < m then (if ((nats i).filter (fun i => decide (idxT p i < m))).length < 17592186044416 then wayzgoosekit_partOf.l0 k n m p ((nats i).filter (fun i => decide (idxT p i < m)) ++ [(i : Int)]) ((i + 1 : Nat) : Int) l a1 s1 else none) else wayzgoosekit_partOf.l0 k n m p ((nats i).filter (fun i => decide (idxT p i < m))) ((i + 1 : Nat) : Int) l a1 s1) (fun k => ?_) ?_
        · simp only [wayzgoosekit_partOf.l0]
          rw [if_pos (by omega), w64s (by omega) (by omega)]
          rfl
        · refine Ev.bind (index_ok p i (by omega)) ?_
          refine Ev.congr (fun k => ?_) ih
          rw [if_pos c, if_pos (by omega)]
      · have e1 : [(i : Int)].filter (fun i => decide (idxT p i < m)) = [] := by simp [c]
        rw [e1, List.append_nil] at ih
        refine Ev.step (f := fun k => (wayzgoosekit_Index.f k p i).bind fun t => if t < m then (if ((nats i).filter (fun i => decide (idxT p i < m))).length < 17592186044416 then wayzgoosekit_partOf.l0 k n m p ((nats i).filter (fun i => decide (idxT p i < m)) ++ [(i : Int)]) ((i + 1 : Nat) : Int) l a1 s1 else none) else wayzgoosekit_partOf.l0 k n m p ((nats i).filter (fun i => decide (idxT p i < m))) ((i + 1 : Nat) : Int) l a1 s1) (fun k => ?_) ?_
        · simp only [wayzgoosekit_partOf.l0]
          rw [if_pos (by omega), w64s (by omega) (by omega)]
          rfl
        · refine Ev.bind (index_ok p i (by omega)) ?_
          refine Ev.congr (fun k => ?_) ih
          rw [if_neg c]
  refine ⟨_, _, _, Ev.bind (f := fun k (x : List Int × Int × Int) => wayzgoosekit_partOf.l0 k n m x.1 [] 0 l x.2.1 x.2.2) he (key n 0 (by omega)), ⟨?_, ?_⟩, part_len n p m hp, hd⟩
  · exact (nats_pairwise n).filter _
  · intro x hx
    exact (nats_mem n x).1 (List.mem_filter.1 hx).1
end Go.Proofs.Ytfbimhnlcmdcpaa.Q
