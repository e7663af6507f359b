/- A part of the proof: The beginning of Short means just one trade, and that to which the heading leads, if it leads to one; no shorter one means just one: for all lists of numbers. Without conditions of its own. -/
import Derived.Test.YtfbimhnlcmdcpaaMTradeShort2
import Derived.Test.YtfbimhnlcmdcpaaMTradeShort3
import Derived.Test.YtfbimhnlcmdcpaaMTradeShort4
import Derived.Test.YtfbimhnlcmdcpaaMTradeShort6
namespace Go.Proofs.Ytfbimhnlcmdcpaa.Pa
open Go.RowKit Go.Proofs.YtfbimhnlcmdcpaaW.PrintWords Go.Proofs.YtfbimhnlcmdcpaaW.PrintLast Go.Proofs.YtfbimhnlcmdcpaaW.PrintMore
attribute [local go_sem] max2_int min2_int max_two min_two max_three min_three max_four min_four   -- for this text's walks alone
set_option linter.unusedVariables false
set_option linter.unusedSimpArgs false


/-! ### wayzgooselaw04_TradeShort: function 9 -/
mutual
def wayzgooselaw04_TradeShort.l0 : Nat → Int → List (S51) → List (S39) → Option (Bool)
  | 0, _, _, _ => none
  | k + 1, x4, x629000, x629001 => if x4 < (x629001.length : Int) then ((trade_Short.f x629000 x629001 x4).bind fun bt630 => (if 0 ≤ x4 then ((trade_Follow.f x629000 x629001 x4).bind fun bt633 => (if bt633.2.2 = 0 then (if bt633.1 < 0 then (wayzgooselaw04_TradeShort.j1 k x4 bt630.1 bt630.2 ((rd_T39 x629001 x4).f0) bt633.1 bt633.2.2 true x629000 x629001) else (wayzgooselaw04_TradeShort.j1 k x4 bt630.1 bt630.2 ((rd_T39 x629001 x4).f0) bt633.1 bt633.2.2 (decide (bt633.1 ≥ (x629001.length : Int))) x629000 x629001)) else (wayzgooselaw04_TradeShort.j1 k x4 bt630.1 bt630.2 ((rd_T39 x629001 x4).f0) bt633.1 bt633.2.2 false x629000 x629001))) else (none))) else ((wayzgooselaw04_indexed.f).bind fun t629 => (some t629))
def wayzgooselaw04_TradeShort.j1 : Nat → Int → ByteArray → Int → ByteArray → Int → Int → Bool → List (S51) → List (S39) → Option (Bool)
  | 0, _, _, _, _, _, _, _, _, _ => none
  | k + 1, x4, x5, x6, x7, x8, x10, x58, x629000, x629001 => if x58 = true then (some false) else (wayzgooselaw04_TradeShort.l1 k x4 x5 x6 x7 x8 x10 false 0 x629000 x629001)
def wayzgooselaw04_TradeShort.l1 : Nat → Int → ByteArray → Int → ByteArray → Int → Int → Bool → Int → List (S51) → List (S39) → Option (Bool)
  | 0, _, _, _, _, _, _, _, _, _, _ => none
  | k + 1, x4, x5, x6, x7, x8, x10, x11, x12, x629000, x629001 => if x12 ≤ (x7.size : Int) then (wayzgooselaw04_TradeShort.j3 k x4 x5 x6 x7 x8 x10 x11 x12 (!x11) x629000 x629001) else (wayzgooselaw04_TradeShort.j3 k x4 x5 x6 x7 x8 x10 x11 x12 false x629000 x629001)
def wayzgooselaw04_TradeShort.j3 : Nat → Int → ByteArray → Int → ByteArray → Int → Int → Bool → Int → Bool → List (S51) → List (S39) → Option (Bool)
  | 0, _, _, _, _, _, _, _, _, _, _, _ => none
  | k + 1, x4, x5, x6, x7, x8, x10, x11, x12, x66, x629000, x629001 => if x66 = true then (if 0 ≤ x12 then (if x12 ≤ (x7.size : Int) then ((trade_May.f x629000 x629001 (x7.extract 0 (x12 : Int).toNat)).bind fun bt636 => (if bt636.2 = 0 then (if (bt636.1.length : Int) = 1 then (if x6 = 0 then (wayzgooselaw04_TradeShort.j4 k x4 x5 x6 x7 x8 x10 true x12 bt636.1 (x5.toList != (x7.extract 0 (x12 : Int).toNat).toList) x629000 x629001) else (wayzgooselaw04_TradeShort.j4 k x4 x5 x6 x7 x8 x10 true x12 bt636.1 true x629000 x629001)) else (wayzgooselaw04_TradeShort.l1 k x4 x5 x6 x7 x8 x10 x11 (wrap64 (x12 + 1)) x629000 x629001)) else (some false))) else (none)) else (none)) else (if x11 = true then (wayzgooselaw04_TradeShort.l0 k (wrap64 (x4 + 1)) x629000 x629001) else (if x6 = 11 then (if x5.toList = ([] : List UInt8) then (wayzgooselaw04_TradeShort.l0 k (wrap64 (x4 + 1)) x629000 x629001) else (some false)) else (some false)))
def wayzgooselaw04_TradeShort.j4 : Nat → Int → ByteArray → Int → ByteArray → Int → Int → Bool → Int → List Int → Bool → List (S51) → List (S39) → Option (Bool)
  | 0, _, _, _, _, _, _, _, _, _, _, _, _ => none
  | k + 1, x4, x5, x6, x7, x8, x10, x11, x12, x13, x90, x629000, x629001 => if x90 = true then (some false) else (if 0 < (x13.length : Int) then ((trade_Means.f x629000 x629001 x5 (rd x13 0)).bind fun bt641 => (if bt641.2 = 0 then (if bt641.1 = 1 then (if x10 = 0 then (if 0 ≤ x8 then (if x8 < (x629001.length : Int) then (if ((rd_T39 x629001 x8).f1) ≥ 0 then (if (rd x13 0) = x8 then (wayzgooselaw04_TradeShort.l1 k x4 x5 x6 x7 x8 x10 x11 (wrap64 (x12 + 1)) x629000 x629001) else (some false)) else (wayzgooselaw04_TradeShort.l1 k x4 x5 x6 x7 x8 x10 x11 (wrap64 (x12 + 1)) x629000 x629001)) else (none)) else (none)) else (wayzgooselaw04_TradeShort.l1 k x4 x5 x6 x7 x8 x10 x11 (wrap64 (x12 + 1)) x629000 x629001)) else (some false)) else (some false))) else (none))
end
def wayzgooselaw04_TradeShort.f (k : Nat) (l0 : List Int) : Option (Bool) := (wayzgoosekit_NewDice.f l0).bind fun bt616 => ((wayzgoosekit_TradesOf.f k bt616.1 bt616.2.1 bt616.2.2 2 6).bind fun bt620 => (wayzgooselaw04_TradeShort.l0 k 0 bt620.1 bt620.2.1))
theorem wayzgooselaw04_TradeShort.mono_l : ∀ k, (∀ y0 y1 y2, LeO (wayzgooselaw04_TradeShort.l0 k y0 y1 y2) (wayzgooselaw04_TradeShort.l0 (k + 1) y0 y1 y2)) ∧ (∀ y0 y1 y2 y3 y4 y5 y6 y7 y8, LeO (wayzgooselaw04_TradeShort.j1 k y0 y1 y2 y3 y4 y5 y6 y7 y8) (wayzgooselaw04_TradeShort.j1 (k + 1) y0 y1 y2 y3 y4 y5 y6 y7 y8)) ∧ (∀ y0 y1 y2 y3 y4 y5 y6 y7 y8 y9, LeO (wayzgooselaw04_TradeShort.l1 k y0 y1 y2 y3 y4 y5 y6 y7 y8 y9) (wayzgooselaw04_TradeShort.l1 (k + 1) y0 y1 y2 y3 y4 y5 y6 y7 y8 y9)) ∧ (∀ y0 y1 y2 y3 y4 y5 y6 y7 y8 y9 y10, LeO (wayzgooselaw04_TradeShort.j3 k y0 y1 y2 y3 y4 y5 y6 y7 y8 y9 y10) (wayzgooselaw04_TradeShort.j3 (k + 1) y0 y1 y2 y3 y4 y5 y6 y7 y8 y9 y10)) ∧ (∀ y0 y1 y2 y3 y4 y5 y6 y7 y8 y9 y10 y11, LeO (wayzgooselaw04_TradeShort.j4 k y0 y1 y2 y3 y4 y5 y6 y7 y8 y9 y10 y11) (wayzgooselaw04_TradeShort.j4 (k + 1) y0 y1 y2 y3 y4 y5 y6 y7 y8 y9 y10 y11))
  | 0 => ⟨fun _ _ _ r h => by simp [wayzgooselaw04_TradeShort.l0] at h, fun _ _ _ _ _ _ _ _ _ r h => by simp [wayzgooselaw04_TradeShort.j1] at h, fun _ _ _ _ _ _ _ _ _ _ r h => by simp [wayzgooselaw04_TradeShort.l1] at h, fun _ _ _ _ _ _ _ _ _ _ _ r h => by simp [wayzgooselaw04_TradeShort.j3] at h, fun _ _ _ _ _ _ _ _ _ _ _ _ r h => by simp [wayzgooselaw04_TradeShort.j4] at h⟩
  | k + 1 => by
    obtain ⟨ih0, ih1, ih2, ih3, ih4⟩ := wayzgooselaw04_TradeShort.mono_l k
    refine ⟨?_, ?_, ?_, ?_, ?_⟩
    · intro y0 y1 y2
      unfold wayzgooselaw04_TradeShort.l0
      repeat' first
      | (with_reducible exact ih0 _ _ _)
      | (with_reducible exact ih1 _ _ _ _ _ _ _ _ _)
      | (with_reducible exact ih2 _ _ _ _ _ _ _ _ _ _)
      | (with_reducible exact ih3 _ _ _ _ _ _ _ _ _ _ _)
      | (with_reducible exact ih4 _ _ _ _ _ _ _ _ _ _ _ _)
      | (with_reducible exact wayzgoosekit_TradesOf.mono _ _ _ _ _ _)
      | (with_reducible exact LeO.refl _)
      | (with_reducible exact LeO.none _)
      | (with_reducible refine LeO.ite ?_ ?_)
      | (with_reducible refine LeO.bind ?_ (fun _ => ?_))
      | exact ih0 _ _ _
      | exact ih1 _ _ _ _ _ _ _ _ _
      | exact ih2 _ _ _ _ _ _ _ _ _ _
      | exact ih3 _ _ _ _ _ _ _ _ _ _ _
      | exact ih4 _ _ _ _ _ _ _ _ _ _ _ _
      | exact wayzgoosekit_TradesOf.mono _ _ _ _ _ _
      | exact LeO.none _
      | refine LeO.ite ?_ ?_
      | refine LeO.bind ?_ (fun _ => ?_)
    · intro y0 y1 y2 y3 y4 y5 y6 y7 y8
      unfold wayzgooselaw04_TradeShort.j1
      repeat' first
      | (with_reducible exact ih0 _ _ _)
      | (with_reducible exact ih1 _ _ _ _ _ _ _ _ _)
      | (with_reducible exact ih2 _ _ _ _ _ _ _ _ _ _)
      | (with_reducible exact ih3 _ _ _ _ _ _ _ _ _ _ _)
      | (with_reducible exact ih4 _ _ _ _ _ _ _ _ _ _ _ _)
      | (with_reducible exact wayzgoosekit_TradesOf.mono _ _ _ _ _ _)
      | (with_reducible exact LeO.refl _)
      | (with_reducible exact LeO.none _)
      | (with_reducible refine LeO.ite ?_ ?_)
      | (with_reducible refine LeO.bind ?_ (fun _ => ?_))
      | exact ih0 _ _ _
      | exact ih1 _ _ _ _ _ _ _ _ _
      | exact ih2 _ _ _ _ _ _ _ _ _ _
      | exact ih3 _ _ _ _ _ _ _ _ _ _ _
      | exact ih4 _ _ _ _ _ _ _ _ _ _ _ _
      | exact wayzgoosekit_TradesOf.mono _ _ _ _ _ _
      | exact LeO.none _
      | refine LeO.ite ?_ ?_
      | refine LeO.bind ?_ (fun _ => ?_)
    · intro y0 y1 y2 y3 y4 y5 y6 y7 y8 y9
      unfold wayzgooselaw04_TradeShort.l1
      repeat' first
      | (with_reducible exact ih0 _ _ _)
      | (with_reducible exact ih1 _ _ _ _ _ _ _ _ _)
      | (with_reducible exact ih2 _ _ _ _ _ _ _ _ _ _)
      | (with_reducible exact ih3 _ _ _ _ _ _ _ _ _ _ _)
      | (with_reducible exact ih4 _ _ _ _ _ _ _ _ _ _ _ _)
      | (with_reducible exact wayzgoosekit_TradesOf.mono _ _ _ _ _ _)
      | (with_reducible exact LeO.refl _)
      | (with_reducible exact LeO.none _)
      | (with_reducible refine LeO.ite ?_ ?_)
      | (with_reducible refine LeO.bind ?_ (fun _ => ?_))
      | exact ih0 _ _ _
      | exact ih1 _ _ _ _ _ _ _ _ _
      | exact ih2 _ _ _ _ _ _ _ _ _ _
      | exact ih3 _ _ _ _ _ _ _ _ _ _ _
      | exact ih4 _ _ _ _ _ _ _ _ _ _ _ _
      | exact wayzgoosekit_TradesOf.mono _ _ _ _ _ _
      | exact LeO.none _
      | refine LeO.ite ?_ ?_
      | refine LeO.bind ?_ (fun _ => ?_)
    · intro y0 y1 y2 y3 y4 y5 y6 y7 y8 y9 y10
      unfold wayzgooselaw04_TradeShort.j3
      repeat' first
      | (with_reducible exact ih0 _ _ _)
      | (with_reducible exact ih1 _ _ _ _ _ _ _ _ _)
      | (with_reducible exact ih2 _ _ _ _ _ _ _ _ _ _)
      | (with_reducible exact ih3 _ _ _ _ _ _ _ _ _ _ _)
      | (with_reducible exact ih4 _ _ _ _ _ _ _ _ _ _ _ _)
      | (with_reducible exact wayzgoosekit_TradesOf.mono _ _ _ _ _ _)
      | (with_reducible exact LeO.refl _)
      | (with_reducible exact LeO.none _)
      | (with_reducible refine LeO.ite ?_ ?_)
      | (with_reducible refine LeO.bind ?_ (fun _ => ?_))
      | exact ih0 _ _ _
      | exact ih1 _ _ _ _ _ _ _ _ _
      | exact ih2 _ _ _ _ _ _ _ _ _ _
      | exact ih3 _ _ _ _ _ _ _ _ _ _ _
      | exact ih4 _ _ _ _ _ _ _ _ _ _ _ _
      | exact wayzgoosekit_TradesOf.mono _ _ _ _ _ _
      | exact LeO.none _
      | refine LeO.ite ?_ ?_
      | refine LeO.bind ?_ (fun _ => ?_)
    · intro y0 y1 y2 y3 y4 y5 y6 y7 y8 y9 y10 y11
      unfold wayzgooselaw04_TradeShort.j4
      repeat' first
      | (with_reducible exact ih0 _ _ _)
      | (with_reducible exact ih1 _ _ _ _ _ _ _ _ _)
      | (with_reducible exact ih2 _ _ _ _ _ _ _ _ _ _)
      | (with_reducible exact ih3 _ _ _ _ _ _ _ _ _ _ _)
      | (with_reducible exact ih4 _ _ _ _ _ _ _ _ _ _ _ _)
      | (with_reducible exact wayzgoosekit_TradesOf.mono _ _ _ _ _ _)
      | (with_reducible exact LeO.refl _)
      | (with_reducible exact LeO.none _)
      | (with_reducible refine LeO.ite ?_ ?_)
      | (with_reducible refine LeO.bind ?_ (fun _ => ?_))
      | exact ih0 _ _ _
      | exact ih1 _ _ _ _ _ _ _ _ _
      | exact ih2 _ _ _ _ _ _ _ _ _ _
      | exact ih3 _ _ _ _ _ _ _ _ _ _ _
      | exact ih4 _ _ _ _ _ _ _ _ _ _ _ _
      | exact wayzgoosekit_TradesOf.mono _ _ _ _ _ _
      | exact LeO.none _
      | refine LeO.ite ?_ ?_
      | refine LeO.bind ?_ (fun _ => ?_)
theorem wayzgooselaw04_TradeShort.mono : ∀ a0 k, LeO (wayzgooselaw04_TradeShort.f k a0) (wayzgooselaw04_TradeShort.f (k + 1) a0) := by
  intro a0 k
  obtain ⟨ih0, ih1, ih2, ih3, ih4⟩ := wayzgooselaw04_TradeShort.mono_l k
  unfold wayzgooselaw04_TradeShort.f
  repeat' first
      | (with_reducible exact ih0 _ _ _)
      | (with_reducible exact ih1 _ _ _ _ _ _ _ _ _)
      | (with_reducible exact ih2 _ _ _ _ _ _ _ _ _ _)
      | (with_reducible exact ih3 _ _ _ _ _ _ _ _ _ _ _)
      | (with_reducible exact ih4 _ _ _ _ _ _ _ _ _ _ _ _)
      | (with_reducible exact wayzgoosekit_TradesOf.mono _ _ _ _ _ _)
      | (with_reducible exact LeO.refl _)
      | (with_reducible exact LeO.none _)
      | (with_reducible refine LeO.ite ?_ ?_)
      | (with_reducible refine LeO.bind ?_ (fun _ => ?_))
      | exact ih0 _ _ _
      | exact ih1 _ _ _ _ _ _ _ _ _
      | exact ih2 _ _ _ _ _ _ _ _ _ _
      | exact ih3 _ _ _ _ _ _ _ _ _ _ _
      | exact ih4 _ _ _ _ _ _ _ _ _ _ _ _
      | exact wayzgoosekit_TradesOf.mono _ _ _ _ _ _
      | exact LeO.none _
      | refine LeO.ite ?_ ?_
      | refine LeO.bind ?_ (fun _ => ?_)
def wayzgooselaw04_TradeShort.T14 : Bool × List (List Nat × List Nat) := (true, [([], []), ([], []), ([], []), ([1, 2], [1, 2]), ([0, 3], [0, 3]), ([4], [4]), ([5], [5]), ([5], [5]), ([6, 4, 0, 1, 2, 3, 4, 5, 6], [6]), ([7, 8, 0, 1, 2, 3, 4, 5, 6, 7, 8], [7])])
def wayzgooselaw04_TradeShort.B14 : List Nat := [0, 0, 0, 6, 15, 31, 63, 63, 127, 511]
theorem wayzgooselaw04_TradeShort.tab14 : rtab .any (opsOf Try.f9 14) = wayzgooselaw04_TradeShort.T14 := by kernel_rfl
theorem wayzgooselaw04_TradeShort.bits14 : waitsOk wayzgooselaw04_TradeShort.T14.2 wayzgooselaw04_TradeShort.B14 = true := by kernel_rfl
def wayzgooselaw04_TradeShort.T21 : Bool × List (List Nat × List Nat) := (true, [([], []), ([], []), ([], []), ([2], [2]), ([3], [3]), ([0, 1, 4], [0, 1, 4]), ([5], [5]), ([6], [6]), ([6], [6]), ([7, 5, 0, 1, 2, 3, 4, 5, 6, 7], [7]), ([8, 9, 0, 1, 2, 3, 4, 5, 6, 7, 8, 9], [8])])
def wayzgooselaw04_TradeShort.B21 : List Nat := [0, 0, 0, 4, 12, 31, 63, 127, 127, 255, 1023]
theorem wayzgooselaw04_TradeShort.tab21 : rtab .any (opsOf Try.f9 21) = wayzgooselaw04_TradeShort.T21 := by kernel_rfl
theorem wayzgooselaw04_TradeShort.bits21 : waitsOk wayzgooselaw04_TradeShort.T21.2 wayzgooselaw04_TradeShort.B21 = true := by kernel_rfl
set_option maxHeartbeats 8000000 in
set_option maxRecDepth 100000 in
theorem wayzgooselaw04_TradeShort.calls (k : Nat) (A0 : Option Addr) (c0 : Nat) (l0 : List Int) (r : Bool) (w : World) (hr0 : Kd.C (Kd.int .i64) w A0 l0.length l0) (hc0 : l0.length ≤ c0) (h : wayzgooselaw04_TradeShort.f k l0 = some r) :
    Calls Try.prog 9 #[.slice A0 l0.length c0] w fun e w' => e = .returned (.bool r) ∧ Below w.heap.size w w' := by
  have hu26 := Try.underlying26
  have HR0 := Aside0.mk hr0
  have HC0 := Aside0.mk hc0
  clear hr0 hc0
  have HB := Aside0.mk (Below.refl w.heap.size w)
  have H : ((wayzgoosekit_NewDice.f l0).bind fun bt616 => ((wayzgoosekit_TradesOf.f k bt616.1 bt616.2.1 bt616.2.2 2 6).bind fun bt620 => (wayzgooselaw04_TradeShort.l0 k 0 bt620.1 bt620.2.1))) = some r := h
  clear h
  replace H := Option.bind_eq_some_iff.mp H
  obtain ⟨⟨t616, t617, t618⟩, A20, H⟩ := H
  replace H : ((wayzgoosekit_TradesOf.f k t616 t617 t618 2 6).bind fun bt620 => (wayzgooselaw04_TradeShort.l0 k 0 bt620.1 bt620.2.1)) = some r := H
  have A2 := Aside0.mk A20
  clear A20
  replace H := Option.bind_eq_some_iff.mp H
  obtain ⟨⟨t620, t623, t626, t627⟩, A30, H⟩ := H
  replace H : (wayzgooselaw04_TradeShort.l0 k 0 t620 t623) = some r := H
  have A3 := Aside0.mk A30
  clear A30
  have H' := Aside0.mk H
  clear H
  go_enter Try.func9, Try.ntmps9
  go_wp2_with (first | ((with_reducible refine gate_callee (f := 14) rfl ?_); refine goesL_ (some 18) rfl rfl Try.func14 (by kernel_rfl) rfl #[.slice A0 l0.length c0] rfl (by (try simp only [List.map_toArray, List.map_cons, List.map_nil]); first | done | rfl | (simp only [List.length_drop, List.length_take]; rfl)) ?_; (with_reducible refine (wayzgoosekit_NewDice.calls _ _ l0 t616 t617 t618 w _ ?side1 ?side2 ?side3 A2.out).mono ?_); (case side1 => repeat (first | (with_reducible first | exact HB.out | apply below_alloc | apply pw_below_drewN | apply below_drew1) | exact HB.out)); (case side2 => exact HR0.out); (case side3 => exact HC0.out); rintro e w4 ⟨g619, rfl, hi, hb, hb2⟩; refine ⟨_, rfl, ?_⟩; have n0_ := Aside0.mk (hb); have n1_ := Aside0.mk (hi); clear HB; have HB := n0_; have HI619 := n1_; clear n0_ n1_; (try clear hb); (try clear hb2); (try clear hk); (try clear hi)) | ((with_reducible refine gate_callee (f := 13) rfl ?_); refine goesL_ (some 19) rfl rfl Try.func13 (by kernel_rfl) rfl #[.pointer (some ⟨g619, 0, none⟩), .int .i64 2, .int .i64 6] rfl (by (try simp only [List.map_toArray, List.map_cons, List.map_nil]); first | done | rfl | (simp only [List.length_drop, List.length_take]; rfl)) ?_; (with_reducible refine (wayzgoosekit_TradesOf.calls k g619 t616 t617 t618 2 6 t620 t623 t626 t627 w _ ?side1 ?side2 A3.out).mono ?_); (case side1 => repeat (first | (with_reducible first | exact HI619.out | apply IsS72.alloc | apply IsS72.drewN | apply IsS72.drew | apply IsS72.set_1 | apply IsS72.set_2) | exact HI619.out)); (case side2 => repeat (first | (with_reducible first | exact HB.out | apply below_alloc | apply pw_below_drewN | apply below_drew1 | refine below_set ?_ (IsS72.ge HI619.out)) | exact HB.out)); rintro e w5 ⟨v621, v624, rfl, ho0, ho1, hi, hb, hk⟩; refine ⟨_, rfl, ?_⟩; have n0_ := Aside0.mk (Kd.R_lower ho0 (below_size (by repeat (first | (with_reducible first | exact HB.out | apply below_alloc | apply pw_below_drewN | apply below_drew1 | refine below_set ?_ (IsS72.ge HI619.out)) | exact HB.out)))); have n1_ := Aside0.mk (Kd.S_lower ho1 (below_size (by repeat (first | (with_reducible first | exact HB.out | apply below_alloc | apply pw_below_drewN | apply below_drew1 | refine below_set ?_ (IsS72.ge HI619.out)) | exact HB.out)))); have n2_ := Aside0.mk (hb); have n3_ := Aside0.mk (hi); clear HB; clear HI619; have HO622 := n0_; have HO625 := n1_; have HB := n2_; have HI619 := n3_; clear n0_ n1_ n2_ n3_; (try clear hb); (try clear hb2); (try clear hk); (try clear hi); (try clear ho0); (try clear ho1)) | ((with_reducible refine gate_dst (N := 3) rfl ?_); (try (refine gate_guard (by rfl) ?_; dsimp only)); refine box_event ?hg (N := 3) ?hd (cs := #[.slice none 0 0, .slice none 0 0]) (t := 26) ?hr ?_; (case hd => rfl); (case hg => rfl); (case hr => first | (go_simp; done) | (go_simp; rfl)); intro gb628 hg w6 hbox hb; have n0_ := Aside0.mk (Kd.R_below (by (with_reducible repeat (first | apply Kd.R_alloc | apply Kd.R_drewN | apply Kd.R_drew)); exact HO622.out) hb); have n1_ := Aside0.mk (Kd.S_below (by (with_reducible repeat (first | apply Kd.S_alloc | apply Kd.S_drewN | apply Kd.S_drew)); exact HO625.out) hb); have n2_ := Aside0.mk (IsS72.below (by repeat (first | (with_reducible first | exact HI619.out | apply IsS72.alloc | apply IsS72.drewN | apply IsS72.drew | apply IsS72.set_1 | apply IsS72.set_2) | exact HI619.out)) hb); have n3_ := Aside0.mk (below_step (by repeat (first | (with_reducible first | exact HB.out | apply below_alloc | apply pw_below_drewN | apply below_drew1 | refine below_set ?_ (IsS72.ge HI619.out)) | exact HB.out)) hb); have n4_ := Aside0.mk (hbox); have n5_ := Aside0.mk ((by rw [hg]; exact (below_size (by repeat (first | (with_reducible first | exact HB.out | apply below_alloc | apply pw_below_drewN | apply below_drew1 | refine below_set ?_ (IsS72.ge HI619.out)) | exact HB.out))) : w.heap.size ≤ gb628)); have n6_ := Aside0.mk ((by rw [hg]; exact (below_size (by repeat (first | (with_reducible first | exact HB.out | apply below_alloc | apply pw_below_drewN | apply below_drew1 | refine below_set ?_ (IsS72.ge HI619.out)) | exact HB.out))) : w.heap.size ≤ gb628)); have n7_ := Aside0.mk ((by rw [hg]; exact Nat.ne_of_lt (IsS72.lt (show IsS72 w _ g619 t616 t626 t627 from by repeat (first | (with_reducible first | exact HI619.out | apply IsS72.alloc | apply IsS72.drewN | apply IsS72.drew | apply IsS72.set_1 | apply IsS72.set_2) | exact HI619.out))) : g619 ≠ gb628)); have n8_ := Aside0.mk ((by rw [hg]; exact Nat.ne_of_gt (IsS72.lt (show IsS72 w _ g619 t616 t626 t627 from by repeat (first | (with_reducible first | exact HI619.out | apply IsS72.alloc | apply IsS72.drewN | apply IsS72.drew | apply IsS72.set_1 | apply IsS72.set_2) | exact HI619.out))) : gb628 ≠ g619)); clear HO622; clear HO625; clear HI619; clear HB; have HO622 := n0_; have HO625 := n1_; have HI619 := n2_; have HB := n3_; have BK628 := n4_; have GW628 := n5_; have GE628 := n6_; have NB619_628 := n7_; have NB628_619 := n8_; clear n0_ n1_ n2_ n3_ n4_ n5_ n6_ n7_ n8_; clear hb hbox hg; obtain ⟨Ao7, co7, eo7⟩ := Kd.R_slice HO622.out; subst eo7; have hnb8 := NB628_619.out; have hnc8 := NB619_628.out; have hcz9_0 : w6.cell? ⟨gb628, 0, none⟩ = some (.slice none 0 0) := (blk_cell BK628.out 0).trans rfl; have hcz9_1 : w6.cell? ⟨gb628, 1, none⟩ = some (.slice none 0 0) := (blk_cell BK628.out 1).trans rfl; have hfz9_0 := blk_frozen BK628.out 0; have hfz9_1 := blk_frozen BK628.out 1; obtain ⟨Ao10, co10, eo10⟩ := Kd.S_slice HO625.out; subst eo10))
  go_loopg [4] k (fun kq v4 w' => ∃ (x4_1 : Int), v4 = .int .i64 x4_1 ∧ Aside0 (wayzgooselaw04_TradeShort.l0 kq x4_1 t620 t623 = some r) ∧ Aside0 (kq ≤ k) ∧ Aside0 (Kd.R k51 51 w' w.heap.size (fun _ => True) (.slice Ao7 t620.length co7) t620) ∧ Aside0 (Kd.S k39 39 w' w.heap.size (fun _ => True) (.slice Ao10 t623.length co10) t623) ∧ Aside0 (w'.heap[gb628]? = some (.cells #[(.slice Ao7 t620.length co7), (.slice Ao10 t623.length co10)] 26 (0, 0))) ∧ Aside0 (Below w.heap.size w w'))
  case atStart => exact ⟨(0), (by first | rfl | (simp; done) | (simp [*]; done)), H', ⟨Nat.le_refl _⟩, ⟨by (with_reducible repeat (first | apply Kd.R_alloc | apply Kd.R_drewN | apply Kd.R_drew)); exact Kd.R_mono (Kd.R_far (p := ⟨gb628, 1, none⟩) (Kd.R_far (p := ⟨gb628, 0, none⟩) (Kd.R_types HO622.out BK628.out (by decide)) (fun _ hk => hk.2) (.slice Ao7 t620.length co7)) (fun _ hk => hk.2) (.slice Ao10 t623.length co10)) (fun _ hk => trivial)⟩, ⟨by (with_reducible repeat (first | apply Kd.S_alloc | apply Kd.S_drewN | apply Kd.S_drew)); exact Kd.S_mono (Kd.S_far (p := ⟨gb628, 1, none⟩) (Kd.S_far (p := ⟨gb628, 0, none⟩) (Kd.S_types HO625.out BK628.out (by decide)) (fun _ hk => hk.2) (.slice Ao7 t620.length co7)) (fun _ hk => hk.2) (.slice Ao10 t623.length co10)) (fun _ hk => trivial)⟩, ⟨by (with_reducible repeat (first | refine blk_drewN ?_ _ | refine blk_drew ?_ | refine blk_alloc ?_ _)); refine blk_put (cs := #[.slice Ao7 t620.length co7, .slice none 0 0]) ?_ 1 _ rfl; (with_reducible repeat (first | refine blk_drewN ?_ _ | refine blk_drew ?_ | refine blk_alloc ?_ _)); refine blk_put (cs := #[.slice none 0 0, .slice none 0 0]) ?_ 0 _ rfl; (with_reducible repeat (first | refine blk_drewN ?_ _ | refine blk_drew ?_ | refine blk_alloc ?_ _)); exact BK628.out⟩, ⟨by repeat (first | (with_reducible first | exact HB.out | apply below_alloc | apply pw_below_drewN | apply below_drew1 | refine below_set ?_ (IsS72.ge HI619.out) | refine below_set ?_ GE628.out) | exact HB.out)⟩⟩
  case round =>
    clear H'
    try clear c1
    try clear p2
    try clear c8
    try clear c9
    try clear hcz9_0
    try clear hcz9_1
    try clear hfz9_0
    try clear hfz9_1
    obtain ⟨x4_1, rfl, HA, HK1, HO_629000, HO_629001, BK628, HB⟩ := hrel
    cases gk with
    | zero => exact absurd HA.out (by simp [wayzgooselaw04_TradeShort.l0])
    | succ k1 =>
      have H := HA.out
      clear HA
      simp only [wayzgooselaw04_TradeShort.l0] at H
      by_cases c11 : x4_1 < (t623.length : Int)
      · rw [if_pos c11] at H
        have c11b0 : decide (x4_1 < (t623.length : Int)) = true := decide_eq_true c11
        clear c11
        replace H := Option.bind_eq_some_iff.mp H
        obtain ⟨⟨t630, t631⟩, A120, H⟩ := H
        replace H : (if 0 ≤ x4_1 then ((trade_Follow.f t620 t623 x4_1).bind fun bt633 => (if bt633.2.2 = 0 then (if bt633.1 < 0 then (wayzgooselaw04_TradeShort.j1 k1 x4_1 t630 t631 ((rd_T39 t623 x4_1).f0) bt633.1 bt633.2.2 true t620 t623) else (wayzgooselaw04_TradeShort.j1 k1 x4_1 t630 t631 ((rd_T39 t623 x4_1).f0) bt633.1 bt633.2.2 (decide (bt633.1 ≥ (t623.length : Int))) t620 t623)) else (wayzgooselaw04_TradeShort.j1 k1 x4_1 t630 t631 ((rd_T39 t623 x4_1).f0) bt633.1 bt633.2.2 false t620 t623))) else (none)) = some r := H
        have A12 := Aside0.mk A120
        clear A120
        by_cases c13 : 0 ≤ x4_1
        · rw [if_pos c13] at H
          have c13b0 : decide (0 ≤ x4_1) = true := decide_eq_true c13
          clear c13
          replace H := Option.bind_eq_some_iff.mp H
          obtain ⟨⟨t633, t634, t635⟩, A140, H⟩ := H
          replace H : (if t635 = 0 then (if t633 < 0 then (wayzgooselaw04_TradeShort.j1 k1 x4_1 t630 t631 ((rd_T39 t623 x4_1).f0) t633 t635 true t620 t623) else (wayzgooselaw04_TradeShort.j1 k1 x4_1 t630 t631 ((rd_T39 t623 x4_1).f0) t633 t635 (decide (t633 ≥ (t623.length : Int))) t620 t623)) else (wayzgooselaw04_TradeShort.j1 k1 x4_1 t630 t631 ((rd_T39 t623 x4_1).f0) t633 t635 false t620 t623)) = some r := H
          have A14 := Aside0.mk A140
          clear A140
          have HC15 := Aside0.mk H
          clear H
          have hcz16_0 : wr.cell? ⟨gb628, 0, none⟩ = some (.slice Ao7 t620.length co7) := (blk_cell BK628.out 0).trans rfl
          have hcz16_1 : wr.cell? ⟨gb628, 1, none⟩ = some (.slice Ao10 t623.length co10) := (blk_cell BK628.out 1).trans rfl
          have hfz16_0 := blk_frozen BK628.out 0
          have hfz16_1 := blk_frozen BK628.out 1
          go_upto_region 8 with (first | ((with_reducible refine gate_callee (f := 27) rfl ?_); refine goesL_ (some 30) rfl rfl Try.func27 (by kernel_rfl) rfl #[.agg #[.slice Ao7 t620.length co7, .slice Ao10 t623.length co10], .int .i64 x4_1] rfl (by (try simp only [List.map_toArray, List.map_cons, List.map_nil]); first | done | rfl | (simp only [List.length_drop, List.length_take]; rfl)) ?_; (with_reducible refine (trade_Short.calls _ _ t620 _ _ t623 x4_1 t630 t631 _ ?side1 ?side2 ?side3 ?side4 A12.out).mono ?_); (case side1 => repeat (first | exact (Kd.R_reads' HO_629000.out).2.2 | (with_reducible refine Kd.C_alloc ?_ _) | (with_reducible refine Kd.C_drewN ?_ _) | (with_reducible refine Kd.C_drew ?_))); (case side2 => exact (Kd.R_reads' HO_629000.out).2.1); (case side3 => repeat (first | exact (Kd.S_reads' HO_629001.out).2.2 | (with_reducible refine Kd.C_alloc ?_ _) | (with_reducible refine Kd.C_drewN ?_ _) | (with_reducible refine Kd.C_drew ?_))); (case side4 => exact (Kd.S_reads' HO_629001.out).2.1); rintro e w17 ⟨rfl, hb⟩; refine ⟨_, rfl, ?_⟩; have n0_ := Aside0.mk (Kd.R_below (by (with_reducible repeat (first | apply Kd.R_alloc | apply Kd.R_drewN | apply Kd.R_drew)); exact HO_629000.out) hb); have n1_ := Aside0.mk (Kd.S_below (by (with_reducible repeat (first | apply Kd.S_alloc | apply Kd.S_drewN | apply Kd.S_drew)); exact HO_629001.out) hb); have n2_ := Aside0.mk (blk_below (g := gb628) (o := .cells #[.slice Ao7 t620.length co7, .slice Ao10 t623.length co10] 26 (0, 0)) (by (with_reducible repeat (first | refine blk_drewN ?_ _ | refine blk_drew ?_ | refine blk_alloc ?_ _)); exact BK628.out) hb); have n3_ := Aside0.mk (below_step (by repeat (first | (with_reducible first | exact HB.out | apply below_alloc | apply pw_below_drewN | apply below_drew1 | refine below_set ?_ GE628.out) | exact HB.out)) hb); clear HO_629000; clear HO_629001; clear BK628; clear HB; have HO_629000 := n0_; have HO_629001 := n1_; have BK628 := n2_; have HB := n3_; clear n0_ n1_ n2_ n3_; (try clear hb); (try clear hb2); (try clear hk); (try clear hi); have hcz18_0 : w17.cell? ⟨gb628, 0, none⟩ = some (.slice Ao7 t620.length co7) := (blk_cell BK628.out 0).trans rfl; have hcz18_1 : w17.cell? ⟨gb628, 1, none⟩ = some (.slice Ao10 t623.length co10) := (blk_cell BK628.out 1).trans rfl; have hfz18_0 := blk_frozen BK628.out 0; have hfz18_1 := blk_frozen BK628.out 1; have p632 : 0 ≤ (x4_1 : Int) := of_decide_eq_true (by first | (with_reducible assumption) | assumption); have q632 : x4_1 < (t623.length : Int) := of_decide_eq_true (by first | (with_reducible assumption) | assumption); obtain ⟨ad632, A632_3, c632_3, e632, hx632_0, hx632_1, hx632_2, hx632_3, hl632_3, hi632_3⟩ := at_T39 (Kd.S_reads' HO_629001.out).2.2 x4_1 p632 q632; cases e632; obtain ⟨ce632, hce632, hMe632, hcc632⟩ := Kd.S_get HO_629001.out z39 x4_1 p632 (by first | exact q632 | exact of_decide_eq_true (by first | (with_reducible assumption) | assumption) | (have e_ := (Kd.S_reads' HO_629001.out).1; omega)); obtain ⟨ve632_3, rfl, ge632_3⟩ := k39_openM hMe632; have hv632_3 := hcc632 3 _ rfl; rw [add_field _ _ 3 (by omega)] at hv632_3; replace hv632_3 := Option.some.inj (hv632_3.symm.trans hx632_3); rw [hv632_3] at ge632_3; have HL632_3 := Aside0.mk (show Kd.R (Kd.int .i64) 3 _ _ _ _ ((rd_T39 t623 x4_1).f3) from ge632_3); clear hv632_3 ge632_3; clear hcc632 hce632; have HR632_3 := Aside0.mk hi632_3; have HC632_3 := Aside0.mk hl632_3; clear hi632_3 hl632_3; replace p632 := eq_true p632; replace q632 := eq_true q632) | ((with_reducible refine gate_callee (f := 18) rfl ?_); refine goesL_ (some 42) rfl rfl Try.func18 (by kernel_rfl) rfl #[.agg #[.slice Ao7 t620.length co7, .slice (some ad632) t623.length co10], .int .i64 x4_1] rfl (by (try simp only [List.map_toArray, List.map_cons, List.map_nil]); first | done | rfl | (simp only [List.length_drop, List.length_take]; rfl)) ?_; (with_reducible refine (trade_Follow.calls _ _ t620 _ _ t623 x4_1 t633 t634 t635 _ ?side1 ?side2 ?side3 ?side4 A14.out).mono ?_); (case side1 => repeat (first | exact (Kd.R_reads' HO_629000.out).2.2 | (with_reducible refine Kd.C_alloc ?_ _) | (with_reducible refine Kd.C_drewN ?_ _) | (with_reducible refine Kd.C_drew ?_))); (case side2 => exact (Kd.R_reads' HO_629000.out).2.1); (case side3 => repeat (first | exact (Kd.S_reads' HO_629001.out).2.2 | (with_reducible refine Kd.C_alloc ?_ _) | (with_reducible refine Kd.C_drewN ?_ _) | (with_reducible refine Kd.C_drew ?_))); (case side4 => exact (Kd.S_reads' HO_629001.out).2.1); rintro e w19 ⟨rfl, hb⟩; refine ⟨_, rfl, ?_⟩; have n0_ := Aside0.mk (Kd.R_below (by (with_reducible repeat (first | apply Kd.R_alloc | apply Kd.R_drewN | apply Kd.R_drew)); exact HO_629000.out) hb); have n1_ := Aside0.mk (Kd.S_below (by (with_reducible repeat (first | apply Kd.S_alloc | apply Kd.S_drewN | apply Kd.S_drew)); exact HO_629001.out) hb); have n2_ := Aside0.mk (Kd.R_below (by (with_reducible repeat (first | apply Kd.R_alloc | apply Kd.R_drewN | apply Kd.R_drew)); exact HL632_3.out) hb); have n3_ := Aside0.mk (blk_below (g := gb628) (o := .cells #[.slice Ao7 t620.length co7, .slice (some ad632) t623.length co10] 26 (0, 0)) (by (with_reducible repeat (first | refine blk_drewN ?_ _ | refine blk_drew ?_ | refine blk_alloc ?_ _)); exact BK628.out) hb); have n4_ := Aside0.mk (Kd.C_below (by repeat (first | (with_reducible exact HR632_3.out) | (with_reducible refine Kd.C_alloc ?_ _) | (with_reducible refine Kd.C_drewN ?_ _) | (with_reducible refine Kd.C_drew ?_) | exact HR632_3.out)) hb); have n5_ := Aside0.mk (below_step (by repeat (first | (with_reducible first | exact HB.out | apply below_alloc | apply pw_below_drewN | apply below_drew1 | refine below_set ?_ GE628.out) | exact HB.out)) hb); clear HO_629000; clear HO_629001; clear HL632_3; clear BK628; clear HR632_3; clear HB; have HO_629000 := n0_; have HO_629001 := n1_; have HL632_3 := n2_; have BK628 := n3_; have HR632_3 := n4_; have HB := n5_; clear n0_ n1_ n2_ n3_ n4_ n5_; (try clear hb); (try clear hb2); (try clear hk); (try clear hi)))
          (try simp only [Act.put, List.setIfInBounds_toArray, List.set_cons_zero, List.set_cons_succ])
          go_cut [58] (fun v58 wc => ∃ (kq : Nat) (x58_14 : Bool), v58 = .bool x58_14 ∧ Aside0 (wayzgooselaw04_TradeShort.j1 kq x4_1 t630 t631 ((rd_T39 t623 x4_1).f0) t633 t635 x58_14 t620 t623 = some r) ∧ Aside0 (kq ≤ k1) ∧ Aside0 (Kd.R k51 51 wc w.heap.size (fun _ => True) (.slice Ao7 t620.length co7) t620) ∧ Aside0 (Kd.S k39 39 wc w.heap.size (fun _ => True) (.slice (some ad632) t623.length co10) t623) ∧ Aside0 (wc.heap[gb628]? = some (.cells #[(.slice Ao7 t620.length co7), (.slice (some ad632) t623.length co10)] 26 (0, 0))) ∧ Aside0 (Kd.C (Kd.int .i64) wc A632_3 ((rd_T39 t623 x4_1).f3).length ((rd_T39 t623 x4_1).f3)) ∧ Aside0 (Below w.heap.size w wc))
          case first =>
            have H := HC15.out
            clear HC15
            by_cases c20 : t635 = 0
            · rw [if_pos c20] at H
              have c20b0 : (t635 == 0) = true := beq_iff_eq.mpr c20
              have c20b1 : (t635 != 0) = false := bne_eq_false_iff_eq.mpr c20
              clear c20
              (first | rw [c20b0] | (simp only [i64_w, i32_w]; rw [c20b0]) | skip)
              by_cases c21 : t633 < 0
              · rw [if_pos c21] at H
                have c21b0 : decide (t633 < 0) = true := decide_eq_true c21
                clear c21
                have H' := Aside0.mk H
                clear H
                go_wp2
                go_meet
                case rel => exact ⟨_, (true), (by first | rfl | (simp; done) | (simp [*]; done)), H', ⟨by have := HK1.out; first | omega | exact Nat.le_refl _⟩, ⟨by (with_reducible repeat (first | apply Kd.R_alloc | apply Kd.R_drewN | apply Kd.R_drew)); exact HO_629000.out⟩, ⟨by (with_reducible repeat (first | apply Kd.S_alloc | apply Kd.S_drewN | apply Kd.S_drew)); exact HO_629001.out⟩, ⟨by (with_reducible repeat (first | refine blk_drewN ?_ _ | refine blk_drew ?_ | refine blk_alloc ?_ _)); exact BK628.out⟩, ⟨by repeat (first | (with_reducible exact HR632_3.out) | (with_reducible refine Kd.C_alloc ?_ _) | (with_reducible refine Kd.C_drewN ?_ _) | (with_reducible refine Kd.C_drew ?_) | exact HR632_3.out)⟩, ⟨by repeat (first | (with_reducible first | exact HB.out | apply below_alloc | apply pw_below_drewN | apply below_drew1 | refine below_set ?_ GE628.out) | exact HB.out)⟩⟩
              · rw [if_neg c21] at H
                have c21b0 : decide (t633 < 0) = false := decide_eq_false c21
                clear c21
                have H' := Aside0.mk H
                clear H
                have hcz22_0 : w19.cell? ⟨gb628, 0, none⟩ = some (.slice Ao7 t620.length co7) := (blk_cell BK628.out 0).trans rfl
                have hcz22_1 : w19.cell? ⟨gb628, 1, none⟩ = some (.slice (some ad632) t623.length co10) := (blk_cell BK628.out 1).trans rfl
                have hfz22_0 := blk_frozen BK628.out 0
                have hfz22_1 := blk_frozen BK628.out 1
                go_wp2
                go_meet
                case rel => exact ⟨_, (decide (t633 ≥ (t623.length : Int))), (by first | rfl | (simp; done) | (simp [*]; done)), H', ⟨by have := HK1.out; first | omega | exact Nat.le_refl _⟩, ⟨by (with_reducible repeat (first | apply Kd.R_alloc | apply Kd.R_drewN | apply Kd.R_drew)); exact HO_629000.out⟩, ⟨by (with_reducible repeat (first | apply Kd.S_alloc | apply Kd.S_drewN | apply Kd.S_drew)); exact HO_629001.out⟩, ⟨by (with_reducible repeat (first | refine blk_drewN ?_ _ | refine blk_drew ?_ | refine blk_alloc ?_ _)); exact BK628.out⟩, ⟨by repeat (first | (with_reducible exact HR632_3.out) | (with_reducible refine Kd.C_alloc ?_ _) | (with_reducible refine Kd.C_drewN ?_ _) | (with_reducible refine Kd.C_drew ?_) | exact HR632_3.out)⟩, ⟨by repeat (first | (with_reducible first | exact HB.out | apply below_alloc | apply pw_below_drewN | apply below_drew1 | refine below_set ?_ GE628.out) | exact HB.out)⟩⟩
            · rw [if_neg c20] at H
              have c20b0 : (t635 == 0) = false := beq_eq_false_iff_ne.mpr c20
              have c20b1 : (t635 != 0) = true := bne_iff_ne.mpr c20
              (first | rw [c20b0] | (simp only [i64_w, i32_w]; rw [c20b0]) | skip)
              have H' := Aside0.mk H
              clear H
              go_wp2
              go_meet
              case rel => exact ⟨_, (false), (by first | rfl | (simp; done) | (simp [*]; done)), H', ⟨by have := HK1.out; first | omega | exact Nat.le_refl _⟩, ⟨by (with_reducible repeat (first | apply Kd.R_alloc | apply Kd.R_drewN | apply Kd.R_drew)); exact HO_629000.out⟩, ⟨by (with_reducible repeat (first | apply Kd.S_alloc | apply Kd.S_drewN | apply Kd.S_drew)); exact HO_629001.out⟩, ⟨by (with_reducible repeat (first | refine blk_drewN ?_ _ | refine blk_drew ?_ | refine blk_alloc ?_ _)); exact BK628.out⟩, ⟨by repeat (first | (with_reducible exact HR632_3.out) | (with_reducible refine Kd.C_alloc ?_ _) | (with_reducible refine Kd.C_drewN ?_ _) | (with_reducible refine Kd.C_drew ?_) | exact HR632_3.out)⟩, ⟨by repeat (first | (with_reducible first | exact HB.out | apply below_alloc | apply pw_below_drewN | apply below_drew1 | refine below_set ?_ GE628.out) | exact HB.out)⟩⟩
          case rest =>
            clear HC15
            try clear c1
            try clear c2
            try clear p2
            try clear c6
            try clear p6
            try clear q6
            try clear hx6
            try clear c8
            try clear c9
            try clear c11
            try clear c11b0
            try clear c13
            try clear c13b0
            try clear c14
            try clear c18
            try clear c20
            try clear c20b0
            try clear c20b1
            try clear c21
            try clear c21b0
            try clear hcz16_0
            try clear hcz16_1
            try clear hcz18_0
            try clear hcz18_1
            try clear hcz22_0
            try clear hcz22_1
            try clear hcz9_0
            try clear hcz9_1
            try clear hfz16_0
            try clear hfz16_1
            try clear hfz18_0
            try clear hfz18_1
            try clear hfz22_0
            try clear hfz22_1
            try clear hfz9_0
            try clear hfz9_1
            try clear hx632_0
            try clear hx632_1
            try clear hx632_2
            try clear hx632_3
            try clear p2
            try clear p632
            try clear q632
            obtain ⟨kq, x58_14, rfl, HA, HJ14, HO_629000, HO_629001, BK628, HR632_3, HB⟩ := hcut
            cases kq with
            | zero => exact absurd HA.out (by simp [wayzgooselaw04_TradeShort.j1])
            | succ kj14 =>
              have H := HA.out
              clear HA
              simp only [wayzgooselaw04_TradeShort.j1] at H
              by_cases c23 : x58_14 = true
              · subst c23
                have H1 : (some false) = some r := by rw [if_pos rfl] at H; exact H
                clear H
                have H := H1
                clear H1
                obtain rfl := Option.some.inj H
                go_wp2
                go_ret
                exact ⟨by first | rfl | (simp [errW_none, errW_some] <;> rfl) | (simp [*, errW_none, errW_some] <;> rfl), by repeat (first | (with_reducible first | exact HB.out | apply below_alloc | apply pw_below_drewN | apply below_drew1 | refine below_set ?_ GE628.out) | exact HB.out)⟩
              · replace c23 := Bool.eq_false_iff.mpr c23
                subst c23
                have H1 : (wayzgooselaw04_TradeShort.l1 kj14 x4_1 t630 t631 ((rd_T39 t623 x4_1).f0) t633 t635 false 0 t620 t623) = some r := by rw [if_neg (show ¬ (false = true) by decide)] at H; exact H
                clear H
                have H := H1
                clear H1
                have H' := Aside0.mk H
                clear H
                go_wp2
                go_loopg [11, 12] kj14 (fun kq v11 v12 w' => ∃ (x11_3 : Bool) (x12_3 : Int), v11 = .bool x11_3 ∧ v12 = .int .i64 x12_3 ∧ Aside0 (wayzgooselaw04_TradeShort.l1 kq x4_1 t630 t631 ((rd_T39 t623 x4_1).f0) t633 t635 x11_3 x12_3 t620 t623 = some r) ∧ Aside0 (kq ≤ kj14) ∧ Aside0 (Kd.R k51 51 w' w.heap.size (fun _ => True) (.slice Ao7 t620.length co7) t620) ∧ Aside0 (Kd.S k39 39 w' w.heap.size (fun _ => True) (.slice (some ad632) t623.length co10) t623) ∧ Aside0 (w'.heap[gb628]? = some (.cells #[(.slice Ao7 t620.length co7), (.slice (some ad632) t623.length co10)] 26 (0, 0))) ∧ Aside0 (Kd.C (Kd.int .i64) w' A632_3 ((rd_T39 t623 x4_1).f3).length ((rd_T39 t623 x4_1).f3)) ∧ Aside0 (Below w.heap.size w w'))
                case atStart => exact ⟨(false), (0), (by first | rfl | (simp; done) | (simp [*]; done)), (by first | rfl | (simp; done) | (simp [*]; done)), H', ⟨Nat.le_refl _⟩, ⟨by (with_reducible repeat (first | apply Kd.R_alloc | apply Kd.R_drewN | apply Kd.R_drew)); exact HO_629000.out⟩, ⟨by (with_reducible repeat (first | apply Kd.S_alloc | apply Kd.S_drewN | apply Kd.S_drew)); exact HO_629001.out⟩, ⟨by (with_reducible repeat (first | refine blk_drewN ?_ _ | refine blk_drew ?_ | refine blk_alloc ?_ _)); exact BK628.out⟩, ⟨by repeat (first | (with_reducible exact HR632_3.out) | (with_reducible refine Kd.C_alloc ?_ _) | (with_reducible refine Kd.C_drewN ?_ _) | (with_reducible refine Kd.C_drew ?_) | exact HR632_3.out)⟩, ⟨by repeat (first | (with_reducible first | exact HB.out | apply below_alloc | apply pw_below_drewN | apply below_drew1 | refine below_set ?_ GE628.out) | exact HB.out)⟩⟩
                case round =>
                  clear H'
                  try clear c1
                  try clear c2
                  try clear p2
                  try clear c6
                  try clear p6
                  try clear q6
                  try clear hx6
                  try clear c8
                  try clear c9
                  try clear c11
                  try clear c11b0
                  try clear c13
                  try clear c13b0
                  try clear c14
                  try clear c18
                  try clear c20
                  try clear c20b0
                  try clear c20b1
                  try clear c21
                  try clear c21b0
                  try clear c23
                  try clear hcz16_0
                  try clear hcz16_1
                  try clear hcz18_0
                  try clear hcz18_1
                  try clear hcz22_0
                  try clear hcz22_1
                  try clear hcz9_0
                  try clear hcz9_1
                  try clear hfz16_0
                  try clear hfz16_1
                  try clear hfz18_0
                  try clear hfz18_1
                  try clear hfz22_0
                  try clear hfz22_1
                  try clear hfz9_0
                  try clear hfz9_1
                  try clear hx632_0
                  try clear hx632_1
                  try clear hx632_2
                  try clear hx632_3
                  try clear p2
                  try clear p6
                  try clear p632
                  try clear q6
                  try clear q632
                  obtain ⟨x11_3, x12_3, rfl, rfl, HA, HK3, HO_629000, HO_629001, BK628, HR632_3, HB⟩ := hrel
                  cases gk with
                  | zero => exact absurd HA.out (by simp [wayzgooselaw04_TradeShort.l1])
                  | succ k3 =>
                    have H := HA.out
                    clear HA
                    simp only [wayzgooselaw04_TradeShort.l1] at H
                    have HC24 := Aside0.mk H
                    clear H
                    go_upto_region 12 with (fail)
                    go_cut [66] (fun v66 wc => ∃ (kq : Nat) (x66_23 : Bool), v66 = .bool x66_23 ∧ Aside0 (wayzgooselaw04_TradeShort.j3 kq x4_1 t630 t631 ((rd_T39 t623 x4_1).f0) t633 t635 x11_3 x12_3 x66_23 t620 t623 = some r) ∧ Aside0 (kq ≤ k3) ∧ Aside0 (Kd.R k51 51 wc w.heap.size (fun _ => True) (.slice Ao7 t620.length co7) t620) ∧ Aside0 (Kd.S k39 39 wc w.heap.size (fun _ => True) (.slice (some ad632) t623.length co10) t623) ∧ Aside0 (wc.heap[gb628]? = some (.cells #[(.slice Ao7 t620.length co7), (.slice (some ad632) t623.length co10)] 26 (0, 0))) ∧ Aside0 (Kd.C (Kd.int .i64) wc A632_3 ((rd_T39 t623 x4_1).f3).length ((rd_T39 t623 x4_1).f3)) ∧ Aside0 (Below w.heap.size w wc))
                    case first =>
                      have H := HC24.out
                      clear HC24
                      by_cases c25 : x12_3 ≤ (((rd_T39 t623 x4_1).f0).size : Int)
                      · rw [if_pos c25] at H
                        have c25b0 : decide (x12_3 ≤ (((rd_T39 t623 x4_1).f0).size : Int)) = true := decide_eq_true c25
                        clear c25
                        (first | rw [c25b0] | (simp only [i64_w, i32_w]; rw [c25b0]) | skip)
                        have H' := Aside0.mk H
                        clear H
                        go_wp2
                        go_meet
                        case rel => exact ⟨_, (!x11_3), (by first | rfl | (simp; done) | (simp [*]; done)), H', ⟨by have := HK1.out; have := HJ14.out; have := HK3.out; first | omega | exact Nat.le_refl _⟩, ⟨by (with_reducible repeat (first | apply Kd.R_alloc | apply Kd.R_drewN | apply Kd.R_drew)); exact HO_629000.out⟩, ⟨by (with_reducible repeat (first | apply Kd.S_alloc | apply Kd.S_drewN | apply Kd.S_drew)); exact HO_629001.out⟩, ⟨by (with_reducible repeat (first | refine blk_drewN ?_ _ | refine blk_drew ?_ | refine blk_alloc ?_ _)); exact BK628.out⟩, ⟨by repeat (first | (with_reducible exact HR632_3.out) | (with_reducible refine Kd.C_alloc ?_ _) | (with_reducible refine Kd.C_drewN ?_ _) | (with_reducible refine Kd.C_drew ?_) | exact HR632_3.out)⟩, ⟨by repeat (first | (with_reducible first | exact HB.out | apply below_alloc | apply pw_below_drewN | apply below_drew1 | refine below_set ?_ GE628.out) | exact HB.out)⟩⟩
                      · rw [if_neg c25] at H
                        have c25b0 : decide (x12_3 ≤ (((rd_T39 t623 x4_1).f0).size : Int)) = false := decide_eq_false c25
                        clear c25
                        (first | rw [c25b0] | (simp only [i64_w, i32_w]; rw [c25b0]) | skip)
                        have H' := Aside0.mk H
                        clear H
                        go_wp2
                        go_meet
                        case rel => exact ⟨_, (false), (by first | rfl | (simp; done) | (simp [*]; done)), H', ⟨by have := HK1.out; have := HJ14.out; have := HK3.out; first | omega | exact Nat.le_refl _⟩, ⟨by (with_reducible repeat (first | apply Kd.R_alloc | apply Kd.R_drewN | apply Kd.R_drew)); exact HO_629000.out⟩, ⟨by (with_reducible repeat (first | apply Kd.S_alloc | apply Kd.S_drewN | apply Kd.S_drew)); exact HO_629001.out⟩, ⟨by (with_reducible repeat (first | refine blk_drewN ?_ _ | refine blk_drew ?_ | refine blk_alloc ?_ _)); exact BK628.out⟩, ⟨by repeat (first | (with_reducible exact HR632_3.out) | (with_reducible refine Kd.C_alloc ?_ _) | (with_reducible refine Kd.C_drewN ?_ _) | (with_reducible refine Kd.C_drew ?_) | exact HR632_3.out)⟩, ⟨by repeat (first | (with_reducible first | exact HB.out | apply below_alloc | apply pw_below_drewN | apply below_drew1 | refine below_set ?_ GE628.out) | exact HB.out)⟩⟩
                    case rest =>
                      clear HC24
                      try clear c1
                      try clear c2
                      try clear p2
                      try clear c6
                      try clear p6
                      try clear q6
                      try clear hx6
                      try clear c8
                      try clear c9
                      try clear c11
                      try clear c11b0
                      try clear c13
                      try clear c13b0
                      try clear c14
                      try clear c18
                      try clear c20
                      try clear c20b0
                      try clear c20b1
                      try clear c21
                      try clear c21b0
                      try clear c23
                      try clear c25
                      try clear c25b0
                      try clear hcz16_0
                      try clear hcz16_1
                      try clear hcz18_0
                      try clear hcz18_1
                      try clear hcz22_0
                      try clear hcz22_1
                      try clear hcz9_0
                      try clear hcz9_1
                      try clear hfz16_0
                      try clear hfz16_1
                      try clear hfz18_0
                      try clear hfz18_1
                      try clear hfz22_0
                      try clear hfz22_1
                      try clear hfz9_0
                      try clear hfz9_1
                      try clear hx632_0
                      try clear hx632_1
                      try clear hx632_2
                      try clear hx632_3
                      try clear p2
                      try clear p6
                      try clear p632
                      try clear q6
                      try clear q632
                      obtain ⟨kq, x66_23, rfl, HA, HJ23, HO_629000, HO_629001, BK628, HR632_3, HB⟩ := hcut
                      cases kq with
                      | zero => exact absurd HA.out (by simp [wayzgooselaw04_TradeShort.j3])
                      | succ kj23 =>
                        have H := HA.out
                        clear HA
                        simp only [wayzgooselaw04_TradeShort.j3] at H
                        by_cases c26 : x66_23 = true
                        · subst c26
                          have H1 : (if 0 ≤ x12_3 then (if x12_3 ≤ (((rd_T39 t623 x4_1).f0).size : Int) then ((trade_May.f t620 t623 (((rd_T39 t623 x4_1).f0).extract 0 (x12_3 : Int).toNat)).bind fun bt636 => (if bt636.2 = 0 then (if (bt636.1.length : Int) = 1 then (if t631 = 0 then (wayzgooselaw04_TradeShort.j4 kj23 x4_1 t630 t631 ((rd_T39 t623 x4_1).f0) t633 t635 true x12_3 bt636.1 (t630.toList != (((rd_T39 t623 x4_1).f0).extract 0 (x12_3 : Int).toNat).toList) t620 t623) else (wayzgooselaw04_TradeShort.j4 kj23 x4_1 t630 t631 ((rd_T39 t623 x4_1).f0) t633 t635 true x12_3 bt636.1 true t620 t623)) else (wayzgooselaw04_TradeShort.l1 kj23 x4_1 t630 t631 ((rd_T39 t623 x4_1).f0) t633 t635 x11_3 (wrap64 (x12_3 + 1)) t620 t623)) else (some false))) else (none)) else (none)) = some r := by rw [if_pos rfl] at H; exact H
                          clear H
                          have H := H1
                          clear H1
                          by_cases c27 : 0 ≤ x12_3
                          · rw [if_pos c27] at H
                            have c27b0 := eq_true c27
                            have c27b1 : decide (0 ≤ x12_3) = true := decide_eq_true c27
                            clear c27
                            by_cases c28 : x12_3 ≤ (((rd_T39 t623 x4_1).f0).size : Int)
                            · rw [if_pos c28] at H
                              have c28b0 := eq_true c28
                              have c28b1 : decide (x12_3 ≤ (((rd_T39 t623 x4_1).f0).size : Int)) = true := decide_eq_true c28
                              clear c28
                              replace H := Option.bind_eq_some_iff.mp H
                              obtain ⟨⟨t636, t639⟩, A290, H⟩ := H
                              replace H : (if t639 = 0 then (if (t636.length : Int) = 1 then (if t631 = 0 then (wayzgooselaw04_TradeShort.j4 kj23 x4_1 t630 t631 ((rd_T39 t623 x4_1).f0) t633 t635 true x12_3 t636 (t630.toList != (((rd_T39 t623 x4_1).f0).extract 0 (x12_3 : Int).toNat).toList) t620 t623) else (wayzgooselaw04_TradeShort.j4 kj23 x4_1 t630 t631 ((rd_T39 t623 x4_1).f0) t633 t635 true x12_3 t636 true t620 t623)) else (wayzgooselaw04_TradeShort.l1 kj23 x4_1 t630 t631 ((rd_T39 t623 x4_1).f0) t633 t635 x11_3 (wrap64 (x12_3 + 1)) t620 t623)) else (some false)) = some r := H
                              have A29 := Aside0.mk A290
                              clear A290
                              by_cases c30 : t639 = 0
                              · rw [if_pos c30] at H
                                have c30b0 : (t639 == 0) = true := beq_iff_eq.mpr c30
                                have c30b1 : (t639 != 0) = false := bne_eq_false_iff_eq.mpr c30
                                clear c30
                                by_cases c31 : (t636.length : Int) = 1
                                · rw [if_pos c31] at H
                                  have c31b0 : ((t636.length : Int) == 1) = true := beq_iff_eq.mpr c31
                                  have c31b1 : ((t636.length : Int) != 1) = false := bne_eq_false_iff_eq.mpr c31
                                  clear c31
                                  have HC32 := Aside0.mk H
                                  clear H
                                  try go_wp2
                                  have n0_ := Aside0.mk (Kd.R_drew HO_629000.out)
                                  have n1_ := Aside0.mk (Kd.S_drew HO_629001.out)
                                  have n2_ := Aside0.mk (blk_drew BK628.out)
                                  have n3_ := Aside0.mk (Kd.C_drew HR632_3.out)
                                  have n4_ := Aside0.mk (below_drew1 HB.out)
                                  clear HO_629000
                                  clear HO_629001
                                  clear BK628
                                  clear HR632_3
                                  clear HB
                                  have HO_629000 := n0_
                                  have HO_629001 := n1_
                                  have BK628 := n2_
                                  have HR632_3 := n3_
                                  have HB := n4_
                                  clear n0_ n1_ n2_ n3_ n4_
                                  refine start_ (n := 10) (S := fun w' => w'.cell? ⟨gb628, 0, none⟩ = some (.slice Ao7 t620.length co7) ∧ w'.cell? ⟨gb628, 1, none⟩ = some (.slice (some ad632) t623.length co10)) (ds := []) #[false, false, false, false, false, false, false, false, false, false] (by kernel_rfl) rfl rfl ⟨(blk_cell BK628.out 0).trans rfl, (blk_cell BK628.out 1).trans rfl⟩ (fun hHeld => ?_); refine with_tabW wayzgooselaw04_TradeShort.tab14 wayzgooselaw04_TradeShort.bits14 (fun HT_ HW_ => ?_)
                                  generalize wc.drew = w33 at HO_629000 HO_629001 BK628 HR632_3 HB hHeld ⊢
                                  refine pure_ (i := 1) (N := some 71) (v := ?_) (a' := ?_) #[false, true, false, false, false, false, false, false, false, false] rfl rfl (any_of HT_.out (by kernel_rfl)) (fun _ _ _ h => h) (Or.inl ⟨by rfl, ?_⟩) ?_ ?_
                                  rotate_left
                                  · intro w'
                                    go_simp
                                    with_reducible rfl
                                  rotate_left
                                  · simp only [Act.put, List.setIfInBounds_toArray, List.set_cons_zero, List.set_cons_succ, i64_w, i32_w]
                                    rfl
                                  refine pure_ (i := 2) (N := some 72) (v := ?_) (a' := ?_) #[false, true, true, false, false, false, false, false, false, false] rfl rfl (any_of HT_.out (by kernel_rfl)) (fun _ _ _ h => h) (Or.inl ⟨by rfl, ?_⟩) ?_ ?_
                                  rotate_left
                                  · intro w'
                                    go_simp
                                    with_reducible rfl
                                  rotate_left
                                  · simp only [Act.put, List.setIfInBounds_toArray, List.set_cons_zero, List.set_cons_succ, i64_w, i32_w]
                                    rfl
                                  refine pure_ (i := 3) (N := some 73) (v := ?_) (a' := ?_) #[false, true, true, true, false, false, false, false, false, false] rfl rfl (any_of HT_.out (by kernel_rfl)) (fun _ _ _ h => h) (Or.inl ⟨by rfl, ?_⟩) ?_ ?_
                                  rotate_left
                                  · intro w'
                                    go_simp
                                    with_reducible rfl
                                  rotate_left
                                  · simp only [Act.put, List.setIfInBounds_toArray, List.set_cons_zero, List.set_cons_succ, i64_w, i32_w]
                                    rfl
                                  refine take_ (i := 0) (N := some 70) (v := ?_) (a' := ?_) #[true, true, true, true, false, false, false, false, false, false] rfl rfl (take_ofW HT_.out HW_.out (by kernel_rfl)) (fun _ _ _ h => h) (Or.inl ⟨by rfl, ?_⟩) hHeld ?_ ?_
                                  rotate_left
                                  · rintro w' ⟨s0, s1⟩
                                    go_simp
                                    with_reducible rfl
                                  rotate_left
                                  · simp only [Act.put, List.setIfInBounds_toArray, List.set_cons_zero, List.set_cons_succ, i64_w, i32_w]
                                    rfl
                                  refine one_ (i := 4) (N := some 74) #[true, true, true, true, true, false, false, false, false, false] rfl rfl (one_of HT_.out (by kernel_rfl)) (by decide) (fun K hK => ?_)
                                  refine goes_ Try.func19 (by kernel_rfl) rfl #[.agg #[.slice Ao7 t620.length co7, .slice (some ad632) t623.length co10], .string (((rd_T39 t623 x4_1).f0).extract 0 (x12_3 : Int).toNat)] (by rfl) rfl rfl (by (try simp only [List.map_toArray, List.map_cons, List.map_nil]); first | done | rfl | (simp only [List.length_drop, List.length_take]; rfl)) ?_
                                  with_reducible refine (trade_May.calls _ _ t620 _ _ t623 (((rd_T39 t623 x4_1).f0).extract 0 (x12_3 : Int).toNat) t636 t639 _ ?side1 ?side2 ?side3 ?side4 A29.out).mono ?_
                                  (case side1 => repeat (first | exact (Kd.R_reads' HO_629000.out).2.2 | (with_reducible refine Kd.C_alloc ?_ _) | (with_reducible refine Kd.C_drewN ?_ _) | (with_reducible refine Kd.C_drew ?_)))
                                  (case side2 => exact (Kd.R_reads' HO_629000.out).2.1)
                                  (case side3 => repeat (first | exact (Kd.S_reads' HO_629001.out).2.2 | (with_reducible refine Kd.C_alloc ?_ _) | (with_reducible refine Kd.C_drewN ?_ _) | (with_reducible refine Kd.C_drew ?_)))
                                  (case side4 => exact (Kd.S_reads' HO_629001.out).2.1)
                                  rintro e w34 ⟨v637, rfl, ho0, hb⟩
                                  refine ⟨_, rfl, ?_⟩
                                  have n0_ := Aside0.mk (Kd.R_below (by (with_reducible repeat (first | apply Kd.R_alloc | apply Kd.R_drewN | apply Kd.R_drew)); exact HO_629000.out) hb)
                                  have n1_ := Aside0.mk (Kd.S_elder' (by (with_reducible repeat (first | apply Kd.S_alloc | apply Kd.S_drewN | apply Kd.S_drew)); exact HO_629001.out) (Kd.R_base ho0) hb)
                                  have n2_ := Aside0.mk (Kd.R_lower ho0 (below_size (by repeat (first | (with_reducible first | exact HB.out | apply below_alloc | apply pw_below_drewN | apply below_drew1 | refine below_set ?_ GE628.out) | exact HB.out))))
                                  have n3_ := Aside0.mk (blk_below (g := gb628) (o := .cells #[.slice Ao7 t620.length co7, .slice (some ad632) t623.length co10] 26 (0, 0)) (by (with_reducible repeat (first | refine blk_drewN ?_ _ | refine blk_drew ?_ | refine blk_alloc ?_ _)); exact BK628.out) hb)
                                  have n4_ := Aside0.mk (Kd.C_below (by repeat (first | (with_reducible exact HR632_3.out) | (with_reducible refine Kd.C_alloc ?_ _) | (with_reducible refine Kd.C_drewN ?_ _) | (with_reducible refine Kd.C_drew ?_) | exact HR632_3.out)) hb)
                                  have n5_ := Aside0.mk (below_step (by repeat (first | (with_reducible first | exact HB.out | apply below_alloc | apply pw_below_drewN | apply below_drew1 | refine below_set ?_ GE628.out) | exact HB.out)) hb)
                                  clear HO_629000
                                  clear HO_629001
                                  clear BK628
                                  clear HR632_3
                                  clear HB
                                  have HO_629000 := n0_
                                  have HO_629001 := n1_
                                  have HO638 := n2_
                                  have BK628 := n3_
                                  have HR632_3 := n4_
                                  have HB := n5_
                                  clear n0_ n1_ n2_ n3_ n4_ n5_
                                  (try clear hb)
                                  (try clear hb2)
                                  (try clear hk)
                                  (try clear hi)
                                  (try clear ho0)
                                  refine hK.out _ _ ⟨(blk_cell BK628.out 0).trans rfl, (blk_cell BK628.out 1).trans rfl⟩ (fun hHeld => ?_)
                                  clear hK K
                                  refine norm_ (a' := ?_) ?_ ?_
                                  rotate_left
                                  · show Act.put _ (some 74) _ = _
                                    simp only [Act.put, List.setIfInBounds_toArray, List.set_cons_zero, List.set_cons_succ, i64_w, i32_w]
                                    rfl
                                  refine pure_ (i := 5) (N := some 69) (v := ?_) (a' := ?_) #[true, true, true, true, true, true, false, false, false, false] rfl rfl (any_of HT_.out (by kernel_rfl)) (fun _ _ _ h => h) (Or.inl ⟨by rfl, ?_⟩) ?_ ?_
                                  rotate_left
                                  · intro w'
                                    go_simp
                                    with_reducible rfl
                                  rotate_left
                                  · simp only [Act.put, List.setIfInBounds_toArray, List.set_cons_zero, List.set_cons_succ, i64_w, i32_w]
                                    rfl
                                  refine pure_ (i := 6) (N := some 75) (v := ?_) (a' := ?_) #[true, true, true, true, true, true, true, false, false, false] rfl rfl (any_of HT_.out (by kernel_rfl)) (fun _ _ _ h => h) (Or.inl ⟨by rfl, ?_⟩) ?_ ?_
                                  rotate_left
                                  · intro w'
                                    go_simp
                                    with_reducible rfl
                                  rotate_left
                                  · simp only [Act.put, List.setIfInBounds_toArray, List.set_cons_zero, List.set_cons_succ, i64_w, i32_w]
                                    rfl
                                  refine pure_ (i := 7) (N := some 76) (v := ?_) (a' := ?_) #[true, true, true, true, true, true, true, true, false, false] rfl rfl (any_of HT_.out (by kernel_rfl)) (fun _ _ _ h => h) (Or.inl ⟨by rfl, ?_⟩) ?_ ?_
                                  rotate_left
                                  · intro w'
                                    go_simp
                                    with_reducible rfl
                                  rotate_left
                                  · simp only [Act.put, List.setIfInBounds_toArray, List.set_cons_zero, List.set_cons_succ, i64_w, i32_w]
                                    rfl
                                  refine pure_ (i := 8) (N := some 13) (v := ?_) (a' := ?_) #[true, true, true, true, true, true, true, true, true, false] rfl rfl (any_of HT_.out (by kernel_rfl)) (fun _ _ _ h => h) (Or.inl ⟨by rfl, ?_⟩) ?_ ?_
                                  rotate_left
                                  · intro w'
                                    go_simp
                                    with_reducible rfl
                                  rotate_left
                                  · simp only [Act.put, List.setIfInBounds_toArray, List.set_cons_zero, List.set_cons_succ, i64_w, i32_w]
                                    rfl
                                  refine pure_ (i := 9) (N := some 14) (v := ?_) (a' := ?_) #[true, true, true, true, true, true, true, true, true, true] rfl rfl (any_of HT_.out (by kernel_rfl)) (fun _ _ _ h => h) (Or.inl ⟨by rfl, ?_⟩) ?_ ?_
                                  rotate_left
                                  · intro w'
                                    go_simp
                                    with_reducible rfl
                                  rotate_left
                                  · simp only [Act.put, List.setIfInBounds_toArray, List.set_cons_zero, List.set_cons_succ, i64_w, i32_w]
                                    rfl
                                  refine done_ (done_of HT_.out (by kernel_rfl)) ?_
                                  obtain ⟨Ao35, co35, eo35⟩ := Kd.R_slice HO638.out
                                  subst eo35
                                  go_upto_region 19 with (fail)
                                  go_cut [90] (fun v90 wc => ∃ (kq : Nat) (x90_31 : Bool), v90 = .bool x90_31 ∧ Aside0 (wayzgooselaw04_TradeShort.j4 kq x4_1 t630 t631 ((rd_T39 t623 x4_1).f0) t633 t635 true x12_3 t636 x90_31 t620 t623 = some r) ∧ Aside0 (kq ≤ kj23) ∧ Aside0 (Kd.R (Kd.int .i64) 3 wc w.heap.size (fun _ => True) (.slice Ao35 t636.length co35) t636) ∧ Aside0 (Kd.R k51 51 wc w.heap.size (fun _ => True) (.slice Ao7 t620.length co7) t620) ∧ Aside0 (Kd.S k39 39 wc w.heap.size (fun k_ => some k_ ≠ ((.slice Ao35 t636.length co35) : Value).ownBlock) (.slice (some ad632) t623.length co10) t623) ∧ Aside0 (wc.heap[gb628]? = some (.cells #[(.slice Ao7 t620.length co7), (.slice (some ad632) t623.length co10)] 26 (0, 0))) ∧ Aside0 (Kd.C (Kd.int .i64) wc A632_3 ((rd_T39 t623 x4_1).f3).length ((rd_T39 t623 x4_1).f3)) ∧ Aside0 (Below w.heap.size w wc))
                                  case first =>
                                    have H := HC32.out
                                    clear HC32
                                    by_cases c36 : t631 = 0
                                    · rw [if_pos c36] at H
                                      have c36b0 : (t631 == 0) = true := beq_iff_eq.mpr c36
                                      have c36b1 : (t631 != 0) = false := bne_eq_false_iff_eq.mpr c36
                                      clear c36
                                      (first | rw [c36b0] | (simp only [i64_w, i32_w]; rw [c36b0]) | skip)
                                      have c37b0 := eq_true (of_decide_eq_true (by first | (with_reducible assumption) | assumption) : 0 ≤ x12_3)
                                      have c38b0 := eq_true (of_decide_eq_true (by first | (with_reducible assumption) | assumption) : x12_3 ≤ (((rd_T39 t623 x4_1).f0).size : Int))
                                      have H' := Aside0.mk H
                                      clear H
                                      go_wp2
                                      go_meet
                                      case rel => exact ⟨_, ((t630.toList != (((rd_T39 t623 x4_1).f0).extract 0 (x12_3 : Int).toNat).toList)), (by first | rfl | (simp; done) | (simp [*]; done)), H', ⟨by have := HK1.out; have := HJ14.out; have := HK3.out; have := HJ23.out; first | omega | exact Nat.le_refl _⟩, ⟨by (with_reducible repeat (first | apply Kd.R_alloc | apply Kd.R_drewN | apply Kd.R_drew)); exact HO638.out⟩, ⟨by (with_reducible repeat (first | apply Kd.R_alloc | apply Kd.R_drewN | apply Kd.R_drew)); exact HO_629000.out⟩, ⟨by (with_reducible repeat (first | apply Kd.S_alloc | apply Kd.S_drewN | apply Kd.S_drew)); exact Kd.S_mono HO_629001.out (fun _ hk => hk.2)⟩, ⟨by (with_reducible repeat (first | refine blk_drewN ?_ _ | refine blk_drew ?_ | refine blk_alloc ?_ _)); exact BK628.out⟩, ⟨by repeat (first | (with_reducible exact HR632_3.out) | (with_reducible refine Kd.C_alloc ?_ _) | (with_reducible refine Kd.C_drewN ?_ _) | (with_reducible refine Kd.C_drew ?_) | exact HR632_3.out)⟩, ⟨by repeat (first | (with_reducible first | exact HB.out | apply below_alloc | apply pw_below_drewN | apply below_drew1 | refine below_set ?_ GE628.out) | exact HB.out)⟩⟩
                                    · rw [if_neg c36] at H
                                      have c36b0 : (t631 == 0) = false := beq_eq_false_iff_ne.mpr c36
                                      have c36b1 : (t631 != 0) = true := bne_iff_ne.mpr c36
                                      (first | rw [c36b0] | (simp only [i64_w, i32_w]; rw [c36b0]) | skip)
                                      have H' := Aside0.mk H
                                      clear H
                                      go_wp2
                                      go_meet
                                      case rel => exact ⟨_, (true), (by first | rfl | (simp; done) | (simp [*]; done)), H', ⟨by have := HK1.out; have := HJ14.out; have := HK3.out; have := HJ23.out; first | omega | exact Nat.le_refl _⟩, ⟨by (with_reducible repeat (first | apply Kd.R_alloc | apply Kd.R_drewN | apply Kd.R_drew)); exact HO638.out⟩, ⟨by (with_reducible repeat (first | apply Kd.R_alloc | apply Kd.R_drewN | apply Kd.R_drew)); exact HO_629000.out⟩, ⟨by (with_reducible repeat (first | apply Kd.S_alloc | apply Kd.S_drewN | apply Kd.S_drew)); exact Kd.S_mono HO_629001.out (fun _ hk => hk.2)⟩, ⟨by (with_reducible repeat (first | refine blk_drewN ?_ _ | refine blk_drew ?_ | refine blk_alloc ?_ _)); exact BK628.out⟩, ⟨by repeat (first | (with_reducible exact HR632_3.out) | (with_reducible refine Kd.C_alloc ?_ _) | (with_reducible refine Kd.C_drewN ?_ _) | (with_reducible refine Kd.C_drew ?_) | exact HR632_3.out)⟩, ⟨by repeat (first | (with_reducible first | exact HB.out | apply below_alloc | apply pw_below_drewN | apply below_drew1 | refine below_set ?_ GE628.out) | exact HB.out)⟩⟩
                                  case rest =>
                                    clear HC32
                                    try clear c1
                                    try clear c2
                                    try clear p2
                                    try clear c3
                                    try clear c6
                                    try clear p6
                                    try clear q6
                                    try clear hx6
                                    try clear c8
                                    try clear c9
                                    try clear c11
                                    try clear c11b0
                                    try clear c13
                                    try clear c13b0
                                    try clear c14
                                    try clear c18
                                    try clear c19
                                    try clear c20
                                    try clear c20b0
                                    try clear c20b1
                                    try clear c21
                                    try clear c21b0
                                    try clear c23
                                    try clear c25
                                    try clear c25b0
                                    try clear c26
                                    try clear c27
                                    try clear c27b0
                                    try clear c27b1
                                    try clear c28
                                    try clear c28b0
                                    try clear c28b1
                                    try clear c30
                                    try clear c30b0
                                    try clear c30b1
                                    try clear c31
                                    try clear c31b0
                                    try clear c31b1
                                    try clear c36
                                    try clear c36b0
                                    try clear c36b1
                                    try clear c37
                                    try clear c37b0
                                    try clear c38
                                    try clear c38b0
                                    try clear hcz16_0
                                    try clear hcz16_1
                                    try clear hcz18_0
                                    try clear hcz18_1
                                    try clear hcz22_0
                                    try clear hcz22_1
                                    try clear hcz9_0
                                    try clear hcz9_1
                                    try clear hfz16_0
                                    try clear hfz16_1
                                    try clear hfz18_0
                                    try clear hfz18_1
                                    try clear hfz22_0
                                    try clear hfz22_1
                                    try clear hfz9_0
                                    try clear hfz9_1
                                    try clear hx632_0
                                    try clear hx632_1
                                    try clear hx632_2
                                    try clear hx632_3
                                    try clear p2
                                    try clear p6
                                    try clear p632
                                    try clear q6
                                    try clear q632
                                    obtain ⟨kq, x90_31, rfl, HA, HJ31, HO_13, HO_629000, HO_629001, BK628, HR632_3, HB⟩ := hcut
                                    cases kq with
                                    | zero => exact absurd HA.out (by simp [wayzgooselaw04_TradeShort.j4])
                                    | succ kj31 =>
                                      have H := HA.out
                                      clear HA
                                      simp only [wayzgooselaw04_TradeShort.j4] at H
                                      by_cases c39 : x90_31 = true
                                      · subst c39
                                        have H1 : (some false) = some r := by rw [if_pos rfl] at H; exact H
                                        clear H
                                        have H := H1
                                        clear H1
                                        obtain rfl := Option.some.inj H
                                        go_wp2
                                        go_ret
                                        exact ⟨by first | rfl | (simp [errW_none, errW_some] <;> rfl) | (simp [*, errW_none, errW_some] <;> rfl), by repeat (first | (with_reducible first | exact HB.out | apply below_alloc | apply pw_below_drewN | apply below_drew1 | refine below_set ?_ GE628.out) | exact HB.out)⟩
                                      · replace c39 := Bool.eq_false_iff.mpr c39
                                        subst c39
                                        have H1 : (if 0 < (t636.length : Int) then ((trade_Means.f t620 t623 t630 (rd t636 0)).bind fun bt641 => (if bt641.2 = 0 then (if bt641.1 = 1 then (if t635 = 0 then (if 0 ≤ t633 then (if t633 < (t623.length : Int) then (if ((rd_T39 t623 t633).f1) ≥ 0 then (if (rd t636 0) = t633 then (wayzgooselaw04_TradeShort.l1 kj31 x4_1 t630 t631 ((rd_T39 t623 x4_1).f0) t633 t635 true (wrap64 (x12_3 + 1)) t620 t623) else (some false)) else (wayzgooselaw04_TradeShort.l1 kj31 x4_1 t630 t631 ((rd_T39 t623 x4_1).f0) t633 t635 true (wrap64 (x12_3 + 1)) t620 t623)) else (none)) else (none)) else (wayzgooselaw04_TradeShort.l1 kj31 x4_1 t630 t631 ((rd_T39 t623 x4_1).f0) t633 t635 true (wrap64 (x12_3 + 1)) t620 t623)) else (some false)) else (some false))) else (none)) = some r := by rw [if_neg (show ¬ (false = true) by decide)] at H; exact H
                                        clear H
                                        have H := H1
                                        clear H1
                                        by_cases c40 : 0 < (t636.length : Int)
                                        · rw [if_pos c40] at H
                                          have c40b0 : decide (0 < (t636.length : Int)) = true := decide_eq_true c40
                                          have c40b1 : decide (0 < t636.length) = true := decide_eq_true (by omega)
                                          clear c40
                                          replace H := Option.bind_eq_some_iff.mp H
                                          obtain ⟨⟨t641, t642⟩, A410, H⟩ := H
                                          replace H : (if t642 = 0 then (if t641 = 1 then (if t635 = 0 then (if 0 ≤ t633 then (if t633 < (t623.length : Int) then (if ((rd_T39 t623 t633).f1) ≥ 0 then (if (rd t636 0) = t633 then (wayzgooselaw04_TradeShort.l1 kj31 x4_1 t630 t631 ((rd_T39 t623 x4_1).f0) t633 t635 true (wrap64 (x12_3 + 1)) t620 t623) else (some false)) else (wayzgooselaw04_TradeShort.l1 kj31 x4_1 t630 t631 ((rd_T39 t623 x4_1).f0) t633 t635 true (wrap64 (x12_3 + 1)) t620 t623)) else (none)) else (none)) else (wayzgooselaw04_TradeShort.l1 kj31 x4_1 t630 t631 ((rd_T39 t623 x4_1).f0) t633 t635 true (wrap64 (x12_3 + 1)) t620 t623)) else (some false)) else (some false)) = some r := H
                                          have A41 := Aside0.mk A410
                                          clear A410
                                          by_cases c42 : t642 = 0
                                          · rw [if_pos c42] at H
                                            have c42b0 : (t642 == 0) = true := beq_iff_eq.mpr c42
                                            have c42b1 : (t642 != 0) = false := bne_eq_false_iff_eq.mpr c42
                                            clear c42
                                            by_cases c43 : t641 = 1
                                            · rw [if_pos c43] at H
                                              have c43b0 : (t641 == 1) = true := beq_iff_eq.mpr c43
                                              have c43b1 : (t641 != 1) = false := bne_eq_false_iff_eq.mpr c43
                                              clear c43
                                              by_cases c44 : t635 = 0
                                              · rw [if_pos c44] at H
                                                have c44b0 : (t635 == 0) = true := beq_iff_eq.mpr c44
                                                have c44b1 : (t635 != 0) = false := bne_eq_false_iff_eq.mpr c44
                                                clear c44
                                                by_cases c45 : 0 ≤ t633
                                                · rw [if_pos c45] at H
                                                  have c45b0 : decide (0 ≤ t633) = true := decide_eq_true c45
                                                  clear c45
                                                  by_cases c46 : t633 < (t623.length : Int)
                                                  · rw [if_pos c46] at H
                                                    have c46b0 : decide (t633 < (t623.length : Int)) = true := decide_eq_true c46
                                                    clear c46
                                                    by_cases c47 : ((rd_T39 t623 t633).f1) ≥ 0
                                                    · rw [if_pos c47] at H
                                                      have c47b0 : decide (0 ≤ ((rd_T39 t623 t633).f1)) = true := decide_eq_true c47
                                                      clear c47
                                                      by_cases c48 : (rd t636 0) = t633
                                                      · rw [if_pos c48] at H
                                                        have c48b0 : ((rd t636 0) == t633) = true := beq_iff_eq.mpr c48
                                                        have c48b1 : ((rd t636 0) != t633) = false := bne_eq_false_iff_eq.mpr c48
                                                        clear c48
                                                        have H' := Aside0.mk H
                                                        clear H
                                                        try go_wp2
                                                        have n0_ := Aside0.mk (Kd.R_drew HO_13.out)
                                                        have n1_ := Aside0.mk (Kd.R_drew HO_629000.out)
                                                        have n2_ := Aside0.mk (Kd.S_drew HO_629001.out)
                                                        have n3_ := Aside0.mk (blk_drew BK628.out)
                                                        have n4_ := Aside0.mk (Kd.C_drew HR632_3.out)
                                                        have n5_ := Aside0.mk (below_drew1 HB.out)
                                                        clear HO_13
                                                        clear HO_629000
                                                        clear HO_629001
                                                        clear BK628
                                                        clear HR632_3
                                                        clear HB
                                                        have HO_13 := n0_
                                                        have HO_629000 := n1_
                                                        have HO_629001 := n2_
                                                        have BK628 := n3_
                                                        have HR632_3 := n4_
                                                        have HB := n5_
                                                        clear n0_ n1_ n2_ n3_ n4_ n5_
                                                        have p640 : 0 ≤ (0 : Int) := (by omega)
                                                        have q640 : 0 < (t636.length : Int) := of_decide_eq_true (by first | (with_reducible assumption) | assumption)
                                                        obtain ⟨ad640, e640, hx640_0⟩ := Kd.at_int (Kd.R_reads' HO_13.out).2.2 0 p640 q640
                                                        cases e640
                                                        have qi640 : (0 < t636.length) = True := eq_true (by omega)
                                                        (try rw [show ((0 : Int)).toNat = 0 from rfl] at hx640_0)
                                                        (try rw [Addr.add_zero'] at hx640_0)
                                                        replace p640 := eq_true p640
                                                        replace q640 := eq_true q640
                                                        refine start_ (n := 11) (S := fun w' => w'.cell? ⟨gb628, 0, none⟩ = some (.slice Ao7 t620.length co7) ∧ w'.cell? ⟨gb628, 1, none⟩ = some (.slice (some ad632) t623.length co10) ∧ w'.cell? ad640 = some (.int .i64 (rd t636 0))) (ds := []) #[false, false, false, false, false, false, false, false, false, false, false] (by kernel_rfl) rfl rfl ⟨(blk_cell BK628.out 0).trans rfl, (blk_cell BK628.out 1).trans rfl, hx640_0⟩ (fun hHeld => ?_); refine with_tabW wayzgooselaw04_TradeShort.tab21 wayzgooselaw04_TradeShort.bits21 (fun HT_ HW_ => ?_)
                                                        generalize wc.drew = w49 at HO_13 HO_629000 HO_629001 BK628 HR632_3 HB hx640_0 hHeld ⊢
                                                        refine pure_ (i := 1) (N := some 93) (v := ?_) (a' := ?_) #[false, true, false, false, false, false, false, false, false, false, false] rfl rfl (any_of HT_.out (by kernel_rfl)) (fun _ _ _ h => h) (Or.inl ⟨by rfl, ?_⟩) ?_ ?_
                                                        rotate_left
                                                        · intro w'
                                                          go_simp
                                                          with_reducible rfl
                                                        rotate_left
                                                        · simp only [Act.put, List.setIfInBounds_toArray, List.set_cons_zero, List.set_cons_succ, i64_w, i32_w]
                                                          rfl
                                                        refine pure_ (i := 2) (N := some 94) (v := ?_) (a' := ?_) #[false, true, true, false, false, false, false, false, false, false, false] rfl rfl (any_of HT_.out (by kernel_rfl)) (fun _ _ _ h => h) (Or.inl ⟨by rfl, ?_⟩) ?_ ?_
                                                        rotate_left
                                                        · intro w'
                                                          go_simp
                                                          with_reducible rfl
                                                        rotate_left
                                                        · simp only [Act.put, List.setIfInBounds_toArray, List.set_cons_zero, List.set_cons_succ, i64_w, i32_w]
                                                          rfl
                                                        refine pure_ (i := 3) (N := some 95) (v := ?_) (a' := ?_) #[false, true, true, true, false, false, false, false, false, false, false] rfl rfl (any_of HT_.out (by kernel_rfl)) (fun _ _ _ h => h) (Or.inl ⟨by rfl, ?_⟩) ?_ ?_
                                                        rotate_left
                                                        · intro w'
                                                          go_simp
                                                          with_reducible rfl
                                                        rotate_left
                                                        · simp only [Act.put, List.setIfInBounds_toArray, List.set_cons_zero, List.set_cons_succ, i64_w, i32_w]
                                                          rfl
                                                        refine take_ (i := 0) (N := some 92) (v := ?_) (a' := ?_) #[true, true, true, true, false, false, false, false, false, false, false] rfl rfl (take_ofW HT_.out HW_.out (by kernel_rfl)) (fun _ _ _ h => h) (Or.inl ⟨by rfl, ?_⟩) hHeld ?_ ?_
                                                        rotate_left
                                                        · rintro w' ⟨s0, s1, s2⟩
                                                          go_simp
                                                          with_reducible rfl
                                                        rotate_left
                                                        · simp only [Act.put, List.setIfInBounds_toArray, List.set_cons_zero, List.set_cons_succ, i64_w, i32_w]
                                                          rfl
                                                        refine take_ (i := 4) (N := some 96) (v := ?_) (a' := ?_) #[true, true, true, true, true, false, false, false, false, false, false] rfl rfl (take_ofW HT_.out HW_.out (by kernel_rfl)) (fun _ _ _ h => h) (Or.inl ⟨by rfl, ?_⟩) hHeld ?_ ?_
                                                        rotate_left
                                                        · rintro w' ⟨s0, s1, s2⟩
                                                          go_simp
                                                          with_reducible rfl
                                                        rotate_left
                                                        · simp only [Act.put, List.setIfInBounds_toArray, List.set_cons_zero, List.set_cons_succ, i64_w, i32_w]
                                                          rfl
                                                        refine one_ (i := 5) (N := some 97) #[true, true, true, true, true, true, false, false, false, false, false] rfl rfl (one_of HT_.out (by kernel_rfl)) (by decide) (fun K hK => ?_)
                                                        refine goes_ Try.func28 (by kernel_rfl) rfl #[.agg #[.slice Ao7 t620.length co7, .slice (some ad632) t623.length co10], .string t630, .int .i64 (rd t636 0)] (by rfl) rfl rfl (by (try simp only [List.map_toArray, List.map_cons, List.map_nil]); first | done | rfl | (simp only [List.length_drop, List.length_take]; rfl)) ?_
                                                        with_reducible refine (trade_Means.calls _ _ t620 _ _ t623 t630 (rd t636 0) t641 t642 _ ?side1 ?side2 ?side3 ?side4 A41.out).mono ?_
                                                        (case side1 => repeat (first | exact (Kd.R_reads' HO_629000.out).2.2 | (with_reducible refine Kd.C_alloc ?_ _) | (with_reducible refine Kd.C_drewN ?_ _) | (with_reducible refine Kd.C_drew ?_)))
                                                        (case side2 => exact (Kd.R_reads' HO_629000.out).2.1)
                                                        (case side3 => repeat (first | exact (Kd.S_reads' HO_629001.out).2.2 | (with_reducible refine Kd.C_alloc ?_ _) | (with_reducible refine Kd.C_drewN ?_ _) | (with_reducible refine Kd.C_drew ?_)))
                                                        (case side4 => exact (Kd.S_reads' HO_629001.out).2.1)
                                                        rintro e w50 ⟨rfl, hb⟩
                                                        have HS2_ := (hb.cell (World.block_lt_of_cell? _ _ (hHeld.2.2))).trans (hHeld.2.2)
                                                        refine ⟨_, rfl, ?_⟩
                                                        have n0_ := Aside0.mk (Kd.R_below (by (with_reducible repeat (first | apply Kd.R_alloc | apply Kd.R_drewN | apply Kd.R_drew)); exact HO_13.out) hb)
                                                        have n1_ := Aside0.mk (Kd.R_below (by (with_reducible repeat (first | apply Kd.R_alloc | apply Kd.R_drewN | apply Kd.R_drew)); exact HO_629000.out) hb)
                                                        have n2_ := Aside0.mk (Kd.S_below (by (with_reducible repeat (first | apply Kd.S_alloc | apply Kd.S_drewN | apply Kd.S_drew)); exact HO_629001.out) hb)
                                                        have n3_ := Aside0.mk (blk_below (g := gb628) (o := .cells #[.slice Ao7 t620.length co7, .slice (some ad632) t623.length co10] 26 (0, 0)) (by (with_reducible repeat (first | refine blk_drewN ?_ _ | refine blk_drew ?_ | refine blk_alloc ?_ _)); exact BK628.out) hb)
                                                        have n4_ := Aside0.mk (Kd.C_below (by repeat (first | (with_reducible exact HR632_3.out) | (with_reducible refine Kd.C_alloc ?_ _) | (with_reducible refine Kd.C_drewN ?_ _) | (with_reducible refine Kd.C_drew ?_) | exact HR632_3.out)) hb)
                                                        have n5_ := Aside0.mk (below_step (by repeat (first | (with_reducible first | exact HB.out | apply below_alloc | apply pw_below_drewN | apply below_drew1 | refine below_set ?_ GE628.out) | exact HB.out)) hb)
                                                        clear HO_13
                                                        clear HO_629000
                                                        clear HO_629001
                                                        clear BK628
                                                        clear HR632_3
                                                        clear HB
                                                        have HO_13 := n0_
                                                        have HO_629000 := n1_
                                                        have HO_629001 := n2_
                                                        have BK628 := n3_
                                                        have HR632_3 := n4_
                                                        have HB := n5_
                                                        clear n0_ n1_ n2_ n3_ n4_ n5_
                                                        (try clear hb)
                                                        (try clear hb2)
                                                        (try clear hk)
                                                        (try clear hi)
                                                        refine hK.out _ _ ⟨(blk_cell BK628.out 0).trans rfl, (blk_cell BK628.out 1).trans rfl, HS2_⟩ (fun hHeld => ?_)
                                                        clear hK K
                                                        refine norm_ (a' := ?_) ?_ ?_
                                                        rotate_left
                                                        · show Act.put _ (some 97) _ = _
                                                          simp only [Act.put, List.setIfInBounds_toArray, List.set_cons_zero, List.set_cons_succ, i64_w, i32_w]
                                                          rfl
                                                        refine pure_ (i := 6) (N := some 91) (v := ?_) (a' := ?_) #[true, true, true, true, true, true, true, false, false, false, false] rfl rfl (any_of HT_.out (by kernel_rfl)) (fun _ _ _ h => h) (Or.inl ⟨by rfl, ?_⟩) ?_ ?_
                                                        rotate_left
                                                        · intro w'
                                                          go_simp
                                                          with_reducible rfl
                                                        rotate_left
                                                        · simp only [Act.put, List.setIfInBounds_toArray, List.set_cons_zero, List.set_cons_succ, i64_w, i32_w]
                                                          rfl
                                                        refine pure_ (i := 7) (N := some 98) (v := ?_) (a' := ?_) #[true, true, true, true, true, true, true, true, false, false, false] rfl rfl (any_of HT_.out (by kernel_rfl)) (fun _ _ _ h => h) (Or.inl ⟨by rfl, ?_⟩) ?_ ?_
                                                        rotate_left
                                                        · intro w'
                                                          go_simp
                                                          with_reducible rfl
                                                        rotate_left
                                                        · simp only [Act.put, List.setIfInBounds_toArray, List.set_cons_zero, List.set_cons_succ, i64_w, i32_w]
                                                          rfl
                                                        refine pure_ (i := 8) (N := some 99) (v := ?_) (a' := ?_) #[true, true, true, true, true, true, true, true, true, false, false] rfl rfl (any_of HT_.out (by kernel_rfl)) (fun _ _ _ h => h) (Or.inl ⟨by rfl, ?_⟩) ?_ ?_
                                                        rotate_left
                                                        · intro w'
                                                          go_simp
                                                          with_reducible rfl
                                                        rotate_left
                                                        · simp only [Act.put, List.setIfInBounds_toArray, List.set_cons_zero, List.set_cons_succ, i64_w, i32_w]
                                                          rfl
                                                        refine pure_ (i := 9) (N := some 15) (v := ?_) (a' := ?_) #[true, true, true, true, true, true, true, true, true, true, false] rfl rfl (any_of HT_.out (by kernel_rfl)) (fun _ _ _ h => h) (Or.inl ⟨by rfl, ?_⟩) ?_ ?_
                                                        rotate_left
                                                        · intro w'
                                                          go_simp
                                                          with_reducible rfl
                                                        rotate_left
                                                        · simp only [Act.put, List.setIfInBounds_toArray, List.set_cons_zero, List.set_cons_succ, i64_w, i32_w]
                                                          rfl
                                                        refine pure_ (i := 10) (N := some 16) (v := ?_) (a' := ?_) #[true, true, true, true, true, true, true, true, true, true, true] rfl rfl (any_of HT_.out (by kernel_rfl)) (fun _ _ _ h => h) (Or.inl ⟨by rfl, ?_⟩) ?_ ?_
                                                        rotate_left
                                                        · intro w'
                                                          go_simp
                                                          with_reducible rfl
                                                        rotate_left
                                                        · simp only [Act.put, List.setIfInBounds_toArray, List.set_cons_zero, List.set_cons_succ, i64_w, i32_w]
                                                          rfl
                                                        refine done_ (done_of HT_.out (by kernel_rfl)) ?_
                                                        have hcz51_0 : w50.cell? ⟨gb628, 0, none⟩ = some (.slice Ao7 t620.length co7) := (blk_cell BK628.out 0).trans rfl
                                                        have hcz51_1 : w50.cell? ⟨gb628, 1, none⟩ = some (.slice (some ad632) t623.length co10) := (blk_cell BK628.out 1).trans rfl
                                                        have hfz51_0 := blk_frozen BK628.out 0
                                                        have hfz51_1 := blk_frozen BK628.out 1
                                                        have p643 : 0 ≤ (t633 : Int) := of_decide_eq_true (by first | (with_reducible assumption) | assumption)
                                                        have q643 : t633 < (t623.length : Int) := of_decide_eq_true (by first | (with_reducible assumption) | assumption)
                                                        obtain ⟨ad643, A643_3, c643_3, e643, hx643_0, hx643_1, hx643_2, hx643_3, hl643_3, hi643_3⟩ := at_T39 (Kd.S_reads' HO_629001.out).2.2 t633 p643 q643
                                                        obtain rfl : ad632 = ad643 := (by injection e643)
                                                        obtain ⟨ce643, hce643, hMe643, hcc643⟩ := Kd.S_get HO_629001.out z39 t633 p643 (by first | exact q643 | exact of_decide_eq_true (by first | (with_reducible assumption) | assumption) | (have e_ := (Kd.S_reads' HO_629001.out).1; omega))
                                                        obtain ⟨ve643_3, rfl, ge643_3⟩ := k39_openM hMe643
                                                        have hv643_3 := hcc643 3 _ rfl
                                                        rw [add_field _ _ 3 (by omega)] at hv643_3
                                                        replace hv643_3 := Option.some.inj (hv643_3.symm.trans hx643_3)
                                                        rw [hv643_3] at ge643_3
                                                        have HL643_3 := Aside0.mk (show Kd.R (Kd.int .i64) 3 _ _ _ _ ((rd_T39 t623 t633).f3) from ge643_3)
                                                        clear hv643_3 ge643_3
                                                        clear hcc643 hce643
                                                        have HR643_3 := Aside0.mk hi643_3
                                                        have HC643_3 := Aside0.mk hl643_3
                                                        clear hi643_3 hl643_3
                                                        replace p643 := eq_true p643
                                                        replace q643 := eq_true q643
                                                        have p644 : 0 ≤ (0 : Int) := (by omega)
                                                        have q644 : 0 < (t636.length : Int) := of_decide_eq_true (by first | (with_reducible assumption) | assumption)
                                                        obtain ⟨ad644, e644, hx644_0⟩ := Kd.at_int (Kd.R_reads' HO_13.out).2.2 0 p644 q644
                                                        obtain rfl : ad640 = ad644 := (by injection e644)
                                                        have qi644 : (0 < t636.length) = True := eq_true (by omega)
                                                        (try rw [show ((0 : Int)).toNat = 0 from rfl] at hx644_0)
                                                        (try rw [Addr.add_zero'] at hx644_0)
                                                        replace p644 := eq_true p644
                                                        replace q644 := eq_true q644
                                                        try go_wp2
                                                        go_roundg kj31
                                                        case measure => have := HK1.out; have := HJ14.out; have := HK3.out; have := HJ23.out; have := HJ31.out; omega
                                                        case rel => exact ⟨(true), (wrap64 (x12_3 + 1)), (by first | rfl | (simp; done) | (simp [*]; done)), (by first | rfl | (simp; done) | (simp [*]; done)), H', ⟨by have := HK1.out; have := HJ14.out; have := HK3.out; have := HJ23.out; have := HJ31.out; omega⟩, ⟨by (with_reducible repeat (first | apply Kd.R_alloc | apply Kd.R_drewN | apply Kd.R_drew)); exact HO_629000.out⟩, ⟨by (with_reducible repeat (first | apply Kd.S_alloc | apply Kd.S_drewN | apply Kd.S_drew)); exact Kd.S_mono HO_629001.out (fun _ hk => trivial)⟩, ⟨by (with_reducible repeat (first | refine blk_drewN ?_ _ | refine blk_drew ?_ | refine blk_alloc ?_ _)); exact BK628.out⟩, ⟨by repeat (first | (with_reducible exact HR632_3.out) | (with_reducible refine Kd.C_alloc ?_ _) | (with_reducible refine Kd.C_drewN ?_ _) | (with_reducible refine Kd.C_drew ?_) | exact HR632_3.out)⟩, ⟨by repeat (first | (with_reducible first | exact HB.out | apply below_alloc | apply pw_below_drewN | apply below_drew1 | refine below_set ?_ GE628.out) | exact HB.out)⟩⟩
                                                      · rw [if_neg c48] at H
                                                        have c48b0 : ((rd t636 0) == t633) = false := beq_eq_false_iff_ne.mpr c48
                                                        have c48b1 : ((rd t636 0) != t633) = true := bne_iff_ne.mpr c48
                                                        obtain rfl := Option.some.inj H
                                                        try go_wp2
                                                        have n0_ := Aside0.mk (Kd.R_drew HO_13.out)
                                                        have n1_ := Aside0.mk (Kd.R_drew HO_629000.out)
                                                        have n2_ := Aside0.mk (Kd.S_drew HO_629001.out)
                                                        have n3_ := Aside0.mk (blk_drew BK628.out)
                                                        have n4_ := Aside0.mk (Kd.C_drew HR632_3.out)
                                                        have n5_ := Aside0.mk (below_drew1 HB.out)
                                                        clear HO_13
                                                        clear HO_629000
                                                        clear HO_629001
                                                        clear BK628
                                                        clear HR632_3
                                                        clear HB
                                                        have HO_13 := n0_
                                                        have HO_629000 := n1_
                                                        have HO_629001 := n2_
                                                        have BK628 := n3_
                                                        have HR632_3 := n4_
                                                        have HB := n5_
                                                        clear n0_ n1_ n2_ n3_ n4_ n5_
                                                        have p640 : 0 ≤ (0 : Int) := (by omega)
                                                        have q640 : 0 < (t636.length : Int) := of_decide_eq_true (by first | (with_reducible assumption) | assumption)
                                                        obtain ⟨ad640, e640, hx640_0⟩ := Kd.at_int (Kd.R_reads' HO_13.out).2.2 0 p640 q640
                                                        cases e640
                                                        have qi640 : (0 < t636.length) = True := eq_true (by omega)
                                                        (try rw [show ((0 : Int)).toNat = 0 from rfl] at hx640_0)
                                                        (try rw [Addr.add_zero'] at hx640_0)
                                                        replace p640 := eq_true p640
                                                        replace q640 := eq_true q640
                                                        refine start_ (n := 11) (S := fun w' => w'.cell? ⟨gb628, 0, none⟩ = some (.slice Ao7 t620.length co7) ∧ w'.cell? ⟨gb628, 1, none⟩ = some (.slice (some ad632) t623.length co10) ∧ w'.cell? ad640 = some (.int .i64 (rd t636 0))) (ds := []) #[false, false, false, false, false, false, false, false, false, false, false] (by kernel_rfl) rfl rfl ⟨(blk_cell BK628.out 0).trans rfl, (blk_cell BK628.out 1).trans rfl, hx640_0⟩ (fun hHeld => ?_); refine with_tabW wayzgooselaw04_TradeShort.tab21 wayzgooselaw04_TradeShort.bits21 (fun HT_ HW_ => ?_)
                                                        generalize wc.drew = w52 at HO_13 HO_629000 HO_629001 BK628 HR632_3 HB hx640_0 hHeld ⊢
                                                        refine pure_ (i := 1) (N := some 93) (v := ?_) (a' := ?_) #[false, true, false, false, false, false, false, false, false, false, false] rfl rfl (any_of HT_.out (by kernel_rfl)) (fun _ _ _ h => h) (Or.inl ⟨by rfl, ?_⟩) ?_ ?_
                                                        rotate_left
                                                        · intro w'
                                                          go_simp
                                                          with_reducible rfl
                                                        rotate_left
                                                        · simp only [Act.put, List.setIfInBounds_toArray, List.set_cons_zero, List.set_cons_succ, i64_w, i32_w]
                                                          rfl
                                                        refine pure_ (i := 2) (N := some 94) (v := ?_) (a' := ?_) #[false, true, true, false, false, false, false, false, false, false, false] rfl rfl (any_of HT_.out (by kernel_rfl)) (fun _ _ _ h => h) (Or.inl ⟨by rfl, ?_⟩) ?_ ?_
                                                        rotate_left
                                                        · intro w'
                                                          go_simp
                                                          with_reducible rfl
                                                        rotate_left
                                                        · simp only [Act.put, List.setIfInBounds_toArray, List.set_cons_zero, List.set_cons_succ, i64_w, i32_w]
                                                          rfl
                                                        refine pure_ (i := 3) (N := some 95) (v := ?_) (a' := ?_) #[false, true, true, true, false, false, false, false, false, false, false] rfl rfl (any_of HT_.out (by kernel_rfl)) (fun _ _ _ h => h) (Or.inl ⟨by rfl, ?_⟩) ?_ ?_
                                                        rotate_left
                                                        · intro w'
                                                          go_simp
                                                          with_reducible rfl
                                                        rotate_left
                                                        · simp only [Act.put, List.setIfInBounds_toArray, List.set_cons_zero, List.set_cons_succ, i64_w, i32_w]
                                                          rfl
                                                        refine take_ (i := 0) (N := some 92) (v := ?_) (a' := ?_) #[true, true, true, true, false, false, false, false, false, false, false] rfl rfl (take_ofW HT_.out HW_.out (by kernel_rfl)) (fun _ _ _ h => h) (Or.inl ⟨by rfl, ?_⟩) hHeld ?_ ?_
                                                        rotate_left
                                                        · rintro w' ⟨s0, s1, s2⟩
                                                          go_simp
                                                          with_reducible rfl
                                                        rotate_left
                                                        · simp only [Act.put, List.setIfInBounds_toArray, List.set_cons_zero, List.set_cons_succ, i64_w, i32_w]
                                                          rfl
                                                        refine take_ (i := 4) (N := some 96) (v := ?_) (a' := ?_) #[true, true, true, true, true, false, false, false, false, false, false] rfl rfl (take_ofW HT_.out HW_.out (by kernel_rfl)) (fun _ _ _ h => h) (Or.inl ⟨by rfl, ?_⟩) hHeld ?_ ?_
                                                        rotate_left
                                                        · rintro w' ⟨s0, s1, s2⟩
                                                          go_simp
                                                          with_reducible rfl
                                                        rotate_left
                                                        · simp only [Act.put, List.setIfInBounds_toArray, List.set_cons_zero, List.set_cons_succ, i64_w, i32_w]
                                                          rfl
                                                        refine one_ (i := 5) (N := some 97) #[true, true, true, true, true, true, false, false, false, false, false] rfl rfl (one_of HT_.out (by kernel_rfl)) (by decide) (fun K hK => ?_)
                                                        refine goes_ Try.func28 (by kernel_rfl) rfl #[.agg #[.slice Ao7 t620.length co7, .slice (some ad632) t623.length co10], .string t630, .int .i64 (rd t636 0)] (by rfl) rfl rfl (by (try simp only [List.map_toArray, List.map_cons, List.map_nil]); first | done | rfl | (simp only [List.length_drop, List.length_take]; rfl)) ?_
                                                        with_reducible refine (trade_Means.calls _ _ t620 _ _ t623 t630 (rd t636 0) t641 t642 _ ?side1 ?side2 ?side3 ?side4 A41.out).mono ?_
                                                        (case side1 => repeat (first | exact (Kd.R_reads' HO_629000.out).2.2 | (with_reducible refine Kd.C_alloc ?_ _) | (with_reducible refine Kd.C_drewN ?_ _) | (with_reducible refine Kd.C_drew ?_)))
                                                        (case side2 => exact (Kd.R_reads' HO_629000.out).2.1)
                                                        (case side3 => repeat (first | exact (Kd.S_reads' HO_629001.out).2.2 | (with_reducible refine Kd.C_alloc ?_ _) | (with_reducible refine Kd.C_drewN ?_ _) | (with_reducible refine Kd.C_drew ?_)))
                                                        (case side4 => exact (Kd.S_reads' HO_629001.out).2.1)
                                                        rintro e w53 ⟨rfl, hb⟩
                                                        have HS2_ := (hb.cell (World.block_lt_of_cell? _ _ (hHeld.2.2))).trans (hHeld.2.2)
                                                        refine ⟨_, rfl, ?_⟩
                                                        have n0_ := Aside0.mk (Kd.R_below (by (with_reducible repeat (first | apply Kd.R_alloc | apply Kd.R_drewN | apply Kd.R_drew)); exact HO_13.out) hb)
                                                        have n1_ := Aside0.mk (Kd.R_below (by (with_reducible repeat (first | apply Kd.R_alloc | apply Kd.R_drewN | apply Kd.R_drew)); exact HO_629000.out) hb)
                                                        have n2_ := Aside0.mk (Kd.S_below (by (with_reducible repeat (first | apply Kd.S_alloc | apply Kd.S_drewN | apply Kd.S_drew)); exact HO_629001.out) hb)
                                                        have n3_ := Aside0.mk (blk_below (g := gb628) (o := .cells #[.slice Ao7 t620.length co7, .slice (some ad632) t623.length co10] 26 (0, 0)) (by (with_reducible repeat (first | refine blk_drewN ?_ _ | refine blk_drew ?_ | refine blk_alloc ?_ _)); exact BK628.out) hb)
                                                        have n4_ := Aside0.mk (Kd.C_below (by repeat (first | (with_reducible exact HR632_3.out) | (with_reducible refine Kd.C_alloc ?_ _) | (with_reducible refine Kd.C_drewN ?_ _) | (with_reducible refine Kd.C_drew ?_) | exact HR632_3.out)) hb)
                                                        have n5_ := Aside0.mk (below_step (by repeat (first | (with_reducible first | exact HB.out | apply below_alloc | apply pw_below_drewN | apply below_drew1 | refine below_set ?_ GE628.out) | exact HB.out)) hb)
                                                        clear HO_13
                                                        clear HO_629000
                                                        clear HO_629001
                                                        clear BK628
                                                        clear HR632_3
                                                        clear HB
                                                        have HO_13 := n0_
                                                        have HO_629000 := n1_
                                                        have HO_629001 := n2_
                                                        have BK628 := n3_
                                                        have HR632_3 := n4_
                                                        have HB := n5_
                                                        clear n0_ n1_ n2_ n3_ n4_ n5_
                                                        (try clear hb)
                                                        (try clear hb2)
                                                        (try clear hk)
                                                        (try clear hi)
                                                        refine hK.out _ _ ⟨(blk_cell BK628.out 0).trans rfl, (blk_cell BK628.out 1).trans rfl, HS2_⟩ (fun hHeld => ?_)
                                                        clear hK K
                                                        refine norm_ (a' := ?_) ?_ ?_
                                                        rotate_left
                                                        · show Act.put _ (some 97) _ = _
                                                          simp only [Act.put, List.setIfInBounds_toArray, List.set_cons_zero, List.set_cons_succ, i64_w, i32_w]
                                                          rfl
                                                        refine pure_ (i := 6) (N := some 91) (v := ?_) (a' := ?_) #[true, true, true, true, true, true, true, false, false, false, false] rfl rfl (any_of HT_.out (by kernel_rfl)) (fun _ _ _ h => h) (Or.inl ⟨by rfl, ?_⟩) ?_ ?_
                                                        rotate_left
                                                        · intro w'
                                                          go_simp
                                                          with_reducible rfl
                                                        rotate_left
                                                        · simp only [Act.put, List.setIfInBounds_toArray, List.set_cons_zero, List.set_cons_succ, i64_w, i32_w]
                                                          rfl
                                                        refine pure_ (i := 7) (N := some 98) (v := ?_) (a' := ?_) #[true, true, true, true, true, true, true, true, false, false, false] rfl rfl (any_of HT_.out (by kernel_rfl)) (fun _ _ _ h => h) (Or.inl ⟨by rfl, ?_⟩) ?_ ?_
                                                        rotate_left
                                                        · intro w'
                                                          go_simp
                                                          with_reducible rfl
                                                        rotate_left
                                                        · simp only [Act.put, List.setIfInBounds_toArray, List.set_cons_zero, List.set_cons_succ, i64_w, i32_w]
                                                          rfl
                                                        refine pure_ (i := 8) (N := some 99) (v := ?_) (a' := ?_) #[true, true, true, true, true, true, true, true, true, false, false] rfl rfl (any_of HT_.out (by kernel_rfl)) (fun _ _ _ h => h) (Or.inl ⟨by rfl, ?_⟩) ?_ ?_
                                                        rotate_left
                                                        · intro w'
                                                          go_simp
                                                          with_reducible rfl
                                                        rotate_left
                                                        · simp only [Act.put, List.setIfInBounds_toArray, List.set_cons_zero, List.set_cons_succ, i64_w, i32_w]
                                                          rfl
                                                        refine pure_ (i := 9) (N := some 15) (v := ?_) (a' := ?_) #[true, true, true, true, true, true, true, true, true, true, false] rfl rfl (any_of HT_.out (by kernel_rfl)) (fun _ _ _ h => h) (Or.inl ⟨by rfl, ?_⟩) ?_ ?_
                                                        rotate_left
                                                        · intro w'
                                                          go_simp
                                                          with_reducible rfl
                                                        rotate_left
                                                        · simp only [Act.put, List.setIfInBounds_toArray, List.set_cons_zero, List.set_cons_succ, i64_w, i32_w]
                                                          rfl
                                                        refine pure_ (i := 10) (N := some 16) (v := ?_) (a' := ?_) #[true, true, true, true, true, true, true, true, true, true, true] rfl rfl (any_of HT_.out (by kernel_rfl)) (fun _ _ _ h => h) (Or.inl ⟨by rfl, ?_⟩) ?_ ?_
                                                        rotate_left
                                                        · intro w'
                                                          go_simp
                                                          with_reducible rfl
                                                        rotate_left
                                                        · simp only [Act.put, List.setIfInBounds_toArray, List.set_cons_zero, List.set_cons_succ, i64_w, i32_w]
                                                          rfl
                                                        refine done_ (done_of HT_.out (by kernel_rfl)) ?_
                                                        have hcz54_0 : w53.cell? ⟨gb628, 0, none⟩ = some (.slice Ao7 t620.length co7) := (blk_cell BK628.out 0).trans rfl
                                                        have hcz54_1 : w53.cell? ⟨gb628, 1, none⟩ = some (.slice (some ad632) t623.length co10) := (blk_cell BK628.out 1).trans rfl
                                                        have hfz54_0 := blk_frozen BK628.out 0
                                                        have hfz54_1 := blk_frozen BK628.out 1
                                                        have p643 : 0 ≤ (t633 : Int) := of_decide_eq_true (by first | (with_reducible assumption) | assumption)
                                                        have q643 : t633 < (t623.length : Int) := of_decide_eq_true (by first | (with_reducible assumption) | assumption)
                                                        obtain ⟨ad643, A643_3, c643_3, e643, hx643_0, hx643_1, hx643_2, hx643_3, hl643_3, hi643_3⟩ := at_T39 (Kd.S_reads' HO_629001.out).2.2 t633 p643 q643
                                                        obtain rfl : ad632 = ad643 := (by injection e643)
                                                        obtain ⟨ce643, hce643, hMe643, hcc643⟩ := Kd.S_get HO_629001.out z39 t633 p643 (by first | exact q643 | exact of_decide_eq_true (by first | (with_reducible assumption) | assumption) | (have e_ := (Kd.S_reads' HO_629001.out).1; omega))
                                                        obtain ⟨ve643_3, rfl, ge643_3⟩ := k39_openM hMe643
                                                        have hv643_3 := hcc643 3 _ rfl
                                                        rw [add_field _ _ 3 (by omega)] at hv643_3
                                                        replace hv643_3 := Option.some.inj (hv643_3.symm.trans hx643_3)
                                                        rw [hv643_3] at ge643_3
                                                        have HL643_3 := Aside0.mk (show Kd.R (Kd.int .i64) 3 _ _ _ _ ((rd_T39 t623 t633).f3) from ge643_3)
                                                        clear hv643_3 ge643_3
                                                        clear hcc643 hce643
                                                        have HR643_3 := Aside0.mk hi643_3
                                                        have HC643_3 := Aside0.mk hl643_3
                                                        clear hi643_3 hl643_3
                                                        replace p643 := eq_true p643
                                                        replace q643 := eq_true q643
                                                        have p644 : 0 ≤ (0 : Int) := (by omega)
                                                        have q644 : 0 < (t636.length : Int) := of_decide_eq_true (by first | (with_reducible assumption) | assumption)
                                                        obtain ⟨ad644, e644, hx644_0⟩ := Kd.at_int (Kd.R_reads' HO_13.out).2.2 0 p644 q644
                                                        obtain rfl : ad640 = ad644 := (by injection e644)
                                                        have qi644 : (0 < t636.length) = True := eq_true (by omega)
                                                        (try rw [show ((0 : Int)).toNat = 0 from rfl] at hx644_0)
                                                        (try rw [Addr.add_zero'] at hx644_0)
                                                        replace p644 := eq_true p644
                                                        replace q644 := eq_true q644
                                                        try go_wp2
                                                        go_ret
                                                        exact ⟨by first | rfl | (simp [errW_none, errW_some] <;> rfl) | (simp [*, errW_none, errW_some] <;> rfl), by repeat (first | (with_reducible first | exact HB.out | apply below_alloc | apply pw_below_drewN | apply below_drew1 | refine below_set ?_ GE628.out) | exact HB.out)⟩
                                                    · rw [if_neg c47] at H
                                                      have c47b0 : decide (0 ≤ ((rd_T39 t623 t633).f1)) = false := decide_eq_false c47
                                                      clear c47
                                                      have H' := Aside0.mk H
                                                      clear H
                                                      try go_wp2
                                                      have n0_ := Aside0.mk (Kd.R_drew HO_13.out)
                                                      have n1_ := Aside0.mk (Kd.R_drew HO_629000.out)
                                                      have n2_ := Aside0.mk (Kd.S_drew HO_629001.out)
                                                      have n3_ := Aside0.mk (blk_drew BK628.out)
                                                      have n4_ := Aside0.mk (Kd.C_drew HR632_3.out)
                                                      have n5_ := Aside0.mk (below_drew1 HB.out)
                                                      clear HO_13
                                                      clear HO_629000
                                                      clear HO_629001
                                                      clear BK628
                                                      clear HR632_3
                                                      clear HB
                                                      have HO_13 := n0_
                                                      have HO_629000 := n1_
                                                      have HO_629001 := n2_
                                                      have BK628 := n3_
                                                      have HR632_3 := n4_
                                                      have HB := n5_
                                                      clear n0_ n1_ n2_ n3_ n4_ n5_
                                                      have p640 : 0 ≤ (0 : Int) := (by omega)
                                                      have q640 : 0 < (t636.length : Int) := of_decide_eq_true (by first | (with_reducible assumption) | assumption)
                                                      obtain ⟨ad640, e640, hx640_0⟩ := Kd.at_int (Kd.R_reads' HO_13.out).2.2 0 p640 q640
                                                      cases e640
                                                      have qi640 : (0 < t636.length) = True := eq_true (by omega)
                                                      (try rw [show ((0 : Int)).toNat = 0 from rfl] at hx640_0)
                                                      (try rw [Addr.add_zero'] at hx640_0)
                                                      replace p640 := eq_true p640
                                                      replace q640 := eq_true q640
                                                      refine start_ (n := 11) (S := fun w' => w'.cell? ⟨gb628, 0, none⟩ = some (.slice Ao7 t620.length co7) ∧ w'.cell? ⟨gb628, 1, none⟩ = some (.slice (some ad632) t623.length co10) ∧ w'.cell? ad640 = some (.int .i64 (rd t636 0))) (ds := []) #[false, false, false, false, false, false, false, false, false, false, false] (by kernel_rfl) rfl rfl ⟨(blk_cell BK628.out 0).trans rfl, (blk_cell BK628.out 1).trans rfl, hx640_0⟩ (fun hHeld => ?_); refine with_tabW wayzgooselaw04_TradeShort.tab21 wayzgooselaw04_TradeShort.bits21 (fun HT_ HW_ => ?_)
                                                      generalize wc.drew = w55 at HO_13 HO_629000 HO_629001 BK628 HR632_3 HB hx640_0 hHeld ⊢
                                                      refine pure_ (i := 1) (N := some 93) (v := ?_) (a' := ?_) #[false, true, false, false, false, false, false, false, false, false, false] rfl rfl (any_of HT_.out (by kernel_rfl)) (fun _ _ _ h => h) (Or.inl ⟨by rfl, ?_⟩) ?_ ?_
                                                      rotate_left
                                                      · intro w'
                                                        go_simp
                                                        with_reducible rfl
                                                      rotate_left
                                                      · simp only [Act.put, List.setIfInBounds_toArray, List.set_cons_zero, List.set_cons_succ, i64_w, i32_w]
                                                        rfl
                                                      refine pure_ (i := 2) (N := some 94) (v := ?_) (a' := ?_) #[false, true, true, false, false, false, false, false, false, false, false] rfl rfl (any_of HT_.out (by kernel_rfl)) (fun _ _ _ h => h) (Or.inl ⟨by rfl, ?_⟩) ?_ ?_
                                                      rotate_left
                                                      · intro w'
                                                        go_simp
                                                        with_reducible rfl
                                                      rotate_left
                                                      · simp only [Act.put, List.setIfInBounds_toArray, List.set_cons_zero, List.set_cons_succ, i64_w, i32_w]
                                                        rfl
                                                      refine pure_ (i := 3) (N := some 95) (v := ?_) (a' := ?_) #[false, true, true, true, false, false, false, false, false, false, false] rfl rfl (any_of HT_.out (by kernel_rfl)) (fun _ _ _ h => h) (Or.inl ⟨by rfl, ?_⟩) ?_ ?_
                                                      rotate_left
                                                      · intro w'
                                                        go_simp
                                                        with_reducible rfl
                                                      rotate_left
                                                      · simp only [Act.put, List.setIfInBounds_toArray, List.set_cons_zero, List.set_cons_succ, i64_w, i32_w]
                                                        rfl
                                                      refine take_ (i := 0) (N := some 92) (v := ?_) (a' := ?_) #[true, true, true, true, false, false, false, false, false, false, false] rfl rfl (take_ofW HT_.out HW_.out (by kernel_rfl)) (fun _ _ _ h => h) (Or.inl ⟨by rfl, ?_⟩) hHeld ?_ ?_
                                                      rotate_left
                                                      · rintro w' ⟨s0, s1, s2⟩
                                                        go_simp
                                                        with_reducible rfl
                                                      rotate_left
                                                      · simp only [Act.put, List.setIfInBounds_toArray, List.set_cons_zero, List.set_cons_succ, i64_w, i32_w]
                                                        rfl
                                                      refine take_ (i := 4) (N := some 96) (v := ?_) (a' := ?_) #[true, true, true, true, true, false, false, false, false, false, false] rfl rfl (take_ofW HT_.out HW_.out (by kernel_rfl)) (fun _ _ _ h => h) (Or.inl ⟨by rfl, ?_⟩) hHeld ?_ ?_
                                                      rotate_left
                                                      · rintro w' ⟨s0, s1, s2⟩
                                                        go_simp
                                                        with_reducible rfl
                                                      rotate_left
                                                      · simp only [Act.put, List.setIfInBounds_toArray, List.set_cons_zero, List.set_cons_succ, i64_w, i32_w]
                                                        rfl
                                                      refine one_ (i := 5) (N := some 97) #[true, true, true, true, true, true, false, false, false, false, false] rfl rfl (one_of HT_.out (by kernel_rfl)) (by decide) (fun K hK => ?_)
                                                      refine goes_ Try.func28 (by kernel_rfl) rfl #[.agg #[.slice Ao7 t620.length co7, .slice (some ad632) t623.length co10], .string t630, .int .i64 (rd t636 0)] (by rfl) rfl rfl (by (try simp only [List.map_toArray, List.map_cons, List.map_nil]); first | done | rfl | (simp only [List.length_drop, List.length_take]; rfl)) ?_
                                                      with_reducible refine (trade_Means.calls _ _ t620 _ _ t623 t630 (rd t636 0) t641 t642 _ ?side1 ?side2 ?side3 ?side4 A41.out).mono ?_
                                                      (case side1 => repeat (first | exact (Kd.R_reads' HO_629000.out).2.2 | (with_reducible refine Kd.C_alloc ?_ _) | (with_reducible refine Kd.C_drewN ?_ _) | (with_reducible refine Kd.C_drew ?_)))
                                                      (case side2 => exact (Kd.R_reads' HO_629000.out).2.1)
                                                      (case side3 => repeat (first | exact (Kd.S_reads' HO_629001.out).2.2 | (with_reducible refine Kd.C_alloc ?_ _) | (with_reducible refine Kd.C_drewN ?_ _) | (with_reducible refine Kd.C_drew ?_)))
                                                      (case side4 => exact (Kd.S_reads' HO_629001.out).2.1)
                                                      rintro e w56 ⟨rfl, hb⟩
                                                      have HS2_ := (hb.cell (World.block_lt_of_cell? _ _ (hHeld.2.2))).trans (hHeld.2.2)
                                                      refine ⟨_, rfl, ?_⟩
                                                      have n0_ := Aside0.mk (Kd.R_below (by (with_reducible repeat (first | apply Kd.R_alloc | apply Kd.R_drewN | apply Kd.R_drew)); exact HO_13.out) hb)
                                                      have n1_ := Aside0.mk (Kd.R_below (by (with_reducible repeat (first | apply Kd.R_alloc | apply Kd.R_drewN | apply Kd.R_drew)); exact HO_629000.out) hb)
                                                      have n2_ := Aside0.mk (Kd.S_below (by (with_reducible repeat (first | apply Kd.S_alloc | apply Kd.S_drewN | apply Kd.S_drew)); exact HO_629001.out) hb)
                                                      have n3_ := Aside0.mk (blk_below (g := gb628) (o := .cells #[.slice Ao7 t620.length co7, .slice (some ad632) t623.length co10] 26 (0, 0)) (by (with_reducible repeat (first | refine blk_drewN ?_ _ | refine blk_drew ?_ | refine blk_alloc ?_ _)); exact BK628.out) hb)
                                                      have n4_ := Aside0.mk (Kd.C_below (by repeat (first | (with_reducible exact HR632_3.out) | (with_reducible refine Kd.C_alloc ?_ _) | (with_reducible refine Kd.C_drewN ?_ _) | (with_reducible refine Kd.C_drew ?_) | exact HR632_3.out)) hb)
                                                      have n5_ := Aside0.mk (below_step (by repeat (first | (with_reducible first | exact HB.out | apply below_alloc | apply pw_below_drewN | apply below_drew1 | refine below_set ?_ GE628.out) | exact HB.out)) hb)
                                                      clear HO_13
                                                      clear HO_629000
                                                      clear HO_629001
                                                      clear BK628
                                                      clear HR632_3
                                                      clear HB
                                                      have HO_13 := n0_
                                                      have HO_629000 := n1_
                                                      have HO_629001 := n2_
                                                      have BK628 := n3_
                                                      have HR632_3 := n4_
                                                      have HB := n5_
                                                      clear n0_ n1_ n2_ n3_ n4_ n5_
                                                      (try clear hb)
                                                      (try clear hb2)
                                                      (try clear hk)
                                                      (try clear hi)
                                                      refine hK.out _ _ ⟨(blk_cell BK628.out 0).trans rfl, (blk_cell BK628.out 1).trans rfl, HS2_⟩ (fun hHeld => ?_)
                                                      clear hK K
                                                      refine norm_ (a' := ?_) ?_ ?_
                                                      rotate_left
                                                      · show Act.put _ (some 97) _ = _
                                                        simp only [Act.put, List.setIfInBounds_toArray, List.set_cons_zero, List.set_cons_succ, i64_w, i32_w]
                                                        rfl
                                                      refine pure_ (i := 6) (N := some 91) (v := ?_) (a' := ?_) #[true, true, true, true, true, true, true, false, false, false, false] rfl rfl (any_of HT_.out (by kernel_rfl)) (fun _ _ _ h => h) (Or.inl ⟨by rfl, ?_⟩) ?_ ?_
                                                      rotate_left
                                                      · intro w'
                                                        go_simp
                                                        with_reducible rfl
                                                      rotate_left
                                                      · simp only [Act.put, List.setIfInBounds_toArray, List.set_cons_zero, List.set_cons_succ, i64_w, i32_w]
                                                        rfl
                                                      refine pure_ (i := 7) (N := some 98) (v := ?_) (a' := ?_) #[true, true, true, true, true, true, true, true, false, false, false] rfl rfl (any_of HT_.out (by kernel_rfl)) (fun _ _ _ h => h) (Or.inl ⟨by rfl, ?_⟩) ?_ ?_
                                                      rotate_left
                                                      · intro w'
                                                        go_simp
                                                        with_reducible rfl
                                                      rotate_left
                                                      · simp only [Act.put, List.setIfInBounds_toArray, List.set_cons_zero, List.set_cons_succ, i64_w, i32_w]
                                                        rfl
                                                      refine pure_ (i := 8) (N := some 99) (v := ?_) (a' := ?_) #[true, true, true, true, true, true, true, true, true, false, false] rfl rfl (any_of HT_.out (by kernel_rfl)) (fun _ _ _ h => h) (Or.inl ⟨by rfl, ?_⟩) ?_ ?_
                                                      rotate_left
                                                      · intro w'
                                                        go_simp
                                                        with_reducible rfl
                                                      rotate_left
                                                      · simp only [Act.put, List.setIfInBounds_toArray, List.set_cons_zero, List.set_cons_succ, i64_w, i32_w]
                                                        rfl
                                                      refine pure_ (i := 9) (N := some 15) (v := ?_) (a' := ?_) #[true, true, true, true, true, true, true, true, true, true, false] rfl rfl (any_of HT_.out (by kernel_rfl)) (fun _ _ _ h => h) (Or.inl ⟨by rfl, ?_⟩) ?_ ?_
                                                      rotate_left
                                                      · intro w'
                                                        go_simp
                                                        with_reducible rfl
                                                      rotate_left
                                                      · simp only [Act.put, List.setIfInBounds_toArray, List.set_cons_zero, List.set_cons_succ, i64_w, i32_w]
                                                        rfl
                                                      refine pure_ (i := 10) (N := some 16) (v := ?_) (a' := ?_) #[true, true, true, true, true, true, true, true, true, true, true] rfl rfl (any_of HT_.out (by kernel_rfl)) (fun _ _ _ h => h) (Or.inl ⟨by rfl, ?_⟩) ?_ ?_
                                                      rotate_left
                                                      · intro w'
                                                        go_simp
                                                        with_reducible rfl
                                                      rotate_left
                                                      · simp only [Act.put, List.setIfInBounds_toArray, List.set_cons_zero, List.set_cons_succ, i64_w, i32_w]
                                                        rfl
                                                      refine done_ (done_of HT_.out (by kernel_rfl)) ?_
                                                      have hcz57_0 : w56.cell? ⟨gb628, 0, none⟩ = some (.slice Ao7 t620.length co7) := (blk_cell BK628.out 0).trans rfl
                                                      have hcz57_1 : w56.cell? ⟨gb628, 1, none⟩ = some (.slice (some ad632) t623.length co10) := (blk_cell BK628.out 1).trans rfl
                                                      have hfz57_0 := blk_frozen BK628.out 0
                                                      have hfz57_1 := blk_frozen BK628.out 1
                                                      have p643 : 0 ≤ (t633 : Int) := of_decide_eq_true (by first | (with_reducible assumption) | assumption)
                                                      have q643 : t633 < (t623.length : Int) := of_decide_eq_true (by first | (with_reducible assumption) | assumption)
                                                      obtain ⟨ad643, A643_3, c643_3, e643, hx643_0, hx643_1, hx643_2, hx643_3, hl643_3, hi643_3⟩ := at_T39 (Kd.S_reads' HO_629001.out).2.2 t633 p643 q643
                                                      obtain rfl : ad632 = ad643 := (by injection e643)
                                                      obtain ⟨ce643, hce643, hMe643, hcc643⟩ := Kd.S_get HO_629001.out z39 t633 p643 (by first | exact q643 | exact of_decide_eq_true (by first | (with_reducible assumption) | assumption) | (have e_ := (Kd.S_reads' HO_629001.out).1; omega))
                                                      obtain ⟨ve643_3, rfl, ge643_3⟩ := k39_openM hMe643
                                                      have hv643_3 := hcc643 3 _ rfl
                                                      rw [add_field _ _ 3 (by omega)] at hv643_3
                                                      replace hv643_3 := Option.some.inj (hv643_3.symm.trans hx643_3)
                                                      rw [hv643_3] at ge643_3
                                                      have HL643_3 := Aside0.mk (show Kd.R (Kd.int .i64) 3 _ _ _ _ ((rd_T39 t623 t633).f3) from ge643_3)
                                                      clear hv643_3 ge643_3
                                                      clear hcc643 hce643
                                                      have HR643_3 := Aside0.mk hi643_3
                                                      have HC643_3 := Aside0.mk hl643_3
                                                      clear hi643_3 hl643_3
                                                      replace p643 := eq_true p643
                                                      replace q643 := eq_true q643
                                                      try go_wp2
                                                      go_roundg kj31
                                                      case measure => have := HK1.out; have := HJ14.out; have := HK3.out; have := HJ23.out; have := HJ31.out; omega
                                                      case rel => exact ⟨(true), (wrap64 (x12_3 + 1)), (by first | rfl | (simp; done) | (simp [*]; done)), (by first | rfl | (simp; done) | (simp [*]; done)), H', ⟨by have := HK1.out; have := HJ14.out; have := HK3.out; have := HJ23.out; have := HJ31.out; omega⟩, ⟨by (with_reducible repeat (first | apply Kd.R_alloc | apply Kd.R_drewN | apply Kd.R_drew)); exact HO_629000.out⟩, ⟨by (with_reducible repeat (first | apply Kd.S_alloc | apply Kd.S_drewN | apply Kd.S_drew)); exact Kd.S_mono HO_629001.out (fun _ hk => trivial)⟩, ⟨by (with_reducible repeat (first | refine blk_drewN ?_ _ | refine blk_drew ?_ | refine blk_alloc ?_ _)); exact BK628.out⟩, ⟨by repeat (first | (with_reducible exact HR632_3.out) | (with_reducible refine Kd.C_alloc ?_ _) | (with_reducible refine Kd.C_drewN ?_ _) | (with_reducible refine Kd.C_drew ?_) | exact HR632_3.out)⟩, ⟨by repeat (first | (with_reducible first | exact HB.out | apply below_alloc | apply pw_below_drewN | apply below_drew1 | refine below_set ?_ GE628.out) | exact HB.out)⟩⟩
                                                  · rw [if_neg c46] at H
                                                    exact absurd H (by simp)
                                                · rw [if_neg c45] at H
                                                  exact absurd H (by simp)
                                              · rw [if_neg c44] at H
                                                have c44b0 : (t635 == 0) = false := beq_eq_false_iff_ne.mpr c44
                                                have c44b1 : (t635 != 0) = true := bne_iff_ne.mpr c44
                                                have H' := Aside0.mk H
                                                clear H
                                                try go_wp2
                                                have n0_ := Aside0.mk (Kd.R_drew HO_13.out)
                                                have n1_ := Aside0.mk (Kd.R_drew HO_629000.out)
                                                have n2_ := Aside0.mk (Kd.S_drew HO_629001.out)
                                                have n3_ := Aside0.mk (blk_drew BK628.out)
                                                have n4_ := Aside0.mk (Kd.C_drew HR632_3.out)
                                                have n5_ := Aside0.mk (below_drew1 HB.out)
                                                clear HO_13
                                                clear HO_629000
                                                clear HO_629001
                                                clear BK628
                                                clear HR632_3
                                                clear HB
                                                have HO_13 := n0_
                                                have HO_629000 := n1_
                                                have HO_629001 := n2_
                                                have BK628 := n3_
                                                have HR632_3 := n4_
                                                have HB := n5_
                                                clear n0_ n1_ n2_ n3_ n4_ n5_
                                                have p640 : 0 ≤ (0 : Int) := (by omega)
                                                have q640 : 0 < (t636.length : Int) := of_decide_eq_true (by first | (with_reducible assumption) | assumption)
                                                obtain ⟨ad640, e640, hx640_0⟩ := Kd.at_int (Kd.R_reads' HO_13.out).2.2 0 p640 q640
                                                cases e640
                                                have qi640 : (0 < t636.length) = True := eq_true (by omega)
                                                (try rw [show ((0 : Int)).toNat = 0 from rfl] at hx640_0)
                                                (try rw [Addr.add_zero'] at hx640_0)
                                                replace p640 := eq_true p640
                                                replace q640 := eq_true q640
                                                refine start_ (n := 11) (S := fun w' => w'.cell? ⟨gb628, 0, none⟩ = some (.slice Ao7 t620.length co7) ∧ w'.cell? ⟨gb628, 1, none⟩ = some (.slice (some ad632) t623.length co10) ∧ w'.cell? ad640 = some (.int .i64 (rd t636 0))) (ds := []) #[false, false, false, false, false, false, false, false, false, false, false] (by kernel_rfl) rfl rfl ⟨(blk_cell BK628.out 0).trans rfl, (blk_cell BK628.out 1).trans rfl, hx640_0⟩ (fun hHeld => ?_); refine with_tabW wayzgooselaw04_TradeShort.tab21 wayzgooselaw04_TradeShort.bits21 (fun HT_ HW_ => ?_)
                                                generalize wc.drew = w58 at HO_13 HO_629000 HO_629001 BK628 HR632_3 HB hx640_0 hHeld ⊢
                                                refine pure_ (i := 1) (N := some 93) (v := ?_) (a' := ?_) #[false, true, false, false, false, false, false, false, false, false, false] rfl rfl (any_of HT_.out (by kernel_rfl)) (fun _ _ _ h => h) (Or.inl ⟨by rfl, ?_⟩) ?_ ?_
                                                rotate_left
                                                · intro w'
                                                  go_simp
                                                  with_reducible rfl
                                                rotate_left
                                                · simp only [Act.put, List.setIfInBounds_toArray, List.set_cons_zero, List.set_cons_succ, i64_w, i32_w]
                                                  rfl
                                                refine pure_ (i := 2) (N := some 94) (v := ?_) (a' := ?_) #[false, true, true, false, false, false, false, false, false, false, false] rfl rfl (any_of HT_.out (by kernel_rfl)) (fun _ _ _ h => h) (Or.inl ⟨by rfl, ?_⟩) ?_ ?_
                                                rotate_left
                                                · intro w'
                                                  go_simp
                                                  with_reducible rfl
                                                rotate_left
                                                · simp only [Act.put, List.setIfInBounds_toArray, List.set_cons_zero, List.set_cons_succ, i64_w, i32_w]
                                                  rfl
                                                refine pure_ (i := 3) (N := some 95) (v := ?_) (a' := ?_) #[false, true, true, true, false, false, false, false, false, false, false] rfl rfl (any_of HT_.out (by kernel_rfl)) (fun _ _ _ h => h) (Or.inl ⟨by rfl, ?_⟩) ?_ ?_
                                                rotate_left
                                                · intro w'
                                                  go_simp
                                                  with_reducible rfl
                                                rotate_left
                                                · simp only [Act.put, List.setIfInBounds_toArray, List.set_cons_zero, List.set_cons_succ, i64_w, i32_w]
                                                  rfl
                                                refine take_ (i := 0) (N := some 92) (v := ?_) (a' := ?_) #[true, true, true, true, false, false, false, false, false, false, false] rfl rfl (take_ofW HT_.out HW_.out (by kernel_rfl)) (fun _ _ _ h => h) (Or.inl ⟨by rfl, ?_⟩) hHeld ?_ ?_
                                                rotate_left
                                                · rintro w' ⟨s0, s1, s2⟩
                                                  go_simp
                                                  with_reducible rfl
                                                rotate_left
                                                · simp only [Act.put, List.setIfInBounds_toArray, List.set_cons_zero, List.set_cons_succ, i64_w, i32_w]
                                                  rfl
                                                refine take_ (i := 4) (N := some 96) (v := ?_) (a' := ?_) #[true, true, true, true, true, false, false, false, false, false, false] rfl rfl (take_ofW HT_.out HW_.out (by kernel_rfl)) (fun _ _ _ h => h) (Or.inl ⟨by rfl, ?_⟩) hHeld ?_ ?_
                                                rotate_left
                                                · rintro w' ⟨s0, s1, s2⟩
                                                  go_simp
                                                  with_reducible rfl
                                                rotate_left
                                                · simp only [Act.put, List.setIfInBounds_toArray, List.set_cons_zero, List.set_cons_succ, i64_w, i32_w]
                                                  rfl
                                                refine one_ (i := 5) (N := some 97) #[true, true, true, true, true, true, false, false, false, false, false] rfl rfl (one_of HT_.out (by kernel_rfl)) (by decide) (fun K hK => ?_)
                                                refine goes_ Try.func28 (by kernel_rfl) rfl #[.agg #[.slice Ao7 t620.length co7, .slice (some ad632) t623.length co10], .string t630, .int .i64 (rd t636 0)] (by rfl) rfl rfl (by (try simp only [List.map_toArray, List.map_cons, List.map_nil]); first | done | rfl | (simp only [List.length_drop, List.length_take]; rfl)) ?_
                                                with_reducible refine (trade_Means.calls _ _ t620 _ _ t623 t630 (rd t636 0) t641 t642 _ ?side1 ?side2 ?side3 ?side4 A41.out).mono ?_
                                                (case side1 => repeat (first | exact (Kd.R_reads' HO_629000.out).2.2 | (with_reducible refine Kd.C_alloc ?_ _) | (with_reducible refine Kd.C_drewN ?_ _) | (with_reducible refine Kd.C_drew ?_)))
                                                (case side2 => exact (Kd.R_reads' HO_629000.out).2.1)
                                                (case side3 => repeat (first | exact (Kd.S_reads' HO_629001.out).2.2 | (with_reducible refine Kd.C_alloc ?_ _) | (with_reducible refine Kd.C_drewN ?_ _) | (with_reducible refine Kd.C_drew ?_)))
                                                (case side4 => exact (Kd.S_reads' HO_629001.out).2.1)
                                                rintro e w59 ⟨rfl, hb⟩
                                                have HS2_ := (hb.cell (World.block_lt_of_cell? _ _ (hHeld.2.2))).trans (hHeld.2.2)
                                                refine ⟨_, rfl, ?_⟩
                                                have n0_ := Aside0.mk (Kd.R_below (by (with_reducible repeat (first | apply Kd.R_alloc | apply Kd.R_drewN | apply Kd.R_drew)); exact HO_13.out) hb)
                                                have n1_ := Aside0.mk (Kd.R_below (by (with_reducible repeat (first | apply Kd.R_alloc | apply Kd.R_drewN | apply Kd.R_drew)); exact HO_629000.out) hb)
                                                have n2_ := Aside0.mk (Kd.S_below (by (with_reducible repeat (first | apply Kd.S_alloc | apply Kd.S_drewN | apply Kd.S_drew)); exact HO_629001.out) hb)
                                                have n3_ := Aside0.mk (blk_below (g := gb628) (o := .cells #[.slice Ao7 t620.length co7, .slice (some ad632) t623.length co10] 26 (0, 0)) (by (with_reducible repeat (first | refine blk_drewN ?_ _ | refine blk_drew ?_ | refine blk_alloc ?_ _)); exact BK628.out) hb)
                                                have n4_ := Aside0.mk (Kd.C_below (by repeat (first | (with_reducible exact HR632_3.out) | (with_reducible refine Kd.C_alloc ?_ _) | (with_reducible refine Kd.C_drewN ?_ _) | (with_reducible refine Kd.C_drew ?_) | exact HR632_3.out)) hb)
                                                have n5_ := Aside0.mk (below_step (by repeat (first | (with_reducible first | exact HB.out | apply below_alloc | apply pw_below_drewN | apply below_drew1 | refine below_set ?_ GE628.out) | exact HB.out)) hb)
                                                clear HO_13
                                                clear HO_629000
                                                clear HO_629001
                                                clear BK628
                                                clear HR632_3
                                                clear HB
                                                have HO_13 := n0_
                                                have HO_629000 := n1_
                                                have HO_629001 := n2_
                                                have BK628 := n3_
                                                have HR632_3 := n4_
                                                have HB := n5_
                                                clear n0_ n1_ n2_ n3_ n4_ n5_
                                                (try clear hb)
                                                (try clear hb2)
                                                (try clear hk)
                                                (try clear hi)
                                                refine hK.out _ _ ⟨(blk_cell BK628.out 0).trans rfl, (blk_cell BK628.out 1).trans rfl, HS2_⟩ (fun hHeld => ?_)
                                                clear hK K
                                                refine norm_ (a' := ?_) ?_ ?_
                                                rotate_left
                                                · show Act.put _ (some 97) _ = _
                                                  simp only [Act.put, List.setIfInBounds_toArray, List.set_cons_zero, List.set_cons_succ, i64_w, i32_w]
                                                  rfl
                                                refine pure_ (i := 6) (N := some 91) (v := ?_) (a' := ?_) #[true, true, true, true, true, true, true, false, false, false, false] rfl rfl (any_of HT_.out (by kernel_rfl)) (fun _ _ _ h => h) (Or.inl ⟨by rfl, ?_⟩) ?_ ?_
                                                rotate_left
                                                · intro w'
                                                  go_simp
                                                  with_reducible rfl
                                                rotate_left
                                                · simp only [Act.put, List.setIfInBounds_toArray, List.set_cons_zero, List.set_cons_succ, i64_w, i32_w]
                                                  rfl
                                                refine pure_ (i := 7) (N := some 98) (v := ?_) (a' := ?_) #[true, true, true, true, true, true, true, true, false, false, false] rfl rfl (any_of HT_.out (by kernel_rfl)) (fun _ _ _ h => h) (Or.inl ⟨by rfl, ?_⟩) ?_ ?_
                                                rotate_left
                                                · intro w'
                                                  go_simp
                                                  with_reducible rfl
                                                rotate_left
                                                · simp only [Act.put, List.setIfInBounds_toArray, List.set_cons_zero, List.set_cons_succ, i64_w, i32_w]
                                                  rfl
                                                refine pure_ (i := 8) (N := some 99) (v := ?_) (a' := ?_) #[true, true, true, true, true, true, true, true, true, false, false] rfl rfl (any_of HT_.out (by kernel_rfl)) (fun _ _ _ h => h) (Or.inl ⟨by rfl, ?_⟩) ?_ ?_
                                                rotate_left
                                                · intro w'
                                                  go_simp
                                                  with_reducible rfl
                                                rotate_left
                                                · simp only [Act.put, List.setIfInBounds_toArray, List.set_cons_zero, List.set_cons_succ, i64_w, i32_w]
                                                  rfl
                                                refine pure_ (i := 9) (N := some 15) (v := ?_) (a' := ?_) #[true, true, true, true, true, true, true, true, true, true, false] rfl rfl (any_of HT_.out (by kernel_rfl)) (fun _ _ _ h => h) (Or.inl ⟨by rfl, ?_⟩) ?_ ?_
                                                rotate_left
                                                · intro w'
                                                  go_simp
                                                  with_reducible rfl
                                                rotate_left
                                                · simp only [Act.put, List.setIfInBounds_toArray, List.set_cons_zero, List.set_cons_succ, i64_w, i32_w]
                                                  rfl
                                                refine pure_ (i := 10) (N := some 16) (v := ?_) (a' := ?_) #[true, true, true, true, true, true, true, true, true, true, true] rfl rfl (any_of HT_.out (by kernel_rfl)) (fun _ _ _ h => h) (Or.inl ⟨by rfl, ?_⟩) ?_ ?_
                                                rotate_left
                                                · intro w'
                                                  go_simp
                                                  with_reducible rfl
                                                rotate_left
                                                · simp only [Act.put, List.setIfInBounds_toArray, List.set_cons_zero, List.set_cons_succ, i64_w, i32_w]
                                                  rfl
                                                refine done_ (done_of HT_.out (by kernel_rfl)) ?_
                                                try go_wp2
                                                go_roundg kj31
                                                case measure => have := HK1.out; have := HJ14.out; have := HK3.out; have := HJ23.out; have := HJ31.out; omega
                                                case rel => exact ⟨(true), (wrap64 (x12_3 + 1)), (by first | rfl | (simp; done) | (simp [*]; done)), (by first | rfl | (simp; done) | (simp [*]; done)), H', ⟨by have := HK1.out; have := HJ14.out; have := HK3.out; have := HJ23.out; have := HJ31.out; omega⟩, ⟨by (with_reducible repeat (first | apply Kd.R_alloc | apply Kd.R_drewN | apply Kd.R_drew)); exact HO_629000.out⟩, ⟨by (with_reducible repeat (first | apply Kd.S_alloc | apply Kd.S_drewN | apply Kd.S_drew)); exact Kd.S_mono HO_629001.out (fun _ hk => trivial)⟩, ⟨by (with_reducible repeat (first | refine blk_drewN ?_ _ | refine blk_drew ?_ | refine blk_alloc ?_ _)); exact BK628.out⟩, ⟨by repeat (first | (with_reducible exact HR632_3.out) | (with_reducible refine Kd.C_alloc ?_ _) | (with_reducible refine Kd.C_drewN ?_ _) | (with_reducible refine Kd.C_drew ?_) | exact HR632_3.out)⟩, ⟨by repeat (first | (with_reducible first | exact HB.out | apply below_alloc | apply pw_below_drewN | apply below_drew1 | refine below_set ?_ GE628.out) | exact HB.out)⟩⟩
                                            · rw [if_neg c43] at H
                                              have c43b0 : (t641 == 1) = false := beq_eq_false_iff_ne.mpr c43
                                              have c43b1 : (t641 != 1) = true := bne_iff_ne.mpr c43
                                              obtain rfl := Option.some.inj H
                                              try go_wp2
                                              have n0_ := Aside0.mk (Kd.R_drew HO_13.out)
                                              have n1_ := Aside0.mk (Kd.R_drew HO_629000.out)
                                              have n2_ := Aside0.mk (Kd.S_drew HO_629001.out)
                                              have n3_ := Aside0.mk (blk_drew BK628.out)
                                              have n4_ := Aside0.mk (Kd.C_drew HR632_3.out)
                                              have n5_ := Aside0.mk (below_drew1 HB.out)
                                              clear HO_13
                                              clear HO_629000
                                              clear HO_629001
                                              clear BK628
                                              clear HR632_3
                                              clear HB
                                              have HO_13 := n0_
                                              have HO_629000 := n1_
                                              have HO_629001 := n2_
                                              have BK628 := n3_
                                              have HR632_3 := n4_
                                              have HB := n5_
                                              clear n0_ n1_ n2_ n3_ n4_ n5_
                                              have p640 : 0 ≤ (0 : Int) := (by omega)
                                              have q640 : 0 < (t636.length : Int) := of_decide_eq_true (by first | (with_reducible assumption) | assumption)
                                              obtain ⟨ad640, e640, hx640_0⟩ := Kd.at_int (Kd.R_reads' HO_13.out).2.2 0 p640 q640
                                              cases e640
                                              have qi640 : (0 < t636.length) = True := eq_true (by omega)
                                              (try rw [show ((0 : Int)).toNat = 0 from rfl] at hx640_0)
                                              (try rw [Addr.add_zero'] at hx640_0)
                                              replace p640 := eq_true p640
                                              replace q640 := eq_true q640
                                              refine start_ (n := 11) (S := fun w' => w'.cell? ⟨gb628, 0, none⟩ = some (.slice Ao7 t620.length co7) ∧ w'.cell? ⟨gb628, 1, none⟩ = some (.slice (some ad632) t623.length co10) ∧ w'.cell? ad640 = some (.int .i64 (rd t636 0))) (ds := []) #[false, false, false, false, false, false, false, false, false, false, false] (by kernel_rfl) rfl rfl ⟨(blk_cell BK628.out 0).trans rfl, (blk_cell BK628.out 1).trans rfl, hx640_0⟩ (fun hHeld => ?_); refine with_tabW wayzgooselaw04_TradeShort.tab21 wayzgooselaw04_TradeShort.bits21 (fun HT_ HW_ => ?_)
                                              generalize wc.drew = w60 at HO_13 HO_629000 HO_629001 BK628 HR632_3 HB hx640_0 hHeld ⊢
                                              refine pure_ (i := 1) (N := some 93) (v := ?_) (a' := ?_) #[false, true, false, false, false, false, false, false, false, false, false] rfl rfl (any_of HT_.out (by kernel_rfl)) (fun _ _ _ h => h) (Or.inl ⟨by rfl, ?_⟩) ?_ ?_
                                              rotate_left
                                              · intro w'
                                                go_simp
                                                with_reducible rfl
                                              rotate_left
                                              · simp only [Act.put, List.setIfInBounds_toArray, List.set_cons_zero, List.set_cons_succ, i64_w, i32_w]
                                                rfl
                                              refine pure_ (i := 2) (N := some 94) (v := ?_) (a' := ?_) #[false, true, true, false, false, false, false, false, false, false, false] rfl rfl (any_of HT_.out (by kernel_rfl)) (fun _ _ _ h => h) (Or.inl ⟨by rfl, ?_⟩) ?_ ?_
                                              rotate_left
                                              · intro w'
                                                go_simp
                                                with_reducible rfl
                                              rotate_left
                                              · simp only [Act.put, List.setIfInBounds_toArray, List.set_cons_zero, List.set_cons_succ, i64_w, i32_w]
                                                rfl
                                              refine pure_ (i := 3) (N := some 95) (v := ?_) (a' := ?_) #[false, true, true, true, false, false, false, false, false, false, false] rfl rfl (any_of HT_.out (by kernel_rfl)) (fun _ _ _ h => h) (Or.inl ⟨by rfl, ?_⟩) ?_ ?_
                                              rotate_left
                                              · intro w'
                                                go_simp
                                                with_reducible rfl
                                              rotate_left
                                              · simp only [Act.put, List.setIfInBounds_toArray, List.set_cons_zero, List.set_cons_succ, i64_w, i32_w]
                                                rfl
                                              refine take_ (i := 0) (N := some 92) (v := ?_) (a' := ?_) #[true, true, true, true, false, false, false, false, false, false, false] rfl rfl (take_ofW HT_.out HW_.out (by kernel_rfl)) (fun _ _ _ h => h) (Or.inl ⟨by rfl, ?_⟩) hHeld ?_ ?_
                                              rotate_left
                                              · rintro w' ⟨s0, s1, s2⟩
                                                go_simp
                                                with_reducible rfl
                                              rotate_left
                                              · simp only [Act.put, List.setIfInBounds_toArray, List.set_cons_zero, List.set_cons_succ, i64_w, i32_w]
                                                rfl
                                              refine take_ (i := 4) (N := some 96) (v := ?_) (a' := ?_) #[true, true, true, true, true, false, false, false, false, false, false] rfl rfl (take_ofW HT_.out HW_.out (by kernel_rfl)) (fun _ _ _ h => h) (Or.inl ⟨by rfl, ?_⟩) hHeld ?_ ?_
                                              rotate_left
                                              · rintro w' ⟨s0, s1, s2⟩
                                                go_simp
                                                with_reducible rfl
                                              rotate_left
                                              · simp only [Act.put, List.setIfInBounds_toArray, List.set_cons_zero, List.set_cons_succ, i64_w, i32_w]
                                                rfl
                                              refine one_ (i := 5) (N := some 97) #[true, true, true, true, true, true, false, false, false, false, false] rfl rfl (one_of HT_.out (by kernel_rfl)) (by decide) (fun K hK => ?_)
                                              refine goes_ Try.func28 (by kernel_rfl) rfl #[.agg #[.slice Ao7 t620.length co7, .slice (some ad632) t623.length co10], .string t630, .int .i64 (rd t636 0)] (by rfl) rfl rfl (by (try simp only [List.map_toArray, List.map_cons, List.map_nil]); first | done | rfl | (simp only [List.length_drop, List.length_take]; rfl)) ?_
                                              with_reducible refine (trade_Means.calls _ _ t620 _ _ t623 t630 (rd t636 0) t641 t642 _ ?side1 ?side2 ?side3 ?side4 A41.out).mono ?_
                                              (case side1 => repeat (first | exact (Kd.R_reads' HO_629000.out).2.2 | (with_reducible refine Kd.C_alloc ?_ _) | (with_reducible refine Kd.C_drewN ?_ _) | (with_reducible refine Kd.C_drew ?_)))
                                              (case side2 => exact (Kd.R_reads' HO_629000.out).2.1)
                                              (case side3 => repeat (first | exact (Kd.S_reads' HO_629001.out).2.2 | (with_reducible refine Kd.C_alloc ?_ _) | (with_reducible refine Kd.C_drewN ?_ _) | (with_reducible refine Kd.C_drew ?_)))
                                              (case side4 => exact (Kd.S_reads' HO_629001.out).2.1)
                                              rintro e w61 ⟨rfl, hb⟩
                                              have HS2_ := (hb.cell (World.block_lt_of_cell? _ _ (hHeld.2.2))).trans (hHeld.2.2)
                                              refine ⟨_, rfl, ?_⟩
                                              have n0_ := Aside0.mk (Kd.R_below (by (with_reducible repeat (first | apply Kd.R_alloc | apply Kd.R_drewN | apply Kd.R_drew)); exact HO_13.out) hb)
                                              have n1_ := Aside0.mk (Kd.R_below (by (with_reducible repeat (first | apply Kd.R_alloc | apply Kd.R_drewN | apply Kd.R_drew)); exact HO_629000.out) hb)
                                              have n2_ := Aside0.mk (Kd.S_below (by (with_reducible repeat (first | apply Kd.S_alloc | apply Kd.S_drewN | apply Kd.S_drew)); exact HO_629001.out) hb)
                                              have n3_ := Aside0.mk (blk_below (g := gb628) (o := .cells #[.slice Ao7 t620.length co7, .slice (some ad632) t623.length co10] 26 (0, 0)) (by (with_reducible repeat (first | refine blk_drewN ?_ _ | refine blk_drew ?_ | refine blk_alloc ?_ _)); exact BK628.out) hb)
                                              have n4_ := Aside0.mk (Kd.C_below (by repeat (first | (with_reducible exact HR632_3.out) | (with_reducible refine Kd.C_alloc ?_ _) | (with_reducible refine Kd.C_drewN ?_ _) | (with_reducible refine Kd.C_drew ?_) | exact HR632_3.out)) hb)
                                              have n5_ := Aside0.mk (below_step (by repeat (first | (with_reducible first | exact HB.out | apply below_alloc | apply pw_below_drewN | apply below_drew1 | refine below_set ?_ GE628.out) | exact HB.out)) hb)
                                              clear HO_13
                                              clear HO_629000
                                              clear HO_629001
                                              clear BK628
                                              clear HR632_3
                                              clear HB
                                              have HO_13 := n0_
                                              have HO_629000 := n1_
                                              have HO_629001 := n2_
                                              have BK628 := n3_
                                              have HR632_3 := n4_
                                              have HB := n5_
                                              clear n0_ n1_ n2_ n3_ n4_ n5_
                                              (try clear hb)
                                              (try clear hb2)
                                              (try clear hk)
                                              (try clear hi)
                                              refine hK.out _ _ ⟨(blk_cell BK628.out 0).trans rfl, (blk_cell BK628.out 1).trans rfl, HS2_⟩ (fun hHeld => ?_)
                                              clear hK K
                                              refine norm_ (a' := ?_) ?_ ?_
                                              rotate_left
                                              · show Act.put _ (some 97) _ = _
                                                simp only [Act.put, List.setIfInBounds_toArray, List.set_cons_zero, List.set_cons_succ, i64_w, i32_w]
                                                rfl
                                              refine pure_ (i := 6) (N := some 91) (v := ?_) (a' := ?_) #[true, true, true, true, true, true, true, false, false, false, false] rfl rfl (any_of HT_.out (by kernel_rfl)) (fun _ _ _ h => h) (Or.inl ⟨by rfl, ?_⟩) ?_ ?_
                                              rotate_left
                                              · intro w'
                                                go_simp
                                                with_reducible rfl
                                              rotate_left
                                              · simp only [Act.put, List.setIfInBounds_toArray, List.set_cons_zero, List.set_cons_succ, i64_w, i32_w]
                                                rfl
                                              refine pure_ (i := 7) (N := some 98) (v := ?_) (a' := ?_) #[true, true, true, true, true, true, true, true, false, false, false] rfl rfl (any_of HT_.out (by kernel_rfl)) (fun _ _ _ h => h) (Or.inl ⟨by rfl, ?_⟩) ?_ ?_
                                              rotate_left
                                              · intro w'
                                                go_simp
                                                with_reducible rfl
                                              rotate_left
                                              · simp only [Act.put, List.setIfInBounds_toArray, List.set_cons_zero, List.set_cons_succ, i64_w, i32_w]
                                                rfl
                                              refine pure_ (i := 8) (N := some 99) (v := ?_) (a' := ?_) #[true, true, true, true, true, true, true, true, true, false, false] rfl rfl (any_of HT_.out (by kernel_rfl)) (fun _ _ _ h => h) (Or.inl ⟨by rfl, ?_⟩) ?_ ?_
                                              rotate_left
                                              · intro w'
                                                go_simp
                                                with_reducible rfl
                                              rotate_left
                                              · simp only [Act.put, List.setIfInBounds_toArray, List.set_cons_zero, List.set_cons_succ, i64_w, i32_w]
                                                rfl
                                              refine pure_ (i := 9) (N := some 15) (v := ?_) (a' := ?_) #[true, true, true, true, true, true, true, true, true, true, false] rfl rfl (any_of HT_.out (by kernel_rfl)) (fun _ _ _ h => h) (Or.inl ⟨by rfl, ?_⟩) ?_ ?_
                                              rotate_left
                                              · intro w'
                                                go_simp
                                                with_reducible rfl
                                              rotate_left
                                              · simp only [Act.put, List.setIfInBounds_toArray, List.set_cons_zero, List.set_cons_succ, i64_w, i32_w]
                                                rfl
                                              refine pure_ (i := 10) (N := some 16) (v := ?_) (a' := ?_) #[true, true, true, true, true, true, true, true, true, true, true] rfl rfl (any_of HT_.out (by kernel_rfl)) (fun _ _ _ h => h) (Or.inl ⟨by rfl, ?_⟩) ?_ ?_
                                              rotate_left
                                              · intro w'
                                                go_simp
                                                with_reducible rfl
                                              rotate_left
                                              · simp only [Act.put, List.setIfInBounds_toArray, List.set_cons_zero, List.set_cons_succ, i64_w, i32_w]
                                                rfl
                                              refine done_ (done_of HT_.out (by kernel_rfl)) ?_
                                              try go_wp2
                                              go_ret
                                              exact ⟨by first | rfl | (simp [errW_none, errW_some] <;> rfl) | (simp [*, errW_none, errW_some] <;> rfl), by repeat (first | (with_reducible first | exact HB.out | apply below_alloc | apply pw_below_drewN | apply below_drew1 | refine below_set ?_ GE628.out) | exact HB.out)⟩
                                          · rw [if_neg c42] at H
                                            have c42b0 : (t642 == 0) = false := beq_eq_false_iff_ne.mpr c42
                                            have c42b1 : (t642 != 0) = true := bne_iff_ne.mpr c42
                                            obtain rfl := Option.some.inj H
                                            try go_wp2
                                            have n0_ := Aside0.mk (Kd.R_drew HO_13.out)
                                            have n1_ := Aside0.mk (Kd.R_drew HO_629000.out)
                                            have n2_ := Aside0.mk (Kd.S_drew HO_629001.out)
                                            have n3_ := Aside0.mk (blk_drew BK628.out)
                                            have n4_ := Aside0.mk (Kd.C_drew HR632_3.out)
                                            have n5_ := Aside0.mk (below_drew1 HB.out)
                                            clear HO_13
                                            clear HO_629000
                                            clear HO_629001
                                            clear BK628
                                            clear HR632_3
                                            clear HB
                                            have HO_13 := n0_
                                            have HO_629000 := n1_
                                            have HO_629001 := n2_
                                            have BK628 := n3_
                                            have HR632_3 := n4_
                                            have HB := n5_
                                            clear n0_ n1_ n2_ n3_ n4_ n5_
                                            have p640 : 0 ≤ (0 : Int) := (by omega)
                                            have q640 : 0 < (t636.length : Int) := of_decide_eq_true (by first | (with_reducible assumption) | assumption)
                                            obtain ⟨ad640, e640, hx640_0⟩ := Kd.at_int (Kd.R_reads' HO_13.out).2.2 0 p640 q640
                                            cases e640
                                            have qi640 : (0 < t636.length) = True := eq_true (by omega)
                                            (try rw [show ((0 : Int)).toNat = 0 from rfl] at hx640_0)
                                            (try rw [Addr.add_zero'] at hx640_0)
                                            replace p640 := eq_true p640
                                            replace q640 := eq_true q640
                                            refine start_ (n := 11) (S := fun w' => w'.cell? ⟨gb628, 0, none⟩ = some (.slice Ao7 t620.length co7) ∧ w'.cell? ⟨gb628, 1, none⟩ = some (.slice (some ad632) t623.length co10) ∧ w'.cell? ad640 = some (.int .i64 (rd t636 0))) (ds := []) #[false, false, false, false, false, false, false, false, false, false, false] (by kernel_rfl) rfl rfl ⟨(blk_cell BK628.out 0).trans rfl, (blk_cell BK628.out 1).trans rfl, hx640_0⟩ (fun hHeld => ?_); refine with_tabW wayzgooselaw04_TradeShort.tab21 wayzgooselaw04_TradeShort.bits21 (fun HT_ HW_ => ?_)
                                            generalize wc.drew = w62 at HO_13 HO_629000 HO_629001 BK628 HR632_3 HB hx640_0 hHeld ⊢
                                            refine pure_ (i := 1) (N := some 93) (v := ?_) (a' := ?_) #[false, true, false, false, false, false, false, false, false, false, false] rfl rfl (any_of HT_.out (by kernel_rfl)) (fun _ _ _ h => h) (Or.inl ⟨by rfl, ?_⟩) ?_ ?_
                                            rotate_left
                                            · intro w'
                                              go_simp
                                              with_reducible rfl
                                            rotate_left
                                            · simp only [Act.put, List.setIfInBounds_toArray, List.set_cons_zero, List.set_cons_succ, i64_w, i32_w]
                                              rfl
                                            refine pure_ (i := 2) (N := some 94) (v := ?_) (a' := ?_) #[false, true, true, false, false, false, false, false, false, false, false] rfl rfl (any_of HT_.out (by kernel_rfl)) (fun _ _ _ h => h) (Or.inl ⟨by rfl, ?_⟩) ?_ ?_
                                            rotate_left
                                            · intro w'
                                              go_simp
                                              with_reducible rfl
                                            rotate_left
                                            · simp only [Act.put, List.setIfInBounds_toArray, List.set_cons_zero, List.set_cons_succ, i64_w, i32_w]
                                              rfl
                                            refine pure_ (i := 3) (N := some 95) (v := ?_) (a' := ?_) #[false, true, true, true, false, false, false, false, false, false, false] rfl rfl (any_of HT_.out (by kernel_rfl)) (fun _ _ _ h => h) (Or.inl ⟨by rfl, ?_⟩) ?_ ?_
                                            rotate_left
                                            · intro w'
                                              go_simp
                                              with_reducible rfl
                                            rotate_left
                                            · simp only [Act.put, List.setIfInBounds_toArray, List.set_cons_zero, List.set_cons_succ, i64_w, i32_w]
                                              rfl
                                            refine take_ (i := 0) (N := some 92) (v := ?_) (a' := ?_) #[true, true, true, true, false, false, false, false, false, false, false] rfl rfl (take_ofW HT_.out HW_.out (by kernel_rfl)) (fun _ _ _ h => h) (Or.inl ⟨by rfl, ?_⟩) hHeld ?_ ?_
                                            rotate_left
                                            · rintro w' ⟨s0, s1, s2⟩
                                              go_simp
                                              with_reducible rfl
                                            rotate_left
                                            · simp only [Act.put, List.setIfInBounds_toArray, List.set_cons_zero, List.set_cons_succ, i64_w, i32_w]
                                              rfl
                                            refine take_ (i := 4) (N := some 96) (v := ?_) (a' := ?_) #[true, true, true, true, true, false, false, false, false, false, false] rfl rfl (take_ofW HT_.out HW_.out (by kernel_rfl)) (fun _ _ _ h => h) (Or.inl ⟨by rfl, ?_⟩) hHeld ?_ ?_
                                            rotate_left
                                            · rintro w' ⟨s0, s1, s2⟩
                                              go_simp
                                              with_reducible rfl
                                            rotate_left
                                            · simp only [Act.put, List.setIfInBounds_toArray, List.set_cons_zero, List.set_cons_succ, i64_w, i32_w]
                                              rfl
                                            refine one_ (i := 5) (N := some 97) #[true, true, true, true, true, true, false, false, false, false, false] rfl rfl (one_of HT_.out (by kernel_rfl)) (by decide) (fun K hK => ?_)
                                            refine goes_ Try.func28 (by kernel_rfl) rfl #[.agg #[.slice Ao7 t620.length co7, .slice (some ad632) t623.length co10], .string t630, .int .i64 (rd t636 0)] (by rfl) rfl rfl (by (try simp only [List.map_toArray, List.map_cons, List.map_nil]); first | done | rfl | (simp only [List.length_drop, List.length_take]; rfl)) ?_
                                            with_reducible refine (trade_Means.calls _ _ t620 _ _ t623 t630 (rd t636 0) t641 t642 _ ?side1 ?side2 ?side3 ?side4 A41.out).mono ?_
                                            (case side1 => repeat (first | exact (Kd.R_reads' HO_629000.out).2.2 | (with_reducible refine Kd.C_alloc ?_ _) | (with_reducible refine Kd.C_drewN ?_ _) | (with_reducible refine Kd.C_drew ?_)))
                                            (case side2 => exact (Kd.R_reads' HO_629000.out).2.1)
                                            (case side3 => repeat (first | exact (Kd.S_reads' HO_629001.out).2.2 | (with_reducible refine Kd.C_alloc ?_ _) | (with_reducible refine Kd.C_drewN ?_ _) | (with_reducible refine Kd.C_drew ?_)))
                                            (case side4 => exact (Kd.S_reads' HO_629001.out).2.1)
                                            rintro e w63 ⟨rfl, hb⟩
                                            have HS2_ := (hb.cell (World.block_lt_of_cell? _ _ (hHeld.2.2))).trans (hHeld.2.2)
                                            refine ⟨_, rfl, ?_⟩
                                            have n0_ := Aside0.mk (Kd.R_below (by (with_reducible repeat (first | apply Kd.R_alloc | apply Kd.R_drewN | apply Kd.R_drew)); exact HO_13.out) hb)
                                            have n1_ := Aside0.mk (Kd.R_below (by (with_reducible repeat (first | apply Kd.R_alloc | apply Kd.R_drewN | apply Kd.R_drew)); exact HO_629000.out) hb)
                                            have n2_ := Aside0.mk (Kd.S_below (by (with_reducible repeat (first | apply Kd.S_alloc | apply Kd.S_drewN | apply Kd.S_drew)); exact HO_629001.out) hb)
                                            have n3_ := Aside0.mk (blk_below (g := gb628) (o := .cells #[.slice Ao7 t620.length co7, .slice (some ad632) t623.length co10] 26 (0, 0)) (by (with_reducible repeat (first | refine blk_drewN ?_ _ | refine blk_drew ?_ | refine blk_alloc ?_ _)); exact BK628.out) hb)
                                            have n4_ := Aside0.mk (Kd.C_below (by repeat (first | (with_reducible exact HR632_3.out) | (with_reducible refine Kd.C_alloc ?_ _) | (with_reducible refine Kd.C_drewN ?_ _) | (with_reducible refine Kd.C_drew ?_) | exact HR632_3.out)) hb)
                                            have n5_ := Aside0.mk (below_step (by repeat (first | (with_reducible first | exact HB.out | apply below_alloc | apply pw_below_drewN | apply below_drew1 | refine below_set ?_ GE628.out) | exact HB.out)) hb)
                                            clear HO_13
                                            clear HO_629000
                                            clear HO_629001
                                            clear BK628
                                            clear HR632_3
                                            clear HB
                                            have HO_13 := n0_
                                            have HO_629000 := n1_
                                            have HO_629001 := n2_
                                            have BK628 := n3_
                                            have HR632_3 := n4_
                                            have HB := n5_
                                            clear n0_ n1_ n2_ n3_ n4_ n5_
                                            (try clear hb)
                                            (try clear hb2)
                                            (try clear hk)
                                            (try clear hi)
                                            refine hK.out _ _ ⟨(blk_cell BK628.out 0).trans rfl, (blk_cell BK628.out 1).trans rfl, HS2_⟩ (fun hHeld => ?_)
                                            clear hK K
                                            refine norm_ (a' := ?_) ?_ ?_
                                            rotate_left
                                            · show Act.put _ (some 97) _ = _
                                              simp only [Act.put, List.setIfInBounds_toArray, List.set_cons_zero, List.set_cons_succ, i64_w, i32_w]
                                              rfl
                                            refine pure_ (i := 6) (N := some 91) (v := ?_) (a' := ?_) #[true, true, true, true, true, true, true, false, false, false, false] rfl rfl (any_of HT_.out (by kernel_rfl)) (fun _ _ _ h => h) (Or.inl ⟨by rfl, ?_⟩) ?_ ?_
                                            rotate_left
                                            · intro w'
                                              go_simp
                                              with_reducible rfl
                                            rotate_left
                                            · simp only [Act.put, List.setIfInBounds_toArray, List.set_cons_zero, List.set_cons_succ, i64_w, i32_w]
                                              rfl
                                            refine pure_ (i := 7) (N := some 98) (v := ?_) (a' := ?_) #[true, true, true, true, true, true, true, true, false, false, false] rfl rfl (any_of HT_.out (by kernel_rfl)) (fun _ _ _ h => h) (Or.inl ⟨by rfl, ?_⟩) ?_ ?_
                                            rotate_left
                                            · intro w'
                                              go_simp
                                              with_reducible rfl
                                            rotate_left
                                            · simp only [Act.put, List.setIfInBounds_toArray, List.set_cons_zero, List.set_cons_succ, i64_w, i32_w]
                                              rfl
                                            refine pure_ (i := 8) (N := some 99) (v := ?_) (a' := ?_) #[true, true, true, true, true, true, true, true, true, false, false] rfl rfl (any_of HT_.out (by kernel_rfl)) (fun _ _ _ h => h) (Or.inl ⟨by rfl, ?_⟩) ?_ ?_
                                            rotate_left
                                            · intro w'
                                              go_simp
                                              with_reducible rfl
                                            rotate_left
                                            · simp only [Act.put, List.setIfInBounds_toArray, List.set_cons_zero, List.set_cons_succ, i64_w, i32_w]
                                              rfl
                                            refine pure_ (i := 9) (N := some 15) (v := ?_) (a' := ?_) #[true, true, true, true, true, true, true, true, true, true, false] rfl rfl (any_of HT_.out (by kernel_rfl)) (fun _ _ _ h => h) (Or.inl ⟨by rfl, ?_⟩) ?_ ?_
                                            rotate_left
                                            · intro w'
                                              go_simp
                                              with_reducible rfl
                                            rotate_left
                                            · simp only [Act.put, List.setIfInBounds_toArray, List.set_cons_zero, List.set_cons_succ, i64_w, i32_w]
                                              rfl
                                            refine pure_ (i := 10) (N := some 16) (v := ?_) (a' := ?_) #[true, true, true, true, true, true, true, true, true, true, true] rfl rfl (any_of HT_.out (by kernel_rfl)) (fun _ _ _ h => h) (Or.inl ⟨by rfl, ?_⟩) ?_ ?_
                                            rotate_left
                                            · intro w'
                                              go_simp
                                              with_reducible rfl
                                            rotate_left
                                            · simp only [Act.put, List.setIfInBounds_toArray, List.set_cons_zero, List.set_cons_succ, i64_w, i32_w]
                                              rfl
                                            refine done_ (done_of HT_.out (by kernel_rfl)) ?_
                                            try go_wp2
                                            go_ret
                                            exact ⟨by first | rfl | (simp [errW_none, errW_some] <;> rfl) | (simp [*, errW_none, errW_some] <;> rfl), by repeat (first | (with_reducible first | exact HB.out | apply below_alloc | apply pw_below_drewN | apply below_drew1 | refine below_set ?_ GE628.out) | exact HB.out)⟩
                                        · rw [if_neg c40] at H
                                          exact absurd H (by simp)
                                · rw [if_neg c31] at H
                                  have c31b0 : ((t636.length : Int) == 1) = false := beq_eq_false_iff_ne.mpr c31
                                  have c31b1 : ((t636.length : Int) != 1) = true := bne_iff_ne.mpr c31
                                  have H' := Aside0.mk H
                                  clear H
                                  try go_wp2
                                  have n0_ := Aside0.mk (Kd.R_drew HO_629000.out)
                                  have n1_ := Aside0.mk (Kd.S_drew HO_629001.out)
                                  have n2_ := Aside0.mk (blk_drew BK628.out)
                                  have n3_ := Aside0.mk (Kd.C_drew HR632_3.out)
                                  have n4_ := Aside0.mk (below_drew1 HB.out)
                                  clear HO_629000
                                  clear HO_629001
                                  clear BK628
                                  clear HR632_3
                                  clear HB
                                  have HO_629000 := n0_
                                  have HO_629001 := n1_
                                  have BK628 := n2_
                                  have HR632_3 := n3_
                                  have HB := n4_
                                  clear n0_ n1_ n2_ n3_ n4_
                                  refine start_ (n := 10) (S := fun w' => w'.cell? ⟨gb628, 0, none⟩ = some (.slice Ao7 t620.length co7) ∧ w'.cell? ⟨gb628, 1, none⟩ = some (.slice (some ad632) t623.length co10)) (ds := []) #[false, false, false, false, false, false, false, false, false, false] (by kernel_rfl) rfl rfl ⟨(blk_cell BK628.out 0).trans rfl, (blk_cell BK628.out 1).trans rfl⟩ (fun hHeld => ?_); refine with_tabW wayzgooselaw04_TradeShort.tab14 wayzgooselaw04_TradeShort.bits14 (fun HT_ HW_ => ?_)
                                  generalize wc.drew = w64 at HO_629000 HO_629001 BK628 HR632_3 HB hHeld ⊢
                                  refine pure_ (i := 1) (N := some 71) (v := ?_) (a' := ?_) #[false, true, false, false, false, false, false, false, false, false] rfl rfl (any_of HT_.out (by kernel_rfl)) (fun _ _ _ h => h) (Or.inl ⟨by rfl, ?_⟩) ?_ ?_
                                  rotate_left
                                  · intro w'
                                    go_simp
                                    with_reducible rfl
                                  rotate_left
                                  · simp only [Act.put, List.setIfInBounds_toArray, List.set_cons_zero, List.set_cons_succ, i64_w, i32_w]
                                    rfl
                                  refine pure_ (i := 2) (N := some 72) (v := ?_) (a' := ?_) #[false, true, true, false, false, false, false, false, false, false] rfl rfl (any_of HT_.out (by kernel_rfl)) (fun _ _ _ h => h) (Or.inl ⟨by rfl, ?_⟩) ?_ ?_
                                  rotate_left
                                  · intro w'
                                    go_simp
                                    with_reducible rfl
                                  rotate_left
                                  · simp only [Act.put, List.setIfInBounds_toArray, List.set_cons_zero, List.set_cons_succ, i64_w, i32_w]
                                    rfl
                                  refine pure_ (i := 3) (N := some 73) (v := ?_) (a' := ?_) #[false, true, true, true, false, false, false, false, false, false] rfl rfl (any_of HT_.out (by kernel_rfl)) (fun _ _ _ h => h) (Or.inl ⟨by rfl, ?_⟩) ?_ ?_
                                  rotate_left
                                  · intro w'
                                    go_simp
                                    with_reducible rfl
                                  rotate_left
                                  · simp only [Act.put, List.setIfInBounds_toArray, List.set_cons_zero, List.set_cons_succ, i64_w, i32_w]
                                    rfl
                                  refine take_ (i := 0) (N := some 70) (v := ?_) (a' := ?_) #[true, true, true, true, false, false, false, false, false, false] rfl rfl (take_ofW HT_.out HW_.out (by kernel_rfl)) (fun _ _ _ h => h) (Or.inl ⟨by rfl, ?_⟩) hHeld ?_ ?_
                                  rotate_left
                                  · rintro w' ⟨s0, s1⟩
                                    go_simp
                                    with_reducible rfl
                                  rotate_left
                                  · simp only [Act.put, List.setIfInBounds_toArray, List.set_cons_zero, List.set_cons_succ, i64_w, i32_w]
                                    rfl
                                  refine one_ (i := 4) (N := some 74) #[true, true, true, true, true, false, false, false, false, false] rfl rfl (one_of HT_.out (by kernel_rfl)) (by decide) (fun K hK => ?_)
                                  refine goes_ Try.func19 (by kernel_rfl) rfl #[.agg #[.slice Ao7 t620.length co7, .slice (some ad632) t623.length co10], .string (((rd_T39 t623 x4_1).f0).extract 0 (x12_3 : Int).toNat)] (by rfl) rfl rfl (by (try simp only [List.map_toArray, List.map_cons, List.map_nil]); first | done | rfl | (simp only [List.length_drop, List.length_take]; rfl)) ?_
                                  with_reducible refine (trade_May.calls _ _ t620 _ _ t623 (((rd_T39 t623 x4_1).f0).extract 0 (x12_3 : Int).toNat) t636 t639 _ ?side1 ?side2 ?side3 ?side4 A29.out).mono ?_
                                  (case side1 => repeat (first | exact (Kd.R_reads' HO_629000.out).2.2 | (with_reducible refine Kd.C_alloc ?_ _) | (with_reducible refine Kd.C_drewN ?_ _) | (with_reducible refine Kd.C_drew ?_)))
                                  (case side2 => exact (Kd.R_reads' HO_629000.out).2.1)
                                  (case side3 => repeat (first | exact (Kd.S_reads' HO_629001.out).2.2 | (with_reducible refine Kd.C_alloc ?_ _) | (with_reducible refine Kd.C_drewN ?_ _) | (with_reducible refine Kd.C_drew ?_)))
                                  (case side4 => exact (Kd.S_reads' HO_629001.out).2.1)
                                  rintro e w65 ⟨v637, rfl, ho0, hb⟩
                                  refine ⟨_, rfl, ?_⟩
                                  have n0_ := Aside0.mk (Kd.R_below (by (with_reducible repeat (first | apply Kd.R_alloc | apply Kd.R_drewN | apply Kd.R_drew)); exact HO_629000.out) hb)
                                  have n1_ := Aside0.mk (Kd.S_elder' (by (with_reducible repeat (first | apply Kd.S_alloc | apply Kd.S_drewN | apply Kd.S_drew)); exact HO_629001.out) (Kd.R_base ho0) hb)
                                  have n2_ := Aside0.mk (Kd.R_lower ho0 (below_size (by repeat (first | (with_reducible first | exact HB.out | apply below_alloc | apply pw_below_drewN | apply below_drew1 | refine below_set ?_ GE628.out) | exact HB.out))))
                                  have n3_ := Aside0.mk (blk_below (g := gb628) (o := .cells #[.slice Ao7 t620.length co7, .slice (some ad632) t623.length co10] 26 (0, 0)) (by (with_reducible repeat (first | refine blk_drewN ?_ _ | refine blk_drew ?_ | refine blk_alloc ?_ _)); exact BK628.out) hb)
                                  have n4_ := Aside0.mk (Kd.C_below (by repeat (first | (with_reducible exact HR632_3.out) | (with_reducible refine Kd.C_alloc ?_ _) | (with_reducible refine Kd.C_drewN ?_ _) | (with_reducible refine Kd.C_drew ?_) | exact HR632_3.out)) hb)
                                  have n5_ := Aside0.mk (below_step (by repeat (first | (with_reducible first | exact HB.out | apply below_alloc | apply pw_below_drewN | apply below_drew1 | refine below_set ?_ GE628.out) | exact HB.out)) hb)
                                  clear HO_629000
                                  clear HO_629001
                                  clear BK628
                                  clear HR632_3
                                  clear HB
                                  have HO_629000 := n0_
                                  have HO_629001 := n1_
                                  have HO638 := n2_
                                  have BK628 := n3_
                                  have HR632_3 := n4_
                                  have HB := n5_
                                  clear n0_ n1_ n2_ n3_ n4_ n5_
                                  (try clear hb)
                                  (try clear hb2)
                                  (try clear hk)
                                  (try clear hi)
                                  (try clear ho0)
                                  refine hK.out _ _ ⟨(blk_cell BK628.out 0).trans rfl, (blk_cell BK628.out 1).trans rfl⟩ (fun hHeld => ?_)
                                  clear hK K
                                  refine norm_ (a' := ?_) ?_ ?_
                                  rotate_left
                                  · show Act.put _ (some 74) _ = _
                                    simp only [Act.put, List.setIfInBounds_toArray, List.set_cons_zero, List.set_cons_succ, i64_w, i32_w]
                                    rfl
                                  refine pure_ (i := 5) (N := some 69) (v := ?_) (a' := ?_) #[true, true, true, true, true, true, false, false, false, false] rfl rfl (any_of HT_.out (by kernel_rfl)) (fun _ _ _ h => h) (Or.inl ⟨by rfl, ?_⟩) ?_ ?_
                                  rotate_left
                                  · intro w'
                                    go_simp
                                    with_reducible rfl
                                  rotate_left
                                  · simp only [Act.put, List.setIfInBounds_toArray, List.set_cons_zero, List.set_cons_succ, i64_w, i32_w]
                                    rfl
                                  refine pure_ (i := 6) (N := some 75) (v := ?_) (a' := ?_) #[true, true, true, true, true, true, true, false, false, false] rfl rfl (any_of HT_.out (by kernel_rfl)) (fun _ _ _ h => h) (Or.inl ⟨by rfl, ?_⟩) ?_ ?_
                                  rotate_left
                                  · intro w'
                                    go_simp
                                    with_reducible rfl
                                  rotate_left
                                  · simp only [Act.put, List.setIfInBounds_toArray, List.set_cons_zero, List.set_cons_succ, i64_w, i32_w]
                                    rfl
                                  refine pure_ (i := 7) (N := some 76) (v := ?_) (a' := ?_) #[true, true, true, true, true, true, true, true, false, false] rfl rfl (any_of HT_.out (by kernel_rfl)) (fun _ _ _ h => h) (Or.inl ⟨by rfl, ?_⟩) ?_ ?_
                                  rotate_left
                                  · intro w'
                                    go_simp
                                    with_reducible rfl
                                  rotate_left
                                  · simp only [Act.put, List.setIfInBounds_toArray, List.set_cons_zero, List.set_cons_succ, i64_w, i32_w]
                                    rfl
                                  refine pure_ (i := 8) (N := some 13) (v := ?_) (a' := ?_) #[true, true, true, true, true, true, true, true, true, false] rfl rfl (any_of HT_.out (by kernel_rfl)) (fun _ _ _ h => h) (Or.inl ⟨by rfl, ?_⟩) ?_ ?_
                                  rotate_left
                                  · intro w'
                                    go_simp
                                    with_reducible rfl
                                  rotate_left
                                  · simp only [Act.put, List.setIfInBounds_toArray, List.set_cons_zero, List.set_cons_succ, i64_w, i32_w]
                                    rfl
                                  refine pure_ (i := 9) (N := some 14) (v := ?_) (a' := ?_) #[true, true, true, true, true, true, true, true, true, true] rfl rfl (any_of HT_.out (by kernel_rfl)) (fun _ _ _ h => h) (Or.inl ⟨by rfl, ?_⟩) ?_ ?_
                                  rotate_left
                                  · intro w'
                                    go_simp
                                    with_reducible rfl
                                  rotate_left
                                  · simp only [Act.put, List.setIfInBounds_toArray, List.set_cons_zero, List.set_cons_succ, i64_w, i32_w]
                                    rfl
                                  refine done_ (done_of HT_.out (by kernel_rfl)) ?_
                                  obtain ⟨Ao66, co66, eo66⟩ := Kd.R_slice HO638.out
                                  subst eo66
                                  try go_wp2
                                  go_roundg kj23
                                  case measure => have := HK1.out; have := HJ14.out; have := HK3.out; have := HJ23.out; omega
                                  case rel => exact ⟨(x11_3), (wrap64 (x12_3 + 1)), (by first | rfl | (simp; done) | (simp [*]; done)), (by first | rfl | (simp; done) | (simp [*]; done)), H', ⟨by have := HK1.out; have := HJ14.out; have := HK3.out; have := HJ23.out; omega⟩, ⟨by (with_reducible repeat (first | apply Kd.R_alloc | apply Kd.R_drewN | apply Kd.R_drew)); exact HO_629000.out⟩, ⟨by (with_reducible repeat (first | apply Kd.S_alloc | apply Kd.S_drewN | apply Kd.S_drew)); exact Kd.S_mono HO_629001.out (fun _ hk => trivial)⟩, ⟨by (with_reducible repeat (first | refine blk_drewN ?_ _ | refine blk_drew ?_ | refine blk_alloc ?_ _)); exact BK628.out⟩, ⟨by repeat (first | (with_reducible exact HR632_3.out) | (with_reducible refine Kd.C_alloc ?_ _) | (with_reducible refine Kd.C_drewN ?_ _) | (with_reducible refine Kd.C_drew ?_) | exact HR632_3.out)⟩, ⟨by repeat (first | (with_reducible first | exact HB.out | apply below_alloc | apply pw_below_drewN | apply below_drew1 | refine below_set ?_ GE628.out) | exact HB.out)⟩⟩
                              · rw [if_neg c30] at H
                                have c30b0 : (t639 == 0) = false := beq_eq_false_iff_ne.mpr c30
                                have c30b1 : (t639 != 0) = true := bne_iff_ne.mpr c30
                                obtain rfl := Option.some.inj H
                                try go_wp2
                                have n0_ := Aside0.mk (Kd.R_drew HO_629000.out)
                                have n1_ := Aside0.mk (Kd.S_drew HO_629001.out)
                                have n2_ := Aside0.mk (blk_drew BK628.out)
                                have n3_ := Aside0.mk (Kd.C_drew HR632_3.out)
                                have n4_ := Aside0.mk (below_drew1 HB.out)
                                clear HO_629000
                                clear HO_629001
                                clear BK628
                                clear HR632_3
                                clear HB
                                have HO_629000 := n0_
                                have HO_629001 := n1_
                                have BK628 := n2_
                                have HR632_3 := n3_
                                have HB := n4_
                                clear n0_ n1_ n2_ n3_ n4_
                                refine start_ (n := 10) (S := fun w' => w'.cell? ⟨gb628, 0, none⟩ = some (.slice Ao7 t620.length co7) ∧ w'.cell? ⟨gb628, 1, none⟩ = some (.slice (some ad632) t623.length co10)) (ds := []) #[false, false, false, false, false, false, false, false, false, false] (by kernel_rfl) rfl rfl ⟨(blk_cell BK628.out 0).trans rfl, (blk_cell BK628.out 1).trans rfl⟩ (fun hHeld => ?_); refine with_tabW wayzgooselaw04_TradeShort.tab14 wayzgooselaw04_TradeShort.bits14 (fun HT_ HW_ => ?_)
                                generalize wc.drew = w67 at HO_629000 HO_629001 BK628 HR632_3 HB hHeld ⊢
                                refine pure_ (i := 1) (N := some 71) (v := ?_) (a' := ?_) #[false, true, false, false, false, false, false, false, false, false] rfl rfl (any_of HT_.out (by kernel_rfl)) (fun _ _ _ h => h) (Or.inl ⟨by rfl, ?_⟩) ?_ ?_
                                rotate_left
                                · intro w'
                                  go_simp
                                  with_reducible rfl
                                rotate_left
                                · simp only [Act.put, List.setIfInBounds_toArray, List.set_cons_zero, List.set_cons_succ, i64_w, i32_w]
                                  rfl
                                refine pure_ (i := 2) (N := some 72) (v := ?_) (a' := ?_) #[false, true, true, false, false, false, false, false, false, false] rfl rfl (any_of HT_.out (by kernel_rfl)) (fun _ _ _ h => h) (Or.inl ⟨by rfl, ?_⟩) ?_ ?_
                                rotate_left
                                · intro w'
                                  go_simp
                                  with_reducible rfl
                                rotate_left
                                · simp only [Act.put, List.setIfInBounds_toArray, List.set_cons_zero, List.set_cons_succ, i64_w, i32_w]
                                  rfl
                                refine pure_ (i := 3) (N := some 73) (v := ?_) (a' := ?_) #[false, true, true, true, false, false, false, false, false, false] rfl rfl (any_of HT_.out (by kernel_rfl)) (fun _ _ _ h => h) (Or.inl ⟨by rfl, ?_⟩) ?_ ?_
                                rotate_left
                                · intro w'
                                  go_simp
                                  with_reducible rfl
                                rotate_left
                                · simp only [Act.put, List.setIfInBounds_toArray, List.set_cons_zero, List.set_cons_succ, i64_w, i32_w]
                                  rfl
                                refine take_ (i := 0) (N := some 70) (v := ?_) (a' := ?_) #[true, true, true, true, false, false, false, false, false, false] rfl rfl (take_ofW HT_.out HW_.out (by kernel_rfl)) (fun _ _ _ h => h) (Or.inl ⟨by rfl, ?_⟩) hHeld ?_ ?_
                                rotate_left
                                · rintro w' ⟨s0, s1⟩
                                  go_simp
                                  with_reducible rfl
                                rotate_left
                                · simp only [Act.put, List.setIfInBounds_toArray, List.set_cons_zero, List.set_cons_succ, i64_w, i32_w]
                                  rfl
                                refine one_ (i := 4) (N := some 74) #[true, true, true, true, true, false, false, false, false, false] rfl rfl (one_of HT_.out (by kernel_rfl)) (by decide) (fun K hK => ?_)
                                refine goes_ Try.func19 (by kernel_rfl) rfl #[.agg #[.slice Ao7 t620.length co7, .slice (some ad632) t623.length co10], .string (((rd_T39 t623 x4_1).f0).extract 0 (x12_3 : Int).toNat)] (by rfl) rfl rfl (by (try simp only [List.map_toArray, List.map_cons, List.map_nil]); first | done | rfl | (simp only [List.length_drop, List.length_take]; rfl)) ?_
                                with_reducible refine (trade_May.calls _ _ t620 _ _ t623 (((rd_T39 t623 x4_1).f0).extract 0 (x12_3 : Int).toNat) t636 t639 _ ?side1 ?side2 ?side3 ?side4 A29.out).mono ?_
                                (case side1 => repeat (first | exact (Kd.R_reads' HO_629000.out).2.2 | (with_reducible refine Kd.C_alloc ?_ _) | (with_reducible refine Kd.C_drewN ?_ _) | (with_reducible refine Kd.C_drew ?_)))
                                (case side2 => exact (Kd.R_reads' HO_629000.out).2.1)
                                (case side3 => repeat (first | exact (Kd.S_reads' HO_629001.out).2.2 | (with_reducible refine Kd.C_alloc ?_ _) | (with_reducible refine Kd.C_drewN ?_ _) | (with_reducible refine Kd.C_drew ?_)))
                                (case side4 => exact (Kd.S_reads' HO_629001.out).2.1)
                                rintro e w68 ⟨v637, rfl, ho0, hb⟩
                                refine ⟨_, rfl, ?_⟩
                                have n0_ := Aside0.mk (Kd.R_below (by (with_reducible repeat (first | apply Kd.R_alloc | apply Kd.R_drewN | apply Kd.R_drew)); exact HO_629000.out) hb)
                                have n1_ := Aside0.mk (Kd.S_elder' (by (with_reducible repeat (first | apply Kd.S_alloc | apply Kd.S_drewN | apply Kd.S_drew)); exact HO_629001.out) (Kd.R_base ho0) hb)
                                have n2_ := Aside0.mk (Kd.R_lower ho0 (below_size (by repeat (first | (with_reducible first | exact HB.out | apply below_alloc | apply pw_below_drewN | apply below_drew1 | refine below_set ?_ GE628.out) | exact HB.out))))
                                have n3_ := Aside0.mk (blk_below (g := gb628) (o := .cells #[.slice Ao7 t620.length co7, .slice (some ad632) t623.length co10] 26 (0, 0)) (by (with_reducible repeat (first | refine blk_drewN ?_ _ | refine blk_drew ?_ | refine blk_alloc ?_ _)); exact BK628.out) hb)
                                have n4_ := Aside0.mk (Kd.C_below (by repeat (first | (with_reducible exact HR632_3.out) | (with_reducible refine Kd.C_alloc ?_ _) | (with_reducible refine Kd.C_drewN ?_ _) | (with_reducible refine Kd.C_drew ?_) | exact HR632_3.out)) hb)
                                have n5_ := Aside0.mk (below_step (by repeat (first | (with_reducible first | exact HB.out | apply below_alloc | apply pw_below_drewN | apply below_drew1 | refine below_set ?_ GE628.out) | exact HB.out)) hb)
                                clear HO_629000
                                clear HO_629001
                                clear BK628
                                clear HR632_3
                                clear HB
                                have HO_629000 := n0_
                                have HO_629001 := n1_
                                have HO638 := n2_
                                have BK628 := n3_
                                have HR632_3 := n4_
                                have HB := n5_
                                clear n0_ n1_ n2_ n3_ n4_ n5_
                                (try clear hb)
                                (try clear hb2)
                                (try clear hk)
                                (try clear hi)
                                (try clear ho0)
                                refine hK.out _ _ ⟨(blk_cell BK628.out 0).trans rfl, (blk_cell BK628.out 1).trans rfl⟩ (fun hHeld => ?_)
                                clear hK K
                                refine norm_ (a' := ?_) ?_ ?_
                                rotate_left
                                · show Act.put _ (some 74) _ = _
                                  simp only [Act.put, List.setIfInBounds_toArray, List.set_cons_zero, List.set_cons_succ, i64_w, i32_w]
                                  rfl
                                refine pure_ (i := 5) (N := some 69) (v := ?_) (a' := ?_) #[true, true, true, true, true, true, false, false, false, false] rfl rfl (any_of HT_.out (by kernel_rfl)) (fun _ _ _ h => h) (Or.inl ⟨by rfl, ?_⟩) ?_ ?_
                                rotate_left
                                · intro w'
                                  go_simp
                                  with_reducible rfl
                                rotate_left
                                · simp only [Act.put, List.setIfInBounds_toArray, List.set_cons_zero, List.set_cons_succ, i64_w, i32_w]
                                  rfl
                                refine pure_ (i := 6) (N := some 75) (v := ?_) (a' := ?_) #[true, true, true, true, true, true, true, false, false, false] rfl rfl (any_of HT_.out (by kernel_rfl)) (fun _ _ _ h => h) (Or.inl ⟨by rfl, ?_⟩) ?_ ?_
                                rotate_left
                                · intro w'
                                  go_simp
                                  with_reducible rfl
                                rotate_left
                                · simp only [Act.put, List.setIfInBounds_toArray, List.set_cons_zero, List.set_cons_succ, i64_w, i32_w]
                                  rfl
                                refine pure_ (i := 7) (N := some 76) (v := ?_) (a' := ?_) #[true, true, true, true, true, true, true, true, false, false] rfl rfl (any_of HT_.out (by kernel_rfl)) (fun _ _ _ h => h) (Or.inl ⟨by rfl, ?_⟩) ?_ ?_
                                rotate_left
                                · intro w'
                                  go_simp
                                  with_reducible rfl
                                rotate_left
                                · simp only [Act.put, List.setIfInBounds_toArray, List.set_cons_zero, List.set_cons_succ, i64_w, i32_w]
                                  rfl
                                refine pure_ (i := 8) (N := some 13) (v := ?_) (a' := ?_) #[true, true, true, true, true, true, true, true, true, false] rfl rfl (any_of HT_.out (by kernel_rfl)) (fun _ _ _ h => h) (Or.inl ⟨by rfl, ?_⟩) ?_ ?_
                                rotate_left
                                · intro w'
                                  go_simp
                                  with_reducible rfl
                                rotate_left
                                · simp only [Act.put, List.setIfInBounds_toArray, List.set_cons_zero, List.set_cons_succ, i64_w, i32_w]
                                  rfl
                                refine pure_ (i := 9) (N := some 14) (v := ?_) (a' := ?_) #[true, true, true, true, true, true, true, true, true, true] rfl rfl (any_of HT_.out (by kernel_rfl)) (fun _ _ _ h => h) (Or.inl ⟨by rfl, ?_⟩) ?_ ?_
                                rotate_left
                                · intro w'
                                  go_simp
                                  with_reducible rfl
                                rotate_left
                                · simp only [Act.put, List.setIfInBounds_toArray, List.set_cons_zero, List.set_cons_succ, i64_w, i32_w]
                                  rfl
                                refine done_ (done_of HT_.out (by kernel_rfl)) ?_
                                try go_wp2
                                go_ret
                                exact ⟨by first | rfl | (simp [errW_none, errW_some] <;> rfl) | (simp [*, errW_none, errW_some] <;> rfl), by repeat (first | (with_reducible first | exact HB.out | apply below_alloc | apply pw_below_drewN | apply below_drew1 | refine below_set ?_ GE628.out) | exact HB.out)⟩
                            · rw [if_neg c28] at H
                              exact absurd H (by simp)
                          · rw [if_neg c27] at H
                            exact absurd H (by simp)
                        · replace c26 := Bool.eq_false_iff.mpr c26
                          subst c26
                          have H1 : (if x11_3 = true then (wayzgooselaw04_TradeShort.l0 kj23 (wrap64 (x4_1 + 1)) t620 t623) else (if t631 = 11 then (if t630.toList = ([] : List UInt8) then (wayzgooselaw04_TradeShort.l0 kj23 (wrap64 (x4_1 + 1)) t620 t623) else (some false)) else (some false))) = some r := by rw [if_neg (show ¬ (false = true) by decide)] at H; exact H
                          clear H
                          have H := H1
                          clear H1
                          by_cases c69 : x11_3 = true
                          · subst c69
                            have H1 : (wayzgooselaw04_TradeShort.l0 kj23 (wrap64 (x4_1 + 1)) t620 t623) = some r := by rw [if_pos rfl] at H; exact H
                            clear H
                            have H := H1
                            clear H1
                            have H' := Aside0.mk H
                            clear H
                            go_wp2
                            go_roundg kj23
                            case measure => have := HK1.out; have := HJ14.out; have := HK3.out; have := HJ23.out; omega
                            case rel => exact ⟨(wrap64 (x4_1 + 1)), (by first | rfl | (simp; done) | (simp [*]; done)), H', ⟨by have := HK1.out; have := HJ14.out; have := HK3.out; have := HJ23.out; omega⟩, ⟨by (with_reducible repeat (first | apply Kd.R_alloc | apply Kd.R_drewN | apply Kd.R_drew)); exact HO_629000.out⟩, ⟨by (with_reducible repeat (first | apply Kd.S_alloc | apply Kd.S_drewN | apply Kd.S_drew)); exact HO_629001.out⟩, ⟨by (with_reducible repeat (first | refine blk_drewN ?_ _ | refine blk_drew ?_ | refine blk_alloc ?_ _)); exact BK628.out⟩, ⟨by repeat (first | (with_reducible first | exact HB.out | apply below_alloc | apply pw_below_drewN | apply below_drew1 | refine below_set ?_ GE628.out) | exact HB.out)⟩⟩
                          · replace c69 := Bool.eq_false_iff.mpr c69
                            subst c69
                            have H1 : (if t631 = 11 then (if t630.toList = ([] : List UInt8) then (wayzgooselaw04_TradeShort.l0 kj23 (wrap64 (x4_1 + 1)) t620 t623) else (some false)) else (some false)) = some r := by rw [if_neg (show ¬ (false = true) by decide)] at H; exact H
                            clear H
                            have H := H1
                            clear H1
                            by_cases c70 : t631 = 11
                            · rw [if_pos c70] at H
                              have c70b0 : (t631 == 11) = true := beq_iff_eq.mpr c70
                              have c70b1 : (t631 != 11) = false := bne_eq_false_iff_eq.mpr c70
                              clear c70
                              by_cases c71 : t630.toList = ([] : List UInt8)
                              · rw [if_pos c71] at H
                                have c71b0 : (t630.toList == ([] : List UInt8)) = true := beq_iff_eq.mpr c71
                                have c71b1 : (t630.toList != ([] : List UInt8)) = false := bne_eq_false_iff_eq.mpr c71
                                clear c71
                                have H' := Aside0.mk H
                                clear H
                                go_wp2
                                go_roundg kj23
                                case measure => have := HK1.out; have := HJ14.out; have := HK3.out; have := HJ23.out; omega
                                case rel => exact ⟨(wrap64 (x4_1 + 1)), (by first | rfl | (simp; done) | (simp [*]; done)), H', ⟨by have := HK1.out; have := HJ14.out; have := HK3.out; have := HJ23.out; omega⟩, ⟨by (with_reducible repeat (first | apply Kd.R_alloc | apply Kd.R_drewN | apply Kd.R_drew)); exact HO_629000.out⟩, ⟨by (with_reducible repeat (first | apply Kd.S_alloc | apply Kd.S_drewN | apply Kd.S_drew)); exact HO_629001.out⟩, ⟨by (with_reducible repeat (first | refine blk_drewN ?_ _ | refine blk_drew ?_ | refine blk_alloc ?_ _)); exact BK628.out⟩, ⟨by repeat (first | (with_reducible first | exact HB.out | apply below_alloc | apply pw_below_drewN | apply below_drew1 | refine below_set ?_ GE628.out) | exact HB.out)⟩⟩
                              · rw [if_neg c71] at H
                                have c71b0 : (t630.toList == ([] : List UInt8)) = false := beq_eq_false_iff_ne.mpr c71
                                have c71b1 : (t630.toList != ([] : List UInt8)) = true := bne_iff_ne.mpr c71
                                obtain rfl := Option.some.inj H
                                go_wp2
                                go_ret
                                exact ⟨by first | rfl | (simp [errW_none, errW_some] <;> rfl) | (simp [*, errW_none, errW_some] <;> rfl), by repeat (first | (with_reducible first | exact HB.out | apply below_alloc | apply pw_below_drewN | apply below_drew1 | refine below_set ?_ GE628.out) | exact HB.out)⟩
                            · rw [if_neg c70] at H
                              have c70b0 : (t631 == 11) = false := beq_eq_false_iff_ne.mpr c70
                              have c70b1 : (t631 != 11) = true := bne_iff_ne.mpr c70
                              obtain rfl := Option.some.inj H
                              go_wp2
                              go_ret
                              exact ⟨by first | rfl | (simp [errW_none, errW_some] <;> rfl) | (simp [*, errW_none, errW_some] <;> rfl), by repeat (first | (with_reducible first | exact HB.out | apply below_alloc | apply pw_below_drewN | apply below_drew1 | refine below_set ?_ GE628.out) | exact HB.out)⟩
        · rw [if_neg c13] at H
          exact absurd H (by simp)
      · rw [if_neg c11] at H
        have c11b0 : decide (x4_1 < (t623.length : Int)) = false := decide_eq_false c11
        clear c11
        replace H := Option.bind_eq_some_iff.mp H
        obtain ⟨t629, A720, H⟩ := H
        replace H : (some t629) = some r := H
        have A72 := Aside0.mk A720
        clear A720
        obtain rfl := Option.some.inj H
        have hcz73_0 : wr.cell? ⟨gb628, 0, none⟩ = some (.slice Ao7 t620.length co7) := (blk_cell BK628.out 0).trans rfl
        have hcz73_1 : wr.cell? ⟨gb628, 1, none⟩ = some (.slice Ao10 t623.length co10) := (blk_cell BK628.out 1).trans rfl
        have hfz73_0 := blk_frozen BK628.out 0
        have hfz73_1 := blk_frozen BK628.out 1
        go_wp2_with (first | ((with_reducible refine gate_callee (f := 17) rfl ?_); refine goesL_ (some 136) rfl rfl Try.func17 (by kernel_rfl) rfl #[] rfl (by (try simp only [List.map_toArray, List.map_cons, List.map_nil]); first | done | rfl | (simp only [List.length_drop, List.length_take]; rfl)) ?_; (with_reducible refine (wayzgooselaw04_indexed.calls  t629 _ A72.out).mono ?_); rintro e w74 ⟨rfl, hb⟩; refine ⟨_, rfl, ?_⟩; have n0_ := Aside0.mk (Kd.R_below (by (with_reducible repeat (first | apply Kd.R_alloc | apply Kd.R_drewN | apply Kd.R_drew)); exact HO_629000.out) hb); have n1_ := Aside0.mk (Kd.S_below (by (with_reducible repeat (first | apply Kd.S_alloc | apply Kd.S_drewN | apply Kd.S_drew)); exact HO_629001.out) hb); have n2_ := Aside0.mk (blk_below (g := gb628) (o := .cells #[.slice Ao7 t620.length co7, .slice Ao10 t623.length co10] 26 (0, 0)) (by (with_reducible repeat (first | refine blk_drewN ?_ _ | refine blk_drew ?_ | refine blk_alloc ?_ _)); exact BK628.out) hb); have n3_ := Aside0.mk (below_step (by repeat (first | (with_reducible first | exact HB.out | apply below_alloc | apply pw_below_drewN | apply below_drew1 | refine below_set ?_ GE628.out) | exact HB.out)) hb); clear HO_629000; clear HO_629001; clear BK628; clear HB; have HO_629000 := n0_; have HO_629001 := n1_; have BK628 := n2_; have HB := n3_; clear n0_ n1_ n2_ n3_; (try clear hb); (try clear hb2); (try clear hk); (try clear hi)))
        go_ret
        exact ⟨by first | rfl | (simp [errW_none, errW_some] <;> rfl) | (simp [*, errW_none, errW_some] <;> rfl), by repeat (first | (with_reducible first | exact HB.out | apply below_alloc | apply pw_below_drewN | apply below_drew1 | refine below_set ?_ GE628.out) | exact HB.out)⟩

/-- THE ONE PURE STATEMENT of wayzgooselaw04_TradeShort: yours. -/
def wayzgooselaw04_TradeShort.Pure : Prop := ∀ (l0 : List Int), l0.length ≤ maxLen → l0.length * 8 ≤ 140737488351232 → (∀ x ∈ l0, (Lit.int .i64 x).wf = true) → ∃ k, wayzgooselaw04_TradeShort.f k l0 = some true
theorem wayzgooselaw04_TradeShort.walk (P : wayzgooselaw04_TradeShort.Pure) (a0 : Option Addr) (len0 cap0 : Nat) (z0 : List Int) (w : World) (w0 : (a0 = none ∧ len0 = 0 ∧ cap0 = 0 ∧ z0 = []) ∨ ∃ x, a0 = some x ∧ len0 ≤ cap0 ∧ cap0 ≤ maxLen ∧ z0.length = cap0 ∧ (∀ i, i < z0.length → w.cell? (x.add i) = some (.int .i64 (z0.getD i 0))) ∧ ∀ n ∈ z0, (Lit.int .i64 n).wf = true) (y0 : len0 * 8 ≤ 140737488351232) :
    Calls Try.prog 9 #[.slice a0 len0 cap0] w fun e w' => e = .returned (.bool true) ∧ Below w.heap.size w w' := by
  obtain ⟨l0, rfl, hr0, hm0, hw0, hc0⟩ := ReadsInt.ofRowC w0
  obtain ⟨k, h⟩ := P l0 hm0 y0 hw0
  refine (wayzgooselaw04_TradeShort.calls k _ _ l0 true w (Kd.C_of_reads (d := (0 : Int)) (h1 := fun _ => rfl) hr0) hc0 h).mono ?_
  rintro e w' ⟨rfl, hd⟩
  exact ⟨rfl, hd⟩

end Go.Proofs.Ytfbimhnlcmdcpaa.Pa
