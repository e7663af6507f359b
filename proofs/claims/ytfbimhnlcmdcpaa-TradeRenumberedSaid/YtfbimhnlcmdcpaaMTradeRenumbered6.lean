/- A part of the proof: If classes have other numbers, and the same names, Compare finds no difference, and the least class of two has the same name: for all lists of numbers. Without conditions of its own. -/
import Derived.Test.YtfbimhnlcmdcpaaMTradeRenumbered5
import Derived.Test.YtfbimhnlcmdcpaaMTradeRenumbered3
import Derived.BigRegion
import Derived.Deep.RegionHeld3
namespace Go.Proofs.Ytfbimhnlcmdcpaa.Pa
open Go.RowKit Go.Proofs.YtfbimhnlcmdcpaaW.PrintWords Go.Proofs.YtfbimhnlcmdcpaaW.PrintLast Go.Proofs.YtfbimhnlcmdcpaaW.PrintMore
attribute [local go_sem] max2_int min2_int max_two min_two max_three min_three max_four min_four   -- for this text's walks alone
set_option linter.unusedVariables false
set_option linter.unusedSimpArgs false

/-! ### wayzgoosekit_Dice_To: function 32 -/
def wayzgoosekit_Dice_To.f (s0_0 : List Int) (s0_1 : Int) (s0_2 : Int) (a1 : Int) : Option (Int × Int × Int) := if a1 < 1 then (some (0, s0_1, s0_2)) else ((wayzgoosekit_Dice_raw.f s0_0 s0_1 s0_2).bind fun bt102 => (if (IntKind.u64.wrap (wrap64 (a1 + 1))) = 0 then (none) else (some (wrap64 (Int.tmod (bt102.1 / 65536) (IntKind.u64.wrap (wrap64 (a1 + 1)))), bt102.2.1, bt102.2.2))))
set_option maxHeartbeats 8000000 in
set_option maxRecDepth 100000 in
theorem wayzgoosekit_Dice_To.calls (g : Nat) (s0_0 : List Int) (s0_1 : Int) (s0_2 : Int) (a1 : Int) (r1 : Int) (r2 : Int) (r3 : Int) (w0 w : World) (hI : IsS72 w0 w g s0_0 s0_1 s0_2) (hB : Below w0.heap.size w0 w) (h : wayzgoosekit_Dice_To.f s0_0 s0_1 s0_2 a1 = some (r1, r2, r3)) :
    Calls Try.prog 32 #[.pointer (some ⟨g, 0, none⟩), .int .i64 a1] w fun e w' => e = .returned (.int .i64 r1) ∧ IsS72 w0 w' g s0_0 r2 r3 ∧ Below w0.heap.size w0 w' ∧ KeepBut w w' g none := by
  have HI0 := Aside0.mk hI
  have HK := Aside0.mk (KeepBut.refl w g none)
  have HL := Aside0.mk hB.size
  clear hI
  have HW0 := Aside0.mk hB.size
  have HB := Aside0.mk hB
  clear hB
  have H : (if a1 < 1 then (some (0, s0_1, s0_2)) else ((wayzgoosekit_Dice_raw.f s0_0 s0_1 s0_2).bind fun bt102 => (if (IntKind.u64.wrap (wrap64 (a1 + 1))) = 0 then (none) else (some (wrap64 (Int.tmod (bt102.1 / 65536) (IntKind.u64.wrap (wrap64 (a1 + 1)))), bt102.2.1, bt102.2.2))))) = some (r1, r2, r3) := h
  clear h
  by_cases c3 : a1 < 1
  · rw [if_pos c3] at H
    have c3b0 : decide (a1 < 1) = true := decide_eq_true c3
    clear c3
    simp only [Option.some.injEq, Prod.mk.injEq] at H
    obtain ⟨rfl, rfl, rfl⟩ := H
    go_enter Try.func32, Try.ntmps32
    go_wp2
    go_ret
    exact ⟨by first | rfl | (simp [errW_none, errW_some] <;> rfl) | (simp [*, errW_none, errW_some] <;> rfl), by repeat (first | (with_reducible first | exact HI0.out | apply IsS72.alloc | apply IsS72.drewN | apply IsS72.drew | apply IsS72.set_1 | apply IsS72.set_2) | exact HI0.out), by repeat (first | (with_reducible first | exact HB.out | apply below_alloc | apply pw_below_drewN | apply below_drew1 | refine below_set ?_ (IsS72.ge HI0.out)) | exact HB.out), by repeat (first | (with_reducible first | exact HK.out | apply KeepBut.set_ | apply keep_drewN | apply keep_drew | apply keep_alloc) | exact HK.out)⟩
  · rw [if_neg c3] at H
    have c3b0 : decide (a1 < 1) = false := decide_eq_false c3
    clear c3
    replace H := Option.bind_eq_some_iff.mp H
    obtain ⟨⟨t102, t103, t104⟩, A40, H⟩ := H
    replace H : (if (IntKind.u64.wrap (wrap64 (a1 + 1))) = 0 then (none) else (some (wrap64 (Int.tmod (t102 / 65536) (IntKind.u64.wrap (wrap64 (a1 + 1)))), t103, t104))) = some (r1, r2, r3) := H
    have A4 := Aside0.mk A40
    clear A40
    by_cases c5 : (IntKind.u64.wrap (wrap64 (a1 + 1))) = 0
    · rw [if_pos c5] at H
      exact absurd H (by simp)
    · rw [if_neg c5] at H
      have c5b0 : ((IntKind.u64.wrap (wrap64 (a1 + 1))) == 0) = false := beq_eq_false_iff_ne.mpr c5
      have c5b1 : ((IntKind.u64.wrap (wrap64 (a1 + 1))) != 0) = true := bne_iff_ne.mpr c5
      simp only [Option.some.injEq, Prod.mk.injEq] at H
      obtain ⟨rfl, rfl, rfl⟩ := H
      go_enter Try.func32, Try.ntmps32
      go_wp2_with (first | ((with_reducible refine gate_callee (f := 67) rfl ?_); refine goesL_ (some 8) rfl rfl Try.func67 (by kernel_rfl) rfl #[.pointer (some ⟨g, 0, none⟩)] rfl (by (try simp only [List.map_toArray, List.map_cons, List.map_nil]); first | done | rfl | (simp only [List.length_drop, List.length_take]; rfl)) ?_; (with_reducible refine (wayzgoosekit_Dice_raw.calls g s0_0 s0_1 s0_2 t102 t103 t104 w0 _ ?side1 ?side2 A4.out).mono ?_); (case side1 => repeat (first | (with_reducible first | exact HI0.out | apply IsS72.alloc | apply IsS72.drewN | apply IsS72.drew | apply IsS72.set_1 | apply IsS72.set_2) | exact HI0.out)); (case side2 => repeat (first | (with_reducible first | exact HB.out | apply below_alloc | apply pw_below_drewN | apply below_drew1 | refine below_set ?_ (IsS72.ge HI0.out)) | exact HB.out)); rintro e w6 ⟨rfl, hi, hb, hk⟩; refine ⟨_, rfl, ?_⟩; have n0_ := Aside0.mk (KeepBut.trans (by repeat (first | (with_reducible first | exact HK.out | apply KeepBut.set_ | apply keep_drewN | apply keep_drew | apply keep_alloc) | exact HK.out)) hk (.inl rfl)); have n1_ := Aside0.mk (hb); have n2_ := Aside0.mk (hi); clear HK; clear HB; clear HI0; have HK := n0_; have HB := n1_; have HI0 := n2_; clear n0_ n1_ n2_; (try clear hb); (try clear hb2); (try clear hk); (try clear hi)))
      go_ret
      exact ⟨by first | rfl | (simp [errW_none, errW_some] <;> rfl) | (simp [*, errW_none, errW_some] <;> rfl), by repeat (first | (with_reducible first | exact HI0.out | apply IsS72.alloc | apply IsS72.drewN | apply IsS72.drew | apply IsS72.set_1 | apply IsS72.set_2) | exact HI0.out), by repeat (first | (with_reducible first | exact HB.out | apply below_alloc | apply pw_below_drewN | apply below_drew1 | refine below_set ?_ (IsS72.ge HI0.out)) | exact HB.out), by repeat (first | (with_reducible first | exact HK.out | apply KeepBut.set_ | apply keep_drewN | apply keep_drew | apply keep_alloc) | exact HK.out)⟩

/-! ### wayzgoosekit_Dice_Order: function 23 -/
mutual
def wayzgoosekit_Dice_Order.l0 : Nat → Int → List Int → Int → List Int → Int → Int → Option (List Int × Int × Int)
  | 0, _, _, _, _, _, _ => none
  | k + 1, x1, x5, x6, x1000, x1001, x1002 => if x6 < x1 then (if x5.length < 17592186044416 then (wayzgoosekit_Dice_Order.l0 k x1 (x5 ++ [x6]) (wrap64 (x6 + 1)) x1000 x1001 x1002) else (none)) else (wayzgoosekit_Dice_Order.l1 k x5 (wrap64 (x1 - 1)) x1000 x1001 x1002)
def wayzgoosekit_Dice_Order.l1 : Nat → List Int → Int → List Int → Int → Int → Option (List Int × Int × Int)
  | 0, _, _, _, _, _ => none
  | k + 1, x5, x7, x1000, x1001, x1002 => if x7 > 0 then ((wayzgoosekit_Dice_To.f x1000 x1001 x1002 x7).bind fun bt108 => (if 0 ≤ x7 then (if x7 < (x5.length : Int) then (if 0 ≤ bt108.1 then (if bt108.1 < (x5.length : Int) then (wayzgoosekit_Dice_Order.l1 k ((x5.set (x7 : Int).toNat (rd x5 bt108.1)).set (bt108.1 : Int).toNat (rd x5 x7)) (wrap64 (x7 - 1)) x1000 bt108.2.1 bt108.2.2) else (none)) else (none)) else (none)) else (none))) else (some (x5, x1001, x1002))
end
def wayzgoosekit_Dice_Order.f (k : Nat) (s0_0 : List Int) (s0_1 : Int) (s0_2 : Int) (a1 : Int) : Option (List Int × Int × Int) := wayzgoosekit_Dice_Order.l0 k a1 ([] : List Int) 0 s0_0 s0_1 s0_2
theorem wayzgoosekit_Dice_Order.mono_l : ∀ k, (∀ y0 y1 y2 y3 y4 y5, LeO (wayzgoosekit_Dice_Order.l0 k y0 y1 y2 y3 y4 y5) (wayzgoosekit_Dice_Order.l0 (k + 1) y0 y1 y2 y3 y4 y5)) ∧ (∀ y0 y1 y2 y3 y4, LeO (wayzgoosekit_Dice_Order.l1 k y0 y1 y2 y3 y4) (wayzgoosekit_Dice_Order.l1 (k + 1) y0 y1 y2 y3 y4))
  | 0 => ⟨fun _ _ _ _ _ _ r h => by simp [wayzgoosekit_Dice_Order.l0] at h, fun _ _ _ _ _ r h => by simp [wayzgoosekit_Dice_Order.l1] at h⟩
  | k + 1 => by
    obtain ⟨ih0, ih1⟩ := wayzgoosekit_Dice_Order.mono_l k
    refine ⟨?_, ?_⟩
    · intro y0 y1 y2 y3 y4 y5
      unfold wayzgoosekit_Dice_Order.l0
      repeat' first
      | (with_reducible exact ih0 _ _ _ _ _ _)
      | (with_reducible exact ih1 _ _ _ _ _)
      | (with_reducible exact LeO.refl _)
      | (with_reducible exact LeO.none _)
      | (with_reducible refine LeO.ite ?_ ?_)
      | (with_reducible refine LeO.bind ?_ (fun _ => ?_))
      | exact ih0 _ _ _ _ _ _
      | exact ih1 _ _ _ _ _
      | exact LeO.none _
      | refine LeO.ite ?_ ?_
      | refine LeO.bind ?_ (fun _ => ?_)
    · intro y0 y1 y2 y3 y4
      unfold wayzgoosekit_Dice_Order.l1
      repeat' first
      | (with_reducible exact ih0 _ _ _ _ _ _)
      | (with_reducible exact ih1 _ _ _ _ _)
      | (with_reducible exact LeO.refl _)
      | (with_reducible exact LeO.none _)
      | (with_reducible refine LeO.ite ?_ ?_)
      | (with_reducible refine LeO.bind ?_ (fun _ => ?_))
      | exact ih0 _ _ _ _ _ _
      | exact ih1 _ _ _ _ _
      | exact LeO.none _
      | refine LeO.ite ?_ ?_
      | refine LeO.bind ?_ (fun _ => ?_)
theorem wayzgoosekit_Dice_Order.mono : ∀ a0 a1 a2 a3 k, LeO (wayzgoosekit_Dice_Order.f k a0 a1 a2 a3) (wayzgoosekit_Dice_Order.f (k + 1) a0 a1 a2 a3) := by
  intro a0 a1 a2 a3 k
  obtain ⟨ih0, ih1⟩ := wayzgoosekit_Dice_Order.mono_l k
  unfold wayzgoosekit_Dice_Order.f
  repeat' first
      | (with_reducible exact ih0 _ _ _ _ _ _)
      | (with_reducible exact ih1 _ _ _ _ _)
      | (with_reducible exact LeO.refl _)
      | (with_reducible exact LeO.none _)
      | (with_reducible refine LeO.ite ?_ ?_)
      | (with_reducible refine LeO.bind ?_ (fun _ => ?_))
      | exact ih0 _ _ _ _ _ _
      | exact ih1 _ _ _ _ _
      | exact LeO.none _
      | refine LeO.ite ?_ ?_
      | refine LeO.bind ?_ (fun _ => ?_)
set_option maxHeartbeats 8000000 in
set_option maxRecDepth 100000 in
theorem wayzgoosekit_Dice_Order.calls (k : Nat) (g : Nat) (s0_0 : List Int) (s0_1 : Int) (s0_2 : Int) (a1 : Int) (r1 : List Int) (r2 : Int) (r3 : Int) (w0 w : World) (hI : IsS72 w0 w g s0_0 s0_1 s0_2) (hB : Below w0.heap.size w0 w) (h : wayzgoosekit_Dice_Order.f k s0_0 s0_1 s0_2 a1 = some (r1, r2, r3)) :
    Calls Try.prog 23 #[.pointer (some ⟨g, 0, none⟩), .int .i64 a1] w fun e w' => ∃ v0_ : Value, e = .returned (v0_) ∧ Kd.R (Kd.int .i64) 3 w' w.heap.size (fun _ => True) v0_ r1 ∧ IsS72 w0 w' g s0_0 r2 r3 ∧ Below w0.heap.size w0 w' ∧ KeepBut w w' g none := by
  have HI0 := Aside0.mk hI
  have HK := Aside0.mk (KeepBut.refl w g none)
  have HL := Aside0.mk hB.size
  clear hI
  have HW0 := Aside0.mk hB.size
  have HB := Aside0.mk hB
  clear hB
  have H : (wayzgoosekit_Dice_Order.l0 k a1 ([] : List Int) 0 s0_0 s0_1 s0_2) = some (r1, r2, r3) := h
  clear h
  have H' := Aside0.mk H
  clear H
  go_enter Try.func23, Try.ntmps23
  go_wp2
  go_loopg [5, 6] k (fun kq v5 v6 w' => ∃ (x5_1 : List Int) (x6_1 : Int), v6 = .int .i64 x6_1 ∧ Aside0 (wayzgoosekit_Dice_Order.l0 kq a1 x5_1 x6_1 s0_0 s0_1 s0_2 = some (r1, r2, r3)) ∧ Aside0 (kq ≤ k) ∧ Aside0 (Kd.R (Kd.int .i64) 3 w' w.heap.size (fun _ => True) v5 x5_1) ∧ Aside0 (IsS72 w0 w' g s0_0 s0_1 s0_2) ∧ Aside0 (KeepBut w w' g none) ∧ Aside0 (Below w0.heap.size w0 w'))
  case atStart => exact ⟨(([] : List Int)), (0), (by first | rfl | (simp; done) | (simp [*]; done)), H', ⟨Nat.le_refl _⟩, ⟨by first | exact Kd.R_nil _ _ _ _ _ | exact Kd.N_nil _ _ _ _ _ | exact Kd.V_nil _ _ _ _ _ | exact Kd.Q_nil _ _ _ _ _ | exact Kd.S_nil _ _ _ _ _⟩, ⟨by repeat (first | (with_reducible first | exact HI0.out | apply IsS72.alloc | apply IsS72.drewN | apply IsS72.drew | apply IsS72.set_1 | apply IsS72.set_2) | exact HI0.out)⟩, ⟨by repeat (first | (with_reducible first | exact HK.out | apply KeepBut.set_ | apply keep_drewN | apply keep_drew | apply keep_alloc) | exact HK.out)⟩, ⟨by repeat (first | (with_reducible first | exact HB.out | apply below_alloc | apply pw_below_drewN | apply below_drew1 | refine below_set ?_ (IsS72.ge HI0.out)) | exact HB.out)⟩⟩
  case round =>
    clear H'
    try clear c2
    try clear p2
    obtain ⟨x5_1, x6_1, rfl, HA, HK1, HO_5, HI0, HK, HB⟩ := hrel
    cases gk with
    | zero => exact absurd HA.out (by simp [wayzgoosekit_Dice_Order.l0])
    | succ k1 =>
      have H := HA.out
      clear HA
      simp only [wayzgoosekit_Dice_Order.l0] at H
      by_cases c3 : x6_1 < a1
      · rw [if_pos c3] at H
        have c3b0 : decide (x6_1 < a1) = true := decide_eq_true c3
        clear c3
        by_cases c4 : x5_1.length < 17592186044416
        · rw [if_pos c4] at H
          have LMc4 := Aside0.mk c4
          clear c4
          obtain ⟨y105, hy105⟩ : ∃ y_ : List Int, y_ = (x5_1 ++ [x6_1]) := ⟨_, rfl⟩
          replace H : (wayzgoosekit_Dice_Order.l0 k1 a1 y105 (wrap64 (x6_1 + 1)) s0_0 s0_1 s0_2) = some (r1, r2, r3) := by first | (rw [hy105]; with_reducible exact H) | (have H2_ := (Option.bind_some _ _).symm.trans H; rw [hy105]; with_reducible exact H2_) | (have H2_ := (Option.bind_some _ _).symm.trans H; with_reducible exact H2_) | with_reducible exact H | (rw [hy105]; exact H) | exact H
          have Ny105 := Aside0.mk hy105
          clear hy105
          have H' := Aside0.mk H
          clear H
          go_wp2_with (first | ((with_reducible refine gate_builtin (b := .append) (xs := #[.tmp 15, .tmp 17]) rfl ?_); at_builtin; refine Kd.R_append (Kd.int .i64) w.heap.size rfl (.tmp 15) (.tmp 17) 22 3 (.int .i64 0) 8 rfl Try.underlying22 info3 rfl (by decide) (by omega) u5 x5_1 x6_1 [.int .i64 x6_1] (fun _ => True) (fun _ => False) rfl rfl ?aP (fun _ hk => hk.elim) ?aF ?aO (Below.refl _ _) ?aS ?aL ?_; (case aP => exact rfl); (case aF => exact (fun _ _ => trivial)); (case aO => exact (by (with_reducible repeat (first | apply Kd.R_alloc | apply Kd.R_drewN | apply Kd.R_drew)); exact HO_5.out)); (case aS => exact (keep_size (w := w) (g := g) (row := none) (by repeat (first | (with_reducible first | exact HK.out | apply KeepBut.set_ | apply keep_drewN | apply keep_drew | apply keep_alloc) | exact HK.out)))); (case aL => have := LMc4.out; omega); intro v106 w5 ho hb hg hat; rw [← Ny105.out] at ho; have n0_ := Aside0.mk (IsS72.grown (by repeat (first | (with_reducible first | exact HI0.out | apply IsS72.alloc | apply IsS72.drewN | apply IsS72.drew | apply IsS72.set_1 | apply IsS72.set_2) | exact HI0.out)) hg (IsS72.own_ne HI0.out HO_5.out (by decide))); have n1_ := Aside0.mk (below_weaken (by repeat (first | (with_reducible first | exact HB.out | apply below_alloc | apply pw_below_drewN | apply below_drew1 | refine below_set ?_ (IsS72.ge HI0.out)) | exact HB.out)) HL.out hb); have n2_ := Aside0.mk (KeepBut.trans (by repeat (first | (with_reducible first | exact HK.out | apply KeepBut.set_ | apply keep_drewN | apply keep_drew | apply keep_alloc) | exact HK.out)) (KeepBut.of_grown hg g) (Kd.R_base2 HO_5.out)); have n3_ := Aside0.mk (ho); clear HI0; clear HB; clear HK; clear HO_5; have HI0 := n0_; have HB := n1_; have HK := n2_; have HO107 := n3_; clear n0_ n1_ n2_ n3_; clear ho hb hg hat))
          go_roundg k1
          case measure => have := HK1.out; omega
          case rel => exact ⟨(y105), (wrap64 (x6_1 + 1)), (by first | rfl | (simp; done) | (simp [*]; done)), H', ⟨by have := HK1.out; omega⟩, ⟨by (with_reducible repeat (first | apply Kd.R_alloc | apply Kd.R_drewN | apply Kd.R_drew)); exact HO107.out⟩, ⟨by repeat (first | (with_reducible first | exact HI0.out | apply IsS72.alloc | apply IsS72.drewN | apply IsS72.drew | apply IsS72.set_1 | apply IsS72.set_2) | exact HI0.out)⟩, ⟨by repeat (first | (with_reducible first | exact HK.out | apply KeepBut.set_ | apply keep_drewN | apply keep_drew | apply keep_alloc) | exact HK.out)⟩, ⟨by repeat (first | (with_reducible first | exact HB.out | apply below_alloc | apply pw_below_drewN | apply below_drew1 | refine below_set ?_ (IsS72.ge HI0.out)) | exact HB.out)⟩⟩
        · rw [if_neg c4] at H
          exact absurd H (by simp)
      · rw [if_neg c3] at H
        have c3b0 : decide (x6_1 < a1) = false := decide_eq_false c3
        clear c3
        have H' := Aside0.mk H
        clear H
        go_wp2
        go_loopg [7] k1 (fun kq v7 w' => ∃ (x5_2 : List Int) (x7_2 : Int) (x1001_2 : Int) (x1002_2 : Int), v7 = .int .i64 x7_2 ∧ Aside0 (wayzgoosekit_Dice_Order.l1 kq x5_2 x7_2 s0_0 x1001_2 x1002_2 = some (r1, r2, r3)) ∧ Aside0 (kq ≤ k1) ∧ Aside0 (Kd.R (Kd.int .i64) 3 w' w.heap.size (fun _ => True) u5 x5_2) ∧ Aside0 (IsS72 w0 w' g s0_0 x1001_2 x1002_2) ∧ Aside0 (KeepBut w w' g none) ∧ Aside0 (Below w0.heap.size w0 w'))
        case atStart => exact ⟨(x5_1), (wrap64 (a1 - 1)), (s0_1), (s0_2), (by first | rfl | (simp; done) | (simp [*]; done)), H', ⟨Nat.le_refl _⟩, ⟨by (with_reducible repeat (first | apply Kd.R_alloc | apply Kd.R_drewN | apply Kd.R_drew)); exact HO_5.out⟩, ⟨by repeat (first | (with_reducible first | exact HI0.out | apply IsS72.alloc | apply IsS72.drewN | apply IsS72.drew | apply IsS72.set_1 | apply IsS72.set_2) | exact HI0.out)⟩, ⟨by repeat (first | (with_reducible first | exact HK.out | apply KeepBut.set_ | apply keep_drewN | apply keep_drew | apply keep_alloc) | exact HK.out)⟩, ⟨by repeat (first | (with_reducible first | exact HB.out | apply below_alloc | apply pw_below_drewN | apply below_drew1 | refine below_set ?_ (IsS72.ge HI0.out)) | exact HB.out)⟩⟩
        case round =>
          clear H'
          try clear c2
          try clear p2
          try clear c3
          try clear c3b0
          try clear c4
          try clear p2
          obtain ⟨x5_2, x7_2, x1001_2, x1002_2, rfl, HA, HK2, HO_5, HI0, HK, HB⟩ := hrel
          cases gk with
          | zero => exact absurd HA.out (by simp [wayzgoosekit_Dice_Order.l1])
          | succ k2 =>
            have H := HA.out
            clear HA
            simp only [wayzgoosekit_Dice_Order.l1] at H
            by_cases c6 : x7_2 > 0
            · rw [if_pos c6] at H
              have c6b0 : decide (0 < x7_2) = true := decide_eq_true c6
              clear c6
              replace H := Option.bind_eq_some_iff.mp H
              obtain ⟨⟨t108, t109, t110⟩, A70, H⟩ := H
              replace H : (if 0 ≤ x7_2 then (if x7_2 < (x5_2.length : Int) then (if 0 ≤ t108 then (if t108 < (x5_2.length : Int) then (wayzgoosekit_Dice_Order.l1 k2 ((x5_2.set (x7_2 : Int).toNat (rd x5_2 t108)).set (t108 : Int).toNat (rd x5_2 x7_2)) (wrap64 (x7_2 - 1)) s0_0 t109 t110) else (none)) else (none)) else (none)) else (none)) = some (r1, r2, r3) := H
              have A7 := Aside0.mk A70
              clear A70
              by_cases c8 : 0 ≤ x7_2
              · rw [if_pos c8] at H
                have c8b0 : decide (0 ≤ x7_2) = true := decide_eq_true c8
                clear c8
                by_cases c9 : x7_2 < (x5_2.length : Int)
                · rw [if_pos c9] at H
                  have c9b0 : decide (x7_2 < (x5_2.length : Int)) = true := decide_eq_true c9
                  clear c9
                  by_cases c10 : 0 ≤ t108
                  · rw [if_pos c10] at H
                    have c10b0 : decide (0 ≤ t108) = true := decide_eq_true c10
                    clear c10
                    by_cases c11 : t108 < (x5_2.length : Int)
                    · rw [if_pos c11] at H
                      have c11b0 : decide (t108 < (x5_2.length : Int)) = true := decide_eq_true c11
                      clear c11
                      obtain ⟨y113, hy113⟩ : ∃ y_ : List Int, y_ = (x5_2.set (x7_2 : Int).toNat (rd x5_2 t108)) := ⟨_, rfl⟩
                      replace H : (wayzgoosekit_Dice_Order.l1 k2 (y113.set (t108 : Int).toNat (rd x5_2 x7_2)) (wrap64 (x7_2 - 1)) s0_0 t109 t110) = some (r1, r2, r3) := by first | (rw [hy113]; with_reducible exact H) | (have H2_ := (Option.bind_some _ _).symm.trans H; rw [hy113]; with_reducible exact H2_) | (have H2_ := (Option.bind_some _ _).symm.trans H; with_reducible exact H2_) | with_reducible exact H | (rw [hy113]; exact H) | exact H
                      have Ny113 := Aside0.mk hy113
                      clear hy113
                      obtain ⟨y114, hy114⟩ : ∃ y_ : List Int, y_ = (y113.set (t108 : Int).toNat (rd x5_2 x7_2)) := ⟨_, rfl⟩
                      replace H : (wayzgoosekit_Dice_Order.l1 k2 y114 (wrap64 (x7_2 - 1)) s0_0 t109 t110) = some (r1, r2, r3) := by first | (rw [hy114]; with_reducible exact H) | (have H2_ := (Option.bind_some _ _).symm.trans H; rw [hy114]; with_reducible exact H2_) | (have H2_ := (Option.bind_some _ _).symm.trans H; with_reducible exact H2_) | with_reducible exact H | (rw [hy114]; exact H) | exact H
                      have Ny114 := Aside0.mk hy114
                      clear hy114
                      have H' := Aside0.mk H
                      clear H
                      go_wp2_with (first | ((with_reducible refine gate_callee (f := 32) rfl ?_); refine goesL_ (some 27) rfl rfl Try.func32 (by kernel_rfl) rfl #[.pointer (some ⟨g, 0, none⟩), .int .i64 x7_2] rfl (by (try simp only [List.map_toArray, List.map_cons, List.map_nil]); first | done | rfl | (simp only [List.length_drop, List.length_take]; rfl)) ?_; (with_reducible refine (wayzgoosekit_Dice_To.calls g s0_0 x1001_2 x1002_2 x7_2 t108 t109 t110 w0 _ ?side1 ?side2 A7.out).mono ?_); (case side1 => repeat (first | (with_reducible first | exact HI0.out | apply IsS72.alloc | apply IsS72.drewN | apply IsS72.drew | apply IsS72.set_1 | apply IsS72.set_2) | exact HI0.out)); (case side2 => repeat (first | (with_reducible first | exact HB.out | apply below_alloc | apply pw_below_drewN | apply below_drew1 | refine below_set ?_ (IsS72.ge HI0.out)) | exact HB.out)); rintro e w14 ⟨rfl, hi, hb, hk⟩; refine ⟨_, rfl, ?_⟩; have n0_ := Aside0.mk (Kd.R_mono (Kd.R_keep (IsS72.apart (show IsS72 w0 _ g s0_0 x1001_2 x1002_2 from by repeat (first | (with_reducible first | exact HI0.out | apply IsS72.alloc | apply IsS72.drewN | apply IsS72.drew | apply IsS72.set_1 | apply IsS72.set_2) | exact HI0.out)) (by (with_reducible repeat (first | apply Kd.R_alloc | apply Kd.R_drewN | apply Kd.R_drew)); exact HO_5.out) (by decide)) hk (fun _ h => h.2)) (fun _ h => h.1)); have n1_ := Aside0.mk (KeepBut.trans (by repeat (first | (with_reducible first | exact HK.out | apply KeepBut.set_ | apply keep_drewN | apply keep_drew | apply keep_alloc) | exact HK.out)) hk (.inl rfl)); have n2_ := Aside0.mk (hb); have n3_ := Aside0.mk (hi); clear HO_5; clear HK; clear HB; clear HI0; have HO_5 := n0_; have HK := n1_; have HB := n2_; have HI0 := n3_; clear n0_ n1_ n2_ n3_; (try clear hb); (try clear hb2); (try clear hk); (try clear hi); obtain ⟨Ao15, co15, eo15⟩ := Kd.R_slice HO_5.out; subst eo15; have p111 : 0 ≤ (x7_2 : Int) := of_decide_eq_true (by first | (with_reducible assumption) | assumption); have q111 : x7_2 < (x5_2.length : Int) := of_decide_eq_true (by first | (with_reducible assumption) | assumption); obtain ⟨ad111, e111, hx111_0⟩ := Kd.at_int (Kd.R_reads' HO_5.out).2.2 x7_2 p111 q111; cases e111; replace p111 := eq_true p111; replace q111 := eq_true q111; have p112 : 0 ≤ (t108 : Int) := of_decide_eq_true (by first | (with_reducible assumption) | assumption); have q112 : t108 < (x5_2.length : Int) := of_decide_eq_true (by first | (with_reducible assumption) | assumption); obtain ⟨ad112, e112, hx112_0⟩ := Kd.at_int (Kd.R_reads' HO_5.out).2.2 t108 p112 q112; obtain rfl : ad111 = ad112 := (by injection e112); replace p112 := eq_true p112; replace q112 := eq_true q112; have p12 : 0 ≤ (x7_2 : Int) := of_decide_eq_true (by first | (with_reducible assumption) | assumption); have q12 : (x7_2 : Int) < ((x5_2.length : Int) : Int) := of_decide_eq_true (by first | (with_reducible assumption) | assumption); obtain ⟨go12, co12, eo12, gb12, gl12, cl12, HG12⟩ := Kd.R_form HO_5.out (by omega); (first | cases eo12 | (injection eo12 with ea_ en_ ec_; (first | subst ea_ | (injection ea_ with ea_; subst ea_)); subst ec_; clear en_)); have GB12 := Aside0.mk gb12; have GG12 := Aside0.mk HG12; clear gb12 gl12 HG12; (first | simp only [add_plain] at hx111_0 | skip); (first | simp only [add_plain] at hx112_0 | skip); obtain ⟨hx12_0, hf12_0⟩ := Kd.R_celln 0 HO_5.out (x7_2 : Int) p12 q12; replace p12 := eq_true p12; replace q12 := eq_true q12; obtain ⟨hy16_, hz16_⟩ := Kd.R_celln 0 HO_5.out (x7_2 : Int) (of_decide_eq_true (by first | (with_reducible assumption) | assumption)) (of_decide_eq_true (by first | (with_reducible assumption) | assumption)); have HP16 := Kd.R_putg HO_5.out (x7_2 : Int) (rd x5_2 t108)) | ((with_reducible refine gate_store (t := 3) (p := 38) rfl ?_); refine store_event (t := 3) (p := 38) (v := ?vo_w17) (w1 := (w14.setCell ⟨go12, (x7_2 : Int).toNat, none⟩ (.int .i64 (rd x5_2 t108)))) ?hg ?ho ?hn ?hr ?_; (case ho => rfl); (case hg => rfl); (case hn => rfl); (case hr => first | (go_simp; done) | (go_simp; rfl)); intro w17 hw; have hg : w14.grownBy w17 (some go12) := (by rw [hw]; exact HP16.2); have hp_ : Kd.R (Kd.int .i64) 3 w17 w.heap.size (fun _ => True) (.slice (some ⟨go12, 0, none⟩) x5_2.length co15) y113 := (by rw [hw, Ny113.out]; exact HP16.1); clear HP16; have n0_ := Aside0.mk (hp_); have n1_ := Aside0.mk (IsS72.grown (by repeat (first | (with_reducible first | exact HI0.out | apply IsS72.alloc | apply IsS72.drewN | apply IsS72.drew | apply IsS72.set_1 | apply IsS72.set_2) | exact HI0.out)) hg (IsS72.own_ne HI0.out HO_5.out (by decide))); have n2_ := Aside0.mk ((by rw [hw]; exact below_set (HB.out) (Nat.le_trans HL.out GB12.out) : Below w0.heap.size w0 w17)); have n3_ := Aside0.mk (KeepBut.trans (by repeat (first | (with_reducible first | exact HK.out | apply KeepBut.set_ | apply keep_drewN | apply keep_drew | apply keep_alloc) | exact HK.out)) (KeepBut.of_grown hg g) (Kd.R_base2 HO_5.out)); clear HO_5; clear HI0; clear HB; clear HK; have HO_5 := n0_; have HI0 := n1_; have HB := n2_; have HK := n3_; clear n0_ n1_ n2_ n3_; clear hg hw hp_; have p13 : 0 ≤ (t108 : Int) := of_decide_eq_true (by first | (with_reducible assumption) | assumption); have q13 : (t108 : Int) < ((x5_2.length : Int) : Int) := of_decide_eq_true (by first | (with_reducible assumption) | assumption); obtain ⟨hx13_0, hf13_0⟩ := Kd.R_celln 0 HO_5.out (t108 : Int) p13 q13; replace p13 := eq_true p13; replace q13 := eq_true q13; obtain ⟨hy18_, hz18_⟩ := Kd.R_celln 0 HO_5.out (t108 : Int) (of_decide_eq_true (by first | (with_reducible assumption) | assumption)) (of_decide_eq_true (by first | (with_reducible assumption) | assumption)); have HP18 := Kd.R_putg HO_5.out (t108 : Int) (rd x5_2 x7_2)) | ((with_reducible refine gate_store (t := 3) (p := 42) rfl ?_); refine store_event (t := 3) (p := 42) (v := ?vo_w19) (w1 := (w17.setCell ⟨go12, (t108 : Int).toNat, none⟩ (.int .i64 (rd x5_2 x7_2)))) ?hg ?ho ?hn ?hr ?_; (case ho => rfl); (case hg => rfl); (case hn => rfl); (case hr => first | (go_simp; done) | (go_simp; rfl)); intro w19 hw; have hg : w17.grownBy w19 (some go12) := (by rw [hw]; exact HP18.2); have hp_ : Kd.R (Kd.int .i64) 3 w19 w.heap.size (fun _ => True) (.slice (some ⟨go12, 0, none⟩) x5_2.length co15) y114 := (by rw [hw, Ny114.out]; exact HP18.1); clear HP18; have n0_ := Aside0.mk (hp_); have n1_ := Aside0.mk (IsS72.grown (by repeat (first | (with_reducible first | exact HI0.out | apply IsS72.alloc | apply IsS72.drewN | apply IsS72.drew | apply IsS72.set_1 | apply IsS72.set_2) | exact HI0.out)) hg (IsS72.own_ne HI0.out HO_5.out (by decide))); have n2_ := Aside0.mk ((by rw [hw]; exact below_set (HB.out) (Nat.le_trans HL.out GB12.out) : Below w0.heap.size w0 w19)); have n3_ := Aside0.mk (KeepBut.trans (by repeat (first | (with_reducible first | exact HK.out | apply KeepBut.set_ | apply keep_drewN | apply keep_drew | apply keep_alloc) | exact HK.out)) (KeepBut.of_grown hg g) (Kd.R_base2 HO_5.out)); clear HO_5; clear HI0; clear HB; clear HK; have HO_5 := n0_; have HI0 := n1_; have HB := n2_; have HK := n3_; clear n0_ n1_ n2_ n3_; clear hg hw hp_))
                      go_roundg k2
                      case measure => have := HK1.out; have := HK2.out; omega
                      case rel => exact ⟨(y114), (wrap64 (x7_2 - 1)), (t109), (t110), (by first | rfl | (simp; done) | (simp [*]; done)), H', ⟨by have := HK1.out; have := HK2.out; omega⟩, ⟨by (with_reducible repeat (first | apply Kd.R_alloc | apply Kd.R_drewN | apply Kd.R_drew)); exact HO_5.out⟩, ⟨by repeat (first | (with_reducible first | exact HI0.out | apply IsS72.alloc | apply IsS72.drewN | apply IsS72.drew | apply IsS72.set_1 | apply IsS72.set_2) | exact HI0.out)⟩, ⟨by repeat (first | (with_reducible first | exact HK.out | apply KeepBut.set_ | apply keep_drewN | apply keep_drew | apply keep_alloc) | exact HK.out)⟩, ⟨by repeat (first | (with_reducible first | exact HB.out | apply below_alloc | apply pw_below_drewN | apply below_drew1 | refine below_set ?_ (IsS72.ge HI0.out)) | exact HB.out)⟩⟩
                    · rw [if_neg c11] at H
                      exact absurd H (by simp)
                  · rw [if_neg c10] at H
                    exact absurd H (by simp)
                · rw [if_neg c9] at H
                  exact absurd H (by simp)
              · rw [if_neg c8] at H
                exact absurd H (by simp)
            · rw [if_neg c6] at H
              have c6b0 : decide (0 < x7_2) = false := decide_eq_false c6
              clear c6
              simp only [Option.some.injEq, Prod.mk.injEq] at H
              obtain ⟨rfl, rfl, rfl⟩ := H
              go_wp2
              go_ret
              exact ⟨_, by first | rfl | (simp [errW_none, errW_some] <;> rfl) | (simp [*, errW_none, errW_some] <;> rfl), by (with_reducible repeat (first | apply Kd.R_alloc | apply Kd.R_drewN | apply Kd.R_drew)); exact HO_5.out, by repeat (first | (with_reducible first | exact HI0.out | apply IsS72.alloc | apply IsS72.drewN | apply IsS72.drew | apply IsS72.set_1 | apply IsS72.set_2) | exact HI0.out), by repeat (first | (with_reducible first | exact HB.out | apply below_alloc | apply pw_below_drewN | apply below_drew1 | refine below_set ?_ (IsS72.ge HI0.out)) | exact HB.out), by repeat (first | (with_reducible first | exact HK.out | apply KeepBut.set_ | apply keep_drewN | apply keep_drew | apply keep_alloc) | exact HK.out)⟩

/-! ### wayzgoosekit_sorts: function 37 -/
def wayzgoosekit_sorts.f  : Option (List ByteArray) := some (([(⟨#[102, 111, 111, 100]⟩ : ByteArray), (⟨#[98, 114, 101, 97, 100]⟩ : ByteArray), (⟨#[99, 108, 111, 116, 104]⟩ : ByteArray), (⟨#[104, 97, 116, 115]⟩ : ByteArray), (⟨#[119, 111, 111, 100]⟩ : ByteArray), (⟨#[105, 114, 111, 110]⟩ : ByteArray), (⟨#[98, 101, 101, 114]⟩ : ByteArray), (⟨#[105, 110]⟩ : ByteArray), (⟨#[115, 101, 101]⟩ : ByteArray)] : List ByteArray))
set_option maxHeartbeats 8000000 in
set_option maxRecDepth 100000 in
theorem wayzgoosekit_sorts.calls  (r : List ByteArray) (w : World) (h : wayzgoosekit_sorts.f  = some r) :
    Calls Try.prog 37 #[] w fun e w' => ∃ v0_ : Value, e = .returned (v0_) ∧ Kd.R Kd.string 9 w' w.heap.size (fun _ => True) v0_ r ∧ Below w.heap.size w w' := by
  have HB := Aside0.mk (Below.refl w.heap.size w)
  have H : (some (([(⟨#[102, 111, 111, 100]⟩ : ByteArray), (⟨#[98, 114, 101, 97, 100]⟩ : ByteArray), (⟨#[99, 108, 111, 116, 104]⟩ : ByteArray), (⟨#[104, 97, 116, 115]⟩ : ByteArray), (⟨#[119, 111, 111, 100]⟩ : ByteArray), (⟨#[105, 114, 111, 110]⟩ : ByteArray), (⟨#[98, 101, 101, 114]⟩ : ByteArray), (⟨#[105, 110]⟩ : ByteArray), (⟨#[115, 101, 101]⟩ : ByteArray)] : List ByteArray))) = some r := h
  clear h
  obtain ⟨y115, hy115⟩ : ∃ y_ : List ByteArray, y_ = (([(⟨#[102, 111, 111, 100]⟩ : ByteArray), (⟨#[98, 114, 101, 97, 100]⟩ : ByteArray), (⟨#[99, 108, 111, 116, 104]⟩ : ByteArray), (⟨#[104, 97, 116, 115]⟩ : ByteArray), (⟨#[119, 111, 111, 100]⟩ : ByteArray), (⟨#[105, 114, 111, 110]⟩ : ByteArray), (⟨#[98, 101, 101, 114]⟩ : ByteArray), (⟨#[105, 110]⟩ : ByteArray), (⟨#[115, 101, 101]⟩ : ByteArray)] : List ByteArray)) := ⟨_, rfl⟩
  replace H : (some y115) = some r := by first | (rw [hy115]; with_reducible exact H) | (have H2_ := (Option.bind_some _ _).symm.trans H; rw [hy115]; with_reducible exact H2_) | (have H2_ := (Option.bind_some _ _).symm.trans H; with_reducible exact H2_) | with_reducible exact H | (rw [hy115]; exact H) | exact H
  have Ny115 := Aside0.mk hy115
  clear hy115
  obtain rfl := Option.some.inj H
  go_enter Try.func37, Try.ntmps37
  go_wp2_with (first | ((with_reducible refine gate_dst (N := 1) rfl ?_); refine Kd.R_lit Kd.string _ 9 ?hg (N := 1) ?hd (xs := ([(⟨#[102, 111, 111, 100]⟩ : ByteArray), (⟨#[98, 114, 101, 97, 100]⟩ : ByteArray), (⟨#[99, 108, 111, 116, 104]⟩ : ByteArray), (⟨#[104, 97, 116, 115]⟩ : ByteArray), (⟨#[119, 111, 111, 100]⟩ : ByteArray), (⟨#[105, 114, 111, 110]⟩ : ByteArray), (⟨#[98, 101, 101, 114]⟩ : ByteArray), (⟨#[105, 110]⟩ : ByteArray), (⟨#[115, 101, 101]⟩ : ByteArray)] : List ByteArray)) (inner := [.string (⟨#[102, 111, 111, 100]⟩ : ByteArray), .string (⟨#[98, 114, 101, 97, 100]⟩ : ByteArray), .string (⟨#[99, 108, 111, 116, 104]⟩ : ByteArray), .string (⟨#[104, 97, 116, 115]⟩ : ByteArray), .string (⟨#[119, 111, 111, 100]⟩ : ByteArray), .string (⟨#[105, 114, 111, 110]⟩ : ByteArray), .string (⟨#[98, 101, 101, 114]⟩ : ByteArray), .string (⟨#[105, 110]⟩ : ByteArray), .string (⟨#[115, 101, 101]⟩ : ByteArray)]) (ok := fun _ => True) (okp := fun _ => True) ?hr ?hp (fun _ hk => hk) trivial (Below.refl _ _) (Nat.le_refl _) (by simp) ?_; (case hd => rfl); (case hg => rfl); (case hr => first | (go_simp; done) | (go_simp; rfl)); (case hp => exact (Reps.one (show Kd.M Kd.string _ _ _ (⟨#[102, 111, 111, 100]⟩ : ByteArray) [.string (⟨#[102, 111, 111, 100]⟩ : ByteArray)] from rfl) (Reps.one (show Kd.M Kd.string _ _ _ (⟨#[98, 114, 101, 97, 100]⟩ : ByteArray) [.string (⟨#[98, 114, 101, 97, 100]⟩ : ByteArray)] from rfl) (Reps.one (show Kd.M Kd.string _ _ _ (⟨#[99, 108, 111, 116, 104]⟩ : ByteArray) [.string (⟨#[99, 108, 111, 116, 104]⟩ : ByteArray)] from rfl) (Reps.one (show Kd.M Kd.string _ _ _ (⟨#[104, 97, 116, 115]⟩ : ByteArray) [.string (⟨#[104, 97, 116, 115]⟩ : ByteArray)] from rfl) (Reps.one (show Kd.M Kd.string _ _ _ (⟨#[119, 111, 111, 100]⟩ : ByteArray) [.string (⟨#[119, 111, 111, 100]⟩ : ByteArray)] from rfl) (Reps.one (show Kd.M Kd.string _ _ _ (⟨#[105, 114, 111, 110]⟩ : ByteArray) [.string (⟨#[105, 114, 111, 110]⟩ : ByteArray)] from rfl) (Reps.one (show Kd.M Kd.string _ _ _ (⟨#[98, 101, 101, 114]⟩ : ByteArray) [.string (⟨#[98, 101, 101, 114]⟩ : ByteArray)] from rfl) (Reps.one (show Kd.M Kd.string _ _ _ (⟨#[105, 110]⟩ : ByteArray) [.string (⟨#[105, 110]⟩ : ByteArray)] from rfl) (Reps.one (show Kd.M Kd.string _ _ _ (⟨#[115, 101, 101]⟩ : ByteArray) [.string (⟨#[115, 101, 101]⟩ : ByteArray)] from rfl) (Reps.none _ _))))))))))); intro v116 w1 ho2 hb hg_ hnew_; clear hg_ hnew_; (first | rw [← Ny115.out] at ho2 | (simp only [Int.reduceToNat] at ho2; rw [← Ny115.out] at ho2)); have n0_ := Aside0.mk (Kd.R_lower ho2 (below_size (by repeat (first | (with_reducible first | exact HB.out | apply below_alloc | apply pw_below_drewN | apply below_drew1) | exact HB.out)))); have n1_ := Aside0.mk (below_step (by repeat (first | (with_reducible first | exact HB.out | apply below_alloc | apply pw_below_drewN | apply below_drew1) | exact HB.out)) hb); clear HB; have HO117 := n0_; have HB := n1_; clear n0_ n1_; clear hb ho2))
  go_ret
  exact ⟨_, by first | rfl | (simp [errW_none, errW_some] <;> rfl) | (simp [*, errW_none, errW_some] <;> rfl), by (with_reducible repeat (first | apply Kd.R_alloc | apply Kd.R_drewN | apply Kd.R_drew)); exact HO117.out, by repeat (first | (with_reducible first | exact HB.out | apply below_alloc | apply pw_below_drewN | apply below_drew1) | exact HB.out)⟩

/-! ### wayzgoosekit_Dice_From: function 38 -/
def wayzgoosekit_Dice_From.f (s0_0 : List Int) (s0_1 : Int) (s0_2 : Int) (a1 : Int) (a2 : Int) : Option (Int × Int × Int) := (wayzgoosekit_Dice_To.f s0_0 s0_1 s0_2 (wrap64 (a2 - a1))).bind fun bt118 => (some (wrap64 (a1 + bt118.1), bt118.2.1, bt118.2.2))
set_option maxHeartbeats 8000000 in
set_option maxRecDepth 100000 in
theorem wayzgoosekit_Dice_From.calls (g : Nat) (s0_0 : List Int) (s0_1 : Int) (s0_2 : Int) (a1 : Int) (a2 : Int) (r1 : Int) (r2 : Int) (r3 : Int) (w0 w : World) (hI : IsS72 w0 w g s0_0 s0_1 s0_2) (hB : Below w0.heap.size w0 w) (h : wayzgoosekit_Dice_From.f s0_0 s0_1 s0_2 a1 a2 = some (r1, r2, r3)) :
    Calls Try.prog 38 #[.pointer (some ⟨g, 0, none⟩), .int .i64 a1, .int .i64 a2] w fun e w' => e = .returned (.int .i64 r1) ∧ IsS72 w0 w' g s0_0 r2 r3 ∧ Below w0.heap.size w0 w' ∧ KeepBut w w' g none := by
  have HI0 := Aside0.mk hI
  have HK := Aside0.mk (KeepBut.refl w g none)
  have HL := Aside0.mk hB.size
  clear hI
  have HW0 := Aside0.mk hB.size
  have HB := Aside0.mk hB
  clear hB
  have H : ((wayzgoosekit_Dice_To.f s0_0 s0_1 s0_2 (wrap64 (a2 - a1))).bind fun bt118 => (some (wrap64 (a1 + bt118.1), bt118.2.1, bt118.2.2))) = some (r1, r2, r3) := h
  clear h
  replace H := Option.bind_eq_some_iff.mp H
  obtain ⟨⟨t118, t119, t120⟩, A40, H⟩ := H
  replace H : (some (wrap64 (a1 + t118), t119, t120)) = some (r1, r2, r3) := H
  have A4 := Aside0.mk A40
  clear A40
  simp only [Option.some.injEq, Prod.mk.injEq] at H
  obtain ⟨rfl, rfl, rfl⟩ := H
  go_enter Try.func38, Try.ntmps38
  go_wp2_with (first | ((with_reducible refine gate_callee (f := 32) rfl ?_); refine goesL_ (some 12) rfl rfl Try.func32 (by kernel_rfl) rfl #[.pointer (some ⟨g, 0, none⟩), .int .i64 (wrap64 (a2 - a1))] rfl (by (try simp only [List.map_toArray, List.map_cons, List.map_nil]); first | done | rfl | (simp only [List.length_drop, List.length_take]; rfl)) ?_; (with_reducible refine (wayzgoosekit_Dice_To.calls g s0_0 s0_1 s0_2 (wrap64 (a2 - a1)) t118 t119 t120 w0 _ ?side1 ?side2 A4.out).mono ?_); (case side1 => repeat (first | (with_reducible first | exact HI0.out | apply IsS72.alloc | apply IsS72.drewN | apply IsS72.drew | apply IsS72.set_1 | apply IsS72.set_2) | exact HI0.out)); (case side2 => repeat (first | (with_reducible first | exact HB.out | apply below_alloc | apply pw_below_drewN | apply below_drew1 | refine below_set ?_ (IsS72.ge HI0.out)) | exact HB.out)); rintro e w5 ⟨rfl, hi, hb, hk⟩; refine ⟨_, rfl, ?_⟩; have n0_ := Aside0.mk (KeepBut.trans (by repeat (first | (with_reducible first | exact HK.out | apply KeepBut.set_ | apply keep_drewN | apply keep_drew | apply keep_alloc) | exact HK.out)) hk (.inl rfl)); have n1_ := Aside0.mk (hb); have n2_ := Aside0.mk (hi); clear HK; clear HB; clear HI0; have HK := n0_; have HB := n1_; have HI0 := n2_; clear n0_ n1_ n2_; (try clear hb); (try clear hb2); (try clear hk); (try clear hi)))
  go_ret
  exact ⟨by first | rfl | (simp [errW_none, errW_some] <;> rfl) | (simp [*, errW_none, errW_some] <;> rfl), by repeat (first | (with_reducible first | exact HI0.out | apply IsS72.alloc | apply IsS72.drewN | apply IsS72.drew | apply IsS72.set_1 | apply IsS72.set_2) | exact HI0.out), by repeat (first | (with_reducible first | exact HB.out | apply below_alloc | apply pw_below_drewN | apply below_drew1 | refine below_set ?_ (IsS72.ge HI0.out)) | exact HB.out), by repeat (first | (with_reducible first | exact HK.out | apply KeepBut.set_ | apply keep_drewN | apply keep_drew | apply keep_alloc) | exact HK.out)⟩

/-! ### wayzgoosekit_Index: function 20 -/
def wayzgoosekit_Index.l0 : Nat → List Int → Int → Int → Option (Int)
  | 0, _, _, _ => none
  | k + 1, x0, x1, x5 => if x5 < (x0.length : Int) then (if 0 ≤ x5 then (if (rd x0 x5) = x1 then (some x5) else (wayzgoosekit_Index.l0 k x0 x1 (wrap64 (x5 + 1)))) else (none)) else (some (-1))
def wayzgoosekit_Index.f (k : Nat) (l0 : List Int) (a1 : Int) : Option (Int) := wayzgoosekit_Index.l0 k l0 a1 0
theorem wayzgoosekit_Index.mono_l : ∀ k, (∀ y0 y1 y2, LeO (wayzgoosekit_Index.l0 k y0 y1 y2) (wayzgoosekit_Index.l0 (k + 1) y0 y1 y2))
  | 0 => fun _ _ _ r h => by simp [wayzgoosekit_Index.l0] at h
  | k + 1 => by
    have ih0 := wayzgoosekit_Index.mono_l k
    · intro y0 y1 y2
      unfold wayzgoosekit_Index.l0
      repeat' first
      | (with_reducible exact ih0 _ _ _)
      | (with_reducible exact LeO.refl _)
      | (with_reducible exact LeO.none _)
      | (with_reducible refine LeO.ite ?_ ?_)
      | (with_reducible refine LeO.bind ?_ (fun _ => ?_))
      | exact ih0 _ _ _
      | exact LeO.none _
      | refine LeO.ite ?_ ?_
      | refine LeO.bind ?_ (fun _ => ?_)
theorem wayzgoosekit_Index.mono : ∀ a0 a1 k, LeO (wayzgoosekit_Index.f k a0 a1) (wayzgoosekit_Index.f (k + 1) a0 a1) := by
  intro a0 a1 k
  have ih0 := wayzgoosekit_Index.mono_l k
  unfold wayzgoosekit_Index.f
  repeat' first
      | (with_reducible exact ih0 _ _ _)
      | (with_reducible exact LeO.refl _)
      | (with_reducible exact LeO.none _)
      | (with_reducible refine LeO.ite ?_ ?_)
      | (with_reducible refine LeO.bind ?_ (fun _ => ?_))
      | exact ih0 _ _ _
      | exact LeO.none _
      | refine LeO.ite ?_ ?_
      | refine LeO.bind ?_ (fun _ => ?_)
set_option maxHeartbeats 8000000 in
set_option maxRecDepth 100000 in
theorem wayzgoosekit_Index.calls (k : Nat) (A0 : Option Addr) (c0 : Nat) (l0 : List Int) (a1 : Int) (r : Int) (w : World) (hr0 : Kd.C (Kd.int .i64) w A0 l0.length l0) (hc0 : l0.length ≤ c0) (h : wayzgoosekit_Index.f k l0 a1 = some r) :
    Calls Try.prog 20 #[.slice A0 l0.length c0, .int .i64 a1] w fun e w' => e = .returned (.int .i64 r) ∧ Drawn0 w w' := by
  have HR0 := Aside0.mk hr0
  have HC0 := Aside0.mk hc0
  clear hr0 hc0
  have H : (wayzgoosekit_Index.l0 k l0 a1 0) = some r := h
  clear h
  have H' := Aside0.mk H
  clear H
  go_enter Try.func20, Try.ntmps20
  go_wp2
  go_loopg [5] k (fun kq v5 w' => ∃ (x5_1 : Int), v5 = .int .i64 x5_1 ∧ Aside0 (wayzgoosekit_Index.l0 kq l0 a1 x5_1 = some r) ∧ Aside0 (kq ≤ k) ∧ Drawn0 w w')
  case atStart => exact ⟨(0), (by first | rfl | (simp; done) | (simp [*]; done)), H', ⟨Nat.le_refl _⟩, by repeat (first | exact Drawn0.refl _ | apply Drawn0.step)⟩
  case round =>
    clear H'
    try clear c2
    try clear p2
    obtain ⟨x5_1, rfl, HA, HK1, ⟨m1, rfl⟩⟩ := hrel
    cases gk with
    | zero => exact absurd HA.out (by simp [wayzgoosekit_Index.l0])
    | succ k1 =>
      have H := HA.out
      clear HA
      simp only [wayzgoosekit_Index.l0] at H
      by_cases c3 : x5_1 < (l0.length : Int)
      · rw [if_pos c3] at H
        have c3b0 : decide (x5_1 < (l0.length : Int)) = true := decide_eq_true c3
        clear c3
        by_cases c4 : 0 ≤ x5_1
        · rw [if_pos c4] at H
          have c4b0 : decide (0 ≤ x5_1) = true := decide_eq_true c4
          clear c4
          by_cases c5 : (rd l0 x5_1) = a1
          · rw [if_pos c5] at H
            have c5b0 : ((rd l0 x5_1) == a1) = true := beq_iff_eq.mpr c5
            have c5b1 : ((rd l0 x5_1) != a1) = false := bne_eq_false_iff_eq.mpr c5
            clear c5
            obtain rfl := Option.some.inj H
            have p121 : 0 ≤ (x5_1 : Int) := of_decide_eq_true (by first | (with_reducible assumption) | assumption)
            have q121 : x5_1 < (l0.length : Int) := of_decide_eq_true (by first | (with_reducible assumption) | assumption)
            obtain ⟨ad121, e121, hx121_0⟩ := Kd.at_int HR0.out x5_1 p121 q121
            cases e121
            replace p121 := eq_true p121
            replace q121 := eq_true q121
            go_wp2
            go_ret
            exact ⟨by first | rfl | (simp; done) | (simp [*]; done), by repeat (first | exact Drawn0.refl _ | apply Drawn0.step)⟩
          · rw [if_neg c5] at H
            have c5b0 : ((rd l0 x5_1) == a1) = false := beq_eq_false_iff_ne.mpr c5
            have c5b1 : ((rd l0 x5_1) != a1) = true := bne_iff_ne.mpr c5
            have H' := Aside0.mk H
            clear H
            have p121 : 0 ≤ (x5_1 : Int) := of_decide_eq_true (by first | (with_reducible assumption) | assumption)
            have q121 : x5_1 < (l0.length : Int) := of_decide_eq_true (by first | (with_reducible assumption) | assumption)
            obtain ⟨ad121, e121, hx121_0⟩ := Kd.at_int HR0.out x5_1 p121 q121
            cases e121
            replace p121 := eq_true p121
            replace q121 := eq_true q121
            go_wp2
            go_roundg k1
            case measure => have := HK1.out; omega
            case rel => exact ⟨(wrap64 (x5_1 + 1)), (by first | rfl | (simp; done) | (simp [*]; done)), H', ⟨by have := HK1.out; omega⟩, by repeat (first | exact Drawn0.refl _ | apply Drawn0.step)⟩
        · rw [if_neg c4] at H
          exact absurd H (by simp)
      · rw [if_neg c3] at H
        have c3b0 : decide (x5_1 < (l0.length : Int)) = false := decide_eq_false c3
        clear c3
        obtain rfl := Option.some.inj H
        go_wp2
        go_ret
        exact ⟨by first | rfl | (simp; done) | (simp [*]; done), by repeat (first | exact Drawn0.refl _ | apply Drawn0.step)⟩

/-! ### wayzgoosekit_partOf: function 39 -/
def wayzgoosekit_partOf.l0 : Nat → Int → Int → List Int → List Int → Int → List Int → Int → Int → Option (List Int × Int × Int)
  | 0, _, _, _, _, _, _, _, _ => none
  | k + 1, x1, x2, x7, x8, x9, x1000, x1001, x1002 => if x9 < x1 then ((wayzgoosekit_Index.f k x7 x9).bind fun t127 => (if t127 < x2 then (if x8.length < 17592186044416 then (wayzgoosekit_partOf.l0 k x1 x2 x7 (x8 ++ [x9]) (wrap64 (x9 + 1)) x1000 x1001 x1002) else (none)) else (wayzgoosekit_partOf.l0 k x1 x2 x7 x8 (wrap64 (x9 + 1)) x1000 x1001 x1002))) else (some (x8, x1001, x1002))
def wayzgoosekit_partOf.f (k : Nat) (s0_0 : List Int) (s0_1 : Int) (s0_2 : Int) (a1 : Int) (a2 : Int) : Option (List Int × Int × Int) := (wayzgoosekit_Dice_Order.f k s0_0 s0_1 s0_2 a1).bind fun bt122 => (wayzgoosekit_partOf.l0 k a1 a2 bt122.1 ([] : List Int) 0 s0_0 bt122.2.1 bt122.2.2)
theorem wayzgoosekit_partOf.mono_l : ∀ k, (∀ y0 y1 y2 y3 y4 y5 y6 y7, LeO (wayzgoosekit_partOf.l0 k y0 y1 y2 y3 y4 y5 y6 y7) (wayzgoosekit_partOf.l0 (k + 1) y0 y1 y2 y3 y4 y5 y6 y7))
  | 0 => fun _ _ _ _ _ _ _ _ r h => by simp [wayzgoosekit_partOf.l0] at h
  | k + 1 => by
    have ih0 := wayzgoosekit_partOf.mono_l k
    · intro y0 y1 y2 y3 y4 y5 y6 y7
      unfold wayzgoosekit_partOf.l0
      repeat' first
      | (with_reducible exact ih0 _ _ _ _ _ _ _ _)
      | (with_reducible exact wayzgoosekit_Dice_Order.mono _ _ _ _ _)
      | (with_reducible exact wayzgoosekit_Index.mono _ _ _)
      | (with_reducible exact LeO.refl _)
      | (with_reducible exact LeO.none _)
      | (with_reducible refine LeO.ite ?_ ?_)
      | (with_reducible refine LeO.bind ?_ (fun _ => ?_))
      | exact ih0 _ _ _ _ _ _ _ _
      | exact wayzgoosekit_Dice_Order.mono _ _ _ _ _
      | exact wayzgoosekit_Index.mono _ _ _
      | exact LeO.none _
      | refine LeO.ite ?_ ?_
      | refine LeO.bind ?_ (fun _ => ?_)
theorem wayzgoosekit_partOf.mono : ∀ a0 a1 a2 a3 a4 k, LeO (wayzgoosekit_partOf.f k a0 a1 a2 a3 a4) (wayzgoosekit_partOf.f (k + 1) a0 a1 a2 a3 a4) := by
  intro a0 a1 a2 a3 a4 k
  have ih0 := wayzgoosekit_partOf.mono_l k
  unfold wayzgoosekit_partOf.f
  repeat' first
      | (with_reducible exact ih0 _ _ _ _ _ _ _ _)
      | (with_reducible exact wayzgoosekit_Dice_Order.mono _ _ _ _ _)
      | (with_reducible exact wayzgoosekit_Index.mono _ _ _)
      | (with_reducible exact LeO.refl _)
      | (with_reducible exact LeO.none _)
      | (with_reducible refine LeO.ite ?_ ?_)
      | (with_reducible refine LeO.bind ?_ (fun _ => ?_))
      | exact ih0 _ _ _ _ _ _ _ _
      | exact wayzgoosekit_Dice_Order.mono _ _ _ _ _
      | exact wayzgoosekit_Index.mono _ _ _
      | exact LeO.none _
      | refine LeO.ite ?_ ?_
      | refine LeO.bind ?_ (fun _ => ?_)
set_option maxHeartbeats 8000000 in
set_option maxRecDepth 100000 in
theorem wayzgoosekit_partOf.calls (k : Nat) (g : Nat) (s0_0 : List Int) (s0_1 : Int) (s0_2 : Int) (a1 : Int) (a2 : Int) (r1 : List Int) (r2 : Int) (r3 : Int) (w0 w : World) (hI : IsS72 w0 w g s0_0 s0_1 s0_2) (hB : Below w0.heap.size w0 w) (h : wayzgoosekit_partOf.f k s0_0 s0_1 s0_2 a1 a2 = some (r1, r2, r3)) :
    Calls Try.prog 39 #[.pointer (some ⟨g, 0, none⟩), .int .i64 a1, .int .i64 a2] w fun e w' => ∃ v0_ : Value, e = .returned (v0_) ∧ Kd.R (Kd.int .i64) 3 w' w.heap.size (fun _ => True) v0_ r1 ∧ IsS72 w0 w' g s0_0 r2 r3 ∧ Below w0.heap.size w0 w' ∧ KeepBut w w' g none := by
  have HI0 := Aside0.mk hI
  have HK := Aside0.mk (KeepBut.refl w g none)
  have HL := Aside0.mk hB.size
  clear hI
  have HW0 := Aside0.mk hB.size
  have HB := Aside0.mk hB
  clear hB
  have H : ((wayzgoosekit_Dice_Order.f k s0_0 s0_1 s0_2 a1).bind fun bt122 => (wayzgoosekit_partOf.l0 k a1 a2 bt122.1 ([] : List Int) 0 s0_0 bt122.2.1 bt122.2.2)) = some (r1, r2, r3) := h
  clear h
  replace H := Option.bind_eq_some_iff.mp H
  obtain ⟨⟨t122, t125, t126⟩, A40, H⟩ := H
  replace H : (wayzgoosekit_partOf.l0 k a1 a2 t122 ([] : List Int) 0 s0_0 t125 t126) = some (r1, r2, r3) := H
  have A4 := Aside0.mk A40
  clear A40
  have H' := Aside0.mk H
  clear H
  go_enter Try.func39, Try.ntmps39
  go_wp2_with (first | ((with_reducible refine gate_callee (f := 23) rfl ?_); refine goesL_ (some 13) rfl rfl Try.func23 (by kernel_rfl) rfl #[.pointer (some ⟨g, 0, none⟩), .int .i64 a1] rfl (by (try simp only [List.map_toArray, List.map_cons, List.map_nil]); first | done | rfl | (simp only [List.length_drop, List.length_take]; rfl)) ?_; (with_reducible refine (wayzgoosekit_Dice_Order.calls k g s0_0 s0_1 s0_2 a1 t122 t125 t126 w0 _ ?side1 ?side2 A4.out).mono ?_); (case side1 => repeat (first | (with_reducible first | exact HI0.out | apply IsS72.alloc | apply IsS72.drewN | apply IsS72.drew | apply IsS72.set_1 | apply IsS72.set_2) | exact HI0.out)); (case side2 => repeat (first | (with_reducible first | exact HB.out | apply below_alloc | apply pw_below_drewN | apply below_drew1 | refine below_set ?_ (IsS72.ge HI0.out)) | exact HB.out)); rintro e w5 ⟨v123, rfl, ho0, hi, hb, hk⟩; refine ⟨_, rfl, ?_⟩; have n0_ := Aside0.mk (Kd.R_lower ho0 (keep_size (w := w) (g := g) (row := none) (by repeat (first | (with_reducible first | exact HK.out | apply KeepBut.set_ | apply keep_drewN | apply keep_drew | apply keep_alloc) | exact HK.out)))); have n1_ := Aside0.mk (KeepBut.trans (by repeat (first | (with_reducible first | exact HK.out | apply KeepBut.set_ | apply keep_drewN | apply keep_drew | apply keep_alloc) | exact HK.out)) hk (.inl rfl)); have n2_ := Aside0.mk (hb); have n3_ := Aside0.mk (hi); clear HK; clear HB; clear HI0; have HO124 := n0_; have HK := n1_; have HB := n2_; have HI0 := n3_; clear n0_ n1_ n2_ n3_; (try clear hb); (try clear hb2); (try clear hk); (try clear hi); (try clear ho0)))
  go_loopg [8, 9] k (fun kq v8 v9 w' => ∃ (x8_1 : List Int) (x9_1 : Int), v9 = .int .i64 x9_1 ∧ Aside0 (wayzgoosekit_partOf.l0 kq a1 a2 t122 x8_1 x9_1 s0_0 t125 t126 = some (r1, r2, r3)) ∧ Aside0 (kq ≤ k) ∧ Aside0 (Kd.R (Kd.int .i64) 3 w' w.heap.size (fun k_ => some k_ ≠ (v8 : Value).ownBlock) v123 t122) ∧ Aside0 (Kd.R (Kd.int .i64) 3 w' w.heap.size (fun k_ => some k_ ≠ (v123 : Value).ownBlock) v8 x8_1) ∧ Aside0 (IsS72 w0 w' g s0_0 t125 t126) ∧ Aside0 (KeepBut w w' g none) ∧ Aside0 (Below w0.heap.size w0 w'))
  case atStart => exact ⟨(([] : List Int)), (0), (by first | rfl | (simp; done) | (simp [*]; done)), H', ⟨Nat.le_refl _⟩, ⟨by (with_reducible repeat (first | apply Kd.R_alloc | apply Kd.R_drewN | apply Kd.R_drew)); exact Kd.R_mono HO124.out (fun _ hk => (by simp [Value.ownBlock]))⟩, ⟨by first | exact Kd.R_nil _ _ _ _ _ | exact Kd.N_nil _ _ _ _ _ | exact Kd.V_nil _ _ _ _ _ | exact Kd.Q_nil _ _ _ _ _ | exact Kd.S_nil _ _ _ _ _⟩, ⟨by repeat (first | (with_reducible first | exact HI0.out | apply IsS72.alloc | apply IsS72.drewN | apply IsS72.drew | apply IsS72.set_1 | apply IsS72.set_2) | exact HI0.out)⟩, ⟨by repeat (first | (with_reducible first | exact HK.out | apply KeepBut.set_ | apply keep_drewN | apply keep_drew | apply keep_alloc) | exact HK.out)⟩, ⟨by repeat (first | (with_reducible first | exact HB.out | apply below_alloc | apply pw_below_drewN | apply below_drew1 | refine below_set ?_ (IsS72.ge HI0.out)) | exact HB.out)⟩⟩
  case round =>
    clear H'
    try clear c2
    try clear p2
    try clear c3
    obtain ⟨x8_1, x9_1, rfl, HA, HK1, HO_7, HO_8, HI0, HK, HB⟩ := hrel
    cases gk with
    | zero => exact absurd HA.out (by simp [wayzgoosekit_partOf.l0])
    | succ k1 =>
      have H := HA.out
      clear HA
      simp only [wayzgoosekit_partOf.l0] at H
      by_cases c6 : x9_1 < a1
      · rw [if_pos c6] at H
        have c6b0 : decide (x9_1 < a1) = true := decide_eq_true c6
        clear c6
        replace H := Option.bind_eq_some_iff.mp H
        obtain ⟨t127, A70, H⟩ := H
        replace H : (if t127 < a2 then (if x8_1.length < 17592186044416 then (wayzgoosekit_partOf.l0 k1 a1 a2 t122 (x8_1 ++ [x9_1]) (wrap64 (x9_1 + 1)) s0_0 t125 t126) else (none)) else (wayzgoosekit_partOf.l0 k1 a1 a2 t122 x8_1 (wrap64 (x9_1 + 1)) s0_0 t125 t126)) = some (r1, r2, r3) := H
        have A7 := Aside0.mk A70
        clear A70
        by_cases c8 : t127 < a2
        · rw [if_pos c8] at H
          have c8b0 : decide (t127 < a2) = true := decide_eq_true c8
          clear c8
          by_cases c9 : x8_1.length < 17592186044416
          · rw [if_pos c9] at H
            have LMc9 := Aside0.mk c9
            clear c9
            obtain ⟨y128, hy128⟩ : ∃ y_ : List Int, y_ = (x8_1 ++ [x9_1]) := ⟨_, rfl⟩
            replace H : (wayzgoosekit_partOf.l0 k1 a1 a2 t122 y128 (wrap64 (x9_1 + 1)) s0_0 t125 t126) = some (r1, r2, r3) := by first | (rw [hy128]; with_reducible exact H) | (have H2_ := (Option.bind_some _ _).symm.trans H; rw [hy128]; with_reducible exact H2_) | (have H2_ := (Option.bind_some _ _).symm.trans H; with_reducible exact H2_) | with_reducible exact H | (rw [hy128]; exact H) | exact H
            have Ny128 := Aside0.mk hy128
            clear hy128
            have H' := Aside0.mk H
            clear H
            obtain ⟨Ao10, co10, eo10⟩ := Kd.R_slice HO_7.out
            subst eo10
            go_wp2_with (first | ((with_reducible refine gate_callee (f := 20) rfl ?_); refine goesL_ (some 21) rfl rfl Try.func20 (by kernel_rfl) rfl #[.slice Ao10 t122.length co10, .int .i64 x9_1] rfl (by (try simp only [List.map_toArray, List.map_cons, List.map_nil]); first | done | rfl | (simp only [List.length_drop, List.length_take]; rfl)) ?_; (with_reducible refine (wayzgoosekit_Index.calls k1 _ _ t122 x9_1 t127 _ ?side1 ?side2 A7.out).mono ?_); (case side1 => repeat (first | exact (Kd.R_reads' HO_7.out).2.2 | (with_reducible refine Kd.C_alloc ?_ _) | (with_reducible refine Kd.C_drewN ?_ _) | (with_reducible refine Kd.C_drew ?_))); (case side2 => exact (Kd.R_reads' HO_7.out).2.1); rintro e w' ⟨rfl, ⟨nd, rfl⟩⟩; refine ⟨_, rfl, ?_⟩) | ((with_reducible refine gate_builtin (b := .append) (xs := #[.tmp 25, .tmp 27]) rfl ?_); at_builtin; refine Kd.R_append (Kd.int .i64) w.heap.size rfl (.tmp 25) (.tmp 27) 22 3 (.int .i64 0) 8 rfl Try.underlying22 info3 rfl (by decide) (by omega) u8 x8_1 x9_1 [.int .i64 x9_1] (fun k_ => some k_ ≠ (.slice Ao10 t122.length co10 : Value).ownBlock) (fun _ => False) rfl rfl ?aP (fun _ hk => hk.elim) ?aF ?aO (Below.refl _ _) ?aS ?aL ?_; (case aP => exact rfl); (case aF => exact (fun k_ hk => Kd.fresh' (Kd.R_lt (by (with_reducible repeat (first | apply Kd.R_alloc | apply Kd.R_drewN | apply Kd.R_drew)); exact HO_7.out)) k_ hk)); (case aO => exact (by (with_reducible repeat (first | apply Kd.R_alloc | apply Kd.R_drewN | apply Kd.R_drew)); exact HO_8.out)); (case aS => exact (keep_size (w := w) (g := g) (row := none) (by repeat (first | (with_reducible first | exact HK.out | apply KeepBut.set_ | apply keep_drewN | apply keep_drew | apply keep_alloc) | exact HK.out)))); (case aL => have := LMc9.out; omega); intro v129 w11 ho hb hg hat; rw [← Ny128.out] at ho; have n0_ := Aside0.mk (Kd.R_after (ok := (fun _ => True)) (by (with_reducible repeat (first | apply Kd.R_alloc | apply Kd.R_drewN | apply Kd.R_drew)); exact Kd.R_mono HO_7.out (fun _ hk => ⟨trivial, hk⟩)) hg hat); have n1_ := Aside0.mk (IsS72.grown (by repeat (first | (with_reducible first | exact HI0.out | apply IsS72.alloc | apply IsS72.drewN | apply IsS72.drew | apply IsS72.set_1 | apply IsS72.set_2) | exact HI0.out)) hg (IsS72.own_ne HI0.out HO_8.out (by decide))); have n2_ := Aside0.mk (below_weaken (by repeat (first | (with_reducible first | exact HB.out | apply below_alloc | apply pw_below_drewN | apply below_drew1 | refine below_set ?_ (IsS72.ge HI0.out)) | exact HB.out)) HL.out hb); have n3_ := Aside0.mk (KeepBut.trans (by repeat (first | (with_reducible first | exact HK.out | apply KeepBut.set_ | apply keep_drewN | apply keep_drew | apply keep_alloc) | exact HK.out)) (KeepBut.of_grown hg g) (Kd.R_base2 HO_8.out)); have n4_ := Aside0.mk (ho); clear HO_7; clear HI0; clear HB; clear HK; clear HO_8; have HO_7 := n0_; have HI0 := n1_; have HB := n2_; have HK := n3_; have HO130 := n4_; clear n0_ n1_ n2_ n3_ n4_; clear ho hb hg hat))
            go_roundg k1
            case measure => have := HK1.out; omega
            case rel => exact ⟨(y128), (wrap64 (x9_1 + 1)), (by first | rfl | (simp; done) | (simp [*]; done)), H', ⟨by have := HK1.out; omega⟩, ⟨by (with_reducible repeat (first | apply Kd.R_alloc | apply Kd.R_drewN | apply Kd.R_drew)); exact Kd.R_mono HO_7.out (fun _ hk => hk.2)⟩, ⟨by (with_reducible repeat (first | apply Kd.R_alloc | apply Kd.R_drewN | apply Kd.R_drew)); exact HO130.out⟩, ⟨by repeat (first | (with_reducible first | exact HI0.out | apply IsS72.alloc | apply IsS72.drewN | apply IsS72.drew | apply IsS72.set_1 | apply IsS72.set_2) | exact HI0.out)⟩, ⟨by repeat (first | (with_reducible first | exact HK.out | apply KeepBut.set_ | apply keep_drewN | apply keep_drew | apply keep_alloc) | exact HK.out)⟩, ⟨by repeat (first | (with_reducible first | exact HB.out | apply below_alloc | apply pw_below_drewN | apply below_drew1 | refine below_set ?_ (IsS72.ge HI0.out)) | exact HB.out)⟩⟩
          · rw [if_neg c9] at H
            exact absurd H (by simp)
        · rw [if_neg c8] at H
          have c8b0 : decide (t127 < a2) = false := decide_eq_false c8
          clear c8
          have H' := Aside0.mk H
          clear H
          obtain ⟨Ao12, co12, eo12⟩ := Kd.R_slice HO_7.out
          subst eo12
          go_wp2_with (first | ((with_reducible refine gate_callee (f := 20) rfl ?_); refine goesL_ (some 21) rfl rfl Try.func20 (by kernel_rfl) rfl #[.slice Ao12 t122.length co12, .int .i64 x9_1] rfl (by (try simp only [List.map_toArray, List.map_cons, List.map_nil]); first | done | rfl | (simp only [List.length_drop, List.length_take]; rfl)) ?_; (with_reducible refine (wayzgoosekit_Index.calls k1 _ _ t122 x9_1 t127 _ ?side1 ?side2 A7.out).mono ?_); (case side1 => repeat (first | exact (Kd.R_reads' HO_7.out).2.2 | (with_reducible refine Kd.C_alloc ?_ _) | (with_reducible refine Kd.C_drewN ?_ _) | (with_reducible refine Kd.C_drew ?_))); (case side2 => exact (Kd.R_reads' HO_7.out).2.1); rintro e w' ⟨rfl, ⟨nd, rfl⟩⟩; refine ⟨_, rfl, ?_⟩))
          go_roundg k1
          case measure => have := HK1.out; omega
          case rel => exact ⟨(x8_1), (wrap64 (x9_1 + 1)), (by first | rfl | (simp; done) | (simp [*]; done)), H', ⟨by have := HK1.out; omega⟩, ⟨by (with_reducible repeat (first | apply Kd.R_alloc | apply Kd.R_drewN | apply Kd.R_drew)); exact HO_7.out⟩, ⟨by (with_reducible repeat (first | apply Kd.R_alloc | apply Kd.R_drewN | apply Kd.R_drew)); exact HO_8.out⟩, ⟨by repeat (first | (with_reducible first | exact HI0.out | apply IsS72.alloc | apply IsS72.drewN | apply IsS72.drew | apply IsS72.set_1 | apply IsS72.set_2) | exact HI0.out)⟩, ⟨by repeat (first | (with_reducible first | exact HK.out | apply KeepBut.set_ | apply keep_drewN | apply keep_drew | apply keep_alloc) | exact HK.out)⟩, ⟨by repeat (first | (with_reducible first | exact HB.out | apply below_alloc | apply pw_below_drewN | apply below_drew1 | refine below_set ?_ (IsS72.ge HI0.out)) | exact HB.out)⟩⟩
      · rw [if_neg c6] at H
        have c6b0 : decide (x9_1 < a1) = false := decide_eq_false c6
        clear c6
        simp only [Option.some.injEq, Prod.mk.injEq] at H
        obtain ⟨rfl, rfl, rfl⟩ := H
        go_wp2
        go_ret
        exact ⟨_, by first | rfl | (simp [errW_none, errW_some] <;> rfl) | (simp [*, errW_none, errW_some] <;> rfl), by (with_reducible repeat (first | apply Kd.R_alloc | apply Kd.R_drewN | apply Kd.R_drew)); exact Kd.R_mono HO_8.out (fun _ hk => trivial), by repeat (first | (with_reducible first | exact HI0.out | apply IsS72.alloc | apply IsS72.drewN | apply IsS72.drew | apply IsS72.set_1 | apply IsS72.set_2) | exact HI0.out), by repeat (first | (with_reducible first | exact HB.out | apply below_alloc | apply pw_below_drewN | apply below_drew1 | refine below_set ?_ (IsS72.ge HI0.out)) | exact HB.out), by repeat (first | (with_reducible first | exact HK.out | apply KeepBut.set_ | apply keep_drewN | apply keep_drew | apply keep_alloc) | exact HK.out)⟩

/-! ### wayzgoosekit_callings: function 40 -/
def wayzgoosekit_callings.f  : Option (List ByteArray) := some (([(⟨#[98, 97, 107, 101, 114]⟩ : ByteArray), (⟨#[98, 97, 107, 101, 114, 115]⟩ : ByteArray), (⟨#[98, 111, 110, 110, 101, 116, 115]⟩ : ByteArray), (⟨#[98, 114, 101, 119, 101, 114]⟩ : ByteArray), (⟨#[98, 114, 117, 115, 104, 101, 115]⟩ : ByteArray), (⟨#[98, 117, 116, 99, 104, 101, 114]⟩ : ByteArray), (⟨#[99, 97, 110, 100, 108, 101, 115]⟩ : ByteArray), (⟨#[99, 111, 111, 112, 101, 114]⟩ : ByteArray), (⟨#[99, 111, 111, 112, 101, 114, 115]⟩ : ByteArray), (⟨#[99, 117, 116, 108, 101, 114]⟩ : ByteArray), (⟨#[104, 97, 116, 116, 101, 114]⟩ : ByteArray), (⟨#[104, 111, 115, 105, 101, 114]⟩ : ByteArray), (⟨#[109, 101, 114, 99, 101, 114]⟩ : ByteArray), (⟨#[109, 105, 108, 108, 105, 110, 101, 114]⟩ : ByteArray), (⟨#[116, 97, 105, 108, 111, 114]⟩ : ByteArray), (⟨#[116, 97, 110, 110, 101, 114]⟩ : ByteArray)] : List ByteArray))
set_option maxHeartbeats 8000000 in
set_option maxRecDepth 100000 in
theorem wayzgoosekit_callings.calls  (r : List ByteArray) (w : World) (h : wayzgoosekit_callings.f  = some r) :
    Calls Try.prog 40 #[] w fun e w' => ∃ v0_ : Value, e = .returned (v0_) ∧ Kd.R Kd.string 9 w' w.heap.size (fun _ => True) v0_ r ∧ Below w.heap.size w w' := by
  have HB := Aside0.mk (Below.refl w.heap.size w)
  have H : (some (([(⟨#[98, 97, 107, 101, 114]⟩ : ByteArray), (⟨#[98, 97, 107, 101, 114, 115]⟩ : ByteArray), (⟨#[98, 111, 110, 110, 101, 116, 115]⟩ : ByteArray), (⟨#[98, 114, 101, 119, 101, 114]⟩ : ByteArray), (⟨#[98, 114, 117, 115, 104, 101, 115]⟩ : ByteArray), (⟨#[98, 117, 116, 99, 104, 101, 114]⟩ : ByteArray), (⟨#[99, 97, 110, 100, 108, 101, 115]⟩ : ByteArray), (⟨#[99, 111, 111, 112, 101, 114]⟩ : ByteArray), (⟨#[99, 111, 111, 112, 101, 114, 115]⟩ : ByteArray), (⟨#[99, 117, 116, 108, 101, 114]⟩ : ByteArray), (⟨#[104, 97, 116, 116, 101, 114]⟩ : ByteArray), (⟨#[104, 111, 115, 105, 101, 114]⟩ : ByteArray), (⟨#[109, 101, 114, 99, 101, 114]⟩ : ByteArray), (⟨#[109, 105, 108, 108, 105, 110, 101, 114]⟩ : ByteArray), (⟨#[116, 97, 105, 108, 111, 114]⟩ : ByteArray), (⟨#[116, 97, 110, 110, 101, 114]⟩ : ByteArray)] : List ByteArray))) = some r := h
  clear h
  obtain ⟨y131, hy131⟩ : ∃ y_ : List ByteArray, y_ = (([(⟨#[98, 97, 107, 101, 114]⟩ : ByteArray), (⟨#[98, 97, 107, 101, 114, 115]⟩ : ByteArray), (⟨#[98, 111, 110, 110, 101, 116, 115]⟩ : ByteArray), (⟨#[98, 114, 101, 119, 101, 114]⟩ : ByteArray), (⟨#[98, 114, 117, 115, 104, 101, 115]⟩ : ByteArray), (⟨#[98, 117, 116, 99, 104, 101, 114]⟩ : ByteArray), (⟨#[99, 97, 110, 100, 108, 101, 115]⟩ : ByteArray), (⟨#[99, 111, 111, 112, 101, 114]⟩ : ByteArray), (⟨#[99, 111, 111, 112, 101, 114, 115]⟩ : ByteArray), (⟨#[99, 117, 116, 108, 101, 114]⟩ : ByteArray), (⟨#[104, 97, 116, 116, 101, 114]⟩ : ByteArray), (⟨#[104, 111, 115, 105, 101, 114]⟩ : ByteArray), (⟨#[109, 101, 114, 99, 101, 114]⟩ : ByteArray), (⟨#[109, 105, 108, 108, 105, 110, 101, 114]⟩ : ByteArray), (⟨#[116, 97, 105, 108, 111, 114]⟩ : ByteArray), (⟨#[116, 97, 110, 110, 101, 114]⟩ : ByteArray)] : List ByteArray)) := ⟨_, rfl⟩
  replace H : (some y131) = some r := by first | (rw [hy131]; with_reducible exact H) | (have H2_ := (Option.bind_some _ _).symm.trans H; rw [hy131]; with_reducible exact H2_) | (have H2_ := (Option.bind_some _ _).symm.trans H; with_reducible exact H2_) | with_reducible exact H | (rw [hy131]; exact H) | exact H
  have Ny131 := Aside0.mk hy131
  clear hy131
  obtain rfl := Option.some.inj H
  go_enter Try.func40, Try.ntmps40
  go_wp2_with (first | ((with_reducible refine gate_dst (N := 1) rfl ?_); refine Kd.R_lit Kd.string _ 9 ?hg (N := 1) ?hd (xs := ([(⟨#[98, 97, 107, 101, 114]⟩ : ByteArray), (⟨#[98, 97, 107, 101, 114, 115]⟩ : ByteArray), (⟨#[98, 111, 110, 110, 101, 116, 115]⟩ : ByteArray), (⟨#[98, 114, 101, 119, 101, 114]⟩ : ByteArray), (⟨#[98, 114, 117, 115, 104, 101, 115]⟩ : ByteArray), (⟨#[98, 117, 116, 99, 104, 101, 114]⟩ : ByteArray), (⟨#[99, 97, 110, 100, 108, 101, 115]⟩ : ByteArray), (⟨#[99, 111, 111, 112, 101, 114]⟩ : ByteArray), (⟨#[99, 111, 111, 112, 101, 114, 115]⟩ : ByteArray), (⟨#[99, 117, 116, 108, 101, 114]⟩ : ByteArray), (⟨#[104, 97, 116, 116, 101, 114]⟩ : ByteArray), (⟨#[104, 111, 115, 105, 101, 114]⟩ : ByteArray), (⟨#[109, 101, 114, 99, 101, 114]⟩ : ByteArray), (⟨#[109, 105, 108, 108, 105, 110, 101, 114]⟩ : ByteArray), (⟨#[116, 97, 105, 108, 111, 114]⟩ : ByteArray), (⟨#[116, 97, 110, 110, 101, 114]⟩ : ByteArray)] : List ByteArray)) (inner := [.string (⟨#[98, 97, 107, 101, 114]⟩ : ByteArray), .string (⟨#[98, 97, 107, 101, 114, 115]⟩ : ByteArray), .string (⟨#[98, 111, 110, 110, 101, 116, 115]⟩ : ByteArray), .string (⟨#[98, 114, 101, 119, 101, 114]⟩ : ByteArray), .string (⟨#[98, 114, 117, 115, 104, 101, 115]⟩ : ByteArray), .string (⟨#[98, 117, 116, 99, 104, 101, 114]⟩ : ByteArray), .string (⟨#[99, 97, 110, 100, 108, 101, 115]⟩ : ByteArray), .string (⟨#[99, 111, 111, 112, 101, 114]⟩ : ByteArray), .string (⟨#[99, 111, 111, 112, 101, 114, 115]⟩ : ByteArray), .string (⟨#[99, 117, 116, 108, 101, 114]⟩ : ByteArray), .string (⟨#[104, 97, 116, 116, 101, 114]⟩ : ByteArray), .string (⟨#[104, 111, 115, 105, 101, 114]⟩ : ByteArray), .string (⟨#[109, 101, 114, 99, 101, 114]⟩ : ByteArray), .string (⟨#[109, 105, 108, 108, 105, 110, 101, 114]⟩ : ByteArray), .string (⟨#[116, 97, 105, 108, 111, 114]⟩ : ByteArray), .string (⟨#[116, 97, 110, 110, 101, 114]⟩ : ByteArray)]) (ok := fun _ => True) (okp := fun _ => True) ?hr ?hp (fun _ hk => hk) trivial (Below.refl _ _) (Nat.le_refl _) (by simp) ?_; (case hd => rfl); (case hg => rfl); (case hr => first | (go_simp; done) | (go_simp; rfl)); (case hp => exact (Reps.one (show Kd.M Kd.string _ _ _ (⟨#[98, 97, 107, 101, 114]⟩ : ByteArray) [.string (⟨#[98, 97, 107, 101, 114]⟩ : ByteArray)] from rfl) (Reps.one (show Kd.M Kd.string _ _ _ (⟨#[98, 97, 107, 101, 114, 115]⟩ : ByteArray) [.string (⟨#[98, 97, 107, 101, 114, 115]⟩ : ByteArray)] from rfl) (Reps.one (show Kd.M Kd.string _ _ _ (⟨#[98, 111, 110, 110, 101, 116, 115]⟩ : ByteArray) [.string (⟨#[98, 111, 110, 110, 101, 116, 115]⟩ : ByteArray)] from rfl) (Reps.one (show Kd.M Kd.string _ _ _ (⟨#[98, 114, 101, 119, 101, 114]⟩ : ByteArray) [.string (⟨#[98, 114, 101, 119, 101, 114]⟩ : ByteArray)] from rfl) (Reps.one (show Kd.M Kd.string _ _ _ (⟨#[98, 114, 117, 115, 104, 101, 115]⟩ : ByteArray) [.string (⟨#[98, 114, 117, 115, 104, 101, 115]⟩ : ByteArray)] from rfl) (Reps.one (show Kd.M Kd.string _ _ _ (⟨#[98, 117, 116, 99, 104, 101, 114]⟩ : ByteArray) [.string (⟨#[98, 117, 116, 99, 104, 101, 114]⟩ : ByteArray)] from rfl) (Reps.one (show Kd.M Kd.string _ _ _ (⟨#[99, 97, 110, 100, 108, 101, 115]⟩ : ByteArray) [.string (⟨#[99, 97, 110, 100, 108, 101, 115]⟩ : ByteArray)] from rfl) (Reps.one (show Kd.M Kd.string _ _ _ (⟨#[99, 111, 111, 112, 101, 114]⟩ : ByteArray) [.string (⟨#[99, 111, 111, 112, 101, 114]⟩ : ByteArray)] from rfl) (Reps.one (show Kd.M Kd.string _ _ _ (⟨#[99, 111, 111, 112, 101, 114, 115]⟩ : ByteArray) [.string (⟨#[99, 111, 111, 112, 101, 114, 115]⟩ : ByteArray)] from rfl) (Reps.one (show Kd.M Kd.string _ _ _ (⟨#[99, 117, 116, 108, 101, 114]⟩ : ByteArray) [.string (⟨#[99, 117, 116, 108, 101, 114]⟩ : ByteArray)] from rfl) (Reps.one (show Kd.M Kd.string _ _ _ (⟨#[104, 97, 116, 116, 101, 114]⟩ : ByteArray) [.string (⟨#[104, 97, 116, 116, 101, 114]⟩ : ByteArray)] from rfl) (Reps.one (show Kd.M Kd.string _ _ _ (⟨#[104, 111, 115, 105, 101, 114]⟩ : ByteArray) [.string (⟨#[104, 111, 115, 105, 101, 114]⟩ : ByteArray)] from rfl) (Reps.one (show Kd.M Kd.string _ _ _ (⟨#[109, 101, 114, 99, 101, 114]⟩ : ByteArray) [.string (⟨#[109, 101, 114, 99, 101, 114]⟩ : ByteArray)] from rfl) (Reps.one (show Kd.M Kd.string _ _ _ (⟨#[109, 105, 108, 108, 105, 110, 101, 114]⟩ : ByteArray) [.string (⟨#[109, 105, 108, 108, 105, 110, 101, 114]⟩ : ByteArray)] from rfl) (Reps.one (show Kd.M Kd.string _ _ _ (⟨#[116, 97, 105, 108, 111, 114]⟩ : ByteArray) [.string (⟨#[116, 97, 105, 108, 111, 114]⟩ : ByteArray)] from rfl) (Reps.one (show Kd.M Kd.string _ _ _ (⟨#[116, 97, 110, 110, 101, 114]⟩ : ByteArray) [.string (⟨#[116, 97, 110, 110, 101, 114]⟩ : ByteArray)] from rfl) (Reps.none _ _)))))))))))))))))); intro v132 w1 ho2 hb hg_ hnew_; clear hg_ hnew_; (first | rw [← Ny131.out] at ho2 | (simp only [Int.reduceToNat] at ho2; rw [← Ny131.out] at ho2)); have n0_ := Aside0.mk (Kd.R_lower ho2 (below_size (by repeat (first | (with_reducible first | exact HB.out | apply below_alloc | apply pw_below_drewN | apply below_drew1) | exact HB.out)))); have n1_ := Aside0.mk (below_step (by repeat (first | (with_reducible first | exact HB.out | apply below_alloc | apply pw_below_drewN | apply below_drew1) | exact HB.out)) hb); clear HB; have HO133 := n0_; have HB := n1_; clear n0_ n1_; clear hb ho2))
  go_ret
  exact ⟨_, by first | rfl | (simp [errW_none, errW_some] <;> rfl) | (simp [*, errW_none, errW_some] <;> rfl), by (with_reducible repeat (first | apply Kd.R_alloc | apply Kd.R_drewN | apply Kd.R_drew)); exact HO133.out, by repeat (first | (with_reducible first | exact HB.out | apply below_alloc | apply pw_below_drewN | apply below_drew1) | exact HB.out)⟩

/-! ### wayzgoosekit_Dice_Once: function 41 -/
def wayzgoosekit_Dice_Once.f (s0_0 : List Int) (s0_1 : Int) (s0_2 : Int) (a1 : Int) : Option (Bool × Int × Int) := (wayzgoosekit_Dice_To.f s0_0 s0_1 s0_2 (wrap64 (a1 - 1))).bind fun bt134 => (some ((bt134.1 == 0), bt134.2.1, bt134.2.2))
set_option maxHeartbeats 8000000 in
set_option maxRecDepth 100000 in
theorem wayzgoosekit_Dice_Once.calls (g : Nat) (s0_0 : List Int) (s0_1 : Int) (s0_2 : Int) (a1 : Int) (r1 : Bool) (r2 : Int) (r3 : Int) (w0 w : World) (hI : IsS72 w0 w g s0_0 s0_1 s0_2) (hB : Below w0.heap.size w0 w) (h : wayzgoosekit_Dice_Once.f s0_0 s0_1 s0_2 a1 = some (r1, r2, r3)) :
    Calls Try.prog 41 #[.pointer (some ⟨g, 0, none⟩), .int .i64 a1] w fun e w' => e = .returned (.bool r1) ∧ IsS72 w0 w' g s0_0 r2 r3 ∧ Below w0.heap.size w0 w' ∧ KeepBut w w' g none := by
  have HI0 := Aside0.mk hI
  have HK := Aside0.mk (KeepBut.refl w g none)
  have HL := Aside0.mk hB.size
  clear hI
  have HW0 := Aside0.mk hB.size
  have HB := Aside0.mk hB
  clear hB
  have H : ((wayzgoosekit_Dice_To.f s0_0 s0_1 s0_2 (wrap64 (a1 - 1))).bind fun bt134 => (some ((bt134.1 == 0), bt134.2.1, bt134.2.2))) = some (r1, r2, r3) := h
  clear h
  replace H := Option.bind_eq_some_iff.mp H
  obtain ⟨⟨t134, t135, t136⟩, A30, H⟩ := H
  replace H : (some ((t134 == 0), t135, t136)) = some (r1, r2, r3) := H
  have A3 := Aside0.mk A30
  clear A30
  simp only [Option.some.injEq, Prod.mk.injEq] at H
  obtain ⟨rfl, rfl, rfl⟩ := H
  go_enter Try.func41, Try.ntmps41
  go_wp2_with (first | ((with_reducible refine gate_callee (f := 32) rfl ?_); refine goesL_ (some 8) rfl rfl Try.func32 (by kernel_rfl) rfl #[.pointer (some ⟨g, 0, none⟩), .int .i64 (wrap64 (a1 - 1))] rfl (by (try simp only [List.map_toArray, List.map_cons, List.map_nil]); first | done | rfl | (simp only [List.length_drop, List.length_take]; rfl)) ?_; (with_reducible refine (wayzgoosekit_Dice_To.calls g s0_0 s0_1 s0_2 (wrap64 (a1 - 1)) t134 t135 t136 w0 _ ?side1 ?side2 A3.out).mono ?_); (case side1 => repeat (first | (with_reducible first | exact HI0.out | apply IsS72.alloc | apply IsS72.drewN | apply IsS72.drew | apply IsS72.set_1 | apply IsS72.set_2) | exact HI0.out)); (case side2 => repeat (first | (with_reducible first | exact HB.out | apply below_alloc | apply pw_below_drewN | apply below_drew1 | refine below_set ?_ (IsS72.ge HI0.out)) | exact HB.out)); rintro e w4 ⟨rfl, hi, hb, hk⟩; refine ⟨_, rfl, ?_⟩; have n0_ := Aside0.mk (KeepBut.trans (by repeat (first | (with_reducible first | exact HK.out | apply KeepBut.set_ | apply keep_drewN | apply keep_drew | apply keep_alloc) | exact HK.out)) hk (.inl rfl)); have n1_ := Aside0.mk (hb); have n2_ := Aside0.mk (hi); clear HK; clear HB; clear HI0; have HK := n0_; have HB := n1_; have HI0 := n2_; clear n0_ n1_ n2_; (try clear hb); (try clear hb2); (try clear hk); (try clear hi)))
  go_ret
  exact ⟨by first | rfl | (simp [errW_none, errW_some] <;> rfl) | (simp [*, errW_none, errW_some] <;> rfl), by repeat (first | (with_reducible first | exact HI0.out | apply IsS72.alloc | apply IsS72.drewN | apply IsS72.drew | apply IsS72.set_1 | apply IsS72.set_2) | exact HI0.out), by repeat (first | (with_reducible first | exact HB.out | apply below_alloc | apply pw_below_drewN | apply below_drew1 | refine below_set ?_ (IsS72.ge HI0.out)) | exact HB.out), by repeat (first | (with_reducible first | exact HK.out | apply KeepBut.set_ | apply keep_drewN | apply keep_drew | apply keep_alloc) | exact HK.out)⟩

end Go.Proofs.Ytfbimhnlcmdcpaa.Pa
namespace Go.Proofs.Ytfbimhnlcmdcpaa.Pa
open Go.RowKit Go.Proofs.YtfbimhnlcmdcpaaW.PrintWords Go.Proofs.YtfbimhnlcmdcpaaW.PrintLast Go.Proofs.YtfbimhnlcmdcpaaW.PrintMore
attribute [local go_sem] max2_int min2_int max_two min_two max_three min_three max_four min_four   -- for this text's walks alone
set_option linter.unusedVariables false
set_option linter.unusedSimpArgs false


/-! ### wayzgoosekit_TradesOf: function 13 -/
mutual
def wayzgoosekit_TradesOf.l0 : Nat → Int → List Int → Int → List Int → Int → Int → List (S51) → Option ((List (S51)) × (List (S39)) × Int × Int)
  | 0, _, _, _, _, _, _, _ => none
  | k + 1, x2, x8, x9, x1000, x1001, x1002, x139000 => if x9 > 0 then ((wayzgoosekit_sorts.f).bind fun t150 => (if 0 ≤ (x139000.length : Int) then (if (x139000.length : Int) < (x8.length : Int) then (if 0 ≤ (rd x8 (x139000.length : Int)) then (if (rd x8 (x139000.length : Int)) < (t150.length : Int) then ((wayzgoosekit_Dice_From.f x1000 x1001 x1002 (-1) (wrap64 ((x139000.length : Int) - 1))).bind fun bt155 => (if x139000.length < 5864062014805 then (wayzgoosekit_TradesOf.l0 k x2 x8 (wrap64 (x9 - 1)) x1000 bt155.2.1 bt155.2.2 (x139000 ++ [(⟨rdOf ByteArray.empty t150 (rd x8 (x139000.length : Int)), bt155.1⟩ : S51)])) else (none))) else (none)) else (none)) else (none)) else (none))) else ((wayzgoosekit_callings.f).bind fun t161 => ((wayzgoosekit_Dice_To.f x1000 x1001 x1002 x2).bind fun bt164 => ((wayzgoosekit_partOf.f k x1000 bt164.2.1 bt164.2.2 (t161.length : Int) bt164.1).bind fun bt167 => (wayzgoosekit_TradesOf.l1 k bt167.1 (bt167.1.length : Int) 0 x1000 bt167.2.1 bt167.2.2 x139000 ([] : List (S39))))))
def wayzgoosekit_TradesOf.l1 : Nat → List Int → Int → Int → List Int → Int → Int → List (S51) → List (S39) → Option ((List (S51)) × (List (S39)) × Int × Int)
  | 0, _, _, _, _, _, _, _, _ => none
  | k + 1, x10, x11, x12, x1000, x1001, x1002, x139000, x139001 => if x12 < x11 then ((wayzgoosekit_callings.f).bind fun t172 => (if 0 ≤ x12 then (if x12 < (x10.length : Int) then (if 0 ≤ (rd x10 x12) then (if (rd x10 x12) < (t172.length : Int) then ((wayzgoosekit_Dice_To.f x1000 x1001 x1002 (wrap64 ((x139000.length : Int) - 1))).bind fun bt177 => (if x11 > 1 then ((wayzgoosekit_Dice_Once.f x1000 bt177.2.1 bt177.2.2 3).bind fun bt181 => (wayzgoosekit_TradesOf.j2 k x10 x11 x12 bt181.1 x1000 bt181.2.1 bt181.2.2 x139000 x139001 (rdOf ByteArray.empty t172 (rd x10 x12)) bt177.1 (-1))) else (wayzgoosekit_TradesOf.j2 k x10 x11 x12 false x1000 bt177.2.1 bt177.2.2 x139000 x139001 (rdOf ByteArray.empty t172 (rd x10 x12)) bt177.1 (-1)))) else (none)) else (none)) else (none)) else (none))) else (some (x139000, x139001, x1001, x1002))
def wayzgoosekit_TradesOf.j2 : Nat → List Int → Int → Int → Bool → List Int → Int → Int → List (S51) → List (S39) → ByteArray → Int → Int → Option ((List (S51)) × (List (S39)) × Int × Int)
  | 0, _, _, _, _, _, _, _, _, _, _, _, _ => none
  | k + 1, x10, x11, x12, x80, x1000, x1001, x1002, x139000, x139001, x181000, x181001, x181002 => if x80 = true then ((wayzgoosekit_Dice_To.f x1000 x1001 x1002 (wrap64 (x11 - 2))).bind fun bt184 => (if x11 = 0 then (none) else (if x139001.length < 2513169434916 then (wayzgoosekit_TradesOf.l1 k x10 x11 (wrap64 (x12 + 1)) x1000 bt184.2.1 bt184.2.2 x139000 (x139001 ++ [(⟨x181000, (-1), Int.tmod (wrap64 ((wrap64 (x12 + 1)) + bt184.1)) x11, ([] : List Int)⟩ : S39)])) else (none)))) else (wayzgoosekit_TradesOf.l2 k x10 x11 x12 0 x1000 x1001 x1002 x139000 x139001 x181000 x181001 x181002 ([] : List Int))
def wayzgoosekit_TradesOf.l2 : Nat → List Int → Int → Int → Int → List Int → Int → Int → List (S51) → List (S39) → ByteArray → Int → Int → List Int → Option ((List (S51)) × (List (S39)) × Int × Int)
  | 0, _, _, _, _, _, _, _, _, _, _, _, _, _ => none
  | k + 1, x10, x11, x12, x14, x1000, x1001, x1002, x139000, x139001, x181000, x181001, x181002, x181003 => if x14 < x11 then (if x14 = x12 then (wayzgoosekit_TradesOf.l2 k x10 x11 x12 (wrap64 (x14 + 1)) x1000 x1001 x1002 x139000 x139001 x181000 x181001 x181002 x181003) else ((wayzgoosekit_Dice_Once.f x1000 x1001 x1002 4).bind fun bt190 => (if bt190.1 = true then (if x181003.length < 17592186044416 then (wayzgoosekit_TradesOf.l2 k x10 x11 x12 (wrap64 (x14 + 1)) x1000 bt190.2.1 bt190.2.2 x139000 x139001 x181000 x181001 x181002 (x181003 ++ [x14])) else (none)) else (wayzgoosekit_TradesOf.l2 k x10 x11 x12 (wrap64 (x14 + 1)) x1000 bt190.2.1 bt190.2.2 x139000 x139001 x181000 x181001 x181002 x181003)))) else (if (x181003.length : Int) > 0 then ((wayzgoosekit_Dice_Once.f x1000 x1001 x1002 4).bind fun bt196 => (if bt196.1 = true then (if x139001.length < 2513169434916 then (wayzgoosekit_TradesOf.l1 k x10 x11 (wrap64 (x12 + 1)) x1000 bt196.2.1 bt196.2.2 x139000 (x139001 ++ [(⟨x181000, (-1), x181002, x181003⟩ : S39)])) else (none)) else (if x139001.length < 2513169434916 then (wayzgoosekit_TradesOf.l1 k x10 x11 (wrap64 (x12 + 1)) x1000 bt196.2.1 bt196.2.2 x139000 (x139001 ++ [(⟨x181000, x181001, x181002, x181003⟩ : S39)])) else (none)))) else (if x139001.length < 2513169434916 then (wayzgoosekit_TradesOf.l1 k x10 x11 (wrap64 (x12 + 1)) x1000 x1001 x1002 x139000 (x139001 ++ [(⟨x181000, x181001, x181002, x181003⟩ : S39)])) else (none)))
end
def wayzgoosekit_TradesOf.f (k : Nat) (s0_0 : List Int) (s0_1 : Int) (s0_2 : Int) (a1 : Int) (a2 : Int) : Option ((List (S51)) × (List (S39)) × Int × Int) := (wayzgoosekit_sorts.f).bind fun t139 => ((wayzgoosekit_Dice_Order.f k s0_0 s0_1 s0_2 (t139.length : Int)).bind fun bt142 => ((wayzgoosekit_Dice_From.f s0_0 bt142.2.1 bt142.2.2 1 a1).bind fun bt147 => (wayzgoosekit_TradesOf.l0 k a2 bt142.1 bt147.1 s0_0 bt147.2.1 bt147.2.2 ([] : List (S51)))))
theorem wayzgoosekit_TradesOf.mono_l : ∀ k, (∀ y0 y1 y2 y3 y4 y5 y6, LeO (wayzgoosekit_TradesOf.l0 k y0 y1 y2 y3 y4 y5 y6) (wayzgoosekit_TradesOf.l0 (k + 1) y0 y1 y2 y3 y4 y5 y6)) ∧ (∀ y0 y1 y2 y3 y4 y5 y6 y7, LeO (wayzgoosekit_TradesOf.l1 k y0 y1 y2 y3 y4 y5 y6 y7) (wayzgoosekit_TradesOf.l1 (k + 1) y0 y1 y2 y3 y4 y5 y6 y7)) ∧ (∀ y0 y1 y2 y3 y4 y5 y6 y7 y8 y9 y10 y11, LeO (wayzgoosekit_TradesOf.j2 k y0 y1 y2 y3 y4 y5 y6 y7 y8 y9 y10 y11) (wayzgoosekit_TradesOf.j2 (k + 1) y0 y1 y2 y3 y4 y5 y6 y7 y8 y9 y10 y11)) ∧ (∀ y0 y1 y2 y3 y4 y5 y6 y7 y8 y9 y10 y11 y12, LeO (wayzgoosekit_TradesOf.l2 k y0 y1 y2 y3 y4 y5 y6 y7 y8 y9 y10 y11 y12) (wayzgoosekit_TradesOf.l2 (k + 1) y0 y1 y2 y3 y4 y5 y6 y7 y8 y9 y10 y11 y12))
  | 0 => ⟨fun _ _ _ _ _ _ _ r h => by simp [wayzgoosekit_TradesOf.l0] at h, fun _ _ _ _ _ _ _ _ r h => by simp [wayzgoosekit_TradesOf.l1] at h, fun _ _ _ _ _ _ _ _ _ _ _ _ r h => by simp [wayzgoosekit_TradesOf.j2] at h, fun _ _ _ _ _ _ _ _ _ _ _ _ _ r h => by simp [wayzgoosekit_TradesOf.l2] at h⟩
  | k + 1 => by
    obtain ⟨ih0, ih1, ih2, ih3⟩ := wayzgoosekit_TradesOf.mono_l k
    refine ⟨?_, ?_, ?_, ?_⟩
    · intro y0 y1 y2 y3 y4 y5 y6
      unfold wayzgoosekit_TradesOf.l0
      repeat' first
      | (with_reducible exact ih0 _ _ _ _ _ _ _)
      | (with_reducible exact ih1 _ _ _ _ _ _ _ _)
      | (with_reducible exact ih2 _ _ _ _ _ _ _ _ _ _ _ _)
      | (with_reducible exact ih3 _ _ _ _ _ _ _ _ _ _ _ _ _)
      | (with_reducible exact wayzgoosekit_Dice_Order.mono _ _ _ _ _)
      | (with_reducible exact wayzgoosekit_partOf.mono _ _ _ _ _ _)
      | (with_reducible exact LeO.refl _)
      | (with_reducible exact LeO.none _)
      | (with_reducible refine LeO.ite ?_ ?_)
      | (with_reducible refine LeO.bind ?_ (fun _ => ?_))
      | exact ih0 _ _ _ _ _ _ _
      | exact ih1 _ _ _ _ _ _ _ _
      | exact ih2 _ _ _ _ _ _ _ _ _ _ _ _
      | exact ih3 _ _ _ _ _ _ _ _ _ _ _ _ _
      | exact wayzgoosekit_Dice_Order.mono _ _ _ _ _
      | exact wayzgoosekit_partOf.mono _ _ _ _ _ _
      | exact LeO.none _
      | refine LeO.ite ?_ ?_
      | refine LeO.bind ?_ (fun _ => ?_)
    · intro y0 y1 y2 y3 y4 y5 y6 y7
      unfold wayzgoosekit_TradesOf.l1
      repeat' first
      | (with_reducible exact ih0 _ _ _ _ _ _ _)
      | (with_reducible exact ih1 _ _ _ _ _ _ _ _)
      | (with_reducible exact ih2 _ _ _ _ _ _ _ _ _ _ _ _)
      | (with_reducible exact ih3 _ _ _ _ _ _ _ _ _ _ _ _ _)
      | (with_reducible exact wayzgoosekit_Dice_Order.mono _ _ _ _ _)
      | (with_reducible exact wayzgoosekit_partOf.mono _ _ _ _ _ _)
      | (with_reducible exact LeO.refl _)
      | (with_reducible exact LeO.none _)
      | (with_reducible refine LeO.ite ?_ ?_)
      | (with_reducible refine LeO.bind ?_ (fun _ => ?_))
      | exact ih0 _ _ _ _ _ _ _
      | exact ih1 _ _ _ _ _ _ _ _
      | exact ih2 _ _ _ _ _ _ _ _ _ _ _ _
      | exact ih3 _ _ _ _ _ _ _ _ _ _ _ _ _
      | exact wayzgoosekit_Dice_Order.mono _ _ _ _ _
      | exact wayzgoosekit_partOf.mono _ _ _ _ _ _
      | exact LeO.none _
      | refine LeO.ite ?_ ?_
      | refine LeO.bind ?_ (fun _ => ?_)
    · intro y0 y1 y2 y3 y4 y5 y6 y7 y8 y9 y10 y11
      unfold wayzgoosekit_TradesOf.j2
      repeat' first
      | (with_reducible exact ih0 _ _ _ _ _ _ _)
      | (with_reducible exact ih1 _ _ _ _ _ _ _ _)
      | (with_reducible exact ih2 _ _ _ _ _ _ _ _ _ _ _ _)
      | (with_reducible exact ih3 _ _ _ _ _ _ _ _ _ _ _ _ _)
      | (with_reducible exact wayzgoosekit_Dice_Order.mono _ _ _ _ _)
      | (with_reducible exact wayzgoosekit_partOf.mono _ _ _ _ _ _)
      | (with_reducible exact LeO.refl _)
      | (with_reducible exact LeO.none _)
      | (with_reducible refine LeO.ite ?_ ?_)
      | (with_reducible refine LeO.bind ?_ (fun _ => ?_))
      | exact ih0 _ _ _ _ _ _ _
      | exact ih1 _ _ _ _ _ _ _ _
      | exact ih2 _ _ _ _ _ _ _ _ _ _ _ _
      | exact ih3 _ _ _ _ _ _ _ _ _ _ _ _ _
      | exact wayzgoosekit_Dice_Order.mono _ _ _ _ _
      | exact wayzgoosekit_partOf.mono _ _ _ _ _ _
      | exact LeO.none _
      | refine LeO.ite ?_ ?_
      | refine LeO.bind ?_ (fun _ => ?_)
    · intro y0 y1 y2 y3 y4 y5 y6 y7 y8 y9 y10 y11 y12
      unfold wayzgoosekit_TradesOf.l2
      repeat' first
      | (with_reducible exact ih0 _ _ _ _ _ _ _)
      | (with_reducible exact ih1 _ _ _ _ _ _ _ _)
      | (with_reducible exact ih2 _ _ _ _ _ _ _ _ _ _ _ _)
      | (with_reducible exact ih3 _ _ _ _ _ _ _ _ _ _ _ _ _)
      | (with_reducible exact wayzgoosekit_Dice_Order.mono _ _ _ _ _)
      | (with_reducible exact wayzgoosekit_partOf.mono _ _ _ _ _ _)
      | (with_reducible exact LeO.refl _)
      | (with_reducible exact LeO.none _)
      | (with_reducible refine LeO.ite ?_ ?_)
      | (with_reducible refine LeO.bind ?_ (fun _ => ?_))
      | exact ih0 _ _ _ _ _ _ _
      | exact ih1 _ _ _ _ _ _ _ _
      | exact ih2 _ _ _ _ _ _ _ _ _ _ _ _
      | exact ih3 _ _ _ _ _ _ _ _ _ _ _ _ _
      | exact wayzgoosekit_Dice_Order.mono _ _ _ _ _
      | exact wayzgoosekit_partOf.mono _ _ _ _ _ _
      | exact LeO.none _
      | refine LeO.ite ?_ ?_
      | refine LeO.bind ?_ (fun _ => ?_)
theorem wayzgoosekit_TradesOf.mono : ∀ a0 a1 a2 a3 a4 k, LeO (wayzgoosekit_TradesOf.f k a0 a1 a2 a3 a4) (wayzgoosekit_TradesOf.f (k + 1) a0 a1 a2 a3 a4) := by
  intro a0 a1 a2 a3 a4 k
  obtain ⟨ih0, ih1, ih2, ih3⟩ := wayzgoosekit_TradesOf.mono_l k
  unfold wayzgoosekit_TradesOf.f
  repeat' first
      | (with_reducible exact ih0 _ _ _ _ _ _ _)
      | (with_reducible exact ih1 _ _ _ _ _ _ _ _)
      | (with_reducible exact ih2 _ _ _ _ _ _ _ _ _ _ _ _)
      | (with_reducible exact ih3 _ _ _ _ _ _ _ _ _ _ _ _ _)
      | (with_reducible exact wayzgoosekit_Dice_Order.mono _ _ _ _ _)
      | (with_reducible exact wayzgoosekit_partOf.mono _ _ _ _ _ _)
      | (with_reducible exact LeO.refl _)
      | (with_reducible exact LeO.none _)
      | (with_reducible refine LeO.ite ?_ ?_)
      | (with_reducible refine LeO.bind ?_ (fun _ => ?_))
      | exact ih0 _ _ _ _ _ _ _
      | exact ih1 _ _ _ _ _ _ _ _
      | exact ih2 _ _ _ _ _ _ _ _ _ _ _ _
      | exact ih3 _ _ _ _ _ _ _ _ _ _ _ _ _
      | exact wayzgoosekit_Dice_Order.mono _ _ _ _ _
      | exact wayzgoosekit_partOf.mono _ _ _ _ _ _
      | exact LeO.none _
      | refine LeO.ite ?_ ?_
      | refine LeO.bind ?_ (fun _ => ?_)
end Go.Proofs.Ytfbimhnlcmdcpaa.Pa
/- The contract of TradesOf: trades made of numbers. -/
namespace Go.Proofs.Ytfbimhnlcmdcpaa.Pa
open Go.RowKit Go.Proofs.YtfbimhnlcmdcpaaW.PrintWords Go.Proofs.YtfbimhnlcmdcpaaW.PrintLast Go.Proofs.YtfbimhnlcmdcpaaW.PrintMore
attribute [local go_sem] max2_int min2_int max_two min_two max_three min_three max_four min_four
set_option linter.unusedVariables false
set_option linter.unusedSimpArgs false

theorem infoI : (Try.prog.info? 3).map (fun i => (i.zero, i.size, i.bytes)) = some (some (.int .i64 0), 1, 8) := by kernel_rfl
/-- A row of numbers stored into a heading. -/
theorem also_put {W : World} {hb base : Nat} {ok : Nat → Prop} {x0 x1 x2 x3 v : Value} {l : List Int} (hk : W.heap[hb]? = some (.cells #[x0, x1, x2, x3] 39 (0, 0))) (hR : Kd.R (Kd.int .i64) 3 W base ok v l) :
    (W.setCell ⟨hb, 3, none⟩ v).heap[hb]? = some (.cells #[x0, x1, x2, v] 39 (0, 0)) ∧ Kd.R (Kd.int .i64) 3 (W.setCell ⟨hb, 3, none⟩ v) base ok v l :=
  ⟨blk_put hk 3 v rfl, Kd.R_mono (Kd.R_far (p := ⟨hb, 3, none⟩) (Kd.R_types hR hk (by decide)) (fun _ h => h.2) v) (fun _ h => h.1)⟩
/-- The state of TradesOf: dice at block g, the result's variable at r, the trades being made at b, numbers vw; all of it below block n. -/
structure TT (w0 w W : World) (g r b : Nat) (lst : List Int) (a s : Int) (vc vh vw : Value) (cs : List (S51)) (hs : List (S39)) (ws : List Int) (n : Nat) : Prop where
  mk ::
  gl : g < w.heap.size
  rl : w.heap.size ≤ r
  bw : w.heap.size ≤ b
  rn : r < n
  bn : b < n
  rb : r ≠ b
  nW : n ≤ W.heap.size
  wl : w0.heap.size ≤ w.heap.size
  box : W.heap[r]? = some (.cells #[.slice none 0 0, .slice none 0 0] 26 (0, 0))
  tt : W.heap[b]? = some (.cells #[vc, vh] 26 (0, 0))
  hc : Kd.R k51 51 W w.heap.size (fun k => k < n ∧ k ≠ g) vc cs
  hh : Kd.S k39 39 W w.heap.size (fun k => k < n ∧ k ≠ g) vh hs
  hw : Kd.R (Kd.int .i64) 3 W w.heap.size (fun k => k < n ∧ k ≠ g) vw ws
  di : IsS72 w0 W g lst a s
  bl : Below w0.heap.size w0 W
  kp : KeepBut w W g none
section
variable {w0 w W W1 : World} {g r b n : Nat} {lst : List Int} {a s a' s' : Int} {vc vh vw : Value} {cs : List (S51)} {hs : List (S39)} {ws : List Int}
theorem TT.step (h : TT w0 w W g r b lst a s vc vh vw cs hs ws n) (hm : ∀ k, k < n → k ≠ g → W1.heap[k]? = W.heap[k]?) (hz : W.heap.size ≤ W1.heap.size) (hdi : IsS72 w0 W1 g lst a' s') (hbl : Below w0.heap.size w0 W1) (hkp : KeepBut w W1 g none) : TT w0 w W1 g r b lst a' s' vc vh vw cs hs ws n :=
  ⟨h.gl, h.rl, h.bw, h.rn, h.bn, h.rb, Nat.le_trans h.nW hz, h.wl, (hm r h.rn (by have := h.gl; have := h.rl; omega)).trans h.box, (hm b h.bn (by have := h.gl; have := h.bw; omega)).trans h.tt,
    Kd.R_step h.hc (fun k hk _ => hm k hk.1 hk.2), Kd.S_step h.hh (fun k hk _ => hm k hk.1 hk.2), Kd.R_step h.hw (fun k hk _ => hm k hk.1 hk.2), hdi, hbl, hkp⟩
theorem TT.gn (h : TT w0 w W g r b lst a s vc vh vw cs hs ws n) : g < n := by have := h.gl; have := h.rl; have := h.rn; omega
theorem TT.wn (h : TT w0 w W g r b lst a s vc vh vw cs hs ws n) : w.heap.size ≤ n := by have := h.rl; have := h.rn; omega
theorem TT.below (h : TT w0 w W g r b lst a s vc vh vw cs hs ws n) (hb : Below n W W1) : TT w0 w W1 g r b lst a s vc vh vw cs hs ws n := by
  refine h.step (fun k hk _ => hb.block k hk) hb.size ?_ (below_weaken h.bl (Nat.le_trans h.wl h.wn) hb) ⟨Nat.le_trans h.kp.1 hb.size, fun i hi hg hr => (hb.block i (Nat.lt_of_lt_of_le hi h.wn)).trans (h.kp.2 i hi hg hr)⟩
  obtain ⟨A0, c0, h1, h2, h3⟩ := h.di
  exact ⟨A0, c0, (hb.block g h.gn).trans h1, h2, h3⟩
theorem TT.all (h : TT w0 w W g r b lst a s vc vh vw cs hs ws n) (hb : Below W.heap.size W W1) : TT w0 w W1 g r b lst a s vc vh vw cs hs ws n := h.below (hb.mono h.nW)
theorem TT.dice (h : TT w0 w W g r b lst a s vc vh vw cs hs ws n) (hdi : IsS72 w0 W1 g lst a' s') (hbl : Below w0.heap.size w0 W1) (hkp : KeepBut W W1 g none) : TT w0 w W1 g r b lst a' s' vc vh vw cs hs ws n :=
  h.step (fun k hk hg => hkp.2 k (Nat.lt_of_lt_of_le hk h.nW) hg (by simp)) hkp.1 hdi hbl (h.kp.trans hkp (.inl rfl))
theorem TT.renew {m : Nat} (h : TT w0 w W g r b lst a s vc vh vw cs hs ws n) (hm : n ≤ m) (hW : m ≤ W.heap.size) : TT w0 w W g r b lst a s vc vh vw cs hs ws m :=
  ⟨h.gl, h.rl, h.bw, Nat.lt_of_lt_of_le h.rn hm, Nat.lt_of_lt_of_le h.bn hm, h.rb, hW, h.wl, h.box, h.tt, Kd.R_mono h.hc (fun k hk => ⟨Nat.lt_of_lt_of_le hk.1 hm, hk.2⟩), Kd.S_mono h.hh (fun k hk => ⟨Nat.lt_of_lt_of_le hk.1 hm, hk.2⟩), Kd.R_mono h.hw (fun k hk => ⟨Nat.lt_of_lt_of_le hk.1 hm, hk.2⟩), h.di, h.bl, h.kp⟩
/-- Other numbers at hand. -/
theorem TT.row {v : Value} {xs : List Int} (h : TT w0 w W g r b lst a s vc vh vw cs hs ws n) (hR : Kd.R (Kd.int .i64) 3 W w.heap.size (fun _ => True) v xs) : TT w0 w W g r b lst a s vc vh v cs hs xs W.heap.size := by
  have h2 := h.renew h.nW (Nat.le_refl _)
  have h1 := IsS72.apart h.di (Kd.R_bound hR) (by decide)
  exact ⟨h2.gl, h2.rl, h2.bw, h2.rn, h2.bn, h2.rb, h2.nW, h2.wl, h2.box, h2.tt, h2.hc, h2.hh, Kd.R_mono h1 (fun k hk => ⟨hk.1.2.2.1, hk.2⟩), h2.di, h2.bl, h2.kp⟩
/-- What the loads of TradesOf's statements read. -/
theorem TT.loads {ad : Addr} {cw : Nat} (h : TT w0 w W g r b lst a s vc vh (.slice (some ad) ws.length cw) cs hs ws n) {i : Int} (h0 : 0 ≤ i) (h1 : i < ws.length) : W.cell? ⟨b, 0, none⟩ = some vc ∧ W.cell? (ad.add i.toNat) = some (.int .i64 (rd ws i)) := by
  refine ⟨(blk_cell h.tt 0).trans rfl, ?_⟩
  obtain ⟨ad', e, hx⟩ := Kd.at_int (Kd.R_reads' h.hw).2.2 i h0 h1
  cases e
  exact hx
theorem TT.strs {W2 : World} {ads : Addr} {n2 c2 : Nat} {so : List ByteArray} {base : Nat} {ok : Nat → Prop} (h : TT w0 w W g r b lst a s vc vh vw cs hs ws n) (hR : Kd.R Kd.string 9 W base ok (.slice (some ads) n2 c2) so) (hk : KeepBut W W2 g none) {i : Int} (h0 : 0 ≤ i) (h1 : i < so.length) : W2.cell? (ads.add i.toNat) = some (.string (rdOf ByteArray.empty so i)) := by
  have h2 := Kd.R_keep (IsS72.apart h.di hR (by decide)) hk (fun k hk => hk.2)
  obtain ⟨hn, _, hC⟩ := Kd.R_reads' h2
  obtain ⟨ad', e, hx⟩ := Kd.at_string hC i h0 h1
  cases e
  exact hx
/-- What is left when the result is stored. -/
theorem TT.final (h : TT w0 w W g r b lst a s vc vh vw cs hs ws n) :
    ((W.setCell ⟨r, 0, none⟩ vc).setCell ⟨r, 1, none⟩ vh).heap[r]? = some (.cells #[vc, vh] 26 (0, 0)) ∧ Kd.R k51 51 ((W.setCell ⟨r, 0, none⟩ vc).setCell ⟨r, 1, none⟩ vh) w.heap.size (fun _ => True) vc cs ∧ Kd.S k39 39 ((W.setCell ⟨r, 0, none⟩ vc).setCell ⟨r, 1, none⟩ vh) w.heap.size (fun _ => True) vh hs ∧ IsS72 w0 ((W.setCell ⟨r, 0, none⟩ vc).setCell ⟨r, 1, none⟩ vh) g lst a s ∧ Below w0.heap.size w0 ((W.setCell ⟨r, 0, none⟩ vc).setCell ⟨r, 1, none⟩ vh) ∧ KeepBut w ((W.setCell ⟨r, 0, none⟩ vc).setCell ⟨r, 1, none⟩ vh) g none := by
  have hgl := h.gl
  have hrl := h.rl
  have hb1 := blk_put h.box 0 vc (cs' := #[vc, .slice none 0 0]) rfl
  have h0 := Kd.R_far (p := ⟨r, 0, none⟩) (Kd.R_types h.hc h.box (by decide)) (fun k hk => hk.2) vc
  have h1 := Kd.S_far (p := ⟨r, 0, none⟩) (Kd.S_types h.hh h.box (by decide)) (fun k hk => hk.2) vc
  refine ⟨blk_put hb1 1 vh rfl, Kd.R_mono (Kd.R_far (p := ⟨r, 1, none⟩) h0 (fun k hk => hk.2) vh) (fun _ _ => trivial), Kd.S_mono (Kd.S_far (p := ⟨r, 1, none⟩) h1 (fun k hk => hk.2) vh) (fun _ _ => trivial), (h.di.far (by show g ≠ r; omega) _).far (by show g ≠ r; omega) _, below_set (below_set h.bl (Nat.le_trans h.wl hrl)) (Nat.le_trans h.wl hrl), keep_far (keep_far h.kp (by exact hrl) _) (by exact hrl) _⟩
/-- A heading laid and filled. -/
theorem TT.fill {hb : Nat} {x0 x1 x2 x3 : Value} (h : TT w0 w W g r b lst a s vc vh vw cs hs ws n) (hn : n ≤ hb) (hk : W.heap[hb]? = some (.cells #[x0, x1, x2, x3] 39 (0, 0))) (v0 v1 v2 v3 : Value) :
    ((((W.setCell ⟨hb, 0, none⟩ v0).setCell ⟨hb, 1, none⟩ v1).setCell ⟨hb, 2, none⟩ v2).setCell ⟨hb, 3, none⟩ v3).heap[hb]? = some (.cells #[v0, v1, v2, v3] 39 (0, 0)) ∧ TT w0 w ((((W.setCell ⟨hb, 0, none⟩ v0).setCell ⟨hb, 1, none⟩ v1).setCell ⟨hb, 2, none⟩ v2).setCell ⟨hb, 3, none⟩ v3) g r b lst a s vc vh vw cs hs ws n :=
  ⟨blk_put (blk_put (blk_put (blk_put hk 0 v0 (cs' := #[v0, x1, x2, x3]) rfl) 1 v1 (cs' := #[v0, v1, x2, x3]) rfl) 2 v2 (cs' := #[v0, v1, v2, x3]) rfl) 3 v3 rfl,
    h.below (((((Below.refl n W).setCell (p := ⟨hb, 0, none⟩) hn v0).setCell (p := ⟨hb, 1, none⟩) hn v1).setCell (p := ⟨hb, 2, none⟩) hn v2).setCell (p := ⟨hb, 3, none⟩) hn v3)⟩
theorem TT.laid (h : TT w0 w W g r b lst a s vc vh vw cs hs ws n) (cells : Array Value) (t : Nat) : TT w0 w (W.alloc (.cells cells t)) g r b lst a s vc vh vw cs hs ws n ∧ n ≤ W.heap.size ∧ W.heap.size ≠ g ∧ (W.alloc (.cells cells t)).heap[W.heap.size]? = some (.cells cells t (0, 0)) :=
  ⟨h.all ((Below.refl _ _).alloc (Nat.le_refl _) _), h.nW, by have := h.gn; have := h.nW; omega, heap_alloc_new W _⟩
theorem TT.put {hb : Nat} (h : TT w0 w W g r b lst a s vc vh vw cs hs ws n) (hn : n ≤ hb) (j : Nat) (v : Value) : TT w0 w (W.setCell ⟨hb, j, none⟩ v) g r b lst a s vc vh vw cs hs ws n := h.below ((Below.refl n W).setCell (p := ⟨hb, j, none⟩) hn v)
/-- A class more: the row grows (W1), then it is stored. -/
theorem TT.classes {vc' : Value} {cs' : List (S51)} (h : TT w0 w W g r b lst a s vc vh vw cs hs ws n) (hR : Kd.R k51 51 W1 w.heap.size (fun _ => True) vc' cs') (hb : Below w.heap.size W W1) (hg : W.grownBy W1 vc.ownBlock) :
    W1.cell? ⟨b, 0, none⟩ = some vc ∧ W1.frozen? ⟨b, 0, none⟩ = false ∧ TT w0 w (W1.setCell ⟨b, 0, none⟩ vc') g r b lst a s vc' vh vw cs' hs ws W1.heap.size := by
  have hne : ∀ k t cells, W.heap[k]? = some (.cells cells t (0, 0)) → t ≠ 51 → some k ≠ vc.ownBlock := fun k t cells hk ht => Kd.R_ne h.hc hk (Ne.symm ht)
  have htt : W1.heap[b]? = some (.cells #[vc, vh] 26 (0, 0)) := blk_grown h.tt hg (hne b _ _ h.tt (by decide))
  have hbox : W1.heap[r]? = some (.cells #[.slice none 0 0, .slice none 0 0] 26 (0, 0)) := blk_grown h.box hg (hne r _ _ h.box (by decide))
  have hdi : IsS72 w0 W1 g lst a s := IsS72.grown h.di hg (IsS72.own_ne h.di h.hc (by decide))
  have hh1 := Kd.S_over' h.hh (Kd.R_typed h.hc) (by decide) hg
  have hw1 := Kd.R_over' h.hw (Kd.R_typed h.hc) (by decide) hg
  have hbl : Below w0.heap.size w0 W1 := below_weaken h.bl h.wl hb
  have hkp : KeepBut w W1 g none := h.kp.trans (KeepBut.of_grown hg g) (Kd.R_base2 h.hc)
  have hgl := h.gl
  have hbw := h.bw
  have hz : W.heap.size ≤ W1.heap.size := hb.size
  have hS : (W1.setCell ⟨b, 0, none⟩ vc').heap.size = W1.heap.size := by simp [World.setCell]
  have hW := h.nW
  have hbn := h.bn
  have hrn := h.rn
  refine ⟨(blk_cell htt 0).trans rfl, blk_frozen htt 0, ⟨h.gl, h.rl, h.bw, by omega, by omega, h.rb, by rw [hS]; exact Nat.le_refl _, h.wl, ?_, blk_put htt 0 vc' rfl, ?_, ?_, ?_, ?_, ?_, ?_⟩⟩
  · exact blk_far hbox (by exact h.rb) _
  · have h1 := IsS72.apart hdi (Kd.R_bound hR) (by decide)
    have h2 := Kd.R_types h1 htt (by decide)
    exact Kd.R_mono (Kd.R_far (p := ⟨b, 0, none⟩) h2 (fun k hk => hk.2) vc') (fun k hk => ⟨hk.1.1.2.2.1, hk.1.2⟩)
  · have h2 := Kd.S_types hh1 htt (by decide)
    exact Kd.S_mono (Kd.S_far (p := ⟨b, 0, none⟩) h2 (fun k hk => hk.2) vc') (fun k hk => ⟨by have := hk.1.1; omega, hk.1.2⟩)
  · have h2 := Kd.R_types hw1 htt (by decide)
    exact Kd.R_mono (Kd.R_far (p := ⟨b, 0, none⟩) h2 (fun k hk => hk.2) vc') (fun k hk => ⟨by have := hk.1.1; omega, hk.1.2⟩)
  · exact hdi.far (by show g ≠ b; omega) _
  · exact below_set hbl (Nat.le_trans h.wl hbw)
  · exact keep_far hkp (by exact hbw) _
/-- A heading more. -/
theorem TT.heads {vh' : Value} {hs' : List (S39)} (h : TT w0 w W g r b lst a s vc vh vw cs hs ws n) (hR : Kd.S k39 39 W1 w.heap.size (fun _ => True) vh' hs') (hb : Below w.heap.size W W1) (hg : W.grownBy W1 vh.ownBlock) :
    W1.cell? ⟨b, 1, none⟩ = some vh ∧ W1.frozen? ⟨b, 1, none⟩ = false ∧ TT w0 w (W1.setCell ⟨b, 1, none⟩ vh') g r b lst a s vc vh' vw cs hs' ws W1.heap.size := by
  have hne : ∀ k t cells, W.heap[k]? = some (.cells cells t (0, 0)) → t ≠ 39 → some k ≠ vh.ownBlock := fun k t cells hk ht => Kd.S_ne h.hh hk (Ne.symm ht)
  have htt : W1.heap[b]? = some (.cells #[vc, vh] 26 (0, 0)) := blk_grown h.tt hg (hne b _ _ h.tt (by decide))
  have hbox : W1.heap[r]? = some (.cells #[.slice none 0 0, .slice none 0 0] 26 (0, 0)) := blk_grown h.box hg (hne r _ _ h.box (by decide))
  have hdi : IsS72 w0 W1 g lst a s := IsS72.grown h.di hg (IsS72.own_neS h.di h.hh (by decide))
  have hc1 := Kd.R_over' h.hc (Kd.S_typed h.hh) (by decide) hg
  have hw1 := Kd.R_over' h.hw (Kd.S_typed h.hh) (by decide) hg
  have hbl : Below w0.heap.size w0 W1 := below_weaken h.bl h.wl hb
  have hkp : KeepBut w W1 g none := h.kp.trans (KeepBut.of_grown hg g) (Kd.S_base2 h.hh)
  have hgl := h.gl
  have hbw := h.bw
  have hz : W.heap.size ≤ W1.heap.size := hb.size
  have hS : (W1.setCell ⟨b, 1, none⟩ vh').heap.size = W1.heap.size := by simp [World.setCell]
  have hW := h.nW
  have hbn := h.bn
  have hrn := h.rn
  refine ⟨(blk_cell htt 1).trans rfl, blk_frozen htt 1, ⟨h.gl, h.rl, h.bw, by omega, by omega, h.rb, by rw [hS]; exact Nat.le_refl _, h.wl, ?_, blk_put htt 1 vh' rfl, ?_, ?_, ?_, ?_, ?_, ?_⟩⟩
  · exact blk_far hbox (by exact h.rb) _
  · have h2 := Kd.R_types hc1 htt (by decide)
    exact Kd.R_mono (Kd.R_far (p := ⟨b, 1, none⟩) h2 (fun k hk => hk.2) vh') (fun k hk => ⟨by have := hk.1.1; omega, hk.1.2⟩)
  · have h1 := IsS72.apartS hdi (Kd.S_bound hR) (by decide)
    have h2 := Kd.S_types h1 htt (by decide)
    exact Kd.S_mono (Kd.S_far (p := ⟨b, 1, none⟩) h2 (fun k hk => hk.2) vh') (fun k hk => ⟨hk.1.1.2.2.1, hk.1.2⟩)
  · have h2 := Kd.R_types hw1 htt (by decide)
    exact Kd.R_mono (Kd.R_far (p := ⟨b, 1, none⟩) h2 (fun k hk => hk.2) vh') (fun k hk => ⟨by have := hk.1.1; omega, hk.1.2⟩)
  · exact hdi.far (by show g ≠ b; omega) _
  · exact below_set hbl (Nat.le_trans h.wl hbw)
  · exact keep_far hkp (by exact hbw) _
end

set_option maxHeartbeats 8000000 in
set_option maxRecDepth 100000 in
theorem wayzgoosekit_TradesOf.calls (k : Nat) (g : Nat) (s0_0 : List Int) (s0_1 : Int) (s0_2 : Int) (a1 : Int) (a2 : Int) (r1 : List (S51)) (r2 : List (S39)) (r3 : Int) (r4 : Int) (w0 w : World) (hI : IsS72 w0 w g s0_0 s0_1 s0_2) (hB : Below w0.heap.size w0 w) (h : wayzgoosekit_TradesOf.f k s0_0 s0_1 s0_2 a1 a2 = some (r1, r2, r3, r4)) :
    Calls Try.prog 13 #[.pointer (some ⟨g, 0, none⟩), .int .i64 a1, .int .i64 a2] w fun e w' => ∃ v0_ v1_ : Value, e = .returned (.agg #[v0_, v1_]) ∧ Kd.R k51 51 w' w.heap.size (fun _ => True) v0_ r1 ∧ Kd.S k39 39 w' w.heap.size (fun _ => True) v1_ r2 ∧ IsS72 w0 w' g s0_0 r3 r4 ∧ Below w0.heap.size w0 w' ∧ KeepBut w w' g none := by
  have hu1 := Try.underlying26
  have hu2 := Try.underlying51
  have hu3 := Try.underlying39
  unfold wayzgoosekit_TradesOf.f at h
  obtain ⟨so, hso, h⟩ := Option.bind_eq_some_iff.1 h
  obtain ⟨⟨ns, a0, d0⟩, hor, h⟩ := Option.bind_eq_some_iff.1 h
  obtain ⟨⟨x9, ai, di⟩, hfr, h⟩ := Option.bind_eq_some_iff.1 h
  have H := Aside0.mk h
  clear h
  have hgl : g < w.heap.size := hI.lt
  have hwl := hB.size
  obtain ⟨w1, hw1⟩ : ∃ W, W = (w.alloc (.cells #[.slice none 0 0, .slice none 0 0] 26)).alloc (.cells #[.slice none 0 0, .slice none 0 0] 26) := ⟨_, rfl⟩
  have hT : TT w0 w w1 g w.heap.size (w.heap.size + 1) s0_0 s0_1 s0_2 (.slice none 0 0) (.slice none 0 0) (.slice none 0 0) [] [] [] (w.heap.size + 1 + 1) := by
    have hb1 := ((Below.refl w.heap.size w).alloc (Nat.le_refl _) (.cells #[.slice none 0 0, .slice none 0 0] 26)).alloc (by simp) (.cells #[.slice none 0 0, .slice none 0 0] 26)
    rw [← hw1] at hb1
    have hz1 : w1.heap.size = w.heap.size + 1 + 1 := by rw [hw1, World.size_alloc, World.size_alloc]
    refine ⟨hgl, Nat.le_refl _, by omega, by omega, by omega, by omega, by omega, hwl, ?_, ?_, Kd.R_nil _ _ _ _ _, Kd.S_nil _ _ _ _ _, Kd.R_nil _ _ _ _ _, hI.below hb1, below_step hB hb1, KeepBut.of_below hb1 g none⟩
    · rw [hw1]; exact blk_alloc (heap_alloc_new w _) _
    · have := heap_alloc_new (w.alloc (.cells #[.slice none 0 0, .slice none 0 0] 26)) (.cells #[.slice none 0 0, .slice none 0 0] 26)
      rw [World.size_alloc] at this
      rw [hw1]; exact this
  go_enter Try.func13, Try.ntmps13
  go_upto_region 2 with (fail)
  rw [← hw1]
  clear hw1 hI hB
  go_upto_region 3 with (first
    | (go_at_call 37; go_loud ((with_reducible refine (wayzgoosekit_sorts.calls _ _ hso).mono ?_); rintro e w2 ⟨vs, rfl, hs2, hb2⟩; obtain ⟨As, cs, rfl, hls, hCs⟩ := Kd.R_reads hs2; have hT2 := hT.all hb2; clear hs2 hb2 hCs))
    | (go_at_call 23; go_loud ((with_reducible refine (wayzgoosekit_Dice_Order.calls k g _ _ _ _ _ _ _ w0 _ hT2.di hT2.bl hor).mono ?_); rintro e w3 ⟨vn, rfl, hn3, hi3, hb3, hk3⟩; obtain ⟨An, cn, rfl, hln, -⟩ := Kd.R_reads hn3; have hT3 := hT2.dice hi3 hb3 hk3; clear hi3 hb3)))
  have hT := hT3.row (Kd.R_lower hn3 hT2.kp.1)
  clear hn3 hT2 hk3 hT3
  go_upto_region 4 with (go_at_call 38; go_loud ((with_reducible refine (wayzgoosekit_Dice_From.calls g _ _ _ _ _ _ _ _ w0 _ hT.di hT.bl hfr).mono ?_); rintro e w4 ⟨rfl, hi4, hb4, hk4⟩; have hT4 := hT.dice hi4 hb4 hk4; clear hi4 hb4 hk4))
  have hT := hT4
  clear hT4
  go_loopg [9] k (fun gk v9 wr => ∃ (x : Int) (a d : Int) (cs : List (S51)) (vc : Value) (n : Nat), v9 = .int .i64 x ∧ Aside0 (wayzgoosekit_TradesOf.l0 gk a2 ns x s0_0 a d cs = some (r1, r2, r3, r4)) ∧ TT w0 w wr g w.heap.size (w.heap.size + 1) s0_0 a d vc (.slice none 0 0) (.slice An ns.length cn) cs [] ns n)
  case atStart => exact ⟨x9, ai, di, [], _, _, rfl, H, hT⟩
  case round =>
    clear hT hfr hor hso H
    obtain ⟨x, a, d, cs, vc, n, rfl, HA, hT⟩ := hrel
    cases gk with
    | zero => exact absurd HA.out (by simp [wayzgoosekit_TradesOf.l0])
    | succ k1 =>
      have h := HA.out
      clear HA
      simp only [wayzgoosekit_TradesOf.l0] at h
      by_cases c1 : x > 0
      · rw [if_pos c1] at h
        obtain ⟨so, hso, h⟩ := Option.bind_eq_some_iff.1 h
        by_cases c2 : (0 : Int) ≤ cs.length
        · rw [if_pos c2] at h
          by_cases c3 : (cs.length : Int) < ns.length
          · rw [if_pos c3] at h
            by_cases c4 : 0 ≤ rd ns (cs.length : Int)
            · rw [if_pos c4] at h
              by_cases c5 : rd ns (cs.length : Int) < so.length
              · rw [if_pos c5] at h
                obtain ⟨⟨u, a', d'⟩, hfr, h⟩ := Option.bind_eq_some_iff.1 h
                by_cases c6 : cs.length < 5864062014805
                · rw [if_pos c6] at h
                  have H := Aside0.mk h
                  clear h
                  have hgt : decide (0 < x) = true := decide_eq_true c1
                  clear c1
                  go_upto_region 6 with (fail)
                  obtain ⟨Ac, cc, rfl, hlc, -⟩ := Kd.R_reads hT.hc
                  obtain ⟨adn, rfl⟩ : ∃ ad, An = some ad := by
                    obtain ⟨ad, e, -⟩ := Kd.at_int (Kd.R_reads' hT.hw).2.2 _ c2 c3
                    exact ⟨ad, e⟩
                  have hTd := hT.all (below_drew (Below.refl _ _))
                  have hL := fun W a d (hT : TT w0 w W g w.heap.size (w.heap.size + 1) s0_0 a d (.slice Ac cs.length cc) (.slice none 0 0) (.slice (some adn) ns.length cn) cs [] ns n) => hT.loads c2 c3
                  simp only [Int.toNat_natCast] at hL
                  refine wp_region_M (S := fun W => W.cell? ⟨w.heap.size + 1, 0, none⟩ = some (.slice Ac cs.length cc) ∧ W.cell? (adn.add cs.length) = some (.int .i64 (rd ns (cs.length : Int)))) [19, 20, 21] (by kernel_rfl) (hL _ _ _ hTd) (fun hHeld => ?_)
                  refine wpAnyM_take [0, 1, 19, 20, 21] (i := 0) (oi := _) (v := ?hv0) rfl (by kernel_rfl) (fun _ _ _ h => h) (Or.inl ⟨by rfl, ?hy0⟩) (by assumption) ?re0
                  case hy0 => intro W hSw; (try dsimp only at hSw); go_simp; try with_reducible rfl
                  try simp only [Act.put, List.setIfInBounds_toArray, List.set_cons_zero, List.set_cons_succ]
                  refine wpAnyM_take [1, 19, 20, 21] (i := 1) (oi := _) (v := ?hv1) rfl (by kernel_rfl) (fun _ _ _ h => h) (Or.inl ⟨by rfl, ?hy1⟩) (by assumption) ?re1
                  case hy1 => intro W hSw; (try dsimp only at hSw); go_simp; try with_reducible rfl
                  try simp only [Act.put, List.setIfInBounds_toArray, List.set_cons_zero, List.set_cons_succ]
                  refine wpAnyM_take [3, 7, 8, 9, 10, 17, 18, 19, 20, 21] (i := 3) (oi := _) (v := ?hv3) rfl (by kernel_rfl) (fun _ _ _ h => h) (Or.inl ⟨by rfl, ?hy3⟩) (by assumption) ?re3
                  case hy3 => intro W hSw; (try dsimp only at hSw); go_simp; try with_reducible rfl
                  try simp only [Act.put, List.setIfInBounds_toArray, List.set_cons_zero, List.set_cons_succ]
                  refine wpAnyM_take [4, 5, 6, 7, 8, 9, 10, 17, 18, 19, 20, 21] (i := 4) (oi := _) (v := ?hv4) rfl (by kernel_rfl) (fun _ _ _ h => h) (Or.inl ⟨by rfl, ?hy4⟩) (by assumption) ?re4
                  case hy4 => intro W hSw; (try dsimp only at hSw); go_simp; try with_reducible rfl
                  try simp only [Act.put, List.setIfInBounds_toArray, List.set_cons_zero, List.set_cons_succ]
                  refine wpAnyM_take [5, 6, 7, 8, 9, 10, 17, 18, 19, 20, 21] (i := 5) (oi := _) (v := ?hv5) rfl (by kernel_rfl) (fun _ _ _ h => h) (Or.inl ⟨by rfl, ?hy5⟩) (by assumption) ?re5
                  case hy5 => intro W hSw; (try dsimp only at hSw); go_simp; try with_reducible rfl
                  try simp only [Act.put, List.setIfInBounds_toArray, List.set_cons_zero, List.set_cons_succ]
                  refine wpAnyM_take [6, 7, 8, 9, 10, 17, 18, 19, 20, 21] (i := 6) (oi := _) (v := ?hv6) rfl (by kernel_rfl) (fun _ _ _ h => h) (Or.inl ⟨by rfl, ?hy6⟩) (by assumption) ?re6
                  case hy6 => intro W hSw; (try dsimp only at hSw); go_simp; try with_reducible rfl
                  try simp only [Act.put, List.setIfInBounds_toArray, List.set_cons_zero, List.set_cons_succ]
                  refine wpAnyM_take [7, 8, 9, 10, 17, 18, 19, 20, 21] (i := 7) (oi := _) (v := ?hv7) rfl (by kernel_rfl) (fun _ _ _ h => h) (Or.inl ⟨by rfl, ?hy7⟩) (by assumption) ?re7
                  case hy7 => intro W hSw; (try dsimp only at hSw); go_simp; try with_reducible rfl
                  try simp only [Act.put, List.setIfInBounds_toArray, List.set_cons_zero, List.set_cons_succ]
                  refine wpAnyM_take [8, 9, 10, 17, 18, 19, 20, 21] (i := 8) (oi := _) (v := ?hv8) rfl (by kernel_rfl) (fun _ _ _ h => h) (Or.inl ⟨by rfl, ?hy8⟩) (by assumption) ?re8
                  case hy8 => intro W hSw; (try dsimp only at hSw); go_simp; try with_reducible rfl
                  try simp only [Act.put, List.setIfInBounds_toArray, List.set_cons_zero, List.set_cons_succ]
                  refine wpAnyM_take [11, 16, 17, 18, 19, 20, 21] (i := 11) (oi := _) (v := ?hv11) rfl (by kernel_rfl) (fun _ _ _ h => h) (Or.inl ⟨by rfl, ?hy11⟩) (by assumption) ?re11
                  case hy11 => intro W hSw; (try dsimp only at hSw); go_simp; try with_reducible rfl
                  try simp only [Act.put, List.setIfInBounds_toArray, List.set_cons_zero, List.set_cons_succ]
                  refine wpAnyM_take [12, 13, 14, 15, 16, 17, 18, 19, 20, 21] (i := 12) (oi := _) (v := ?hv12) rfl (by kernel_rfl) (fun _ _ _ h => h) (Or.inl ⟨by rfl, ?hy12⟩) (by assumption) ?re12
                  case hy12 => intro W hSw; (try dsimp only at hSw); go_simp; try with_reducible rfl
                  try simp only [Act.put, List.setIfInBounds_toArray, List.set_cons_zero, List.set_cons_succ]
                  refine wpAnyM_take [13, 14, 15, 16, 17, 18, 19, 20, 21] (i := 13) (oi := _) (v := ?hv13) rfl (by kernel_rfl) (fun _ _ _ h => h) (Or.inl ⟨by rfl, ?hy13⟩) (by assumption) ?re13
                  case hy13 => intro W hSw; (try dsimp only at hSw); go_simp; try with_reducible rfl
                  try simp only [Act.put, List.setIfInBounds_toArray, List.set_cons_zero, List.set_cons_succ]
                  refine wpAnyM_take [14, 15, 16, 17, 18, 19, 20, 21] (i := 14) (oi := _) (v := ?hv14) rfl (by kernel_rfl) (fun _ _ _ h => h) (Or.inl ⟨by rfl, ?hy14⟩) (by assumption) ?re14
                  case hy14 => intro W hSw; (try dsimp only at hSw); go_simp; try with_reducible rfl
                  try simp only [Act.put, List.setIfInBounds_toArray, List.set_cons_zero, List.set_cons_succ]
                  refine wpAnyM_take [15, 16, 17, 18, 19, 20, 21] (i := 15) (oi := _) (v := ?hv15) rfl (by kernel_rfl) (fun _ _ _ h => h) (Or.inl ⟨by rfl, ?hy15⟩) (by assumption) ?re15
                  case hy15 => intro W hSw; (try dsimp only at hSw); go_simp; try with_reducible rfl
                  try simp only [Act.put, List.setIfInBounds_toArray, List.set_cons_zero, List.set_cons_succ]
                  refine wpAnyM_one (i := 2) (o := _) (by kernel_rfl) rfl (fun K hK => ?_)
                  go_simp
                  go_at_call 37
                  refine (wayzgoosekit_sorts.calls _ _ hso).mono ?_
                  rintro e w2 ⟨vs, rfl, hs2, hb2⟩
                  obtain ⟨As, csz, rfl, hls, hCs⟩ := Kd.R_reads hs2
                  have hT2 := hTd.all hb2
                  obtain ⟨ads, e, hx2⟩ := Kd.at_string hCs _ c4 c5
                  cases e
                  refine hK.out _ _ (fun _ => hL _ _ _ hT2) (fun hHeld => ?_)
                  replace hHeld := hHeld (by decide)
                  clear hK
                  clear K
                  try simp only [Act.put, List.setIfInBounds_toArray, List.set_cons_zero, List.set_cons_succ]
                  refine wpAnyM_more (S' := fun W => (W.cell? ⟨w.heap.size + 1, 0, none⟩ = some (.slice Ac cs.length cc) ∧ W.cell? (adn.add cs.length) = some (.int .i64 (rd ns (cs.length : Int)))) ∧ W.cell? (ads.add (rd ns (cs.length : Int)).toNat) = some (.string (rdOf ByteArray.empty so (rd ns (cs.length : Int))))) (fun _ h => h.1) _ _ _ _ ?_
                  replace hHeld := And.intro hHeld hx2
                  refine wpAnyM_take [9, 10, 17, 18, 19, 20, 21] (i := 9) (oi := _) (v := ?hv9) rfl (by kernel_rfl) (fun _ _ _ h => h) (Or.inl ⟨by rfl, ?hy9⟩) (by assumption) ?re9
                  case hy9 => intro W hSw; (try dsimp only at hSw); go_simp; try with_reducible rfl
                  try simp only [Act.put, List.setIfInBounds_toArray, List.set_cons_zero, List.set_cons_succ]
                  refine wpAnyM_take [10, 17, 18, 19, 20, 21] (i := 10) (oi := _) (v := ?hv10) rfl (by kernel_rfl) (fun _ _ _ h => h) (Or.inl ⟨by rfl, ?hy10⟩) (by assumption) ?re10
                  case hy10 => intro W hSw; (try dsimp only at hSw); go_simp; try with_reducible rfl
                  try simp only [Act.put, List.setIfInBounds_toArray, List.set_cons_zero, List.set_cons_succ]
                  refine wpAnyM_one (i := 16) (o := _) (by kernel_rfl) rfl (fun K hK => ?_)
                  go_simp
                  try simp only [i64_w]
                  go_at_call 38
                  refine (wayzgoosekit_Dice_From.calls g _ _ _ _ _ _ _ _ w0 _ hT2.di hT2.bl hfr).mono ?_
                  rintro e w3 ⟨rfl, hi3, hb3, hk3⟩
                  have hT3 := hT2.dice hi3 hb3 hk3
                  have hx3 := hT2.strs hs2 hk3 c4 c5
                  refine hK.out _ _ (fun _ => ⟨hL _ _ _ hT3, hx3⟩) (fun hHeld => ?_)
                  replace hHeld := hHeld (by decide)
                  clear hK
                  clear K
                  try simp only [Act.put, List.setIfInBounds_toArray, List.set_cons_zero, List.set_cons_succ]
                  refine wpAnyM_take [17, 18, 19, 20, 21] (i := 17) (oi := _) (v := ?hv17) rfl (by kernel_rfl) (fun _ _ _ h => h) (Or.inl ⟨by rfl, ?hy17⟩) (by assumption) ?re17
                  case hy17 => intro W hSw; (try dsimp only at hSw); go_simp; try with_reducible rfl
                  try simp only [Act.put, List.setIfInBounds_toArray, List.set_cons_zero, List.set_cons_succ]
                  have hba := (Below.refl w3.heap.size w3).alloc (Nat.le_refl _) (.cells #[.string (rdOf ByteArray.empty so (rd ns (cs.length : Int))), .int .i64 u] 51)
                  refine wpAnyM_one (i := 18) (o := _) (by kernel_rfl) rfl (fun K hK => ?_)
                  go_simp
                  refine hK.out _ _ (fun _ => ⟨hL _ _ _ (hT3.all hba), pw_cell_below hba hx3⟩) (fun hHeld => ?_)
                  replace hHeld := hHeld (by decide)
                  clear hK
                  clear K
                  try simp only [Act.put, List.setIfInBounds_toArray, List.set_cons_zero, List.set_cons_succ]
                  refine wpAnyM_one (i := 19) (o := _) (by kernel_rfl) rfl (fun K hK => ?_)
                  refine Kd.R_append_step k51 (w0 := w3) (W := w3) w.heap.size (by rfl) _ _ 23 51 _ 24 (by rfl) Try.underlying23 info51 (by rfl) (by decide) (by decide) (.slice Ac cs.length cc) cs ⟨(rdOf ByteArray.empty so (rd ns (cs.length : Int))), u⟩ [.string (rdOf ByteArray.empty so (rd ns (cs.length : Int))), .int .i64 u] (fun _ => True) (fun _ => False) (by rfl) (by rfl) (k51_mkM _ _ _ _) (fun _ h => h.elim) (fun _ _ => trivial) (Kd.R_mono hT3.hc (fun _ _ => trivial)) (Below.refl _ _) hT3.kp.1 (by omega) ?_
                  intro v5 w5 hv5 hb5 hg5 hat5
                  obtain ⟨A5, n5, rfl⟩ := Kd.R_slice hv5
                  obtain ⟨hq5, hf5, hT5⟩ := hT3.classes hv5 hb5 hg5
                  refine hK.out _ _ (fun h => absurd (by decide) h) (fun _ => ?_)
                  clear hK
                  clear K
                  try simp only [Act.put, List.setIfInBounds_toArray, List.set_cons_zero, List.set_cons_succ]
                  refine wpAnyM_one (i := 20) (o := _) (by kernel_rfl) rfl (fun K hK => ?_)
                  go_simp
                  refine hK.out _ _ (fun h => absurd (by decide) h) (fun _ => ?_)
                  clear hK
                  clear K
                  try simp only [Act.put, List.setIfInBounds_toArray, List.set_cons_zero, List.set_cons_succ]
                  refine wpAnyM_one (i := 21) (o := _) (by kernel_rfl) rfl (fun K hK => ?_)
                  go_simp
                  refine hK.out _ _ (fun h => absurd (by decide) h) (fun _ => ?_)
                  clear hK
                  clear K
                  try simp only [Act.put, List.setIfInBounds_toArray, List.set_cons_zero, List.set_cons_succ]
                  refine wpAnyM_done (by kernel_rfl) ?_ _
                  try simp only [Act.put, List.setIfInBounds_toArray, List.set_cons_zero, List.set_cons_succ]
                  go_wp2
                  go_roundg k1
                  case measure => omega
                  case rel =>
                    simp only [List.length_append, List.length_singleton] at hT5
                    exact ⟨_, _, _, _, _, _, rfl, H, hT5⟩
                · rw [if_neg c6] at h; cases h
              · rw [if_neg c5] at h; cases h
            · rw [if_neg c4] at h; cases h
          · rw [if_neg c3] at h; cases h
        · rw [if_neg c2] at h; cases h
      · rw [if_neg c1] at h
        have hgt : decide (0 < x) = false := decide_eq_false c1
        clear c1
        obtain ⟨ca, hca, h⟩ := Option.bind_eq_some_iff.1 h
        obtain ⟨⟨mh, a', d'⟩, hto, h⟩ := Option.bind_eq_some_iff.1 h
        obtain ⟨⟨ws, a'', d''⟩, hpo, h⟩ := Option.bind_eq_some_iff.1 h
        have H := Aside0.mk h
        clear h
        obtain ⟨Ac, cc, rfl, hlc, -⟩ := Kd.R_reads hT.hc
        go_upto_region 8 with (first
          | (go_at_call 40; go_loud ((with_reducible refine (wayzgoosekit_callings.calls _ _ hca).mono ?_); rintro e w2 ⟨vs, rfl, hs2, hb2⟩; obtain ⟨As, csz, rfl, hls, hCs⟩ := Kd.R_reads hs2; have hT2 := hT.all hb2; clear hs2 hb2 hCs))
          | (go_at_call 32; go_loud ((with_reducible refine (wayzgoosekit_Dice_To.calls g _ _ _ _ _ _ _ w0 _ hT2.di hT2.bl hto).mono ?_); rintro e w3 ⟨rfl, hi3, hb3, hk3⟩; have hT3 := hT2.dice hi3 hb3 hk3; clear hi3 hb3 hk3))
          | (go_at_call 39; go_loud ((with_reducible refine (wayzgoosekit_partOf.calls k1 g _ _ _ _ _ _ _ _ w0 _ hT3.di hT3.bl hpo).mono ?_); rintro e w4 ⟨vw, rfl, hn4, hi4, hb4, hk4⟩; obtain ⟨Aw, cw, rfl, hlw, -⟩ := Kd.R_reads hn4; have hT4 := hT3.dice hi4 hb4 hk4; clear hi4 hb4 hk4)))
        have hT5 := hT4.row (Kd.R_lower hn4 hT3.kp.1)
        clear hT hT2 hT3 hT4 hn4
        go_upto_region 9 with (fail)
        go_wp2
        go_loopg [12] k1 (fun gk v12 wr => ∃ (x a d : Int) (hs : List (S39)) (vh : Value) (n : Nat), v12 = .int .i64 x ∧ Aside0 (wayzgoosekit_TradesOf.l1 gk ws (ws.length : Int) x s0_0 a d cs hs = some (r1, r2, r3, r4)) ∧ TT w0 w wr g w.heap.size (w.heap.size + 1) s0_0 a d (.slice Ac cs.length cc) vh (.slice Aw ws.length cw) cs hs ws n)
        case atStart => exact ⟨0, a'', d'', [], _, _, rfl, H, hT5⟩
        case round =>
          clear hT5 hca hto hpo H
          obtain ⟨x, a, d, hs, vh, n, rfl, HA, hT⟩ := hrel
          cases gk with
          | zero => exact absurd HA.out (by simp [wayzgoosekit_TradesOf.l1])
          | succ k2 =>
            have h := HA.out
            clear HA
            simp only [wayzgoosekit_TradesOf.l1] at h
            by_cases c1 : x < (ws.length : Int)
            · rw [if_pos c1] at h
              obtain ⟨ca, hca, h⟩ := Option.bind_eq_some_iff.1 h
              by_cases c2 : 0 ≤ x
              · rw [if_pos c2, if_pos c1] at h
                by_cases c4 : 0 ≤ rd ws x
                · rw [if_pos c4] at h
                  by_cases c5 : rd ws x < (ca.length : Int)
                  · rw [if_pos c5] at h
                    obtain ⟨⟨u, a', d'⟩, hto, h⟩ := Option.bind_eq_some_iff.1 h
                    have H := Aside0.mk h
                    clear h
                    have hlt : decide (x < (ws.length : Int)) = true := decide_eq_true c1
                    obtain ⟨adw, e⟩ : ∃ ad, Aw = some ad := by
                      obtain ⟨ad, e, -⟩ := Kd.at_int (Kd.R_reads' hT.hw).2.2 _ c2 c1
                      exact ⟨ad, e⟩
                    cases e
                    have hTd := hT.all (below_drew (Below.refl _ _))
                    have hL := fun W a d (hT : TT w0 w W g w.heap.size (w.heap.size + 1) s0_0 a d (.slice Ac cs.length cc) vh (.slice (some adw) ws.length cw) cs hs ws n) => hT.loads c2 c1
                    go_upto_region 12 with (fail)
                    go_cut [13] (fun v13 wc => ∃ (hb : Nat), v13 = .pointer (some ⟨hb, 0, none⟩) ∧ n ≤ hb ∧ wc.heap[hb]? = some (.cells #[.string (rdOf ByteArray.empty ca (rd ws x)), .int .i64 u, .int .i64 (-1), .slice none 0 0] 39 (0, 0)) ∧ TT w0 w wc g w.heap.size (w.heap.size + 1) s0_0 a' d' (.slice Ac cs.length cc) vh (.slice (some adw) ws.length cw) cs hs ws n)
                    case first =>
                      refine wp_region_M (S := fun W => W.cell? ⟨w.heap.size + 1, 0, none⟩ = some (.slice Ac cs.length cc) ∧ W.cell? (adw.add x.toNat) = some (.int .i64 (rd ws x))) [15] (by kernel_rfl) (hL _ _ _ hTd) (fun hHeld => ?_)
                      refine wpAnyM_take [1, 3, 4, 5, 6, 13, 15] (i := 1) (oi := _) (v := ?hv1x12) rfl (by kernel_rfl) (fun _ _ _ h => h) (Or.inl ⟨by rfl, ?hy1x12⟩) (by assumption) ?re1x12
                      case hy1x12 => intro W hSw; (try dsimp only at hSw); go_simp; try with_reducible rfl
                      try simp only [Act.put, List.setIfInBounds_toArray, List.set_cons_zero, List.set_cons_succ]
                      refine wpAnyM_take [2, 3, 4, 5, 6, 13, 15] (i := 2) (oi := _) (v := ?hv2x12) rfl (by kernel_rfl) (fun _ _ _ h => h) (Or.inl ⟨by rfl, ?hy2x12⟩) (by assumption) ?re2x12
                      case hy2x12 => intro W hSw; (try dsimp only at hSw); go_simp; try with_reducible rfl
                      try simp only [Act.put, List.setIfInBounds_toArray, List.set_cons_zero, List.set_cons_succ]
                      refine wpAnyM_take [3, 4, 5, 6, 13, 15] (i := 3) (oi := _) (v := ?hv3x12) rfl (by kernel_rfl) (fun _ _ _ h => h) (Or.inl ⟨by rfl, ?hy3x12⟩) (by assumption) ?re3x12
                      case hy3x12 => intro W hSw; (try dsimp only at hSw); go_simp; try with_reducible rfl
                      try simp only [Act.put, List.setIfInBounds_toArray, List.set_cons_zero, List.set_cons_succ]
                      refine wpAnyM_take [4, 5, 6, 13, 15] (i := 4) (oi := _) (v := ?hv4x12) rfl (by kernel_rfl) (fun _ _ _ h => h) (Or.inl ⟨by rfl, ?hy4x12⟩) (by assumption) ?re4x12
                      case hy4x12 => intro W hSw; (try dsimp only at hSw); go_simp; try with_reducible rfl
                      try simp only [Act.put, List.setIfInBounds_toArray, List.set_cons_zero, List.set_cons_succ]
                      refine wpAnyM_take [7, 12, 13, 15] (i := 7) (oi := _) (v := ?hv7x12) rfl (by kernel_rfl) (fun _ _ _ h => h) (Or.inl ⟨by rfl, ?hy7x12⟩) (by assumption) ?re7x12
                      case hy7x12 => intro W hSw; (try dsimp only at hSw); go_simp; try with_reducible rfl
                      try simp only [Act.put, List.setIfInBounds_toArray, List.set_cons_zero, List.set_cons_succ]
                      refine wpAnyM_take [8, 9, 10, 11, 12, 13, 15] (i := 8) (oi := _) (v := ?hv8x12) rfl (by kernel_rfl) (fun _ _ _ h => h) (Or.inl ⟨by rfl, ?hy8x12⟩) (by assumption) ?re8x12
                      case hy8x12 => intro W hSw; (try dsimp only at hSw); go_simp; try with_reducible rfl
                      try simp only [Act.put, List.setIfInBounds_toArray, List.set_cons_zero, List.set_cons_succ]
                      refine wpAnyM_take [9, 10, 11, 12, 13, 15] (i := 9) (oi := _) (v := ?hv9x12) rfl (by kernel_rfl) (fun _ _ _ h => h) (Or.inl ⟨by rfl, ?hy9x12⟩) (by assumption) ?re9x12
                      case hy9x12 => intro W hSw; (try dsimp only at hSw); go_simp; try with_reducible rfl
                      try simp only [Act.put, List.setIfInBounds_toArray, List.set_cons_zero, List.set_cons_succ]
                      refine wpAnyM_take [10, 11, 12, 13, 15] (i := 10) (oi := _) (v := ?hv10x12) rfl (by kernel_rfl) (fun _ _ _ h => h) (Or.inl ⟨by rfl, ?hy10x12⟩) (by assumption) ?re10x12
                      case hy10x12 => intro W hSw; (try dsimp only at hSw); go_simp; try with_reducible rfl
                      try simp only [Act.put, List.setIfInBounds_toArray, List.set_cons_zero, List.set_cons_succ]
                      refine wpAnyM_take [11, 12, 13, 15] (i := 11) (oi := _) (v := ?hv11x12) rfl (by kernel_rfl) (fun _ _ _ h => h) (Or.inl ⟨by rfl, ?hy11x12⟩) (by assumption) ?re11x12
                      case hy11x12 => intro W hSw; (try dsimp only at hSw); go_simp; try with_reducible rfl
                      try simp only [Act.put, List.setIfInBounds_toArray, List.set_cons_zero, List.set_cons_succ]
                      refine wpAnyM_two (i := 0) (j := 14) (o := _) (o' := _) (by kernel_rfl) rfl rfl (fun K hK => ?_) (fun K hK => ?_)
                      · go_simp
                        go_at_call 40
                        refine (wayzgoosekit_callings.calls _ _ hca).mono ?_
                        rintro e w2 ⟨vs, rfl, hs2, hb2⟩
                        obtain ⟨As, csz, rfl, hls, hCs⟩ := Kd.R_reads hs2
                        have hT2 := hTd.all hb2
                        obtain ⟨ads, e, hx2⟩ := Kd.at_string hCs _ c4 c5
                        cases e
                        refine hK.out _ _ (fun _ => hL _ _ _ hT2) (fun hHeld => ?_)
                        replace hHeld := hHeld (by decide)
                        clear hK
                        clear K
                        try simp only [Act.put, List.setIfInBounds_toArray, List.set_cons_zero, List.set_cons_succ]
                        refine wpAnyM_more (S' := fun W => (W.cell? ⟨w.heap.size + 1, 0, none⟩ = some (.slice Ac cs.length cc) ∧ W.cell? (adw.add x.toNat) = some (.int .i64 (rd ws x))) ∧ W.cell? (ads.add (rd ws x).toNat) = some (.string (rdOf ByteArray.empty ca (rd ws x)))) (fun _ h => h.1) _ _ _ _ ?_
                        replace hHeld := And.intro hHeld hx2
                        refine wpAnyM_take [5, 6, 13, 15] (i := 5) (oi := _) (v := ?hv5x12a) rfl (by kernel_rfl) (fun _ _ _ h => h) (Or.inl ⟨by rfl, ?hy5x12a⟩) (by assumption) ?re5x12a
                        case hy5x12a => intro W hSw; (try dsimp only at hSw); go_simp; try with_reducible rfl
                        try simp only [Act.put, List.setIfInBounds_toArray, List.set_cons_zero, List.set_cons_succ]
                        refine wpAnyM_take [6, 13, 15] (i := 6) (oi := _) (v := ?hv6x12a) rfl (by kernel_rfl) (fun _ _ _ h => h) (Or.inl ⟨by rfl, ?hy6x12a⟩) (by assumption) ?re6x12a
                        case hy6x12a => intro W hSw; (try dsimp only at hSw); go_simp; try with_reducible rfl
                        try simp only [Act.put, List.setIfInBounds_toArray, List.set_cons_zero, List.set_cons_succ]
                        refine wpAnyM_two (i := 12) (j := 14) (o := _) (o' := _) (by kernel_rfl) rfl rfl (fun K hK => ?_) (fun K hK => ?_)
                        · go_simp
                          try simp only [i64_w]
                          go_at_call 32
                          refine (wayzgoosekit_Dice_To.calls g _ _ _ _ _ _ _ w0 _ hT2.di hT2.bl hto).mono ?_
                          rintro e w3 ⟨rfl, hi3, hb3, hk3⟩
                          have hT3 := hT2.dice hi3 hb3 hk3
                          have hx3 := hT2.strs hs2 hk3 c4 c5
                          refine hK.out _ _ (fun _ => ⟨hL _ _ _ hT3, hx3⟩) (fun hHeld => ?_)
                          replace hHeld := hHeld (by decide)
                          clear hK
                          clear K
                          try simp only [Act.put, List.setIfInBounds_toArray, List.set_cons_zero, List.set_cons_succ]
                          refine wpAnyM_take [13, 15] (i := 13) (oi := _) (v := ?hv13x12b) rfl (by kernel_rfl) (fun _ _ _ h => h) (Or.inl ⟨by rfl, ?hy13x12b⟩) (by assumption) ?re13x12b
                          case hy13x12b => intro W hSw; (try dsimp only at hSw); go_simp; try with_reducible rfl
                          try simp only [Act.put, List.setIfInBounds_toArray, List.set_cons_zero, List.set_cons_succ]
                          obtain ⟨hTa, hN, hNg, hBK⟩ := hT3.laid #[.string ⟨#[]⟩, .int .i64 0, .int .i64 0, .slice none 0 0] 39
                          refine wpAnyM_one (i := 14) (o := _) (by kernel_rfl) rfl (fun K hK => ?_)
                          go_simp
                          refine hK.out _ _ (fun _ => ⟨hL _ _ _ hTa, pw_cell_below ((Below.refl _ _).alloc (Nat.le_refl _) _) hx3⟩) (fun hHeld => ?_)
                          replace hHeld := hHeld (by decide)
                          clear hK
                          clear K
                          try simp only [Act.put, List.setIfInBounds_toArray, List.set_cons_zero, List.set_cons_succ]
                          have hq0 := (blk_cell hBK 0).trans rfl
                          have hq1 := (blk_cell hBK 1).trans rfl
                          have hq2 := (blk_cell hBK 2).trans rfl
                          have hq3 := (blk_cell hBK 3).trans rfl
                          have hf0 := blk_frozen hBK 0
                          have hf1 := blk_frozen hBK 1
                          have hf2 := blk_frozen hBK 2
                          have hf3 := blk_frozen hBK 3
                          obtain ⟨hTe, -, -, hBK2⟩ := hT3.laid #[.string (rdOf ByteArray.empty ca (rd ws x)), .int .i64 u, .int .i64 (-1), .slice none 0 0] 39
                          refine wpAnyM_one (i := 15) (o := _) (by kernel_rfl) rfl (fun K hK => ?_)
                          go_simp
                          refine hK.out _ _ (fun h => absurd (by decide) h) (fun _ => ?_)
                          clear hK
                          clear K
                          try simp only [Act.put, List.setIfInBounds_toArray, List.set_cons_zero, List.set_cons_succ]
                          refine wpAnyM_done (by kernel_rfl) ?_ _
                          try simp only [Act.put, List.setIfInBounds_toArray, List.set_cons_zero, List.set_cons_succ]
                          go_wp2
                          go_meet
                          case rel => exact ⟨_, rfl, hN, hBK2, hTe⟩
                        · obtain ⟨hTa, hN, hNg, hBK⟩ := hT2.laid #[.string ⟨#[]⟩, .int .i64 0, .int .i64 0, .slice none 0 0] 39
                          have hsa := Kd.R_below hs2 ((Below.refl w2.heap.size w2).alloc (Nat.le_refl _) (.cells #[.string ⟨#[]⟩, .int .i64 0, .int .i64 0, .slice none 0 0] 39))
                          go_simp
                          refine hK.out _ _ (fun _ => ⟨hL _ _ _ hTa, pw_cell_below ((Below.refl _ _).alloc (Nat.le_refl _) _) hx2⟩) (fun hHeld => ?_)
                          replace hHeld := hHeld (by decide)
                          clear hK
                          clear K
                          try simp only [Act.put, List.setIfInBounds_toArray, List.set_cons_zero, List.set_cons_succ]
                          refine wpAnyM_one (i := 12) (o := _) (by kernel_rfl) rfl (fun K hK => ?_)
                          go_simp
                          try simp only [i64_w]
                          go_at_call 32
                          refine (wayzgoosekit_Dice_To.calls g _ _ _ _ _ _ _ w0 _ hTa.di hTa.bl hto).mono ?_
                          rintro e w3 ⟨rfl, hi3, hb3, hk3⟩
                          have hT3 := hTa.dice hi3 hb3 hk3
                          have hx3 := hTa.strs hsa hk3 c4 c5
                          replace hBK := hk3.blk hBK hNg (by simp)
                          refine hK.out _ _ (fun _ => ⟨hL _ _ _ hT3, hx3⟩) (fun hHeld => ?_)
                          replace hHeld := hHeld (by decide)
                          clear hK
                          clear K
                          try simp only [Act.put, List.setIfInBounds_toArray, List.set_cons_zero, List.set_cons_succ]
                          refine wpAnyM_take [13, 15] (i := 13) (oi := _) (v := ?hv13x12c) rfl (by kernel_rfl) (fun _ _ _ h => h) (Or.inl ⟨by rfl, ?hy13x12c⟩) (by assumption) ?re13x12c
                          case hy13x12c => intro W hSw; (try dsimp only at hSw); go_simp; try with_reducible rfl
                          try simp only [Act.put, List.setIfInBounds_toArray, List.set_cons_zero, List.set_cons_succ]
                          have hq0 := (blk_cell hBK 0).trans rfl
                          have hq1 := (blk_cell hBK 1).trans rfl
                          have hq2 := (blk_cell hBK 2).trans rfl
                          have hq3 := (blk_cell hBK 3).trans rfl
                          have hf0 := blk_frozen hBK 0
                          have hf1 := blk_frozen hBK 1
                          have hf2 := blk_frozen hBK 2
                          have hf3 := blk_frozen hBK 3
                          obtain ⟨hBK2, hTe⟩ := hT3.fill hN hBK (.string (rdOf ByteArray.empty ca (rd ws x))) (.int .i64 u) (.int .i64 (-1)) (.slice none 0 0)
                          refine wpAnyM_one (i := 15) (o := _) (by kernel_rfl) rfl (fun K hK => ?_)
                          go_simp
                          refine hK.out _ _ (fun h => absurd (by decide) h) (fun _ => ?_)
                          clear hK
                          clear K
                          try simp only [Act.put, List.setIfInBounds_toArray, List.set_cons_zero, List.set_cons_succ]
                          refine wpAnyM_done (by kernel_rfl) ?_ _
                          try simp only [Act.put, List.setIfInBounds_toArray, List.set_cons_zero, List.set_cons_succ]
                          go_wp2
                          go_meet
                          case rel => exact ⟨_, rfl, hN, hBK2, hTe⟩
                      · obtain ⟨hTa, hN, hNg, hBK⟩ := hTd.laid #[.string ⟨#[]⟩, .int .i64 0, .int .i64 0, .slice none 0 0] 39
                        have hz : wr.drew.heap.size = wr.heap.size := rfl
                        rw [hz] at hN hNg hBK
                        go_simp
                        refine hK.out _ _ (fun _ => hL _ _ _ hTa) (fun hHeld => ?_)
                        replace hHeld := hHeld (by decide)
                        clear hK
                        clear K
                        try simp only [Act.put, List.setIfInBounds_toArray, List.set_cons_zero, List.set_cons_succ]
                        refine wpAnyM_one (i := 0) (o := _) (by kernel_rfl) rfl (fun K hK => ?_)
                        go_simp
                        go_at_call 40
                        refine (wayzgoosekit_callings.calls _ _ hca).mono ?_
                        rintro e w2 ⟨vs, rfl, hs2, hb2⟩
                        obtain ⟨As, csz, rfl, hls, hCs⟩ := Kd.R_reads hs2
                        have hT2 := hTa.all hb2
                        obtain ⟨ads, e, hx2⟩ := Kd.at_string hCs _ c4 c5
                        cases e
                        replace hBK := blk_below hBK hb2
                        refine hK.out _ _ (fun _ => hL _ _ _ hT2) (fun hHeld => ?_)
                        replace hHeld := hHeld (by decide)
                        clear hK
                        clear K
                        try simp only [Act.put, List.setIfInBounds_toArray, List.set_cons_zero, List.set_cons_succ]
                        refine wpAnyM_more (S' := fun W => (W.cell? ⟨w.heap.size + 1, 0, none⟩ = some (.slice Ac cs.length cc) ∧ W.cell? (adw.add x.toNat) = some (.int .i64 (rd ws x))) ∧ W.cell? (ads.add (rd ws x).toNat) = some (.string (rdOf ByteArray.empty ca (rd ws x)))) (fun _ h => h.1) _ _ _ _ ?_
                        replace hHeld := And.intro hHeld hx2
                        refine wpAnyM_take [5, 6, 13, 15] (i := 5) (oi := _) (v := ?hv5x12d) rfl (by kernel_rfl) (fun _ _ _ h => h) (Or.inl ⟨by rfl, ?hy5x12d⟩) (by assumption) ?re5x12d
                        case hy5x12d => intro W hSw; (try dsimp only at hSw); go_simp; try with_reducible rfl
                        try simp only [Act.put, List.setIfInBounds_toArray, List.set_cons_zero, List.set_cons_succ]
                        refine wpAnyM_take [6, 13, 15] (i := 6) (oi := _) (v := ?hv6x12d) rfl (by kernel_rfl) (fun _ _ _ h => h) (Or.inl ⟨by rfl, ?hy6x12d⟩) (by assumption) ?re6x12d
                        case hy6x12d => intro W hSw; (try dsimp only at hSw); go_simp; try with_reducible rfl
                        try simp only [Act.put, List.setIfInBounds_toArray, List.set_cons_zero, List.set_cons_succ]
                        refine wpAnyM_one (i := 12) (o := _) (by kernel_rfl) rfl (fun K hK => ?_)
                        go_simp
                        try simp only [i64_w]
                        go_at_call 32
                        refine (wayzgoosekit_Dice_To.calls g _ _ _ _ _ _ _ w0 _ hT2.di hT2.bl hto).mono ?_
                        rintro e w3 ⟨rfl, hi3, hb3, hk3⟩
                        have hT3 := hT2.dice hi3 hb3 hk3
                        have hx3 := hT2.strs hs2 hk3 c4 c5
                        replace hBK := hk3.blk hBK hNg (by simp)
                        refine hK.out _ _ (fun _ => ⟨hL _ _ _ hT3, hx3⟩) (fun hHeld => ?_)
                        replace hHeld := hHeld (by decide)
                        clear hK
                        clear K
                        try simp only [Act.put, List.setIfInBounds_toArray, List.set_cons_zero, List.set_cons_succ]
                        refine wpAnyM_take [13, 15] (i := 13) (oi := _) (v := ?hv13x12e) rfl (by kernel_rfl) (fun _ _ _ h => h) (Or.inl ⟨by rfl, ?hy13x12e⟩) (by assumption) ?re13x12e
                        case hy13x12e => intro W hSw; (try dsimp only at hSw); go_simp; try with_reducible rfl
                        try simp only [Act.put, List.setIfInBounds_toArray, List.set_cons_zero, List.set_cons_succ]
                        have hq0 := (blk_cell hBK 0).trans rfl
                        have hq1 := (blk_cell hBK 1).trans rfl
                        have hq2 := (blk_cell hBK 2).trans rfl
                        have hq3 := (blk_cell hBK 3).trans rfl
                        have hf0 := blk_frozen hBK 0
                        have hf1 := blk_frozen hBK 1
                        have hf2 := blk_frozen hBK 2
                        have hf3 := blk_frozen hBK 3
                        obtain ⟨hBK2, hTe⟩ := hT3.fill hN hBK (.string (rdOf ByteArray.empty ca (rd ws x))) (.int .i64 u) (.int .i64 (-1)) (.slice none 0 0)
                        refine wpAnyM_one (i := 15) (o := _) (by kernel_rfl) rfl (fun K hK => ?_)
                        go_simp
                        refine hK.out _ _ (fun h => absurd (by decide) h) (fun _ => ?_)
                        clear hK
                        clear K
                        try simp only [Act.put, List.setIfInBounds_toArray, List.set_cons_zero, List.set_cons_succ]
                        refine wpAnyM_done (by kernel_rfl) ?_ _
                        try simp only [Act.put, List.setIfInBounds_toArray, List.set_cons_zero, List.set_cons_succ]
                        go_wp2
                        go_meet
                        case rel => exact ⟨_, rfl, hN, hBK2, hTe⟩
                    case rest =>
                      clear hTd hL hT
                      obtain ⟨hb, rfl, hN, hBK, hT⟩ := hcut
                      obtain ⟨w5, hw5⟩ : ∃ w5, w5 = wc := ⟨_, rfl⟩
                      subst hw5
                      go_upto_region 13 with (fail)
                      go_cut [80] (fun v80 wc => ∃ (kq : Nat) (b80 : Bool) (aq dq : Int), v80 = .bool b80 ∧ Aside0 (wayzgoosekit_TradesOf.j2 kq ws (ws.length : Int) x b80 s0_0 aq dq cs hs (rdOf ByteArray.empty ca (rd ws x)) u (-1) = some (r1, r2, r3, r4)) ∧ kq ≤ k2 ∧ wc.heap[hb]? = some (.cells #[.string (rdOf ByteArray.empty ca (rd ws x)), .int .i64 u, .int .i64 (-1), .slice none 0 0] 39 (0, 0)) ∧ TT w0 w wc g w.heap.size (w.heap.size + 1) s0_0 aq dq (.slice Ac cs.length cc) vh (.slice (some adw) ws.length cw) cs hs ws n)
                      case first =>
                        have h := H.out
                        by_cases c6 : (ws.length : Int) > 1
                        · rw [if_pos c6] at h
                          obtain ⟨⟨b80, a2', d2'⟩, hon, h⟩ := Option.bind_eq_some_iff.1 h
                          have H2 := Aside0.mk h
                          clear h H
                          have hgt1 : decide (1 < (ws.length : Int)) = true := decide_eq_true c6
                          have hgt2 : decide (1 < ws.length) = true := decide_eq_true (by omega)
                          go_wp2_with (go_at_call 41; go_loud ((with_reducible refine (wayzgoosekit_Dice_Once.calls g _ _ _ _ _ _ _ w0 _ hT.di hT.bl hon).mono ?_); rintro e w6 ⟨rfl, hi6, hb6, hk6⟩); have hT6 := hT.dice hi6 hb6 hk6; have hBK6 := hk6.blk hBK (by have := hT.gn; omega) (by simp))
                          go_meet
                          case rel => exact ⟨_, _, _, _, rfl, H2, Nat.le_refl _, hBK6, hT6⟩
                        · rw [if_neg c6] at h
                          have H2 := Aside0.mk h
                          clear h H
                          have hgt1 : decide (1 < (ws.length : Int)) = false := decide_eq_false c6
                          have hgt2 : decide (1 < ws.length) = false := decide_eq_false (by omega)
                          go_wp2
                          go_meet
                          case rel => exact ⟨_, _, _, _, rfl, H2, Nat.le_refl _, hBK, hT⟩
                      case rest =>
                        clear H hto hca hBK hT
                        obtain ⟨kq, b80, aq, dq, rfl, HJ, hkq, hBK, hT⟩ := hcut
                        cases kq with
                        | zero => exact absurd HJ.out (by simp [wayzgoosekit_TradesOf.j2])
                        | succ kj =>
                          have h := HJ.out
                          clear HJ
                          simp only [wayzgoosekit_TradesOf.j2] at h
                          obtain ⟨Ah, ch, rfl, hlh, -⟩ := Kd.S_reads hT.hh
                          obtain ⟨X, hX⟩ : ∃ X, X = (rdOf ByteArray.empty ca (rd ws x)) := ⟨_, rfl⟩
                          rw [← hX] at h hBK
                          clear hX
                          cases b80 with
                          | true =>
                            rw [if_pos rfl] at h
                            obtain ⟨⟨y, a3, d3⟩, hto, h⟩ := Option.bind_eq_some_iff.1 h
                            by_cases c7 : (ws.length : Int) = 0
                            · rw [if_pos c7] at h; cases h
                            · rw [if_neg c7] at h
                              by_cases c8 : hs.length < 2513169434916
                              · rw [if_pos c8] at h
                                obtain ⟨z, hz⟩ : ∃ z, Int.tmod (wrap64 (wrap64 (x + 1) + y)) (ws.length : Int) = z := ⟨_, rfl⟩
                                simp only [hz] at h
                                have H := Aside0.mk h
                                clear h
                                go_upto_region 14 with (fail)
                                have hTd := hT.all (below_drew (Below.refl _ _))
                                have hng : hb ≠ g := by have := hT.gn; omega
                                have c7b : ¬ ws.length = 0 := by omega
                                have c7c : ¬ ws = [] := by rintro rfl; exact c7b rfl
                                go_region_with ((try simp only [i64_w]); go_at_call 32; (with_reducible refine (wayzgoosekit_Dice_To.calls g _ _ _ _ _ _ _ w0 _ hTd.di hTd.bl hto).mono ?_); rintro e w6 ⟨rfl, hi6, hb6, hk6⟩; have hT6 := hTd.dice hi6 hb6 hk6; have hBK6 := hk6.blk (g' := hb) (o := .cells #[.string X, .int .i64 u, .int .i64 (-1), .slice none 0 0] 39) hBK hng (by simp); have hq1 := (blk_cell hBK6 1).trans rfl; have hq2 := (blk_cell hBK6 2).trans rfl; have hf1 := blk_frozen hBK6 1; have hf2 := blk_frozen hBK6 2)
                                simp only [i64_w]
                                rw [hz]
                                have hB7 := blk_put (blk_put hBK6 1 (.int .i64 (-1)) (cs' := #[.string X, .int .i64 (-1), .int .i64 (-1), .slice none 0 0]) rfl) 2 (.int .i64 z) (cs' := #[.string X, .int .i64 (-1), .int .i64 z, .slice none 0 0]) rfl
                                have hT7 := (hT6.put hN 1 (.int .i64 (-1))).put hN 2 (.int .i64 z)
                                obtain ⟨w7, hw7⟩ : ∃ W, W = (w6.setCell ⟨hb, 1, none⟩ (.int .i64 (-1))).setCell ⟨hb, 2, none⟩ (.int .i64 z) := ⟨_, rfl⟩
                                rw [← hw7] at hB7 hT7 ⊢
                                clear hw7 hq1 hq2 hf1 hf2 hBK6 hT6 hi6 hb6 hk6 hz hBK hT hTd
                                go_upto_region 15 with (fail)
                                have t0 := (blk_cell hT7.tt 0).trans rfl
                                have t1 := (blk_cell hT7.tt 1).trans rfl
                                have q0 := (blk_cell hB7 0).trans rfl
                                have q1 := (blk_cell hB7 1).trans rfl
                                have q2 := (blk_cell hB7 2).trans rfl
                                have q3 := (blk_cell hB7 3).trans rfl
                                go_wp2_with (at_builtin; go_loud (refine Kd.S_append k39 (w0 := w7) (W := w7) w.heap.size (by rfl) _ _ 24 39 _ 56 (by rfl) Try.underlying24 info39 (by rfl) (by decide) (by decide) (.slice Ah hs.length ch) hs ⟨X, -1, z, []⟩ [.string X, .int .i64 (-1), .int .i64 z, .slice none 0 0] (fun _ => True) (fun _ => False) (by rfl) (by rfl) (k39_mkM _ _ _ _ (Kd.R_nil _ _ _ _ _)) (fun _ h => h.elim) (fun _ _ => trivial) (Kd.S_mono hT7.hh (fun _ _ => ⟨trivial, fun h => h⟩)) (Below.refl _ _) hT7.kp.1 (by omega) ?_); intro v8 w8 hv8 hb8 hg8 hat8; obtain ⟨A8, n8, rfl⟩ := Kd.S_slice hv8; obtain ⟨hq8, hf8, hT8⟩ := hT7.heads hv8 hb8 hg8)
                                go_roundg kj
                                case measure => omega
                                case rel =>
                                  simp only [List.length_append, List.length_singleton] at hT8
                                  exact ⟨_, _, _, _, _, _, rfl, H, hT8⟩
                              · rw [if_neg c8] at h; cases h
                          | false =>
                            rw [if_neg (by simp)] at h
                            have H := Aside0.mk h
                            clear h
                            have hng : hb ≠ g := by have := hT.gn; omega
                            go_upto_region 17 with (fail)
                            go_wp2
                            go_loopg [14] kj (fun gk v14 wr => ∃ (j a d : Int) (ul : List Int) (vu : Value), v14 = .int .i64 j ∧ Aside0 (wayzgoosekit_TradesOf.l2 gk ws (ws.length : Int) x j s0_0 a d cs hs X u (-1) ul = some (r1, r2, r3, r4)) ∧ gk ≤ kj ∧ wr.heap[hb]? = some (.cells #[.string X, .int .i64 u, .int .i64 (-1), vu] 39 (0, 0)) ∧ Kd.R (Kd.int .i64) 3 wr w.heap.size (fun k => n ≤ k) vu ul ∧ TT w0 w wr g w.heap.size (w.heap.size + 1) s0_0 a d (.slice Ac cs.length cc) (.slice Ah hs.length ch) (.slice (some adw) ws.length cw) cs hs ws n)
                            case atStart => exact ⟨0, _, _, [], _, rfl, H, Nat.le_refl _, hBK, Kd.R_nil _ _ _ _ _, hT⟩
                            case round =>
                              clear H hBK hT
                              obtain ⟨j, a, d, ul, vu, rfl, HA, hgk, hBK, hu, hT⟩ := hrel
                              cases gk with
                              | zero => exact absurd HA.out (by simp [wayzgoosekit_TradesOf.l2])
                              | succ k4 =>
                                have h := HA.out
                                clear HA
                                simp only [wayzgoosekit_TradesOf.l2] at h
                                obtain ⟨Au, cu, rfl, hlu, -⟩ := Kd.R_reads hu
                                have b0 := (blk_cell hBK 0).trans rfl
                                have b1 := (blk_cell hBK 1).trans rfl
                                have b2 := (blk_cell hBK 2).trans rfl
                                have b3 := (blk_cell hBK 3).trans rfl
                                have g1 := blk_frozen hBK 1
                                have g3 := blk_frozen hBK 3
                                by_cases c6 : j < (ws.length : Int)
                                · rw [if_pos c6] at h
                                  have d6 : decide (j < (ws.length : Int)) = true := decide_eq_true c6
                                  by_cases c7 : j = x
                                  · rw [if_pos c7] at h
                                    have H := Aside0.mk h
                                    clear h
                                    have d7 : (j != x) = false := by rw [c7]; exact bne_self_eq_false x
                                    clear c7
                                    go_wp2
                                    go_roundg k4
                                    case measure => omega
                                    case rel => exact ⟨_, _, _, _, _, rfl, H, by omega, hBK, hu, hT⟩
                                  · rw [if_neg c7] at h
                                    have d7 : (j != x) = true := bne_iff_ne.mpr c7
                                    obtain ⟨⟨b, a2', d2'⟩, hon, h⟩ := Option.bind_eq_some_iff.1 h
                                    cases b with
                                    | true =>
                                      rw [if_pos rfl] at h
                                      by_cases c8 : ul.length < 17592186044416
                                      · rw [if_pos c8] at h
                                        have H := Aside0.mk h
                                        clear h
                                        go_wp2_with (first
                                          | (go_at_call 41; go_loud ((with_reducible refine (wayzgoosekit_Dice_Once.calls g _ _ _ _ _ _ _ w0 _ hT.di hT.bl hon).mono ?_); rintro e w6 ⟨rfl, hi6, hb6, hk6⟩); have hT6 := hT.dice hi6 hb6 hk6; have hBK6 := hk6.blk hBK hng (by simp); have hu6 := Kd.R_mono (Kd.R_keep (IsS72.apart hT.di hu (by decide)) hk6 (fun _ h => h.2)) (fun _ h => h.1); have c0 := (blk_cell hBK6 0).trans rfl; have c1 := (blk_cell hBK6 1).trans rfl; have c2 := (blk_cell hBK6 2).trans rfl; have c3 := (blk_cell hBK6 3).trans rfl; have f1 := blk_frozen hBK6 1; have f3 := blk_frozen hBK6 3)
                                          | (at_builtin; go_loud (refine Kd.R_append (Kd.int .i64) (w0 := w6) (W := w6) w.heap.size (by rfl) _ _ 22 3 (.int .i64 0) 8 (by rfl) Try.underlying22 infoI (by rfl) (by decide) (by decide) (.slice Au ul.length cu) ul j [.int .i64 j] (fun k => n ≤ k) (fun _ => False) (by rfl) (by rfl) rfl (fun _ h => h.elim) (fun k hk => Nat.le_trans hT6.nW hk) hu6 (Below.refl _ _) hT6.kp.1 (by omega) ?_); intro v8 w8 hv8 hb8 hg8 hat8; have hT8 := hT6.below ((Below.refl n w6).grown hg8 hT6.nW (fun k hk => hu6.1 k hk)); have hBK8 := blk_grown hBK6 hg8 (Kd.R_ne hu6 hBK6 (by decide)); obtain ⟨A8, n8, rfl⟩ := Kd.R_slice hv8; have c3 := (blk_cell hBK8 3).trans rfl; have f3 := blk_frozen hBK8 3))
                                        go_roundg k4
                                        case measure => omega
                                        case rel =>
                                          obtain ⟨hB9, hu9⟩ := also_put hBK8 hv8
                                          have hT9 := hT8.put hN 3 (.slice A8 (ul ++ [j]).length n8)
                                          simp only [List.length_append, List.length_singleton] at hB9 hu9 hT9
                                          exact ⟨_, _, _, _, _, rfl, H, by omega, hB9, hu9, hT9⟩
                                      · rw [if_neg c8] at h; cases h
                                    | false =>
                                      rw [if_neg (by simp)] at h
                                      have H := Aside0.mk h
                                      clear h
                                      go_wp2_with (go_at_call 41; go_loud ((with_reducible refine (wayzgoosekit_Dice_Once.calls g _ _ _ _ _ _ _ w0 _ hT.di hT.bl hon).mono ?_); rintro e w6 ⟨rfl, hi6, hb6, hk6⟩); have hT6 := hT.dice hi6 hb6 hk6; have hBK6 := hk6.blk hBK hng (by simp); have hu6 := Kd.R_mono (Kd.R_keep (IsS72.apart hT.di hu (by decide)) hk6 (fun _ h => h.2)) (fun _ h => h.1); have c0 := (blk_cell hBK6 0).trans rfl; have c1 := (blk_cell hBK6 1).trans rfl; have c2 := (blk_cell hBK6 2).trans rfl; have c3 := (blk_cell hBK6 3).trans rfl; have f1 := blk_frozen hBK6 1; have f3 := blk_frozen hBK6 3)
                                      go_roundg k4
                                      case measure => omega
                                      case rel => exact ⟨_, _, _, _, _, rfl, H, by omega, hBK6, hu6, hT6⟩
                                · rw [if_neg c6] at h
                                  have d6 : decide (j < (ws.length : Int)) = false := decide_eq_false c6
                                  by_cases c7 : (ul.length : Int) > 0
                                  · rw [if_pos c7] at h
                                    have d7 : decide (0 < (ul.length : Int)) = true := decide_eq_true c7
                                    have d7b : decide (0 < ul.length) = true := decide_eq_true (by omega)
                                    obtain ⟨⟨b, a2', d2'⟩, hon, h⟩ := Option.bind_eq_some_iff.1 h
                                    cases b with
                                    | true =>
                                      rw [if_pos rfl] at h
                                      by_cases c8 : hs.length < 2513169434916
                                      · rw [if_pos c8] at h
                                        have H := Aside0.mk h
                                        clear h
                                        go_upto_region 23 with (go_at_call 41; go_loud ((with_reducible refine (wayzgoosekit_Dice_Once.calls g _ _ _ _ _ _ _ w0 _ hT.di hT.bl hon).mono ?_); rintro e w6 ⟨rfl, hi6, hb6, hk6⟩); have hT6 := hT.dice hi6 hb6 hk6; have hBK6 := hk6.blk hBK hng (by simp); have hu6 := Kd.R_mono (Kd.R_keep (IsS72.apart hT.di hu (by decide)) hk6 (fun _ h => h.2)) (fun _ h => h.1); have c0 := (blk_cell hBK6 0).trans rfl; have c1 := (blk_cell hBK6 1).trans rfl; have c2 := (blk_cell hBK6 2).trans rfl; have c3 := (blk_cell hBK6 3).trans rfl; have f1 := blk_frozen hBK6 1; have f3 := blk_frozen hBK6 3)
                                        obtain ⟨w7, hw7⟩ : ∃ W, W = w6.setCell ⟨hb, 1, none⟩ (.int .i64 (-1)) := ⟨_, rfl⟩
                                        have hB7 := blk_put hBK6 1 (.int .i64 (-1)) (cs' := #[.string X, .int .i64 (-1), .int .i64 (-1), .slice Au ul.length cu]) rfl
                                        have hT7 := hT6.put hN 1 (.int .i64 (-1))
                                        have hu7 := Kd.R_mono (Kd.R_far (p := ⟨hb, 1, none⟩) (Kd.R_types hu6 hBK6 (by decide)) (fun _ h => h.2) (.int .i64 (-1))) (fun _ h => h.1)
                                        rw [← hw7] at hB7 hT7 hu7 ⊢
                                        clear hw7 c0 c1 c2 c3 f1 f3 hBK6 hT6 hu6 b0 b1 b2 b3 g1 g3
                                        have t0 := (blk_cell hT7.tt 0).trans rfl
                                        have t1 := (blk_cell hT7.tt 1).trans rfl
                                        have q0 := (blk_cell hB7 0).trans rfl
                                        have q1 := (blk_cell hB7 1).trans rfl
                                        have q2 := (blk_cell hB7 2).trans rfl
                                        have q3 := (blk_cell hB7 3).trans rfl
                                        go_wp2_with (at_builtin; go_loud (refine Kd.S_append k39 (w0 := w7) (W := w7) w.heap.size (by rfl) _ _ 24 39 _ 56 (by rfl) Try.underlying24 info39 (by rfl) (by decide) (by decide) (.slice Ah hs.length ch) hs ⟨X, -1, -1, ul⟩ [.string X, .int .i64 (-1), .int .i64 (-1), .slice Au ul.length cu] (fun _ => True) (fun k => n ≤ k) (by rfl) (by rfl) (k39_mkM _ _ _ _ hu7) (fun k hk => ⟨trivial, fun e => by have := ((Kd.S_R hT7.hh).1 k e.symm).1; omega⟩) (fun _ _ => trivial) (Kd.S_mono hT7.hh (fun k hk => ⟨trivial, by omega⟩)) (Below.refl _ _) hT7.kp.1 (by omega) ?_); intro v8 w8 hv8 hb8 hg8 hat8; obtain ⟨A8, n8, rfl⟩ := Kd.S_slice hv8; obtain ⟨hq8, hf8, hT8⟩ := hT7.heads hv8 hb8 hg8)
                                        go_roundg k4
                                        case measure => omega
                                        case rel =>
                                          simp only [List.length_append, List.length_singleton] at hT8
                                          exact ⟨_, _, _, _, _, _, rfl, H, hT8⟩
                                      · rw [if_neg c8] at h; cases h
                                    | false =>
                                      rw [if_neg (by simp)] at h
                                      by_cases c8 : hs.length < 2513169434916
                                      · rw [if_pos c8] at h
                                        have H := Aside0.mk h
                                        clear h
                                        go_upto_region 23 with (go_at_call 41; go_loud ((with_reducible refine (wayzgoosekit_Dice_Once.calls g _ _ _ _ _ _ _ w0 _ hT.di hT.bl hon).mono ?_); rintro e w6 ⟨rfl, hi6, hb6, hk6⟩); have hT6 := hT.dice hi6 hb6 hk6; have hBK6 := hk6.blk hBK hng (by simp); have hu6 := Kd.R_mono (Kd.R_keep (IsS72.apart hT.di hu (by decide)) hk6 (fun _ h => h.2)) (fun _ h => h.1); have c0 := (blk_cell hBK6 0).trans rfl; have c1 := (blk_cell hBK6 1).trans rfl; have c2 := (blk_cell hBK6 2).trans rfl; have c3 := (blk_cell hBK6 3).trans rfl; have f1 := blk_frozen hBK6 1; have f3 := blk_frozen hBK6 3)
                                        clear c0 c1 c2 c3 f1 f3 b0 b1 b2 b3 g1 g3
                                        obtain ⟨w7, hw7⟩ : ∃ W, W = w6 := ⟨_, rfl⟩
                                        have hB7 := hBK6
                                        have hT7 := hT6
                                        have hu7 := hu6
                                        rw [← hw7] at hB7 hT7 hu7 ⊢
                                        clear hw7
                                        have t0 := (blk_cell hT7.tt 0).trans rfl
                                        have t1 := (blk_cell hT7.tt 1).trans rfl
                                        have q0 := (blk_cell hB7 0).trans rfl
                                        have q1 := (blk_cell hB7 1).trans rfl
                                        have q2 := (blk_cell hB7 2).trans rfl
                                        have q3 := (blk_cell hB7 3).trans rfl
                                        go_wp2_with (at_builtin; go_loud (refine Kd.S_append k39 (w0 := w7) (W := w7) w.heap.size (by rfl) _ _ 24 39 _ 56 (by rfl) Try.underlying24 info39 (by rfl) (by decide) (by decide) (.slice Ah hs.length ch) hs ⟨X, u, -1, ul⟩ [.string X, .int .i64 u, .int .i64 (-1), .slice Au ul.length cu] (fun _ => True) (fun k => n ≤ k) (by rfl) (by rfl) (k39_mkM _ _ _ _ hu7) (fun k hk => ⟨trivial, fun e => by have := ((Kd.S_R hT7.hh).1 k e.symm).1; omega⟩) (fun _ _ => trivial) (Kd.S_mono hT7.hh (fun k hk => ⟨trivial, by omega⟩)) (Below.refl _ _) hT7.kp.1 (by omega) ?_); intro v8 w8 hv8 hb8 hg8 hat8; obtain ⟨A8, n8, rfl⟩ := Kd.S_slice hv8; obtain ⟨hq8, hf8, hT8⟩ := hT7.heads hv8 hb8 hg8)
                                        go_roundg k4
                                        case measure => omega
                                        case rel =>
                                          simp only [List.length_append, List.length_singleton] at hT8
                                          exact ⟨_, _, _, _, _, _, rfl, H, hT8⟩
                                      · rw [if_neg c8] at h; cases h
                                  · rw [if_neg c7] at h
                                    have d7 : decide (0 < (ul.length : Int)) = false := decide_eq_false c7
                                    have d7b : decide (0 < ul.length) = false := decide_eq_false (by omega)
                                    by_cases c8 : hs.length < 2513169434916
                                    · rw [if_pos c8] at h
                                      have H := Aside0.mk h
                                      clear h
                                      go_upto_region 23 with (fail)
                                      obtain ⟨w7, hw7⟩ : ∃ W, W = wr := ⟨_, rfl⟩
                                      have hB7 := hBK
                                      have hT7 := hT
                                      have hu7 := hu
                                      rw [← hw7] at hB7 hT7 hu7 ⊢
                                      clear hw7 b0 b1 b2 b3 g1 g3
                                      have t0 := (blk_cell hT7.tt 0).trans rfl
                                      have t1 := (blk_cell hT7.tt 1).trans rfl
                                      have q0 := (blk_cell hB7 0).trans rfl
                                      have q1 := (blk_cell hB7 1).trans rfl
                                      have q2 := (blk_cell hB7 2).trans rfl
                                      have q3 := (blk_cell hB7 3).trans rfl
                                      go_wp2_with (at_builtin; go_loud (refine Kd.S_append k39 (w0 := w7) (W := w7) w.heap.size (by rfl) _ _ 24 39 _ 56 (by rfl) Try.underlying24 info39 (by rfl) (by decide) (by decide) (.slice Ah hs.length ch) hs ⟨X, u, -1, ul⟩ [.string X, .int .i64 u, .int .i64 (-1), .slice Au ul.length cu] (fun _ => True) (fun k => n ≤ k) (by rfl) (by rfl) (k39_mkM _ _ _ _ hu7) (fun k hk => ⟨trivial, fun e => by have := ((Kd.S_R hT7.hh).1 k e.symm).1; omega⟩) (fun _ _ => trivial) (Kd.S_mono hT7.hh (fun k hk => ⟨trivial, by omega⟩)) (Below.refl _ _) hT7.kp.1 (by omega) ?_); intro v8 w8 hv8 hb8 hg8 hat8; obtain ⟨A8, n8, rfl⟩ := Kd.S_slice hv8; obtain ⟨hq8, hf8, hT8⟩ := hT7.heads hv8 hb8 hg8)
                                      go_roundg k4
                                      case measure => omega
                                      case rel =>
                                        simp only [List.length_append, List.length_singleton] at hT8
                                        exact ⟨_, _, _, _, _, _, rfl, H, hT8⟩
                                    · rw [if_neg c8] at h; cases h
                  · rw [if_neg c5] at h; cases h
                · rw [if_neg c4] at h; cases h
              · rw [if_neg c2] at h; cases h
            · rw [if_neg c1] at h
              have hlt : decide (x < (ws.length : Int)) = false := decide_eq_false c1
              simp only [Option.some.injEq, Prod.mk.injEq] at h
              obtain ⟨rfl, rfl, rfl, rfl⟩ := h
              obtain ⟨Ah, ch, rfl, hlh, -⟩ := Kd.S_reads hT.hh
              have hc0 := (blk_cell hT.tt 0).trans rfl
              have hc1 := (blk_cell hT.tt 1).trans rfl
              have hb0 := (blk_cell hT.box 0).trans rfl
              have hb1 := (blk_cell hT.box 1).trans rfl
              have hf0 := blk_frozen hT.box 0
              have hf1 := blk_frozen hT.box 1
              obtain ⟨hq, hRq, hSq, hIq, hBq, hKq⟩ := hT.final
              go_wp2
              refine bodyPost_ret (results_cell_row rfl _ _ w.heap.size 26 #[.slice Ac cs.length cc, .slice Ah hs.length ch] (0, 0) _ rfl hq Try.underlying26 rfl (by kernel_rfl)) rfl ?_
              exact ⟨_, _, rfl, hRq, hSq, hIq, hBq, hKq⟩
end Go.Proofs.Ytfbimhnlcmdcpaa.Pa
