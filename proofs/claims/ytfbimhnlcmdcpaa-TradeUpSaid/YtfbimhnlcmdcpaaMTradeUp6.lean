/- A part of the proof: Each class of a path is under all classes before it, the path has all classes that its last one is under, and Under gives just the trades whose classes are under a class: for all lists of numbers. Without conditions of its own. -/
import Derived.Test.YtfbimhnlcmdcpaaMTradeUp2
import Derived.Test.YtfbimhnlcmdcpaaMTradeUp5
import Derived.Test.YtfbimhnlcmdcpaaMTradeUp4
namespace Go.Proofs.Ytfbimhnlcmdcpaa.Pa
open Go.RowKit Go.Proofs.YtfbimhnlcmdcpaaW.PrintWords Go.Proofs.YtfbimhnlcmdcpaaW.PrintLast Go.Proofs.YtfbimhnlcmdcpaaW.PrintMore
attribute [local go_sem] max2_int min2_int max_two min_two max_three min_three max_four min_four   -- for this text's walks alone
set_option linter.unusedVariables false
set_option linter.unusedSimpArgs false

/-! ### trade_between: function 43 -/
def trade_between.f (a0 : Int) (a1 : Int) (a2 : Int) : Option (Bool) := if a1 ≤ a0 then (some (decide (a0 ≤ a2))) else (some false)
set_option maxHeartbeats 8000000 in
set_option maxRecDepth 100000 in
theorem trade_between.calls (a0 : Int) (a1 : Int) (a2 : Int) (r : Bool) (w : World) (h : trade_between.f a0 a1 a2 = some r) :
    Calls Try.prog 43 #[.int .i64 a0, .int .i64 a1, .int .i64 a2] w fun e w' => e = .returned (.bool r) ∧ Drawn0 w w' := by
  have H : (if a1 ≤ a0 then (some (decide (a0 ≤ a2))) else (some false)) = some r := h
  clear h
  by_cases c4 : a1 ≤ a0
  · rw [if_pos c4] at H
    have c4b0 : decide (a1 ≤ a0) = true := decide_eq_true c4
    clear c4
    obtain rfl := Option.some.inj H
    go_enter Try.func43, Try.ntmps43
    go_wp2
    go_ret
    exact ⟨by first | rfl | (simp; done) | (simp [*]; done), by repeat (first | exact Drawn0.refl _ | apply Drawn0.step)⟩
  · rw [if_neg c4] at H
    have c4b0 : decide (a1 ≤ a0) = false := decide_eq_false c4
    clear c4
    obtain rfl := Option.some.inj H
    go_enter Try.func43, Try.ntmps43
    go_wp2
    go_ret
    exact ⟨by first | rfl | (simp; done) | (simp [*]; done), by repeat (first | exact Drawn0.refl _ | apply Drawn0.step)⟩

/-! ### wayzgooselaw04_is: function 70 -/
def wayzgooselaw04_is.f (a0 : ByteArray) (a1 : Int) (l2 : List Int) : Option (ByteArray × Int × Int × List Int) := some (a0, a1, (-1), l2)
set_option maxHeartbeats 8000000 in
set_option maxRecDepth 100000 in
theorem wayzgooselaw04_is.calls (a0 : ByteArray) (a1 : Int) (P2_ : Nat → Prop) (u9000_ : Value) (l2 : List Int) (r1 : ByteArray) (r2 : Int) (r3 : Int) (r4 : List Int) (w0 w : World) (hB : Below w0.heap.size w0 w) (ho2 : Kd.R (Kd.int .i64) 3 w w0.heap.size P2_ u9000_ l2) (h : wayzgooselaw04_is.f a0 a1 l2 = some (r1, r2, r3, r4)) :
    Calls Try.prog 70 #[.string a0, .int .i64 a1, u9000_] w fun e w' => ∃ v3_ : Value, e = .returned (.agg #[.string r1, .int .i64 r2, .int .i64 r3, v3_]) ∧ Kd.R (Kd.int .i64) 3 w' w0.heap.size (fun k_ => (P2_ k_ ∨ w.heap.size ≤ k_)) v3_ r4 ∧ Below w0.heap.size w0 w' ∧ Kept w w' (fun k_ => P2_ k_) := by
  have hu39 := Try.underlying39
  have HO2 := Aside0.mk (show Kd.R (Kd.int .i64) 3 w w0.heap.size (fun k_ => (P2_ k_ ∨ w.heap.size ≤ k_)) u9000_ l2 from Kd.R_mono ho2 (fun k_ hk => (.inl hk)))
  have HK := Aside0.mk (Kept.refl w (fun k_ => P2_ k_))
  have HW0 := Aside0.mk hB.size
  have HB := Aside0.mk hB
  clear hB
  have H : (some (a0, a1, (-1), l2)) = some (r1, r2, r3, r4) := h
  clear h
  simp only [Option.some.injEq, Prod.mk.injEq] at H
  obtain ⟨rfl, rfl, rfl, rfl⟩ := H
  go_enter Try.func70, Try.ntmps70
  go_wp2_with (first | ((with_reducible refine gate_dst (N := 6) rfl ?_); refine box_event ?hg (N := 6) ?hd (cs := #[.string (⟨#[]⟩ : ByteArray), .int .i64 0, .int .i64 0, .slice none 0 0]) (t := 39) ?hr ?_; (case hd => rfl); (case hg => rfl); (case hr => first | (go_simp; done) | (go_simp; rfl)); intro gb213 hg w4 hbox hb; have n0_ := Aside0.mk (Kd.R_below (by (with_reducible repeat (first | apply Kd.R_alloc | apply Kd.R_drewN | apply Kd.R_drew)); exact HO2.out) hb); have n1_ := Aside0.mk (Kept.below (S := (fun k_ => P2_ k_)) (by repeat (first | (with_reducible first | exact HK.out | apply Kept.alloc | apply Kept.drewN | apply Kept.drew) | exact HK.out)) hb); have n2_ := Aside0.mk (below_step (by repeat (first | (with_reducible first | exact HB.out | apply below_alloc | apply pw_below_drewN | apply below_drew1) | exact HB.out)) hb); have n3_ := Aside0.mk (hbox); have n4_ := Aside0.mk ((by rw [hg]; exact (by first | exact HK.out.1 | exact (show Kept w _ (fun k_ => P2_ k_) from by repeat (first | (with_reducible first | exact HK.out | apply Kept.alloc | apply Kept.drewN | apply Kept.drew) | exact HK.out)).1) : w.heap.size ≤ gb213)); have n5_ := Aside0.mk ((by rw [hg]; exact (below_size (by repeat (first | (with_reducible first | exact HB.out | apply below_alloc | apply pw_below_drewN | apply below_drew1) | exact HB.out))) : w0.heap.size ≤ gb213)); clear HO2; clear HK; clear HB; have HO2 := n0_; have HK := n1_; have HB := n2_; have BK213 := n3_; have GW213 := n4_; have GE213 := n5_; clear n0_ n1_ n2_ n3_ n4_ n5_; clear hb hbox hg; obtain ⟨Ao5, co5, eo5⟩ := Kd.R_slice HO2.out; subst eo5; have hcz6_0 : w4.cell? ⟨gb213, 0, none⟩ = some (.string (⟨#[]⟩ : ByteArray)) := (blk_cell BK213.out 0).trans rfl; have hcz6_1 : w4.cell? ⟨gb213, 1, none⟩ = some (.int .i64 0) := (blk_cell BK213.out 1).trans rfl; have hcz6_2 : w4.cell? ⟨gb213, 2, none⟩ = some (.int .i64 0) := (blk_cell BK213.out 2).trans rfl; have hcz6_3 : w4.cell? ⟨gb213, 3, none⟩ = some (.slice none 0 0) := (blk_cell BK213.out 3).trans rfl; have hfz6_0 := blk_frozen BK213.out 0; have hfz6_1 := blk_frozen BK213.out 1; have hfz6_2 := blk_frozen BK213.out 2; have hfz6_3 := blk_frozen BK213.out 3))
  refine bodyPost_ret (results_cell_row rfl _ _ gb213 39 #[.string a0, .int .i64 a1, .int .i64 (-1), .slice Ao5 l2.length co5] (0, 0) _ rfl (by (with_reducible repeat (first | refine blk_drewN ?_ _ | refine blk_drew ?_ | refine blk_alloc ?_ _)); refine blk_put (cs := #[.string a0, .int .i64 a1, .int .i64 (-1), .slice none 0 0]) ?_ 3 _ rfl; (with_reducible repeat (first | refine blk_drewN ?_ _ | refine blk_drew ?_ | refine blk_alloc ?_ _)); refine blk_put (cs := #[.string a0, .int .i64 a1, .int .i64 0, .slice none 0 0]) ?_ 2 _ rfl; (with_reducible repeat (first | refine blk_drewN ?_ _ | refine blk_drew ?_ | refine blk_alloc ?_ _)); refine blk_put (cs := #[.string a0, .int .i64 0, .int .i64 0, .slice none 0 0]) ?_ 1 _ rfl; (with_reducible repeat (first | refine blk_drewN ?_ _ | refine blk_drew ?_ | refine blk_alloc ?_ _)); refine blk_put (cs := #[.string (⟨#[]⟩ : ByteArray), .int .i64 0, .int .i64 0, .slice none 0 0]) ?_ 0 _ rfl; (with_reducible repeat (first | refine blk_drewN ?_ _ | refine blk_drew ?_ | refine blk_alloc ?_ _)); exact BK213.out) Try.underlying39 rfl (by kernel_rfl)) rfl ?_
  exact ⟨_, by first | rfl | (simp [errW_none, errW_some] <;> rfl) | (simp [*, errW_none, errW_some] <;> rfl), by (with_reducible repeat (first | apply Kd.R_alloc | apply Kd.R_drewN | apply Kd.R_drew)); exact Kd.R_mono (Kd.R_far (p := ⟨gb213, 3, none⟩) (Kd.R_far (p := ⟨gb213, 2, none⟩) (Kd.R_far (p := ⟨gb213, 1, none⟩) (Kd.R_far (p := ⟨gb213, 0, none⟩) (Kd.R_types HO2.out BK213.out (by decide)) (fun _ hk => hk.2) (.string a0)) (fun _ hk => hk.2) (.int .i64 a1)) (fun _ hk => hk.2) (.int .i64 (-1))) (fun _ hk => hk.2) (.slice Ao5 l2.length co5)) (fun _ hk => hk.1), by repeat (first | (with_reducible first | exact HB.out | apply below_alloc | apply pw_below_drewN | apply below_drew1 | refine below_set ?_ GE213.out) | exact HB.out), by repeat (first | (with_reducible first | exact HK.out | apply Kept.alloc | apply Kept.drewN | apply Kept.drew | refine Kept.setCell ?_ (.inr GW213.out) _) | exact HK.out)⟩

/-! ### wayzgooselaw04_see: function 71 -/
def wayzgooselaw04_see.f (a0 : ByteArray) (a1 : Int) : Option (ByteArray × Int × Int × List Int) := some (a0, (-1), a1, ([] : List Int))
set_option maxHeartbeats 8000000 in
set_option maxRecDepth 100000 in
theorem wayzgooselaw04_see.calls (a0 : ByteArray) (a1 : Int) (r1 : ByteArray) (r2 : Int) (r3 : Int) (r4 : List Int) (w : World) (h : wayzgooselaw04_see.f a0 a1 = some (r1, r2, r3, r4)) :
    Calls Try.prog 71 #[.string a0, .int .i64 a1] w fun e w' => ∃ v3_ : Value, e = .returned (.agg #[.string r1, .int .i64 r2, .int .i64 r3, v3_]) ∧ Kd.R (Kd.int .i64) 3 w' w.heap.size (fun _ => True) v3_ r4 ∧ Below w.heap.size w w' := by
  have hu39 := Try.underlying39
  have HB := Aside0.mk (Below.refl w.heap.size w)
  have H : (some (a0, (-1), a1, ([] : List Int))) = some (r1, r2, r3, r4) := h
  clear h
  simp only [Option.some.injEq, Prod.mk.injEq] at H
  obtain ⟨rfl, rfl, rfl, rfl⟩ := H
  go_enter Try.func71, Try.ntmps71
  go_wp2_with (first | ((with_reducible refine gate_dst (N := 4) rfl ?_); refine box_event ?hg (N := 4) ?hd (cs := #[.string (⟨#[]⟩ : ByteArray), .int .i64 0, .int .i64 0, .slice none 0 0]) (t := 39) ?hr ?_; (case hd => rfl); (case hg => rfl); (case hr => first | (go_simp; done) | (go_simp; rfl)); intro gb214 hg w3 hbox hb; have n0_ := Aside0.mk (below_step (by repeat (first | (with_reducible first | exact HB.out | apply below_alloc | apply pw_below_drewN | apply below_drew1) | exact HB.out)) hb); have n1_ := Aside0.mk (hbox); have n2_ := Aside0.mk ((by rw [hg]; exact (below_size (by repeat (first | (with_reducible first | exact HB.out | apply below_alloc | apply pw_below_drewN | apply below_drew1) | exact HB.out))) : w.heap.size ≤ gb214)); have n3_ := Aside0.mk ((by rw [hg]; exact (below_size (by repeat (first | (with_reducible first | exact HB.out | apply below_alloc | apply pw_below_drewN | apply below_drew1) | exact HB.out))) : w.heap.size ≤ gb214)); clear HB; have HB := n0_; have BK214 := n1_; have GW214 := n2_; have GE214 := n3_; clear n0_ n1_ n2_ n3_; clear hb hbox hg; have hcz4_0 : w3.cell? ⟨gb214, 0, none⟩ = some (.string (⟨#[]⟩ : ByteArray)) := (blk_cell BK214.out 0).trans rfl; have hcz4_1 : w3.cell? ⟨gb214, 1, none⟩ = some (.int .i64 0) := (blk_cell BK214.out 1).trans rfl; have hcz4_2 : w3.cell? ⟨gb214, 2, none⟩ = some (.int .i64 0) := (blk_cell BK214.out 2).trans rfl; have hcz4_3 : w3.cell? ⟨gb214, 3, none⟩ = some (.slice none 0 0) := (blk_cell BK214.out 3).trans rfl; have hfz4_0 := blk_frozen BK214.out 0; have hfz4_1 := blk_frozen BK214.out 1; have hfz4_2 := blk_frozen BK214.out 2; have hfz4_3 := blk_frozen BK214.out 3))
  refine bodyPost_ret (results_cell_row rfl _ _ gb214 39 #[.string a0, .int .i64 (-1), .int .i64 a1, .slice none 0 0] (0, 0) _ rfl (by (with_reducible repeat (first | refine blk_drewN ?_ _ | refine blk_drew ?_ | refine blk_alloc ?_ _)); refine blk_put (cs := #[.string a0, .int .i64 (-1), .int .i64 a1, .slice none 0 0]) ?_ 3 _ rfl; (with_reducible repeat (first | refine blk_drewN ?_ _ | refine blk_drew ?_ | refine blk_alloc ?_ _)); refine blk_put (cs := #[.string a0, .int .i64 (-1), .int .i64 0, .slice none 0 0]) ?_ 2 _ rfl; (with_reducible repeat (first | refine blk_drewN ?_ _ | refine blk_drew ?_ | refine blk_alloc ?_ _)); refine blk_put (cs := #[.string a0, .int .i64 0, .int .i64 0, .slice none 0 0]) ?_ 1 _ rfl; (with_reducible repeat (first | refine blk_drewN ?_ _ | refine blk_drew ?_ | refine blk_alloc ?_ _)); refine blk_put (cs := #[.string (⟨#[]⟩ : ByteArray), .int .i64 0, .int .i64 0, .slice none 0 0]) ?_ 0 _ rfl; (with_reducible repeat (first | refine blk_drewN ?_ _ | refine blk_drew ?_ | refine blk_alloc ?_ _)); exact BK214.out) Try.underlying39 rfl (by kernel_rfl)) rfl ?_
  exact ⟨_, by first | rfl | (simp [errW_none, errW_some] <;> rfl) | (simp [*, errW_none, errW_some] <;> rfl), by first | exact Kd.R_nil _ _ _ _ _ | exact Kd.N_nil _ _ _ _ _ | exact Kd.V_nil _ _ _ _ _ | exact Kd.Q_nil _ _ _ _ _ | exact Kd.S_nil _ _ _ _ _, by repeat (first | (with_reducible first | exact HB.out | apply below_alloc | apply pw_below_drewN | apply below_drew1 | refine below_set ?_ GE214.out) | exact HB.out)⟩

/-! ### wayzgooselaw04_shops: function 45 -/
def wayzgooselaw04_shops.f  : Option ((List (S51)) × (List (S39))) := (wayzgooselaw04_is.f (⟨#[98, 97, 107, 101, 114]⟩ : ByteArray) 1 ([] : List Int)).bind fun bt219 => ((wayzgooselaw04_see.f (⟨#[98, 111, 110, 110, 101, 116, 115]⟩ : ByteArray) 3).bind fun bt225 => ((wayzgooselaw04_is.f (⟨#[99, 111, 110, 102, 101, 99, 116, 105, 111, 110, 101, 114]⟩ : ByteArray) 0 (([0] : List Int))).bind fun bt234 => ((wayzgooselaw04_is.f (⟨#[104, 97, 116, 116, 101, 114]⟩ : ByteArray) 3 ([] : List Int)).bind fun bt240 => ((wayzgooselaw04_is.f (⟨#[109, 101, 114, 99, 101, 114]⟩ : ByteArray) 2 (([3] : List Int))).bind fun bt249 => ((wayzgooselaw04_see.f (⟨#[109, 105, 108, 108, 105, 110, 101, 114]⟩ : ByteArray) 1).bind fun bt255 => (some ((([(⟨(⟨#[102, 111, 111, 100]⟩ : ByteArray), (-1)⟩ : S51), (⟨(⟨#[98, 114, 101, 97, 100]⟩ : ByteArray), 0⟩ : S51), (⟨(⟨#[99, 108, 111, 116, 104]⟩ : ByteArray), (-1)⟩ : S51), (⟨(⟨#[104, 97, 116, 115]⟩ : ByteArray), 2⟩ : S51)] : List (S51))), (([(⟨bt219.1, bt219.2.1, bt219.2.2.1, bt219.2.2.2⟩ : S39), (⟨bt225.1, bt225.2.1, bt225.2.2.1, bt225.2.2.2⟩ : S39), (⟨bt234.1, bt234.2.1, bt234.2.2.1, bt234.2.2.2⟩ : S39), (⟨bt240.1, bt240.2.1, bt240.2.2.1, bt240.2.2.2⟩ : S39), (⟨bt249.1, bt249.2.1, bt249.2.2.1, bt249.2.2.2⟩ : S39), (⟨bt255.1, bt255.2.1, bt255.2.2.1, bt255.2.2.2⟩ : S39)] : List (S39))))))))))
set_option maxHeartbeats 8000000 in
set_option maxRecDepth 100000 in
theorem wayzgooselaw04_shops.calls  (r1 : List (S51)) (r2 : List (S39)) (w : World) (h : wayzgooselaw04_shops.f  = some (r1, r2)) :
    Calls Try.prog 45 #[] w fun e w' => ∃ v0_ v1_ : Value, e = .returned (.agg #[v0_, v1_]) ∧ Kd.R k51 51 w' w.heap.size (fun k_ => (w.heap.size ≤ k_)) v0_ r1 ∧ Kd.N k39 39 w' w.heap.size (fun k_ => (w.heap.size ≤ k_) ∧ some k_ ≠ (v0_ : Value).ownBlock) v1_ r2 ∧ Below w.heap.size w w' := by
  have hu26 := Try.underlying26
  have hu51 := Try.underlying51
  have HB := Aside0.mk (Below.refl w.heap.size w)
  have H : ((wayzgooselaw04_is.f (⟨#[98, 97, 107, 101, 114]⟩ : ByteArray) 1 ([] : List Int)).bind fun bt219 => ((wayzgooselaw04_see.f (⟨#[98, 111, 110, 110, 101, 116, 115]⟩ : ByteArray) 3).bind fun bt225 => ((wayzgooselaw04_is.f (⟨#[99, 111, 110, 102, 101, 99, 116, 105, 111, 110, 101, 114]⟩ : ByteArray) 0 (([0] : List Int))).bind fun bt234 => ((wayzgooselaw04_is.f (⟨#[104, 97, 116, 116, 101, 114]⟩ : ByteArray) 3 ([] : List Int)).bind fun bt240 => ((wayzgooselaw04_is.f (⟨#[109, 101, 114, 99, 101, 114]⟩ : ByteArray) 2 (([3] : List Int))).bind fun bt249 => ((wayzgooselaw04_see.f (⟨#[109, 105, 108, 108, 105, 110, 101, 114]⟩ : ByteArray) 1).bind fun bt255 => (some ((([(⟨(⟨#[102, 111, 111, 100]⟩ : ByteArray), (-1)⟩ : S51), (⟨(⟨#[98, 114, 101, 97, 100]⟩ : ByteArray), 0⟩ : S51), (⟨(⟨#[99, 108, 111, 116, 104]⟩ : ByteArray), (-1)⟩ : S51), (⟨(⟨#[104, 97, 116, 115]⟩ : ByteArray), 2⟩ : S51)] : List (S51))), (([(⟨bt219.1, bt219.2.1, bt219.2.2.1, bt219.2.2.2⟩ : S39), (⟨bt225.1, bt225.2.1, bt225.2.2.1, bt225.2.2.2⟩ : S39), (⟨bt234.1, bt234.2.1, bt234.2.2.1, bt234.2.2.2⟩ : S39), (⟨bt240.1, bt240.2.1, bt240.2.2.1, bt240.2.2.2⟩ : S39), (⟨bt249.1, bt249.2.1, bt249.2.2.1, bt249.2.2.2⟩ : S39), (⟨bt255.1, bt255.2.1, bt255.2.2.1, bt255.2.2.2⟩ : S39)] : List (S39))))))))))) = some (r1, r2) := h
  clear h
  obtain ⟨y216, hy216⟩ : ∃ y_ : List (S51), y_ = (([(⟨(⟨#[102, 111, 111, 100]⟩ : ByteArray), (-1)⟩ : S51), (⟨(⟨#[98, 114, 101, 97, 100]⟩ : ByteArray), 0⟩ : S51), (⟨(⟨#[99, 108, 111, 116, 104]⟩ : ByteArray), (-1)⟩ : S51), (⟨(⟨#[104, 97, 116, 115]⟩ : ByteArray), 2⟩ : S51)] : List (S51))) := ⟨_, rfl⟩
  replace H : ((wayzgooselaw04_is.f (⟨#[98, 97, 107, 101, 114]⟩ : ByteArray) 1 ([] : List Int)).bind fun bt219 => ((wayzgooselaw04_see.f (⟨#[98, 111, 110, 110, 101, 116, 115]⟩ : ByteArray) 3).bind fun bt225 => ((wayzgooselaw04_is.f (⟨#[99, 111, 110, 102, 101, 99, 116, 105, 111, 110, 101, 114]⟩ : ByteArray) 0 (([0] : List Int))).bind fun bt234 => ((wayzgooselaw04_is.f (⟨#[104, 97, 116, 116, 101, 114]⟩ : ByteArray) 3 ([] : List Int)).bind fun bt240 => ((wayzgooselaw04_is.f (⟨#[109, 101, 114, 99, 101, 114]⟩ : ByteArray) 2 (([3] : List Int))).bind fun bt249 => ((wayzgooselaw04_see.f (⟨#[109, 105, 108, 108, 105, 110, 101, 114]⟩ : ByteArray) 1).bind fun bt255 => (some (y216, (([(⟨bt219.1, bt219.2.1, bt219.2.2.1, bt219.2.2.2⟩ : S39), (⟨bt225.1, bt225.2.1, bt225.2.2.1, bt225.2.2.2⟩ : S39), (⟨bt234.1, bt234.2.1, bt234.2.2.1, bt234.2.2.2⟩ : S39), (⟨bt240.1, bt240.2.1, bt240.2.2.1, bt240.2.2.2⟩ : S39), (⟨bt249.1, bt249.2.1, bt249.2.2.1, bt249.2.2.2⟩ : S39), (⟨bt255.1, bt255.2.1, bt255.2.2.1, bt255.2.2.2⟩ : S39)] : List (S39))))))))))) = some (r1, r2) := by first | (rw [hy216]; with_reducible exact H) | (have H2_ := (Option.bind_some _ _).symm.trans H; rw [hy216]; with_reducible exact H2_) | (have H2_ := (Option.bind_some _ _).symm.trans H; with_reducible exact H2_) | with_reducible exact H | (rw [hy216]; exact H) | exact H
  have Ny216 := Aside0.mk hy216
  clear hy216
  replace H := Option.bind_eq_some_iff.mp H
  obtain ⟨⟨t219, t220, t221, t222⟩, A10, H⟩ := H
  replace H : ((wayzgooselaw04_see.f (⟨#[98, 111, 110, 110, 101, 116, 115]⟩ : ByteArray) 3).bind fun bt225 => ((wayzgooselaw04_is.f (⟨#[99, 111, 110, 102, 101, 99, 116, 105, 111, 110, 101, 114]⟩ : ByteArray) 0 (([0] : List Int))).bind fun bt234 => ((wayzgooselaw04_is.f (⟨#[104, 97, 116, 116, 101, 114]⟩ : ByteArray) 3 ([] : List Int)).bind fun bt240 => ((wayzgooselaw04_is.f (⟨#[109, 101, 114, 99, 101, 114]⟩ : ByteArray) 2 (([3] : List Int))).bind fun bt249 => ((wayzgooselaw04_see.f (⟨#[109, 105, 108, 108, 105, 110, 101, 114]⟩ : ByteArray) 1).bind fun bt255 => (some (y216, (([(⟨t219, t220, t221, t222⟩ : S39), (⟨bt225.1, bt225.2.1, bt225.2.2.1, bt225.2.2.2⟩ : S39), (⟨bt234.1, bt234.2.1, bt234.2.2.1, bt234.2.2.2⟩ : S39), (⟨bt240.1, bt240.2.1, bt240.2.2.1, bt240.2.2.2⟩ : S39), (⟨bt249.1, bt249.2.1, bt249.2.2.1, bt249.2.2.2⟩ : S39), (⟨bt255.1, bt255.2.1, bt255.2.2.1, bt255.2.2.2⟩ : S39)] : List (S39)))))))))) = some (r1, r2) := H
  have A1 := Aside0.mk A10
  clear A10
  replace H := Option.bind_eq_some_iff.mp H
  obtain ⟨⟨t225, t226, t227, t228⟩, A20, H⟩ := H
  replace H : ((wayzgooselaw04_is.f (⟨#[99, 111, 110, 102, 101, 99, 116, 105, 111, 110, 101, 114]⟩ : ByteArray) 0 (([0] : List Int))).bind fun bt234 => ((wayzgooselaw04_is.f (⟨#[104, 97, 116, 116, 101, 114]⟩ : ByteArray) 3 ([] : List Int)).bind fun bt240 => ((wayzgooselaw04_is.f (⟨#[109, 101, 114, 99, 101, 114]⟩ : ByteArray) 2 (([3] : List Int))).bind fun bt249 => ((wayzgooselaw04_see.f (⟨#[109, 105, 108, 108, 105, 110, 101, 114]⟩ : ByteArray) 1).bind fun bt255 => (some (y216, (([(⟨t219, t220, t221, t222⟩ : S39), (⟨t225, t226, t227, t228⟩ : S39), (⟨bt234.1, bt234.2.1, bt234.2.2.1, bt234.2.2.2⟩ : S39), (⟨bt240.1, bt240.2.1, bt240.2.2.1, bt240.2.2.2⟩ : S39), (⟨bt249.1, bt249.2.1, bt249.2.2.1, bt249.2.2.2⟩ : S39), (⟨bt255.1, bt255.2.1, bt255.2.2.1, bt255.2.2.2⟩ : S39)] : List (S39))))))))) = some (r1, r2) := H
  have A2 := Aside0.mk A20
  clear A20
  obtain ⟨y231, hy231⟩ : ∃ y_ : List Int, y_ = (([0] : List Int)) := ⟨_, rfl⟩
  replace H : ((wayzgooselaw04_is.f (⟨#[99, 111, 110, 102, 101, 99, 116, 105, 111, 110, 101, 114]⟩ : ByteArray) 0 y231).bind fun bt234 => ((wayzgooselaw04_is.f (⟨#[104, 97, 116, 116, 101, 114]⟩ : ByteArray) 3 ([] : List Int)).bind fun bt240 => ((wayzgooselaw04_is.f (⟨#[109, 101, 114, 99, 101, 114]⟩ : ByteArray) 2 (([3] : List Int))).bind fun bt249 => ((wayzgooselaw04_see.f (⟨#[109, 105, 108, 108, 105, 110, 101, 114]⟩ : ByteArray) 1).bind fun bt255 => (some (y216, (([(⟨t219, t220, t221, t222⟩ : S39), (⟨t225, t226, t227, t228⟩ : S39), (⟨bt234.1, bt234.2.1, bt234.2.2.1, bt234.2.2.2⟩ : S39), (⟨bt240.1, bt240.2.1, bt240.2.2.1, bt240.2.2.2⟩ : S39), (⟨bt249.1, bt249.2.1, bt249.2.2.1, bt249.2.2.2⟩ : S39), (⟨bt255.1, bt255.2.1, bt255.2.2.1, bt255.2.2.2⟩ : S39)] : List (S39))))))))) = some (r1, r2) := by first | (rw [hy231]; with_reducible exact H) | (have H2_ := (Option.bind_some _ _).symm.trans H; rw [hy231]; with_reducible exact H2_) | (have H2_ := (Option.bind_some _ _).symm.trans H; with_reducible exact H2_) | with_reducible exact H | (rw [hy231]; exact H) | exact H
  have Ny231 := Aside0.mk hy231
  clear hy231
  replace H := Option.bind_eq_some_iff.mp H
  obtain ⟨⟨t234, t235, t236, t237⟩, A30, H⟩ := H
  replace H : ((wayzgooselaw04_is.f (⟨#[104, 97, 116, 116, 101, 114]⟩ : ByteArray) 3 ([] : List Int)).bind fun bt240 => ((wayzgooselaw04_is.f (⟨#[109, 101, 114, 99, 101, 114]⟩ : ByteArray) 2 (([3] : List Int))).bind fun bt249 => ((wayzgooselaw04_see.f (⟨#[109, 105, 108, 108, 105, 110, 101, 114]⟩ : ByteArray) 1).bind fun bt255 => (some (y216, (([(⟨t219, t220, t221, t222⟩ : S39), (⟨t225, t226, t227, t228⟩ : S39), (⟨t234, t235, t236, t237⟩ : S39), (⟨bt240.1, bt240.2.1, bt240.2.2.1, bt240.2.2.2⟩ : S39), (⟨bt249.1, bt249.2.1, bt249.2.2.1, bt249.2.2.2⟩ : S39), (⟨bt255.1, bt255.2.1, bt255.2.2.1, bt255.2.2.2⟩ : S39)] : List (S39)))))))) = some (r1, r2) := H
  have A3 := Aside0.mk A30
  clear A30
  replace H := Option.bind_eq_some_iff.mp H
  obtain ⟨⟨t240, t241, t242, t243⟩, A40, H⟩ := H
  replace H : ((wayzgooselaw04_is.f (⟨#[109, 101, 114, 99, 101, 114]⟩ : ByteArray) 2 (([3] : List Int))).bind fun bt249 => ((wayzgooselaw04_see.f (⟨#[109, 105, 108, 108, 105, 110, 101, 114]⟩ : ByteArray) 1).bind fun bt255 => (some (y216, (([(⟨t219, t220, t221, t222⟩ : S39), (⟨t225, t226, t227, t228⟩ : S39), (⟨t234, t235, t236, t237⟩ : S39), (⟨t240, t241, t242, t243⟩ : S39), (⟨bt249.1, bt249.2.1, bt249.2.2.1, bt249.2.2.2⟩ : S39), (⟨bt255.1, bt255.2.1, bt255.2.2.1, bt255.2.2.2⟩ : S39)] : List (S39))))))) = some (r1, r2) := H
  have A4 := Aside0.mk A40
  clear A40
  obtain ⟨y246, hy246⟩ : ∃ y_ : List Int, y_ = (([3] : List Int)) := ⟨_, rfl⟩
  replace H : ((wayzgooselaw04_is.f (⟨#[109, 101, 114, 99, 101, 114]⟩ : ByteArray) 2 y246).bind fun bt249 => ((wayzgooselaw04_see.f (⟨#[109, 105, 108, 108, 105, 110, 101, 114]⟩ : ByteArray) 1).bind fun bt255 => (some (y216, (([(⟨t219, t220, t221, t222⟩ : S39), (⟨t225, t226, t227, t228⟩ : S39), (⟨t234, t235, t236, t237⟩ : S39), (⟨t240, t241, t242, t243⟩ : S39), (⟨bt249.1, bt249.2.1, bt249.2.2.1, bt249.2.2.2⟩ : S39), (⟨bt255.1, bt255.2.1, bt255.2.2.1, bt255.2.2.2⟩ : S39)] : List (S39))))))) = some (r1, r2) := by first | (rw [hy246]; with_reducible exact H) | (have H2_ := (Option.bind_some _ _).symm.trans H; rw [hy246]; with_reducible exact H2_) | (have H2_ := (Option.bind_some _ _).symm.trans H; with_reducible exact H2_) | with_reducible exact H | (rw [hy246]; exact H) | exact H
  have Ny246 := Aside0.mk hy246
  clear hy246
  replace H := Option.bind_eq_some_iff.mp H
  obtain ⟨⟨t249, t250, t251, t252⟩, A50, H⟩ := H
  replace H : ((wayzgooselaw04_see.f (⟨#[109, 105, 108, 108, 105, 110, 101, 114]⟩ : ByteArray) 1).bind fun bt255 => (some (y216, (([(⟨t219, t220, t221, t222⟩ : S39), (⟨t225, t226, t227, t228⟩ : S39), (⟨t234, t235, t236, t237⟩ : S39), (⟨t240, t241, t242, t243⟩ : S39), (⟨t249, t250, t251, t252⟩ : S39), (⟨bt255.1, bt255.2.1, bt255.2.2.1, bt255.2.2.2⟩ : S39)] : List (S39)))))) = some (r1, r2) := H
  have A5 := Aside0.mk A50
  clear A50
  replace H := Option.bind_eq_some_iff.mp H
  obtain ⟨⟨t255, t256, t257, t258⟩, A60, H⟩ := H
  replace H : (some (y216, (([(⟨t219, t220, t221, t222⟩ : S39), (⟨t225, t226, t227, t228⟩ : S39), (⟨t234, t235, t236, t237⟩ : S39), (⟨t240, t241, t242, t243⟩ : S39), (⟨t249, t250, t251, t252⟩ : S39), (⟨t255, t256, t257, t258⟩ : S39)] : List (S39))))) = some (r1, r2) := H
  have A6 := Aside0.mk A60
  clear A60
  obtain ⟨y261, hy261⟩ : ∃ y_ : List (S39), y_ = (([(⟨t219, t220, t221, t222⟩ : S39), (⟨t225, t226, t227, t228⟩ : S39), (⟨t234, t235, t236, t237⟩ : S39), (⟨t240, t241, t242, t243⟩ : S39), (⟨t249, t250, t251, t252⟩ : S39), (⟨t255, t256, t257, t258⟩ : S39)] : List (S39))) := ⟨_, rfl⟩
  replace H : (some (y216, y261)) = some (r1, r2) := by first | (rw [hy261]; with_reducible exact H) | (have H2_ := (Option.bind_some _ _).symm.trans H; rw [hy261]; with_reducible exact H2_) | (have H2_ := (Option.bind_some _ _).symm.trans H; with_reducible exact H2_) | with_reducible exact H | (rw [hy261]; exact H) | exact H
  have Ny261 := Aside0.mk hy261
  clear hy261
  simp only [Option.some.injEq, Prod.mk.injEq] at H
  obtain ⟨rfl, rfl⟩ := H
  go_enter Try.func45, Try.ntmps45
  go_wp2_with (first | ((with_reducible refine gate_dst (N := 0) rfl ?_); refine box_event ?hg (N := 0) ?hd (cs := #[.slice none 0 0, .slice none 0 0]) (t := 26) ?hr ?_; (case hd => rfl); (case hg => rfl); (case hr => first | (go_simp; done) | (go_simp; rfl)); intro gb215 hg w7 hbox hb; have n0_ := Aside0.mk (below_step (by repeat (first | (with_reducible first | exact HB.out | apply below_alloc | apply pw_below_drewN | apply below_drew1) | exact HB.out)) hb); have n1_ := Aside0.mk (hbox); have n2_ := Aside0.mk ((by rw [hg]; exact (below_size (by repeat (first | (with_reducible first | exact HB.out | apply below_alloc | apply pw_below_drewN | apply below_drew1) | exact HB.out))) : w.heap.size ≤ gb215)); have n3_ := Aside0.mk ((by rw [hg]; exact (below_size (by repeat (first | (with_reducible first | exact HB.out | apply below_alloc | apply pw_below_drewN | apply below_drew1) | exact HB.out))) : w.heap.size ≤ gb215)); clear HB; have HB := n0_; have BK215 := n1_; have GW215 := n2_; have GE215 := n3_; clear n0_ n1_ n2_ n3_; clear hb hbox hg) | ((with_reducible refine gate_dst (N := 5) rfl ?_); refine Kd.R_lit k51 _ 51 ?hg (N := 5) ?hd (xs := ([(⟨(⟨#[102, 111, 111, 100]⟩ : ByteArray), (-1)⟩ : S51), (⟨(⟨#[98, 114, 101, 97, 100]⟩ : ByteArray), 0⟩ : S51), (⟨(⟨#[99, 108, 111, 116, 104]⟩ : ByteArray), (-1)⟩ : S51), (⟨(⟨#[104, 97, 116, 115]⟩ : ByteArray), 2⟩ : S51)] : List (S51))) (inner := [.string (⟨#[102, 111, 111, 100]⟩ : ByteArray), .int .i64 (-1), .string (⟨#[98, 114, 101, 97, 100]⟩ : ByteArray), .int .i64 0, .string (⟨#[99, 108, 111, 116, 104]⟩ : ByteArray), .int .i64 (-1), .string (⟨#[104, 97, 116, 115]⟩ : ByteArray), .int .i64 2]) (ok := fun _ => True) (okp := fun _ => True) ?hr ?hp (fun _ hk => hk) trivial (Below.refl _ _) (Nat.le_refl _) (by simp) ?_; (case hd => rfl); (case hg => rfl); (case hr => first | (go_simp; done) | (go_simp; rfl)); (case hp => exact (Reps.c2 (show Kd.M k51 _ _ _ (⟨(⟨#[102, 111, 111, 100]⟩ : ByteArray), (-1)⟩ : S51) [.string (⟨#[102, 111, 111, 100]⟩ : ByteArray), .int .i64 (-1)] from (k51_mkM _ _ _ (⟨(⟨#[102, 111, 111, 100]⟩ : ByteArray), (-1)⟩ : S51) )) (Reps.c2 (show Kd.M k51 _ _ _ (⟨(⟨#[98, 114, 101, 97, 100]⟩ : ByteArray), 0⟩ : S51) [.string (⟨#[98, 114, 101, 97, 100]⟩ : ByteArray), .int .i64 0] from (k51_mkM _ _ _ (⟨(⟨#[98, 114, 101, 97, 100]⟩ : ByteArray), 0⟩ : S51) )) (Reps.c2 (show Kd.M k51 _ _ _ (⟨(⟨#[99, 108, 111, 116, 104]⟩ : ByteArray), (-1)⟩ : S51) [.string (⟨#[99, 108, 111, 116, 104]⟩ : ByteArray), .int .i64 (-1)] from (k51_mkM _ _ _ (⟨(⟨#[99, 108, 111, 116, 104]⟩ : ByteArray), (-1)⟩ : S51) )) (Reps.c2 (show Kd.M k51 _ _ _ (⟨(⟨#[104, 97, 116, 115]⟩ : ByteArray), 2⟩ : S51) [.string (⟨#[104, 97, 116, 115]⟩ : ByteArray), .int .i64 2] from (k51_mkM _ _ _ (⟨(⟨#[104, 97, 116, 115]⟩ : ByteArray), 2⟩ : S51) )) (Reps.none _ _)))))); intro v217 w8 ho9 hb hg_ hnew_; clear hg_ hnew_; (first | rw [← Ny216.out] at ho9 | (simp only [Int.reduceToNat] at ho9; rw [← Ny216.out] at ho9)); have n0_ := Aside0.mk (Kd.R_lower (Kd.R_newM (M := fun k_ => (w.heap.size ≤ k_)) ho9 (below_size (by repeat (first | (with_reducible first | exact HB.out | apply below_alloc | apply pw_below_drewN | apply below_drew1 | refine below_set ?_ GE215.out) | exact HB.out))) (fun k_ h_ => h_)) (below_size (by repeat (first | (with_reducible first | exact HB.out | apply below_alloc | apply pw_below_drewN | apply below_drew1 | refine below_set ?_ GE215.out) | exact HB.out)))); have n1_ := Aside0.mk (blk_below (g := gb215) (o := .cells #[.slice none 0 0, .slice none 0 0] 26 (0, 0)) (by (with_reducible repeat (first | refine blk_drewN ?_ _ | refine blk_drew ?_ | refine blk_alloc ?_ _)); exact BK215.out) hb); have n2_ := Aside0.mk (below_step (by repeat (first | (with_reducible first | exact HB.out | apply below_alloc | apply pw_below_drewN | apply below_drew1 | refine below_set ?_ GE215.out) | exact HB.out)) hb); clear BK215; clear HB; have HO218 := n0_; have BK215 := n1_; have HB := n2_; clear n0_ n1_ n2_; clear hb ho9) | ((with_reducible refine gate_callee (f := 70) rfl ?_); refine goesL_ (some 6) rfl rfl Try.func70 (by kernel_rfl) rfl #[.string (⟨#[98, 97, 107, 101, 114]⟩ : ByteArray), .int .i64 1, .slice none 0 0] rfl (by (try simp only [List.map_toArray, List.map_cons, List.map_nil]); first | done | rfl | (simp only [List.length_drop, List.length_take]; rfl)) ?_; (refine (wayzgooselaw04_is.calls (⟨#[98, 97, 107, 101, 114]⟩ : ByteArray) 1 (fun k_ => some k_ = (.slice none 0 0 : Value).ownBlock) (.slice none 0 0) ([] : List Int) t219 t220 t221 t222 w _ ?side1 ?side2 A1.out).mono ?_); (case side1 => repeat (first | (with_reducible first | exact HB.out | apply below_alloc | apply pw_below_drewN | apply below_drew1 | refine below_set ?_ GE215.out) | exact HB.out)); (case side2 => exact Kd.R_nil _ _ _ _ _); rintro e w10 ⟨v223, rfl, ho0, hb, hkp⟩; refine ⟨_, rfl, ?_⟩; have n0_ := Aside0.mk (blk_kept (by (with_reducible repeat (first | refine blk_drewN ?_ _ | refine blk_drew ?_ | refine blk_alloc ?_ _)); exact BK215.out) hkp (fun hs_ => (fun e_ => by simp [Value.ownBlock] at e_) hs_)); have n1_ := Aside0.mk (Kd.R_mono (ok' := fun k_ => (w.heap.size ≤ k_)) (Kd.R_keptB (HO218.out) hkp (fun k_ hk_ hs_ => (fun e_ => by simp [Value.ownBlock] at e_) hs_)) (fun k_ hk_ => hk_.1.1)); have n2_ := Aside0.mk (Kd.R_mono (ok' := fun k_ => (w.heap.size ≤ k_)) ho0 (fun k_ hk_ => Or.elim hk_ (fun hs_ => absurd hs_ (by simp [Value.ownBlock])) (fun hn_ => (Nat.le_trans (below_size (by repeat (first | (with_reducible first | exact HB.out | apply below_alloc | apply pw_below_drewN | apply below_drew1 | refine below_set ?_ GE215.out) | exact HB.out))) hn_)))); have n3_ := Aside0.mk (hb); clear BK215; clear HO218; clear HB; have BK215 := n0_; have HO218 := n1_; have HO224 := n2_; have HB := n3_; clear n0_ n1_ n2_ n3_; (try clear hb); (try clear hkp); (try clear ho0)) | ((with_reducible refine gate_callee (f := 71) rfl ?_); refine goesL_ (some 7) rfl rfl Try.func71 (by kernel_rfl) rfl #[.string (⟨#[98, 111, 110, 110, 101, 116, 115]⟩ : ByteArray), .int .i64 3] rfl (by (try simp only [List.map_toArray, List.map_cons, List.map_nil]); first | done | rfl | (simp only [List.length_drop, List.length_take]; rfl)) ?_; (with_reducible refine (wayzgooselaw04_see.calls (⟨#[98, 111, 110, 110, 101, 116, 115]⟩ : ByteArray) 3 t225 t226 t227 t228 _ A2.out).mono ?_); rintro e w11 ⟨v229, rfl, ho0, hb⟩; refine ⟨_, rfl, ?_⟩; have n0_ := Aside0.mk (Kd.R_below (by (with_reducible repeat (first | apply Kd.R_alloc | apply Kd.R_drewN | apply Kd.R_drew)); exact HO218.out) hb); have n1_ := Aside0.mk (Kd.R_elder' (by (with_reducible repeat (first | apply Kd.R_alloc | apply Kd.R_drewN | apply Kd.R_drew)); exact HO224.out) (Kd.R_base ho0) hb); have n2_ := Aside0.mk (Kd.R_lower (Kd.R_new' (Kd.R_newM (M := fun k_ => (w.heap.size ≤ k_)) ho0 (below_size (by repeat (first | (with_reducible first | exact HB.out | apply below_alloc | apply pw_below_drewN | apply below_drew1 | refine below_set ?_ GE215.out) | exact HB.out))) (fun k_ h_ => h_)) (Kd.R_lt (by (with_reducible repeat (first | apply Kd.R_alloc | apply Kd.R_drewN | apply Kd.R_drew)); exact HO224.out))) (below_size (by repeat (first | (with_reducible first | exact HB.out | apply below_alloc | apply pw_below_drewN | apply below_drew1 | refine below_set ?_ GE215.out) | exact HB.out)))); have n3_ := Aside0.mk (blk_below (g := gb215) (o := .cells #[.slice none 0 0, .slice none 0 0] 26 (0, 0)) (by (with_reducible repeat (first | refine blk_drewN ?_ _ | refine blk_drew ?_ | refine blk_alloc ?_ _)); exact BK215.out) hb); have n4_ := Aside0.mk (below_step (by repeat (first | (with_reducible first | exact HB.out | apply below_alloc | apply pw_below_drewN | apply below_drew1 | refine below_set ?_ GE215.out) | exact HB.out)) hb); clear HO218; clear HO224; clear BK215; clear HB; have HO218 := n0_; have HO224 := n1_; have HO230 := n2_; have BK215 := n3_; have HB := n4_; clear n0_ n1_ n2_ n3_ n4_; (try clear hb); (try clear hb2); (try clear hk); (try clear hi); (try clear ho0)) | ((with_reducible refine gate_dst (N := 8) rfl ?_); refine Kd.R_lit (Kd.int .i64) _ 3 ?hg (N := 8) ?hd (xs := ([0] : List Int)) (inner := [.int .i64 0]) (ok := fun _ => True) (okp := fun _ => True) ?hr ?hp (fun _ hk => hk) trivial (Below.refl _ _) (Nat.le_refl _) (by simp) ?_; (case hd => rfl); (case hg => rfl); (case hr => first | (go_simp; done) | (go_simp; rfl)); (case hp => exact (Reps.one (show Kd.M (Kd.int .i64) _ _ _ 0 [.int .i64 0] from rfl) (Reps.none _ _))); intro v232 w12 ho13 hb hg_ hnew_; clear hg_ hnew_; (first | rw [← Ny231.out] at ho13 | (simp only [Int.reduceToNat] at ho13; rw [← Ny231.out] at ho13)); have n0_ := Aside0.mk (Kd.R_below (by (with_reducible repeat (first | apply Kd.R_alloc | apply Kd.R_drewN | apply Kd.R_drew)); exact HO218.out) hb); have n1_ := Aside0.mk (Kd.R_elder' (by (with_reducible repeat (first | apply Kd.R_alloc | apply Kd.R_drewN | apply Kd.R_drew)); exact HO224.out) (Kd.R_base ho13) hb); have n2_ := Aside0.mk (Kd.R_elder' (by (with_reducible repeat (first | apply Kd.R_alloc | apply Kd.R_drewN | apply Kd.R_drew)); exact HO230.out) (Kd.R_base ho13) hb); have n3_ := Aside0.mk (Kd.R_lower (Kd.R_new' (Kd.R_new' (Kd.R_newM (M := fun k_ => (w.heap.size ≤ k_)) ho13 (below_size (by repeat (first | (with_reducible first | exact HB.out | apply below_alloc | apply pw_below_drewN | apply below_drew1 | refine below_set ?_ GE215.out) | exact HB.out))) (fun k_ h_ => h_)) (Kd.R_lt (by (with_reducible repeat (first | apply Kd.R_alloc | apply Kd.R_drewN | apply Kd.R_drew)); exact HO224.out))) (Kd.R_lt (by (with_reducible repeat (first | apply Kd.R_alloc | apply Kd.R_drewN | apply Kd.R_drew)); exact HO230.out))) (below_size (by repeat (first | (with_reducible first | exact HB.out | apply below_alloc | apply pw_below_drewN | apply below_drew1 | refine below_set ?_ GE215.out) | exact HB.out)))); have n4_ := Aside0.mk (blk_below (g := gb215) (o := .cells #[.slice none 0 0, .slice none 0 0] 26 (0, 0)) (by (with_reducible repeat (first | refine blk_drewN ?_ _ | refine blk_drew ?_ | refine blk_alloc ?_ _)); exact BK215.out) hb); have n5_ := Aside0.mk (below_step (by repeat (first | (with_reducible first | exact HB.out | apply below_alloc | apply pw_below_drewN | apply below_drew1 | refine below_set ?_ GE215.out) | exact HB.out)) hb); clear HO218; clear HO224; clear HO230; clear BK215; clear HB; have HO218 := n0_; have HO224 := n1_; have HO230 := n2_; have HO233 := n3_; have BK215 := n4_; have HB := n5_; clear n0_ n1_ n2_ n3_ n4_ n5_; clear hb ho13; obtain ⟨Ao14, co14, eo14⟩ := Kd.R_slice HO233.out; subst eo14) | ((with_reducible refine gate_callee (f := 70) rfl ?_); refine goesL_ (some 9) rfl rfl Try.func70 (by kernel_rfl) rfl #[.string (⟨#[99, 111, 110, 102, 101, 99, 116, 105, 111, 110, 101, 114]⟩ : ByteArray), .int .i64 0, .slice Ao14 y231.length co14] rfl (by (try simp only [List.map_toArray, List.map_cons, List.map_nil]); first | done | rfl | (simp only [List.length_drop, List.length_take]; rfl)) ?_; (with_reducible refine (wayzgooselaw04_is.calls (⟨#[99, 111, 110, 102, 101, 99, 116, 105, 111, 110, 101, 114]⟩ : ByteArray) 0 (fun k_ => some k_ = (.slice Ao14 y231.length co14 : Value).ownBlock) (.slice Ao14 y231.length co14) y231 t234 t235 t236 t237 w _ ?side1 ?side2 A3.out).mono ?_); (case side1 => repeat (first | (with_reducible first | exact HB.out | apply below_alloc | apply pw_below_drewN | apply below_drew1 | refine below_set ?_ GE215.out) | exact HB.out)); (case side2 => exact Kd.R_tight rfl HO233.out); rintro e w15 ⟨v238, rfl, ho0, hb, hkp⟩; refine ⟨_, rfl, ?_⟩; have n0_ := Aside0.mk (blk_kept (by (with_reducible repeat (first | refine blk_drewN ?_ _ | refine blk_drew ?_ | refine blk_alloc ?_ _)); exact BK215.out) hkp (fun hs_ => (fun e_ => (Kd.R_ne HO233.out BK215.out (by decide)) e_) hs_)); have n1_ := Aside0.mk (Kd.R_mono (ok' := fun k_ => (w.heap.size ≤ k_)) (Kd.R_keptB ((Kd.R_apart' HO218.out (Kd.R_typed HO233.out) (by decide))) hkp (fun k_ hk_ hs_ => (hk_.2) hs_)) (fun k_ hk_ => hk_.1.1)); have n2_ := Aside0.mk (Kd.R_mono (ok' := fun k_ => (w.heap.size ≤ k_) ∧ some k_ ≠ (v229 : Value).ownBlock ∧ some k_ ≠ (v238 : Value).ownBlock) (Kd.R_keptB (HO224.out) hkp (fun k_ hk_ hs_ => (hk_.2) hs_)) (fun k_ hk_ => ⟨hk_.1.1.1, hk_.1.1.2, fun e_ => Or.elim (ho0.1 k_ e_.symm) (fun hs_ => hk_.2.1 hs_) (fun hn_ => Nat.not_le.2 hk_.2.2 hn_)⟩)); have n3_ := Aside0.mk (Kd.R_mono (ok' := fun k_ => (w.heap.size ≤ k_) ∧ some k_ ≠ (v223 : Value).ownBlock ∧ some k_ ≠ (v238 : Value).ownBlock) (Kd.R_keptB (HO230.out) hkp (fun k_ hk_ hs_ => (hk_.2) hs_)) (fun k_ hk_ => ⟨hk_.1.1.1.1, hk_.1.1.2, fun e_ => Or.elim (ho0.1 k_ e_.symm) (fun hs_ => hk_.2.1 hs_) (fun hn_ => Nat.not_le.2 hk_.2.2 hn_)⟩)); have n4_ := Aside0.mk (Kd.R_mono (ok' := fun k_ => (w.heap.size ≤ k_) ∧ some k_ ≠ (v223 : Value).ownBlock ∧ some k_ ≠ (v229 : Value).ownBlock) ho0 (fun k_ hk_ => ⟨Or.elim hk_ (fun hs_ => (HO233.out.1 k_ (hs_).symm).1.1.1) (fun hn_ => (Nat.le_trans (below_size (by repeat (first | (with_reducible first | exact HB.out | apply below_alloc | apply pw_below_drewN | apply below_drew1 | refine below_set ?_ GE215.out) | exact HB.out))) hn_)), Or.elim hk_ (fun hs_ => fun e_ => (((HO224.out).1 k_ e_.symm).2) hs_) (fun hn_ => (Kd.fresh' (Kd.R_lt (by (with_reducible repeat (first | apply Kd.R_alloc | apply Kd.R_drewN | apply Kd.R_drew)); exact HO224.out)) k_ hn_)), Or.elim hk_ (fun hs_ => fun e_ => (((HO230.out).1 k_ e_.symm).2) hs_) (fun hn_ => (Kd.fresh' (Kd.R_lt (by (with_reducible repeat (first | apply Kd.R_alloc | apply Kd.R_drewN | apply Kd.R_drew)); exact HO230.out)) k_ hn_))⟩)); have n5_ := Aside0.mk (hb); clear BK215; clear HO218; clear HO224; clear HO230; clear HB; clear HO233; have BK215 := n0_; have HO218 := n1_; have HO224 := n2_; have HO230 := n3_; have HO239 := n4_; have HB := n5_; clear n0_ n1_ n2_ n3_ n4_ n5_; (try clear hb); (try clear hkp); (try clear ho0)) | ((with_reducible refine gate_callee (f := 70) rfl ?_); refine goesL_ (some 10) rfl rfl Try.func70 (by kernel_rfl) rfl #[.string (⟨#[104, 97, 116, 116, 101, 114]⟩ : ByteArray), .int .i64 3, .slice none 0 0] rfl (by (try simp only [List.map_toArray, List.map_cons, List.map_nil]); first | done | rfl | (simp only [List.length_drop, List.length_take]; rfl)) ?_; (refine (wayzgooselaw04_is.calls (⟨#[104, 97, 116, 116, 101, 114]⟩ : ByteArray) 3 (fun k_ => some k_ = (.slice none 0 0 : Value).ownBlock) (.slice none 0 0) ([] : List Int) t240 t241 t242 t243 w _ ?side1 ?side2 A4.out).mono ?_); (case side1 => repeat (first | (with_reducible first | exact HB.out | apply below_alloc | apply pw_below_drewN | apply below_drew1 | refine below_set ?_ GE215.out) | exact HB.out)); (case side2 => exact Kd.R_nil _ _ _ _ _); rintro e w16 ⟨v244, rfl, ho0, hb, hkp⟩; refine ⟨_, rfl, ?_⟩; have n0_ := Aside0.mk (blk_kept (by (with_reducible repeat (first | refine blk_drewN ?_ _ | refine blk_drew ?_ | refine blk_alloc ?_ _)); exact BK215.out) hkp (fun hs_ => (fun e_ => by simp [Value.ownBlock] at e_) hs_)); have n1_ := Aside0.mk (Kd.R_mono (ok' := fun k_ => (w.heap.size ≤ k_)) (Kd.R_keptB (HO218.out) hkp (fun k_ hk_ hs_ => (fun e_ => by simp [Value.ownBlock] at e_) hs_)) (fun k_ hk_ => hk_.1)); have n2_ := Aside0.mk (Kd.R_mono (ok' := fun k_ => (w.heap.size ≤ k_) ∧ some k_ ≠ (v229 : Value).ownBlock ∧ some k_ ≠ (v238 : Value).ownBlock ∧ some k_ ≠ (v244 : Value).ownBlock) (Kd.R_keptB (HO224.out) hkp (fun k_ hk_ hs_ => (fun e_ => by simp [Value.ownBlock] at e_) hs_)) (fun k_ hk_ => ⟨hk_.1.1, hk_.1.2.1, hk_.1.2.2, fun e_ => Or.elim (ho0.1 k_ e_.symm) (fun hs_ => hk_.2.1 hs_) (fun hn_ => Nat.not_le.2 hk_.2.2 hn_)⟩)); have n3_ := Aside0.mk (Kd.R_mono (ok' := fun k_ => (w.heap.size ≤ k_) ∧ some k_ ≠ (v223 : Value).ownBlock ∧ some k_ ≠ (v238 : Value).ownBlock ∧ some k_ ≠ (v244 : Value).ownBlock) (Kd.R_keptB (HO230.out) hkp (fun k_ hk_ hs_ => (fun e_ => by simp [Value.ownBlock] at e_) hs_)) (fun k_ hk_ => ⟨hk_.1.1, hk_.1.2.1, hk_.1.2.2, fun e_ => Or.elim (ho0.1 k_ e_.symm) (fun hs_ => hk_.2.1 hs_) (fun hn_ => Nat.not_le.2 hk_.2.2 hn_)⟩)); have n4_ := Aside0.mk (Kd.R_mono (ok' := fun k_ => (w.heap.size ≤ k_) ∧ some k_ ≠ (v223 : Value).ownBlock ∧ some k_ ≠ (v229 : Value).ownBlock ∧ some k_ ≠ (v244 : Value).ownBlock) (Kd.R_keptB (HO239.out) hkp (fun k_ hk_ hs_ => (fun e_ => by simp [Value.ownBlock] at e_) hs_)) (fun k_ hk_ => ⟨hk_.1.1, hk_.1.2.1, hk_.1.2.2, fun e_ => Or.elim (ho0.1 k_ e_.symm) (fun hs_ => hk_.2.1 hs_) (fun hn_ => Nat.not_le.2 hk_.2.2 hn_)⟩)); have n5_ := Aside0.mk (Kd.R_mono (ok' := fun k_ => (w.heap.size ≤ k_) ∧ some k_ ≠ (v223 : Value).ownBlock ∧ some k_ ≠ (v229 : Value).ownBlock ∧ some k_ ≠ (v238 : Value).ownBlock) ho0 (fun k_ hk_ => ⟨Or.elim hk_ (fun hs_ => absurd hs_ (by simp [Value.ownBlock])) (fun hn_ => (Nat.le_trans (below_size (by repeat (first | (with_reducible first | exact HB.out | apply below_alloc | apply pw_below_drewN | apply below_drew1 | refine below_set ?_ GE215.out) | exact HB.out))) hn_)), Or.elim hk_ (fun hs_ => absurd hs_ (by simp [Value.ownBlock])) (fun hn_ => (Kd.fresh' (Kd.R_lt (by (with_reducible repeat (first | apply Kd.R_alloc | apply Kd.R_drewN | apply Kd.R_drew)); exact HO224.out)) k_ hn_)), Or.elim hk_ (fun hs_ => absurd hs_ (by simp [Value.ownBlock])) (fun hn_ => (Kd.fresh' (Kd.R_lt (by (with_reducible repeat (first | apply Kd.R_alloc | apply Kd.R_drewN | apply Kd.R_drew)); exact HO230.out)) k_ hn_)), Or.elim hk_ (fun hs_ => absurd hs_ (by simp [Value.ownBlock])) (fun hn_ => (Kd.fresh' (Kd.R_lt (by (with_reducible repeat (first | apply Kd.R_alloc | apply Kd.R_drewN | apply Kd.R_drew)); exact HO239.out)) k_ hn_))⟩)); have n6_ := Aside0.mk (hb); clear BK215; clear HO218; clear HO224; clear HO230; clear HO239; clear HB; have BK215 := n0_; have HO218 := n1_; have HO224 := n2_; have HO230 := n3_; have HO239 := n4_; have HO245 := n5_; have HB := n6_; clear n0_ n1_ n2_ n3_ n4_ n5_ n6_; (try clear hb); (try clear hkp); (try clear ho0)) | ((with_reducible refine gate_dst (N := 11) rfl ?_); refine Kd.R_lit (Kd.int .i64) _ 3 ?hg (N := 11) ?hd (xs := ([3] : List Int)) (inner := [.int .i64 3]) (ok := fun _ => True) (okp := fun _ => True) ?hr ?hp (fun _ hk => hk) trivial (Below.refl _ _) (Nat.le_refl _) (by simp) ?_; (case hd => rfl); (case hg => rfl); (case hr => first | (go_simp; done) | (go_simp; rfl)); (case hp => exact (Reps.one (show Kd.M (Kd.int .i64) _ _ _ 3 [.int .i64 3] from rfl) (Reps.none _ _))); intro v247 w17 ho18 hb hg_ hnew_; clear hg_ hnew_; (first | rw [← Ny246.out] at ho18 | (simp only [Int.reduceToNat] at ho18; rw [← Ny246.out] at ho18)); have n0_ := Aside0.mk (Kd.R_below (by (with_reducible repeat (first | apply Kd.R_alloc | apply Kd.R_drewN | apply Kd.R_drew)); exact HO218.out) hb); have n1_ := Aside0.mk (Kd.R_elder' (by (with_reducible repeat (first | apply Kd.R_alloc | apply Kd.R_drewN | apply Kd.R_drew)); exact HO224.out) (Kd.R_base ho18) hb); have n2_ := Aside0.mk (Kd.R_elder' (by (with_reducible repeat (first | apply Kd.R_alloc | apply Kd.R_drewN | apply Kd.R_drew)); exact HO230.out) (Kd.R_base ho18) hb); have n3_ := Aside0.mk (Kd.R_elder' (by (with_reducible repeat (first | apply Kd.R_alloc | apply Kd.R_drewN | apply Kd.R_drew)); exact HO239.out) (Kd.R_base ho18) hb); have n4_ := Aside0.mk (Kd.R_elder' (by (with_reducible repeat (first | apply Kd.R_alloc | apply Kd.R_drewN | apply Kd.R_drew)); exact HO245.out) (Kd.R_base ho18) hb); have n5_ := Aside0.mk (Kd.R_lower (Kd.R_new' (Kd.R_new' (Kd.R_new' (Kd.R_new' (Kd.R_newM (M := fun k_ => (w.heap.size ≤ k_)) ho18 (below_size (by repeat (first | (with_reducible first | exact HB.out | apply below_alloc | apply pw_below_drewN | apply below_drew1 | refine below_set ?_ GE215.out) | exact HB.out))) (fun k_ h_ => h_)) (Kd.R_lt (by (with_reducible repeat (first | apply Kd.R_alloc | apply Kd.R_drewN | apply Kd.R_drew)); exact HO224.out))) (Kd.R_lt (by (with_reducible repeat (first | apply Kd.R_alloc | apply Kd.R_drewN | apply Kd.R_drew)); exact HO230.out))) (Kd.R_lt (by (with_reducible repeat (first | apply Kd.R_alloc | apply Kd.R_drewN | apply Kd.R_drew)); exact HO239.out))) (Kd.R_lt (by (with_reducible repeat (first | apply Kd.R_alloc | apply Kd.R_drewN | apply Kd.R_drew)); exact HO245.out))) (below_size (by repeat (first | (with_reducible first | exact HB.out | apply below_alloc | apply pw_below_drewN | apply below_drew1 | refine below_set ?_ GE215.out) | exact HB.out)))); have n6_ := Aside0.mk (blk_below (g := gb215) (o := .cells #[.slice none 0 0, .slice none 0 0] 26 (0, 0)) (by (with_reducible repeat (first | refine blk_drewN ?_ _ | refine blk_drew ?_ | refine blk_alloc ?_ _)); exact BK215.out) hb); have n7_ := Aside0.mk (below_step (by repeat (first | (with_reducible first | exact HB.out | apply below_alloc | apply pw_below_drewN | apply below_drew1 | refine below_set ?_ GE215.out) | exact HB.out)) hb); clear HO218; clear HO224; clear HO230; clear HO239; clear HO245; clear BK215; clear HB; have HO218 := n0_; have HO224 := n1_; have HO230 := n2_; have HO239 := n3_; have HO245 := n4_; have HO248 := n5_; have BK215 := n6_; have HB := n7_; clear n0_ n1_ n2_ n3_ n4_ n5_ n6_ n7_; clear hb ho18; obtain ⟨Ao19, co19, eo19⟩ := Kd.R_slice HO248.out; subst eo19) | ((with_reducible refine gate_callee (f := 70) rfl ?_); refine goesL_ (some 12) rfl rfl Try.func70 (by kernel_rfl) rfl #[.string (⟨#[109, 101, 114, 99, 101, 114]⟩ : ByteArray), .int .i64 2, .slice Ao19 y246.length co19] rfl (by (try simp only [List.map_toArray, List.map_cons, List.map_nil]); first | done | rfl | (simp only [List.length_drop, List.length_take]; rfl)) ?_; (with_reducible refine (wayzgooselaw04_is.calls (⟨#[109, 101, 114, 99, 101, 114]⟩ : ByteArray) 2 (fun k_ => some k_ = (.slice Ao19 y246.length co19 : Value).ownBlock) (.slice Ao19 y246.length co19) y246 t249 t250 t251 t252 w _ ?side1 ?side2 A5.out).mono ?_); (case side1 => repeat (first | (with_reducible first | exact HB.out | apply below_alloc | apply pw_below_drewN | apply below_drew1 | refine below_set ?_ GE215.out) | exact HB.out)); (case side2 => exact Kd.R_tight rfl HO248.out); rintro e w20 ⟨v253, rfl, ho0, hb, hkp⟩; refine ⟨_, rfl, ?_⟩; have n0_ := Aside0.mk (blk_kept (by (with_reducible repeat (first | refine blk_drewN ?_ _ | refine blk_drew ?_ | refine blk_alloc ?_ _)); exact BK215.out) hkp (fun hs_ => (fun e_ => (Kd.R_ne HO248.out BK215.out (by decide)) e_) hs_)); have n1_ := Aside0.mk (Kd.R_mono (ok' := fun k_ => (w.heap.size ≤ k_)) (Kd.R_keptB ((Kd.R_apart' HO218.out (Kd.R_typed HO248.out) (by decide))) hkp (fun k_ hk_ hs_ => (hk_.2) hs_)) (fun k_ hk_ => hk_.1.1)); have n2_ := Aside0.mk (Kd.R_mono (ok' := fun k_ => (w.heap.size ≤ k_) ∧ some k_ ≠ (v229 : Value).ownBlock ∧ some k_ ≠ (v238 : Value).ownBlock ∧ some k_ ≠ (v244 : Value).ownBlock ∧ some k_ ≠ (v253 : Value).ownBlock) (Kd.R_keptB (HO224.out) hkp (fun k_ hk_ hs_ => (hk_.2) hs_)) (fun k_ hk_ => ⟨hk_.1.1.1, hk_.1.1.2.1, hk_.1.1.2.2.1, hk_.1.1.2.2.2, fun e_ => Or.elim (ho0.1 k_ e_.symm) (fun hs_ => hk_.2.1 hs_) (fun hn_ => Nat.not_le.2 hk_.2.2 hn_)⟩)); have n3_ := Aside0.mk (Kd.R_mono (ok' := fun k_ => (w.heap.size ≤ k_) ∧ some k_ ≠ (v223 : Value).ownBlock ∧ some k_ ≠ (v238 : Value).ownBlock ∧ some k_ ≠ (v244 : Value).ownBlock ∧ some k_ ≠ (v253 : Value).ownBlock) (Kd.R_keptB (HO230.out) hkp (fun k_ hk_ hs_ => (hk_.2) hs_)) (fun k_ hk_ => ⟨hk_.1.1.1, hk_.1.1.2.1, hk_.1.1.2.2.1, hk_.1.1.2.2.2, fun e_ => Or.elim (ho0.1 k_ e_.symm) (fun hs_ => hk_.2.1 hs_) (fun hn_ => Nat.not_le.2 hk_.2.2 hn_)⟩)); have n4_ := Aside0.mk (Kd.R_mono (ok' := fun k_ => (w.heap.size ≤ k_) ∧ some k_ ≠ (v223 : Value).ownBlock ∧ some k_ ≠ (v229 : Value).ownBlock ∧ some k_ ≠ (v244 : Value).ownBlock ∧ some k_ ≠ (v253 : Value).ownBlock) (Kd.R_keptB (HO239.out) hkp (fun k_ hk_ hs_ => (hk_.2) hs_)) (fun k_ hk_ => ⟨hk_.1.1.1, hk_.1.1.2.1, hk_.1.1.2.2.1, hk_.1.1.2.2.2, fun e_ => Or.elim (ho0.1 k_ e_.symm) (fun hs_ => hk_.2.1 hs_) (fun hn_ => Nat.not_le.2 hk_.2.2 hn_)⟩)); have n5_ := Aside0.mk (Kd.R_mono (ok' := fun k_ => (w.heap.size ≤ k_) ∧ some k_ ≠ (v223 : Value).ownBlock ∧ some k_ ≠ (v229 : Value).ownBlock ∧ some k_ ≠ (v238 : Value).ownBlock ∧ some k_ ≠ (v253 : Value).ownBlock) (Kd.R_keptB (HO245.out) hkp (fun k_ hk_ hs_ => (hk_.2) hs_)) (fun k_ hk_ => ⟨hk_.1.1.1, hk_.1.1.2.1, hk_.1.1.2.2.1, hk_.1.1.2.2.2, fun e_ => Or.elim (ho0.1 k_ e_.symm) (fun hs_ => hk_.2.1 hs_) (fun hn_ => Nat.not_le.2 hk_.2.2 hn_)⟩)); have n6_ := Aside0.mk (Kd.R_mono (ok' := fun k_ => (w.heap.size ≤ k_) ∧ some k_ ≠ (v223 : Value).ownBlock ∧ some k_ ≠ (v229 : Value).ownBlock ∧ some k_ ≠ (v238 : Value).ownBlock ∧ some k_ ≠ (v244 : Value).ownBlock) ho0 (fun k_ hk_ => ⟨Or.elim hk_ (fun hs_ => (HO248.out.1 k_ (hs_).symm).1.1.1.1.1) (fun hn_ => (Nat.le_trans (below_size (by repeat (first | (with_reducible first | exact HB.out | apply below_alloc | apply pw_below_drewN | apply below_drew1 | refine below_set ?_ GE215.out) | exact HB.out))) hn_)), Or.elim hk_ (fun hs_ => fun e_ => (((HO224.out).1 k_ e_.symm).2) hs_) (fun hn_ => (Kd.fresh' (Kd.R_lt (by (with_reducible repeat (first | apply Kd.R_alloc | apply Kd.R_drewN | apply Kd.R_drew)); exact HO224.out)) k_ hn_)), Or.elim hk_ (fun hs_ => fun e_ => (((HO230.out).1 k_ e_.symm).2) hs_) (fun hn_ => (Kd.fresh' (Kd.R_lt (by (with_reducible repeat (first | apply Kd.R_alloc | apply Kd.R_drewN | apply Kd.R_drew)); exact HO230.out)) k_ hn_)), Or.elim hk_ (fun hs_ => fun e_ => (((HO239.out).1 k_ e_.symm).2) hs_) (fun hn_ => (Kd.fresh' (Kd.R_lt (by (with_reducible repeat (first | apply Kd.R_alloc | apply Kd.R_drewN | apply Kd.R_drew)); exact HO239.out)) k_ hn_)), Or.elim hk_ (fun hs_ => fun e_ => (((HO245.out).1 k_ e_.symm).2) hs_) (fun hn_ => (Kd.fresh' (Kd.R_lt (by (with_reducible repeat (first | apply Kd.R_alloc | apply Kd.R_drewN | apply Kd.R_drew)); exact HO245.out)) k_ hn_))⟩)); have n7_ := Aside0.mk (hb); clear BK215; clear HO218; clear HO224; clear HO230; clear HO239; clear HO245; clear HB; clear HO248; have BK215 := n0_; have HO218 := n1_; have HO224 := n2_; have HO230 := n3_; have HO239 := n4_; have HO245 := n5_; have HO254 := n6_; have HB := n7_; clear n0_ n1_ n2_ n3_ n4_ n5_ n6_ n7_; (try clear hb); (try clear hkp); (try clear ho0)) | ((with_reducible refine gate_callee (f := 71) rfl ?_); refine goesL_ (some 13) rfl rfl Try.func71 (by kernel_rfl) rfl #[.string (⟨#[109, 105, 108, 108, 105, 110, 101, 114]⟩ : ByteArray), .int .i64 1] rfl (by (try simp only [List.map_toArray, List.map_cons, List.map_nil]); first | done | rfl | (simp only [List.length_drop, List.length_take]; rfl)) ?_; (with_reducible refine (wayzgooselaw04_see.calls (⟨#[109, 105, 108, 108, 105, 110, 101, 114]⟩ : ByteArray) 1 t255 t256 t257 t258 _ A6.out).mono ?_); rintro e w21 ⟨v259, rfl, ho0, hb⟩; refine ⟨_, rfl, ?_⟩; have n0_ := Aside0.mk (Kd.R_below (by (with_reducible repeat (first | apply Kd.R_alloc | apply Kd.R_drewN | apply Kd.R_drew)); exact HO218.out) hb); have n1_ := Aside0.mk (Kd.R_elder' (by (with_reducible repeat (first | apply Kd.R_alloc | apply Kd.R_drewN | apply Kd.R_drew)); exact HO224.out) (Kd.R_base ho0) hb); have n2_ := Aside0.mk (Kd.R_elder' (by (with_reducible repeat (first | apply Kd.R_alloc | apply Kd.R_drewN | apply Kd.R_drew)); exact HO230.out) (Kd.R_base ho0) hb); have n3_ := Aside0.mk (Kd.R_elder' (by (with_reducible repeat (first | apply Kd.R_alloc | apply Kd.R_drewN | apply Kd.R_drew)); exact HO239.out) (Kd.R_base ho0) hb); have n4_ := Aside0.mk (Kd.R_elder' (by (with_reducible repeat (first | apply Kd.R_alloc | apply Kd.R_drewN | apply Kd.R_drew)); exact HO245.out) (Kd.R_base ho0) hb); have n5_ := Aside0.mk (Kd.R_elder' (by (with_reducible repeat (first | apply Kd.R_alloc | apply Kd.R_drewN | apply Kd.R_drew)); exact HO254.out) (Kd.R_base ho0) hb); have n6_ := Aside0.mk (Kd.R_lower (Kd.R_new' (Kd.R_new' (Kd.R_new' (Kd.R_new' (Kd.R_new' (Kd.R_newM (M := fun k_ => (w.heap.size ≤ k_)) ho0 (below_size (by repeat (first | (with_reducible first | exact HB.out | apply below_alloc | apply pw_below_drewN | apply below_drew1 | refine below_set ?_ GE215.out) | exact HB.out))) (fun k_ h_ => h_)) (Kd.R_lt (by (with_reducible repeat (first | apply Kd.R_alloc | apply Kd.R_drewN | apply Kd.R_drew)); exact HO224.out))) (Kd.R_lt (by (with_reducible repeat (first | apply Kd.R_alloc | apply Kd.R_drewN | apply Kd.R_drew)); exact HO230.out))) (Kd.R_lt (by (with_reducible repeat (first | apply Kd.R_alloc | apply Kd.R_drewN | apply Kd.R_drew)); exact HO239.out))) (Kd.R_lt (by (with_reducible repeat (first | apply Kd.R_alloc | apply Kd.R_drewN | apply Kd.R_drew)); exact HO245.out))) (Kd.R_lt (by (with_reducible repeat (first | apply Kd.R_alloc | apply Kd.R_drewN | apply Kd.R_drew)); exact HO254.out))) (below_size (by repeat (first | (with_reducible first | exact HB.out | apply below_alloc | apply pw_below_drewN | apply below_drew1 | refine below_set ?_ GE215.out) | exact HB.out)))); have n7_ := Aside0.mk (blk_below (g := gb215) (o := .cells #[.slice none 0 0, .slice none 0 0] 26 (0, 0)) (by (with_reducible repeat (first | refine blk_drewN ?_ _ | refine blk_drew ?_ | refine blk_alloc ?_ _)); exact BK215.out) hb); have n8_ := Aside0.mk (below_step (by repeat (first | (with_reducible first | exact HB.out | apply below_alloc | apply pw_below_drewN | apply below_drew1 | refine below_set ?_ GE215.out) | exact HB.out)) hb); clear HO218; clear HO224; clear HO230; clear HO239; clear HO245; clear HO254; clear BK215; clear HB; have HO218 := n0_; have HO224 := n1_; have HO230 := n2_; have HO239 := n3_; have HO245 := n4_; have HO254 := n5_; have HO260 := n6_; have BK215 := n7_; have HB := n8_; clear n0_ n1_ n2_ n3_ n4_ n5_ n6_ n7_ n8_; (try clear hb); (try clear hb2); (try clear hk); (try clear hi); (try clear ho0); obtain ⟨Ao22, co22, eo22⟩ := Kd.R_slice HO224.out; subst eo22; obtain ⟨Ao23, co23, eo23⟩ := Kd.R_slice HO230.out; subst eo23; obtain ⟨Ao24, co24, eo24⟩ := Kd.R_slice HO239.out; subst eo24; obtain ⟨Ao25, co25, eo25⟩ := Kd.R_slice HO245.out; subst eo25; obtain ⟨Ao26, co26, eo26⟩ := Kd.R_slice HO254.out; subst eo26; obtain ⟨Ao27, co27, eo27⟩ := Kd.R_slice HO260.out; subst eo27) | ((with_reducible refine gate_dst (N := 14) rfl ?_); refine Kd.N_lit k39 _ 39 ?hg (N' := 14) ?hd (xs := ([(⟨t219, t220, t221, t222⟩ : S39), (⟨t225, t226, t227, t228⟩ : S39), (⟨t234, t235, t236, t237⟩ : S39), (⟨t240, t241, t242, t243⟩ : S39), (⟨t249, t250, t251, t252⟩ : S39), (⟨t255, t256, t257, t258⟩ : S39)] : List (S39))) (inner := [.string t219, .int .i64 t220, .int .i64 t221, .slice Ao22 t222.length co22, .string t225, .int .i64 t226, .int .i64 t227, .slice Ao23 t228.length co23, .string t234, .int .i64 t235, .int .i64 t236, .slice Ao24 t237.length co24, .string t240, .int .i64 t241, .int .i64 t242, .slice Ao25 t243.length co25, .string t249, .int .i64 t250, .int .i64 t251, .slice Ao26 t252.length co26, .string t255, .int .i64 t256, .int .i64 t257, .slice Ao27 t258.length co27]) (ok := (fun k_ => (w.heap.size ≤ k_) ∧ some k_ ≠ (v217 : Value).ownBlock ∧ k_ ≠ gb215)) (okp := (fun k_ => (w.heap.size ≤ k_) ∧ some k_ ≠ (v217 : Value).ownBlock ∧ k_ ≠ gb215)) ?hr ?hp (fun _ hk => hk) ((show ∀ k_, w21.heap.size ≤ k_ → (fun k_ => (w.heap.size ≤ k_) ∧ some k_ ≠ (v217 : Value).ownBlock ∧ k_ ≠ gb215) k_ from fun k_ hk => ⟨(Nat.le_trans (below_size (by repeat (first | (with_reducible first | exact HB.out | apply below_alloc | apply pw_below_drewN | apply below_drew1 | refine below_set ?_ GE215.out) | exact HB.out))) hk), Kd.fresh' (Kd.R_lt (by (with_reducible repeat (first | apply Kd.R_alloc | apply Kd.R_drewN | apply Kd.R_drew)); exact HO218.out)) k_ hk, Kd.freshB (g := gb215) (o := .cells #[.slice none 0 0, .slice none 0 0] 26 (0, 0)) (by (with_reducible repeat (first | refine blk_drewN ?_ _ | refine blk_drew ?_ | refine blk_alloc ?_ _)); exact BK215.out) k_ hk⟩) _ (Nat.le_refl _)) (Below.refl _ _) (Nat.le_refl _) (by simp) ?_; (case hd => rfl); (case hg => rfl); (case hr => first | (go_simp; done) | (go_simp; rfl)); (case hp => exact (Reps.c4 (show Kd.FK k39 _ _ (⟨t219, t220, t221, t222⟩ : S39) [.string t219, .int .i64 t220, .int .i64 t221, .slice Ao22 t222.length co22] from (k39_mkF _ _ (⟨t219, t220, t221, t222⟩ : S39) (Kd.R_reads' (Kd.R_mono (ok' := (fun k_ => (w.heap.size ≤ k_) ∧ some k_ ≠ (v217 : Value).ownBlock ∧ k_ ≠ gb215)) (Kd.R_types (Kd.R_apart' (HO224.out) (Kd.R_typed HO218.out) (by decide)) BK215.out (by decide)) (fun k_ hk => ⟨hk.1.1.1.1, ⟨hk.1.2, hk.2⟩⟩))).2.1 (Kd.R_F (Kd.R_mono (ok' := (fun k_ => (w.heap.size ≤ k_) ∧ some k_ ≠ (v217 : Value).ownBlock ∧ k_ ≠ gb215)) (Kd.R_types (Kd.R_apart' (HO224.out) (Kd.R_typed HO218.out) (by decide)) BK215.out (by decide)) (fun k_ hk => ⟨hk.1.1.1.1, ⟨hk.1.2, hk.2⟩⟩))))) (Reps.c4 (show Kd.FK k39 _ _ (⟨t225, t226, t227, t228⟩ : S39) [.string t225, .int .i64 t226, .int .i64 t227, .slice Ao23 t228.length co23] from (k39_mkF _ _ (⟨t225, t226, t227, t228⟩ : S39) (Kd.R_reads' (Kd.R_mono (ok' := (fun k_ => (w.heap.size ≤ k_) ∧ some k_ ≠ (v217 : Value).ownBlock ∧ k_ ≠ gb215)) (Kd.R_types (Kd.R_apart' (HO230.out) (Kd.R_typed HO218.out) (by decide)) BK215.out (by decide)) (fun k_ hk => ⟨hk.1.1.1.1, ⟨hk.1.2, hk.2⟩⟩))).2.1 (Kd.R_F (Kd.R_mono (ok' := (fun k_ => (w.heap.size ≤ k_) ∧ some k_ ≠ (v217 : Value).ownBlock ∧ k_ ≠ gb215)) (Kd.R_types (Kd.R_apart' (HO230.out) (Kd.R_typed HO218.out) (by decide)) BK215.out (by decide)) (fun k_ hk => ⟨hk.1.1.1.1, ⟨hk.1.2, hk.2⟩⟩))))) (Reps.c4 (show Kd.FK k39 _ _ (⟨t234, t235, t236, t237⟩ : S39) [.string t234, .int .i64 t235, .int .i64 t236, .slice Ao24 t237.length co24] from (k39_mkF _ _ (⟨t234, t235, t236, t237⟩ : S39) (Kd.R_reads' (Kd.R_mono (ok' := (fun k_ => (w.heap.size ≤ k_) ∧ some k_ ≠ (v217 : Value).ownBlock ∧ k_ ≠ gb215)) (Kd.R_types (Kd.R_apart' (HO239.out) (Kd.R_typed HO218.out) (by decide)) BK215.out (by decide)) (fun k_ hk => ⟨hk.1.1.1.1, ⟨hk.1.2, hk.2⟩⟩))).2.1 (Kd.R_F (Kd.R_mono (ok' := (fun k_ => (w.heap.size ≤ k_) ∧ some k_ ≠ (v217 : Value).ownBlock ∧ k_ ≠ gb215)) (Kd.R_types (Kd.R_apart' (HO239.out) (Kd.R_typed HO218.out) (by decide)) BK215.out (by decide)) (fun k_ hk => ⟨hk.1.1.1.1, ⟨hk.1.2, hk.2⟩⟩))))) (Reps.c4 (show Kd.FK k39 _ _ (⟨t240, t241, t242, t243⟩ : S39) [.string t240, .int .i64 t241, .int .i64 t242, .slice Ao25 t243.length co25] from (k39_mkF _ _ (⟨t240, t241, t242, t243⟩ : S39) (Kd.R_reads' (Kd.R_mono (ok' := (fun k_ => (w.heap.size ≤ k_) ∧ some k_ ≠ (v217 : Value).ownBlock ∧ k_ ≠ gb215)) (Kd.R_types (Kd.R_apart' (HO245.out) (Kd.R_typed HO218.out) (by decide)) BK215.out (by decide)) (fun k_ hk => ⟨hk.1.1.1.1, ⟨hk.1.2, hk.2⟩⟩))).2.1 (Kd.R_F (Kd.R_mono (ok' := (fun k_ => (w.heap.size ≤ k_) ∧ some k_ ≠ (v217 : Value).ownBlock ∧ k_ ≠ gb215)) (Kd.R_types (Kd.R_apart' (HO245.out) (Kd.R_typed HO218.out) (by decide)) BK215.out (by decide)) (fun k_ hk => ⟨hk.1.1.1.1, ⟨hk.1.2, hk.2⟩⟩))))) (Reps.c4 (show Kd.FK k39 _ _ (⟨t249, t250, t251, t252⟩ : S39) [.string t249, .int .i64 t250, .int .i64 t251, .slice Ao26 t252.length co26] from (k39_mkF _ _ (⟨t249, t250, t251, t252⟩ : S39) (Kd.R_reads' (Kd.R_mono (ok' := (fun k_ => (w.heap.size ≤ k_) ∧ some k_ ≠ (v217 : Value).ownBlock ∧ k_ ≠ gb215)) (Kd.R_types (Kd.R_apart' (HO254.out) (Kd.R_typed HO218.out) (by decide)) BK215.out (by decide)) (fun k_ hk => ⟨hk.1.1.1.1, ⟨hk.1.2, hk.2⟩⟩))).2.1 (Kd.R_F (Kd.R_mono (ok' := (fun k_ => (w.heap.size ≤ k_) ∧ some k_ ≠ (v217 : Value).ownBlock ∧ k_ ≠ gb215)) (Kd.R_types (Kd.R_apart' (HO254.out) (Kd.R_typed HO218.out) (by decide)) BK215.out (by decide)) (fun k_ hk => ⟨hk.1.1.1.1, ⟨hk.1.2, hk.2⟩⟩))))) (Reps.c4 (show Kd.FK k39 _ _ (⟨t255, t256, t257, t258⟩ : S39) [.string t255, .int .i64 t256, .int .i64 t257, .slice Ao27 t258.length co27] from (k39_mkF _ _ (⟨t255, t256, t257, t258⟩ : S39) (Kd.R_reads' (Kd.R_mono (ok' := (fun k_ => (w.heap.size ≤ k_) ∧ some k_ ≠ (v217 : Value).ownBlock ∧ k_ ≠ gb215)) (Kd.R_types (Kd.R_apart' (HO260.out) (Kd.R_typed HO218.out) (by decide)) BK215.out (by decide)) (fun k_ hk => ⟨hk.1.1.1.1.1.1.1.1, ⟨hk.1.2, hk.2⟩⟩))).2.1 (Kd.R_F (Kd.R_mono (ok' := (fun k_ => (w.heap.size ≤ k_) ∧ some k_ ≠ (v217 : Value).ownBlock ∧ k_ ≠ gb215)) (Kd.R_types (Kd.R_apart' (HO260.out) (Kd.R_typed HO218.out) (by decide)) BK215.out (by decide)) (fun k_ hk => ⟨hk.1.1.1.1.1.1.1.1, ⟨hk.1.2, hk.2⟩⟩))))) (Reps.none _ _)))))))); intro v262 w28 ho29 hb hg_ hnew_; clear hg_ hnew_; (first | rw [← Ny261.out] at ho29 | (simp only [Int.reduceToNat] at ho29; rw [← Ny261.out] at ho29)); have n0_ := Aside0.mk (Kd.R_below (by (with_reducible repeat (first | apply Kd.R_alloc | apply Kd.R_drewN | apply Kd.R_drew)); exact HO218.out) hb); have n1_ := Aside0.mk (Kd.N_lower ho29 (below_size (by repeat (first | (with_reducible first | exact HB.out | apply below_alloc | apply pw_below_drewN | apply below_drew1 | refine below_set ?_ GE215.out) | exact HB.out)))); have n2_ := Aside0.mk (blk_below (g := gb215) (o := .cells #[.slice none 0 0, .slice none 0 0] 26 (0, 0)) (by (with_reducible repeat (first | refine blk_drewN ?_ _ | refine blk_drew ?_ | refine blk_alloc ?_ _)); exact BK215.out) hb); have n3_ := Aside0.mk (below_step (by repeat (first | (with_reducible first | exact HB.out | apply below_alloc | apply pw_below_drewN | apply below_drew1 | refine below_set ?_ GE215.out) | exact HB.out)) hb); clear HO218; clear BK215; clear HB; clear HO224; clear HO230; clear HO239; clear HO245; clear HO254; clear HO260; have HO218 := n0_; have HO263 := n1_; have BK215 := n2_; have HB := n3_; clear n0_ n1_ n2_ n3_; clear hb ho29; obtain ⟨Ao30, co30, eo30⟩ := Kd.N_slice HO263.out; subst eo30; obtain ⟨Ao31, co31, eo31⟩ := Kd.R_slice HO218.out; subst eo31; have hcz32_0 : w28.cell? ⟨gb215, 0, none⟩ = some (.slice none 0 0) := (blk_cell BK215.out 0).trans rfl; have hcz32_1 : w28.cell? ⟨gb215, 1, none⟩ = some (.slice none 0 0) := (blk_cell BK215.out 1).trans rfl; have hfz32_0 := blk_frozen BK215.out 0; have hfz32_1 := blk_frozen BK215.out 1))
  refine bodyPost_ret (results_cell_row rfl _ _ gb215 26 #[.slice Ao31 y216.length co31, .slice Ao30 y261.length co30] (0, 0) _ rfl (by (with_reducible repeat (first | refine blk_drewN ?_ _ | refine blk_drew ?_ | refine blk_alloc ?_ _)); refine blk_put (cs := #[.slice Ao31 y216.length co31, .slice none 0 0]) ?_ 1 _ rfl; (with_reducible repeat (first | refine blk_drewN ?_ _ | refine blk_drew ?_ | refine blk_alloc ?_ _)); refine blk_put (cs := #[.slice none 0 0, .slice none 0 0]) ?_ 0 _ rfl; (with_reducible repeat (first | refine blk_drewN ?_ _ | refine blk_drew ?_ | refine blk_alloc ?_ _)); exact BK215.out) Try.underlying26 rfl (by kernel_rfl)) rfl ?_
  exact ⟨_, _, by first | rfl | (simp [errW_none, errW_some] <;> rfl) | (simp [*, errW_none, errW_some] <;> rfl), by (with_reducible repeat (first | apply Kd.R_alloc | apply Kd.R_drewN | apply Kd.R_drew)); exact Kd.R_mono (Kd.R_far (p := ⟨gb215, 1, none⟩) (Kd.R_far (p := ⟨gb215, 0, none⟩) (Kd.R_types HO218.out BK215.out (by decide)) (fun _ hk => hk.2) (.slice Ao31 y216.length co31)) (fun _ hk => hk.2) (.slice Ao30 y261.length co30)) (fun _ hk => hk.1), by (with_reducible repeat (first | apply Kd.N_alloc | apply Kd.N_drewN | apply Kd.N_drew)); exact Kd.N_mono (Kd.N_far (p := ⟨gb215, 1, none⟩) (Kd.N_far (p := ⟨gb215, 0, none⟩) (Kd.N_mono HO263.out (fun k_ hk => (⟨hk, hk.2.2⟩ : _ ∧ k_ ≠ gb215))) (fun _ hk => hk.2) (.slice Ao31 y216.length co31)) (fun _ hk => hk.2) (.slice Ao30 y261.length co30)) (fun _ hk => ⟨hk.1.1, hk.1.2.1⟩), by repeat (first | (with_reducible first | exact HB.out | apply below_alloc | apply pw_below_drewN | apply below_drew1 | refine below_set ?_ GE215.out) | exact HB.out)⟩

/-! ### wayzgooselaw04_later: function 47 -/
def wayzgooselaw04_later.f  : Option ((List (S51)) × (List (S39))) := (wayzgooselaw04_shops.f).bind fun bt265 => ((wayzgooselaw04_is.f (⟨#[98, 97, 107, 101, 114]⟩ : ByteArray) 1 ([] : List Int)).bind fun bt272 => ((wayzgooselaw04_see.f (⟨#[98, 111, 110, 110, 101, 116, 115]⟩ : ByteArray) 2).bind fun bt278 => ((wayzgooselaw04_is.f (⟨#[104, 97, 116, 116, 101, 114]⟩ : ByteArray) 2 ([] : List Int)).bind fun bt284 => ((wayzgooselaw04_is.f (⟨#[105, 114, 111, 110, 109, 111, 110, 103, 101, 114]⟩ : ByteArray) 0 ([] : List Int)).bind fun bt290 => ((wayzgooselaw04_is.f (⟨#[109, 101, 114, 99, 101, 114]⟩ : ByteArray) 2 (([2] : List Int))).bind fun bt299 => ((wayzgooselaw04_see.f (⟨#[109, 105, 108, 108, 105, 110, 101, 114]⟩ : ByteArray) 1).bind fun bt305 => (some (bt265.1, (([(⟨bt272.1, bt272.2.1, bt272.2.2.1, bt272.2.2.2⟩ : S39), (⟨bt278.1, bt278.2.1, bt278.2.2.1, bt278.2.2.2⟩ : S39), (⟨bt284.1, bt284.2.1, bt284.2.2.1, bt284.2.2.2⟩ : S39), (⟨bt290.1, bt290.2.1, bt290.2.2.1, bt290.2.2.2⟩ : S39), (⟨bt299.1, bt299.2.1, bt299.2.2.1, bt299.2.2.2⟩ : S39), (⟨bt305.1, bt305.2.1, bt305.2.2.1, bt305.2.2.2⟩ : S39)] : List (S39)))))))))))
set_option maxHeartbeats 8000000 in
set_option maxRecDepth 100000 in
theorem wayzgooselaw04_later.calls  (r1 : List (S51)) (r2 : List (S39)) (w : World) (h : wayzgooselaw04_later.f  = some (r1, r2)) :
    Calls Try.prog 47 #[] w fun e w' => ∃ v0_ v1_ : Value, e = .returned (.agg #[v0_, v1_]) ∧ Kd.R k51 51 w' w.heap.size (fun k_ => (w.heap.size ≤ k_)) v0_ r1 ∧ Kd.N k39 39 w' w.heap.size (fun k_ => (w.heap.size ≤ k_) ∧ some k_ ≠ (v0_ : Value).ownBlock) v1_ r2 ∧ Below w.heap.size w w' := by
  have hu26 := Try.underlying26
  have HB := Aside0.mk (Below.refl w.heap.size w)
  have H : ((wayzgooselaw04_shops.f).bind fun bt265 => ((wayzgooselaw04_is.f (⟨#[98, 97, 107, 101, 114]⟩ : ByteArray) 1 ([] : List Int)).bind fun bt272 => ((wayzgooselaw04_see.f (⟨#[98, 111, 110, 110, 101, 116, 115]⟩ : ByteArray) 2).bind fun bt278 => ((wayzgooselaw04_is.f (⟨#[104, 97, 116, 116, 101, 114]⟩ : ByteArray) 2 ([] : List Int)).bind fun bt284 => ((wayzgooselaw04_is.f (⟨#[105, 114, 111, 110, 109, 111, 110, 103, 101, 114]⟩ : ByteArray) 0 ([] : List Int)).bind fun bt290 => ((wayzgooselaw04_is.f (⟨#[109, 101, 114, 99, 101, 114]⟩ : ByteArray) 2 (([2] : List Int))).bind fun bt299 => ((wayzgooselaw04_see.f (⟨#[109, 105, 108, 108, 105, 110, 101, 114]⟩ : ByteArray) 1).bind fun bt305 => (some (bt265.1, (([(⟨bt272.1, bt272.2.1, bt272.2.2.1, bt272.2.2.2⟩ : S39), (⟨bt278.1, bt278.2.1, bt278.2.2.1, bt278.2.2.2⟩ : S39), (⟨bt284.1, bt284.2.1, bt284.2.2.1, bt284.2.2.2⟩ : S39), (⟨bt290.1, bt290.2.1, bt290.2.2.1, bt290.2.2.2⟩ : S39), (⟨bt299.1, bt299.2.1, bt299.2.2.1, bt299.2.2.2⟩ : S39), (⟨bt305.1, bt305.2.1, bt305.2.2.1, bt305.2.2.2⟩ : S39)] : List (S39)))))))))))) = some (r1, r2) := h
  clear h
  replace H := Option.bind_eq_some_iff.mp H
  obtain ⟨⟨t265, t268⟩, A10, H⟩ := H
  replace H : ((wayzgooselaw04_is.f (⟨#[98, 97, 107, 101, 114]⟩ : ByteArray) 1 ([] : List Int)).bind fun bt272 => ((wayzgooselaw04_see.f (⟨#[98, 111, 110, 110, 101, 116, 115]⟩ : ByteArray) 2).bind fun bt278 => ((wayzgooselaw04_is.f (⟨#[104, 97, 116, 116, 101, 114]⟩ : ByteArray) 2 ([] : List Int)).bind fun bt284 => ((wayzgooselaw04_is.f (⟨#[105, 114, 111, 110, 109, 111, 110, 103, 101, 114]⟩ : ByteArray) 0 ([] : List Int)).bind fun bt290 => ((wayzgooselaw04_is.f (⟨#[109, 101, 114, 99, 101, 114]⟩ : ByteArray) 2 (([2] : List Int))).bind fun bt299 => ((wayzgooselaw04_see.f (⟨#[109, 105, 108, 108, 105, 110, 101, 114]⟩ : ByteArray) 1).bind fun bt305 => (some (t265, (([(⟨bt272.1, bt272.2.1, bt272.2.2.1, bt272.2.2.2⟩ : S39), (⟨bt278.1, bt278.2.1, bt278.2.2.1, bt278.2.2.2⟩ : S39), (⟨bt284.1, bt284.2.1, bt284.2.2.1, bt284.2.2.2⟩ : S39), (⟨bt290.1, bt290.2.1, bt290.2.2.1, bt290.2.2.2⟩ : S39), (⟨bt299.1, bt299.2.1, bt299.2.2.1, bt299.2.2.2⟩ : S39), (⟨bt305.1, bt305.2.1, bt305.2.2.1, bt305.2.2.2⟩ : S39)] : List (S39))))))))))) = some (r1, r2) := H
  have A1 := Aside0.mk A10
  clear A10
  replace H := Option.bind_eq_some_iff.mp H
  obtain ⟨⟨t272, t273, t274, t275⟩, A20, H⟩ := H
  replace H : ((wayzgooselaw04_see.f (⟨#[98, 111, 110, 110, 101, 116, 115]⟩ : ByteArray) 2).bind fun bt278 => ((wayzgooselaw04_is.f (⟨#[104, 97, 116, 116, 101, 114]⟩ : ByteArray) 2 ([] : List Int)).bind fun bt284 => ((wayzgooselaw04_is.f (⟨#[105, 114, 111, 110, 109, 111, 110, 103, 101, 114]⟩ : ByteArray) 0 ([] : List Int)).bind fun bt290 => ((wayzgooselaw04_is.f (⟨#[109, 101, 114, 99, 101, 114]⟩ : ByteArray) 2 (([2] : List Int))).bind fun bt299 => ((wayzgooselaw04_see.f (⟨#[109, 105, 108, 108, 105, 110, 101, 114]⟩ : ByteArray) 1).bind fun bt305 => (some (t265, (([(⟨t272, t273, t274, t275⟩ : S39), (⟨bt278.1, bt278.2.1, bt278.2.2.1, bt278.2.2.2⟩ : S39), (⟨bt284.1, bt284.2.1, bt284.2.2.1, bt284.2.2.2⟩ : S39), (⟨bt290.1, bt290.2.1, bt290.2.2.1, bt290.2.2.2⟩ : S39), (⟨bt299.1, bt299.2.1, bt299.2.2.1, bt299.2.2.2⟩ : S39), (⟨bt305.1, bt305.2.1, bt305.2.2.1, bt305.2.2.2⟩ : S39)] : List (S39)))))))))) = some (r1, r2) := H
  have A2 := Aside0.mk A20
  clear A20
  replace H := Option.bind_eq_some_iff.mp H
  obtain ⟨⟨t278, t279, t280, t281⟩, A30, H⟩ := H
  replace H : ((wayzgooselaw04_is.f (⟨#[104, 97, 116, 116, 101, 114]⟩ : ByteArray) 2 ([] : List Int)).bind fun bt284 => ((wayzgooselaw04_is.f (⟨#[105, 114, 111, 110, 109, 111, 110, 103, 101, 114]⟩ : ByteArray) 0 ([] : List Int)).bind fun bt290 => ((wayzgooselaw04_is.f (⟨#[109, 101, 114, 99, 101, 114]⟩ : ByteArray) 2 (([2] : List Int))).bind fun bt299 => ((wayzgooselaw04_see.f (⟨#[109, 105, 108, 108, 105, 110, 101, 114]⟩ : ByteArray) 1).bind fun bt305 => (some (t265, (([(⟨t272, t273, t274, t275⟩ : S39), (⟨t278, t279, t280, t281⟩ : S39), (⟨bt284.1, bt284.2.1, bt284.2.2.1, bt284.2.2.2⟩ : S39), (⟨bt290.1, bt290.2.1, bt290.2.2.1, bt290.2.2.2⟩ : S39), (⟨bt299.1, bt299.2.1, bt299.2.2.1, bt299.2.2.2⟩ : S39), (⟨bt305.1, bt305.2.1, bt305.2.2.1, bt305.2.2.2⟩ : S39)] : List (S39))))))))) = some (r1, r2) := H
  have A3 := Aside0.mk A30
  clear A30
  replace H := Option.bind_eq_some_iff.mp H
  obtain ⟨⟨t284, t285, t286, t287⟩, A40, H⟩ := H
  replace H : ((wayzgooselaw04_is.f (⟨#[105, 114, 111, 110, 109, 111, 110, 103, 101, 114]⟩ : ByteArray) 0 ([] : List Int)).bind fun bt290 => ((wayzgooselaw04_is.f (⟨#[109, 101, 114, 99, 101, 114]⟩ : ByteArray) 2 (([2] : List Int))).bind fun bt299 => ((wayzgooselaw04_see.f (⟨#[109, 105, 108, 108, 105, 110, 101, 114]⟩ : ByteArray) 1).bind fun bt305 => (some (t265, (([(⟨t272, t273, t274, t275⟩ : S39), (⟨t278, t279, t280, t281⟩ : S39), (⟨t284, t285, t286, t287⟩ : S39), (⟨bt290.1, bt290.2.1, bt290.2.2.1, bt290.2.2.2⟩ : S39), (⟨bt299.1, bt299.2.1, bt299.2.2.1, bt299.2.2.2⟩ : S39), (⟨bt305.1, bt305.2.1, bt305.2.2.1, bt305.2.2.2⟩ : S39)] : List (S39)))))))) = some (r1, r2) := H
  have A4 := Aside0.mk A40
  clear A40
  replace H := Option.bind_eq_some_iff.mp H
  obtain ⟨⟨t290, t291, t292, t293⟩, A50, H⟩ := H
  replace H : ((wayzgooselaw04_is.f (⟨#[109, 101, 114, 99, 101, 114]⟩ : ByteArray) 2 (([2] : List Int))).bind fun bt299 => ((wayzgooselaw04_see.f (⟨#[109, 105, 108, 108, 105, 110, 101, 114]⟩ : ByteArray) 1).bind fun bt305 => (some (t265, (([(⟨t272, t273, t274, t275⟩ : S39), (⟨t278, t279, t280, t281⟩ : S39), (⟨t284, t285, t286, t287⟩ : S39), (⟨t290, t291, t292, t293⟩ : S39), (⟨bt299.1, bt299.2.1, bt299.2.2.1, bt299.2.2.2⟩ : S39), (⟨bt305.1, bt305.2.1, bt305.2.2.1, bt305.2.2.2⟩ : S39)] : List (S39))))))) = some (r1, r2) := H
  have A5 := Aside0.mk A50
  clear A50
  obtain ⟨y296, hy296⟩ : ∃ y_ : List Int, y_ = (([2] : List Int)) := ⟨_, rfl⟩
  replace H : ((wayzgooselaw04_is.f (⟨#[109, 101, 114, 99, 101, 114]⟩ : ByteArray) 2 y296).bind fun bt299 => ((wayzgooselaw04_see.f (⟨#[109, 105, 108, 108, 105, 110, 101, 114]⟩ : ByteArray) 1).bind fun bt305 => (some (t265, (([(⟨t272, t273, t274, t275⟩ : S39), (⟨t278, t279, t280, t281⟩ : S39), (⟨t284, t285, t286, t287⟩ : S39), (⟨t290, t291, t292, t293⟩ : S39), (⟨bt299.1, bt299.2.1, bt299.2.2.1, bt299.2.2.2⟩ : S39), (⟨bt305.1, bt305.2.1, bt305.2.2.1, bt305.2.2.2⟩ : S39)] : List (S39))))))) = some (r1, r2) := by first | (rw [hy296]; with_reducible exact H) | (have H2_ := (Option.bind_some _ _).symm.trans H; rw [hy296]; with_reducible exact H2_) | (have H2_ := (Option.bind_some _ _).symm.trans H; with_reducible exact H2_) | with_reducible exact H | (rw [hy296]; exact H) | exact H
  have Ny296 := Aside0.mk hy296
  clear hy296
  replace H := Option.bind_eq_some_iff.mp H
  obtain ⟨⟨t299, t300, t301, t302⟩, A60, H⟩ := H
  replace H : ((wayzgooselaw04_see.f (⟨#[109, 105, 108, 108, 105, 110, 101, 114]⟩ : ByteArray) 1).bind fun bt305 => (some (t265, (([(⟨t272, t273, t274, t275⟩ : S39), (⟨t278, t279, t280, t281⟩ : S39), (⟨t284, t285, t286, t287⟩ : S39), (⟨t290, t291, t292, t293⟩ : S39), (⟨t299, t300, t301, t302⟩ : S39), (⟨bt305.1, bt305.2.1, bt305.2.2.1, bt305.2.2.2⟩ : S39)] : List (S39)))))) = some (r1, r2) := H
  have A6 := Aside0.mk A60
  clear A60
  replace H := Option.bind_eq_some_iff.mp H
  obtain ⟨⟨t305, t306, t307, t308⟩, A70, H⟩ := H
  replace H : (some (t265, (([(⟨t272, t273, t274, t275⟩ : S39), (⟨t278, t279, t280, t281⟩ : S39), (⟨t284, t285, t286, t287⟩ : S39), (⟨t290, t291, t292, t293⟩ : S39), (⟨t299, t300, t301, t302⟩ : S39), (⟨t305, t306, t307, t308⟩ : S39)] : List (S39))))) = some (r1, r2) := H
  have A7 := Aside0.mk A70
  clear A70
  obtain ⟨y311, hy311⟩ : ∃ y_ : List (S39), y_ = (([(⟨t272, t273, t274, t275⟩ : S39), (⟨t278, t279, t280, t281⟩ : S39), (⟨t284, t285, t286, t287⟩ : S39), (⟨t290, t291, t292, t293⟩ : S39), (⟨t299, t300, t301, t302⟩ : S39), (⟨t305, t306, t307, t308⟩ : S39)] : List (S39))) := ⟨_, rfl⟩
  replace H : (some (t265, y311)) = some (r1, r2) := by first | (rw [hy311]; with_reducible exact H) | (have H2_ := (Option.bind_some _ _).symm.trans H; rw [hy311]; with_reducible exact H2_) | (have H2_ := (Option.bind_some _ _).symm.trans H; with_reducible exact H2_) | with_reducible exact H | (rw [hy311]; exact H) | exact H
  have Ny311 := Aside0.mk hy311
  clear hy311
  simp only [Option.some.injEq, Prod.mk.injEq] at H
  obtain ⟨rfl, rfl⟩ := H
  go_enter Try.func47, Try.ntmps47
  go_wp2_with (first | ((with_reducible refine gate_dst (N := 0) rfl ?_); refine box_event ?hg (N := 0) ?hd (cs := #[.slice none 0 0, .slice none 0 0]) (t := 26) ?hr ?_; (case hd => rfl); (case hg => rfl); (case hr => first | (go_simp; done) | (go_simp; rfl)); intro gb264 hg w8 hbox hb; have n0_ := Aside0.mk (below_step (by repeat (first | (with_reducible first | exact HB.out | apply below_alloc | apply pw_below_drewN | apply below_drew1) | exact HB.out)) hb); have n1_ := Aside0.mk (hbox); have n2_ := Aside0.mk ((by rw [hg]; exact (below_size (by repeat (first | (with_reducible first | exact HB.out | apply below_alloc | apply pw_below_drewN | apply below_drew1) | exact HB.out))) : w.heap.size ≤ gb264)); have n3_ := Aside0.mk ((by rw [hg]; exact (below_size (by repeat (first | (with_reducible first | exact HB.out | apply below_alloc | apply pw_below_drewN | apply below_drew1) | exact HB.out))) : w.heap.size ≤ gb264)); clear HB; have HB := n0_; have BK264 := n1_; have GW264 := n2_; have GE264 := n3_; clear n0_ n1_ n2_ n3_; clear hb hbox hg) | ((with_reducible refine gate_callee (f := 45) rfl ?_); refine goesL_ (some 2) rfl rfl Try.func45 (by kernel_rfl) rfl #[] rfl (by (try simp only [List.map_toArray, List.map_cons, List.map_nil]); first | done | rfl | (simp only [List.length_drop, List.length_take]; rfl)) ?_; (with_reducible refine (wayzgooselaw04_shops.calls  t265 t268 _ A1.out).mono ?_); rintro e w9 ⟨v266, v269, rfl, ho0, ho1, hb⟩; refine ⟨_, rfl, ?_⟩; have n0_ := Aside0.mk (Kd.R_lower (Kd.R_newM (M := fun k_ => (w.heap.size ≤ k_)) (Kd.R_mono (ok' := fun k_ => True) ho0 (fun _ hk_ => trivial)) (below_size (by repeat (first | (with_reducible first | exact HB.out | apply below_alloc | apply pw_below_drewN | apply below_drew1 | refine below_set ?_ GE264.out) | exact HB.out))) (fun k_ h_ => h_)) (below_size (by repeat (first | (with_reducible first | exact HB.out | apply below_alloc | apply pw_below_drewN | apply below_drew1 | refine below_set ?_ GE264.out) | exact HB.out)))); have n1_ := Aside0.mk (Kd.N_lower (Kd.N_mono (ok' := fun k_ => (w.heap.size ≤ k_) ∧ some k_ ≠ (v266 : Value).ownBlock ∧ k_ ≠ gb264) ho1 (fun k_ hk_ => ⟨(Nat.le_trans (below_size (by repeat (first | (with_reducible first | exact HB.out | apply below_alloc | apply pw_below_drewN | apply below_drew1 | refine below_set ?_ GE264.out) | exact HB.out))) hk_.1), hk_.2, (Kd.freshB (g := gb264) (o := .cells #[.slice none 0 0, .slice none 0 0] 26 (0, 0)) (by (with_reducible repeat (first | refine blk_drewN ?_ _ | refine blk_drew ?_ | refine blk_alloc ?_ _)); exact BK264.out) k_ hk_.1)⟩)) (below_size (by repeat (first | (with_reducible first | exact HB.out | apply below_alloc | apply pw_below_drewN | apply below_drew1 | refine below_set ?_ GE264.out) | exact HB.out)))); have n2_ := Aside0.mk (blk_below (g := gb264) (o := .cells #[.slice none 0 0, .slice none 0 0] 26 (0, 0)) (by (with_reducible repeat (first | refine blk_drewN ?_ _ | refine blk_drew ?_ | refine blk_alloc ?_ _)); exact BK264.out) hb); have n3_ := Aside0.mk (below_step (by repeat (first | (with_reducible first | exact HB.out | apply below_alloc | apply pw_below_drewN | apply below_drew1 | refine below_set ?_ GE264.out) | exact HB.out)) hb); clear BK264; clear HB; have HO267 := n0_; have HO270 := n1_; have BK264 := n2_; have HB := n3_; clear n0_ n1_ n2_ n3_; (try clear hb); (try clear hb2); (try clear hk); (try clear hi); (try clear ho0); (try clear ho1)) | ((with_reducible refine gate_dst (N := 1) rfl ?_); refine box_event ?hg (N := 1) ?hd (cs := #[.slice none 0 0, .slice none 0 0]) (t := 26) ?hr ?_; (case hd => rfl); (case hg => rfl); (case hr => first | (go_simp; done) | (go_simp; rfl)); intro gb271 hg w10 hbox hb; have n0_ := Aside0.mk (Kd.R_below (by (with_reducible repeat (first | apply Kd.R_alloc | apply Kd.R_drewN | apply Kd.R_drew)); exact HO267.out) hb); have n1_ := Aside0.mk (Kd.N_below (Kd.N_elderB (by (with_reducible repeat (first | apply Kd.N_alloc | apply Kd.N_drewN | apply Kd.N_drew)); exact HO270.out) gb271 (Nat.le_of_eq hg.symm)) hb); have n2_ := Aside0.mk (blk_below (g := gb264) (o := .cells #[.slice none 0 0, .slice none 0 0] 26 (0, 0)) (by (with_reducible repeat (first | refine blk_drewN ?_ _ | refine blk_drew ?_ | refine blk_alloc ?_ _)); exact BK264.out) hb); have n3_ := Aside0.mk (below_step (by repeat (first | (with_reducible first | exact HB.out | apply below_alloc | apply pw_below_drewN | apply below_drew1 | refine below_set ?_ GE264.out) | exact HB.out)) hb); have n4_ := Aside0.mk (hbox); have n5_ := Aside0.mk ((by rw [hg]; exact (below_size (by repeat (first | (with_reducible first | exact HB.out | apply below_alloc | apply pw_below_drewN | apply below_drew1 | refine below_set ?_ GE264.out) | exact HB.out))) : w.heap.size ≤ gb271)); have n6_ := Aside0.mk ((by rw [hg]; exact (below_size (by repeat (first | (with_reducible first | exact HB.out | apply below_alloc | apply pw_below_drewN | apply below_drew1 | refine below_set ?_ GE264.out) | exact HB.out))) : w.heap.size ≤ gb271)); have n7_ := Aside0.mk ((by rw [hg]; exact Nat.ne_of_lt (blk_lt (g := gb264) (o := .cells #[.slice none 0 0, .slice none 0 0] 26 (0, 0)) (by (with_reducible repeat (first | refine blk_drewN ?_ _ | refine blk_drew ?_ | refine blk_alloc ?_ _)); exact BK264.out)) : gb264 ≠ gb271)); have n8_ := Aside0.mk ((by rw [hg]; exact Nat.ne_of_gt (blk_lt (g := gb264) (o := .cells #[.slice none 0 0, .slice none 0 0] 26 (0, 0)) (by (with_reducible repeat (first | refine blk_drewN ?_ _ | refine blk_drew ?_ | refine blk_alloc ?_ _)); exact BK264.out)) : gb271 ≠ gb264)); clear HO267; clear HO270; clear BK264; clear HB; have HO267 := n0_; have HO270 := n1_; have BK264 := n2_; have HB := n3_; have BK271 := n4_; have GW271 := n5_; have GE271 := n6_; have NB264_271 := n7_; have NB271_264 := n8_; clear n0_ n1_ n2_ n3_ n4_ n5_ n6_ n7_ n8_; clear hb hbox hg; obtain ⟨Ao11, co11, eo11⟩ := Kd.R_slice HO267.out; subst eo11; have hnb12 := NB271_264.out; have hnc12 := NB264_271.out; have hcz13_0 : w10.cell? ⟨gb271, 0, none⟩ = some (.slice none 0 0) := (blk_cell BK271.out 0).trans rfl; have hcz13_1 : w10.cell? ⟨gb271, 1, none⟩ = some (.slice none 0 0) := (blk_cell BK271.out 1).trans rfl; have hfz13_0 := blk_frozen BK271.out 0; have hfz13_1 := blk_frozen BK271.out 1; obtain ⟨Ao14, co14, eo14⟩ := Kd.N_slice HO270.out; subst eo14) | ((with_reducible refine gate_store (t := 26) (p := 1) rfl ?_); refine store_event (t := 26) (p := 1) (v := ?vo_w15) (w1 := ((w10.setCell ⟨gb271, 0, none⟩ (.slice Ao11 t265.length co11)).setCell ⟨gb271, 1, none⟩ (.slice Ao14 t268.length co14))) ?hg ?ho ?hn ?hr ?_; (case ho => rfl); (case hg => rfl); (case hn => rfl); (case hr => first | (go_simp; done) | (go_simp; rfl)); intro w15 hw; have n0_ : Aside0 (Kd.R k51 51 w15 w.heap.size (fun k_ => (w.heap.size ≤ k_)) (.slice Ao11 t265.length co11) t265) := ⟨(by rw [hw]; exact (by (with_reducible repeat (first | apply Kd.R_alloc | apply Kd.R_drewN | apply Kd.R_drew)); exact Kd.R_mono (Kd.R_far (p := ⟨gb271, 1, none⟩) (Kd.R_far (p := ⟨gb271, 0, none⟩) (Kd.R_types HO267.out BK271.out (by decide)) (fun _ hk => hk.2) (.slice Ao11 t265.length co11)) (fun _ hk => hk.2) (.slice Ao14 t268.length co14)) (fun _ hk => hk.1.1)))⟩; have n1_ : Aside0 (Kd.N k39 39 w15 w.heap.size (fun k_ => (w.heap.size ≤ k_) ∧ some k_ ≠ (.slice Ao11 t265.length co11 : Value).ownBlock ∧ k_ ≠ gb264 ∧ k_ ≠ gb271) (.slice Ao14 t268.length co14) t268) := ⟨(by rw [hw]; exact (by (with_reducible repeat (first | apply Kd.N_alloc | apply Kd.N_drewN | apply Kd.N_drew)); exact Kd.N_mono (Kd.N_far (p := ⟨gb271, 1, none⟩) (Kd.N_far (p := ⟨gb271, 0, none⟩) (Kd.N_mono HO270.out (fun k_ hk => (⟨hk, hk.2⟩ : _ ∧ k_ ≠ gb271))) (fun _ hk => hk.2) (.slice Ao11 t265.length co11)) (fun _ hk => hk.2) (.slice Ao14 t268.length co14)) (fun _ hk => ⟨hk.1.1.1, ⟨hk.1.1.2.1, ⟨hk.1.1.2.2, hk.1.2⟩⟩⟩)))⟩; have n2_ : Aside0 (w15.heap[gb264]? = some (.cells #[.slice none 0 0, .slice none 0 0] 26 (0, 0))) := ⟨(by rw [hw]; exact (by (with_reducible repeat (first | refine blk_drewN ?_ _ | refine blk_drew ?_ | refine blk_alloc ?_ _)); refine blk_far ?_ NB264_271.out _; (with_reducible repeat (first | refine blk_drewN ?_ _ | refine blk_drew ?_ | refine blk_alloc ?_ _)); refine blk_far ?_ NB264_271.out _; (with_reducible repeat (first | refine blk_drewN ?_ _ | refine blk_drew ?_ | refine blk_alloc ?_ _)); exact BK264.out))⟩; have n3_ : Aside0 (w15.heap[gb271]? = some (.cells #[.slice Ao11 t265.length co11, .slice Ao14 t268.length co14] 26 (0, 0))) := ⟨(by rw [hw]; exact (by (with_reducible repeat (first | refine blk_drewN ?_ _ | refine blk_drew ?_ | refine blk_alloc ?_ _)); refine blk_put (cs := #[.slice Ao11 t265.length co11, .slice none 0 0]) ?_ 1 _ rfl; (with_reducible repeat (first | refine blk_drewN ?_ _ | refine blk_drew ?_ | refine blk_alloc ?_ _)); refine blk_put (cs := #[.slice none 0 0, .slice none 0 0]) ?_ 0 _ rfl; (with_reducible repeat (first | refine blk_drewN ?_ _ | refine blk_drew ?_ | refine blk_alloc ?_ _)); exact BK271.out))⟩; have n4_ : Aside0 (Below w.heap.size w w15) := ⟨(by rw [hw]; exact (by repeat (first | (with_reducible first | exact HB.out | apply below_alloc | apply pw_below_drewN | apply below_drew1 | refine below_set ?_ GE264.out | refine below_set ?_ GE271.out) | exact HB.out)))⟩; clear hw; clear HO267; clear HO270; clear BK264; clear BK271; clear HB; have HO267 := n0_; have HO270 := n1_; have BK264 := n2_; have BK271 := n3_; have HB := n4_; clear n0_ n1_ n2_ n3_ n4_) | ((with_reducible refine gate_callee (f := 70) rfl ?_); refine goesL_ (some 3) rfl rfl Try.func70 (by kernel_rfl) rfl #[.string (⟨#[98, 97, 107, 101, 114]⟩ : ByteArray), .int .i64 1, .slice none 0 0] rfl (by (try simp only [List.map_toArray, List.map_cons, List.map_nil]); first | done | rfl | (simp only [List.length_drop, List.length_take]; rfl)) ?_; (refine (wayzgooselaw04_is.calls (⟨#[98, 97, 107, 101, 114]⟩ : ByteArray) 1 (fun k_ => some k_ = (.slice none 0 0 : Value).ownBlock) (.slice none 0 0) ([] : List Int) t272 t273 t274 t275 w _ ?side1 ?side2 A2.out).mono ?_); (case side1 => repeat (first | (with_reducible first | exact HB.out | apply below_alloc | apply pw_below_drewN | apply below_drew1 | refine below_set ?_ GE264.out | refine below_set ?_ GE271.out) | exact HB.out)); (case side2 => exact Kd.R_nil _ _ _ _ _); rintro e w16 ⟨v276, rfl, ho0, hb, hkp⟩; refine ⟨_, rfl, ?_⟩; have n0_ := Aside0.mk (blk_kept (by (with_reducible repeat (first | refine blk_drewN ?_ _ | refine blk_drew ?_ | refine blk_alloc ?_ _)); exact BK264.out) hkp (fun hs_ => (fun e_ => by simp [Value.ownBlock] at e_) hs_)); have n1_ := Aside0.mk (Kd.R_mono (ok' := fun k_ => (w.heap.size ≤ k_)) (Kd.R_keptB (HO267.out) hkp (fun k_ hk_ hs_ => (fun e_ => by simp [Value.ownBlock] at e_) hs_)) (fun k_ hk_ => hk_.1)); have n2_ := Aside0.mk (Kd.N_mono (ok' := fun k_ => (w.heap.size ≤ k_) ∧ some k_ ≠ (.slice Ao11 t265.length co11 : Value).ownBlock ∧ k_ ≠ gb264 ∧ k_ ≠ gb271 ∧ some k_ ≠ (v276 : Value).ownBlock) (Kd.N_keptB (HO270.out) hkp (fun k_ hk_ hs_ => (fun e_ => by simp [Value.ownBlock] at e_) hs_)) (fun k_ hk_ => ⟨hk_.1.1, hk_.1.2.1, hk_.1.2.2.1, hk_.1.2.2.2, fun e_ => Or.elim (ho0.1 k_ e_.symm) (fun hs_ => hk_.2.1 hs_) (fun hn_ => Nat.not_le.2 hk_.2.2 hn_)⟩)); have n3_ := Aside0.mk (blk_kept (by (with_reducible repeat (first | refine blk_drewN ?_ _ | refine blk_drew ?_ | refine blk_alloc ?_ _)); exact BK271.out) hkp (fun hs_ => (fun e_ => by simp [Value.ownBlock] at e_) hs_)); have n4_ := Aside0.mk (Kd.R_mono (ok' := fun k_ => (w.heap.size ≤ k_)) ho0 (fun k_ hk_ => Or.elim hk_ (fun hs_ => absurd hs_ (by simp [Value.ownBlock])) (fun hn_ => (Nat.le_trans (below_size (by repeat (first | (with_reducible first | exact HB.out | apply below_alloc | apply pw_below_drewN | apply below_drew1 | refine below_set ?_ GE264.out | refine below_set ?_ GE271.out) | exact HB.out))) hn_)))); have n5_ := Aside0.mk (hb); clear BK264; clear HO267; clear HO270; clear BK271; clear HB; have BK264 := n0_; have HO267 := n1_; have HO270 := n2_; have BK271 := n3_; have HO277 := n4_; have HB := n5_; clear n0_ n1_ n2_ n3_ n4_ n5_; (try clear hb); (try clear hkp); (try clear ho0)) | ((with_reducible refine gate_callee (f := 71) rfl ?_); refine goesL_ (some 4) rfl rfl Try.func71 (by kernel_rfl) rfl #[.string (⟨#[98, 111, 110, 110, 101, 116, 115]⟩ : ByteArray), .int .i64 2] rfl (by (try simp only [List.map_toArray, List.map_cons, List.map_nil]); first | done | rfl | (simp only [List.length_drop, List.length_take]; rfl)) ?_; (with_reducible refine (wayzgooselaw04_see.calls (⟨#[98, 111, 110, 110, 101, 116, 115]⟩ : ByteArray) 2 t278 t279 t280 t281 _ A3.out).mono ?_); rintro e w17 ⟨v282, rfl, ho0, hb⟩; refine ⟨_, rfl, ?_⟩; have n0_ := Aside0.mk (Kd.R_below (by (with_reducible repeat (first | apply Kd.R_alloc | apply Kd.R_drewN | apply Kd.R_drew)); exact HO267.out) hb); have n1_ := Aside0.mk (Kd.N_elder' (by (with_reducible repeat (first | apply Kd.N_alloc | apply Kd.N_drewN | apply Kd.N_drew)); exact HO270.out) (Kd.R_base ho0) hb); have n2_ := Aside0.mk (Kd.R_elder' (by (with_reducible repeat (first | apply Kd.R_alloc | apply Kd.R_drewN | apply Kd.R_drew)); exact HO277.out) (Kd.R_base ho0) hb); have n3_ := Aside0.mk (Kd.R_lower (Kd.R_new' (Kd.R_newM (M := fun k_ => (w.heap.size ≤ k_)) ho0 (below_size (by repeat (first | (with_reducible first | exact HB.out | apply below_alloc | apply pw_below_drewN | apply below_drew1 | refine below_set ?_ GE264.out | refine below_set ?_ GE271.out) | exact HB.out))) (fun k_ h_ => h_)) (Kd.R_lt (by (with_reducible repeat (first | apply Kd.R_alloc | apply Kd.R_drewN | apply Kd.R_drew)); exact HO277.out))) (below_size (by repeat (first | (with_reducible first | exact HB.out | apply below_alloc | apply pw_below_drewN | apply below_drew1 | refine below_set ?_ GE264.out | refine below_set ?_ GE271.out) | exact HB.out)))); have n4_ := Aside0.mk (blk_below (g := gb264) (o := .cells #[.slice none 0 0, .slice none 0 0] 26 (0, 0)) (by (with_reducible repeat (first | refine blk_drewN ?_ _ | refine blk_drew ?_ | refine blk_alloc ?_ _)); exact BK264.out) hb); have n5_ := Aside0.mk (blk_below (g := gb271) (o := .cells #[.slice Ao11 t265.length co11, .slice Ao14 t268.length co14] 26 (0, 0)) (by (with_reducible repeat (first | refine blk_drewN ?_ _ | refine blk_drew ?_ | refine blk_alloc ?_ _)); exact BK271.out) hb); have n6_ := Aside0.mk (below_step (by repeat (first | (with_reducible first | exact HB.out | apply below_alloc | apply pw_below_drewN | apply below_drew1 | refine below_set ?_ GE264.out | refine below_set ?_ GE271.out) | exact HB.out)) hb); clear HO267; clear HO270; clear HO277; clear BK264; clear BK271; clear HB; have HO267 := n0_; have HO270 := n1_; have HO277 := n2_; have HO283 := n3_; have BK264 := n4_; have BK271 := n5_; have HB := n6_; clear n0_ n1_ n2_ n3_ n4_ n5_ n6_; (try clear hb); (try clear hb2); (try clear hk); (try clear hi); (try clear ho0)) | ((with_reducible refine gate_callee (f := 70) rfl ?_); refine goesL_ (some 5) rfl rfl Try.func70 (by kernel_rfl) rfl #[.string (⟨#[104, 97, 116, 116, 101, 114]⟩ : ByteArray), .int .i64 2, .slice none 0 0] rfl (by (try simp only [List.map_toArray, List.map_cons, List.map_nil]); first | done | rfl | (simp only [List.length_drop, List.length_take]; rfl)) ?_; (refine (wayzgooselaw04_is.calls (⟨#[104, 97, 116, 116, 101, 114]⟩ : ByteArray) 2 (fun k_ => some k_ = (.slice none 0 0 : Value).ownBlock) (.slice none 0 0) ([] : List Int) t284 t285 t286 t287 w _ ?side1 ?side2 A4.out).mono ?_); (case side1 => repeat (first | (with_reducible first | exact HB.out | apply below_alloc | apply pw_below_drewN | apply below_drew1 | refine below_set ?_ GE264.out | refine below_set ?_ GE271.out) | exact HB.out)); (case side2 => exact Kd.R_nil _ _ _ _ _); rintro e w18 ⟨v288, rfl, ho0, hb, hkp⟩; refine ⟨_, rfl, ?_⟩; have n0_ := Aside0.mk (blk_kept (by (with_reducible repeat (first | refine blk_drewN ?_ _ | refine blk_drew ?_ | refine blk_alloc ?_ _)); exact BK264.out) hkp (fun hs_ => (fun e_ => by simp [Value.ownBlock] at e_) hs_)); have n1_ := Aside0.mk (Kd.R_mono (ok' := fun k_ => (w.heap.size ≤ k_)) (Kd.R_keptB (HO267.out) hkp (fun k_ hk_ hs_ => (fun e_ => by simp [Value.ownBlock] at e_) hs_)) (fun k_ hk_ => hk_.1)); have n2_ := Aside0.mk (Kd.N_mono (ok' := fun k_ => (w.heap.size ≤ k_) ∧ some k_ ≠ (.slice Ao11 t265.length co11 : Value).ownBlock ∧ some k_ ≠ (v276 : Value).ownBlock ∧ some k_ ≠ (v282 : Value).ownBlock ∧ k_ ≠ gb264 ∧ k_ ≠ gb271 ∧ some k_ ≠ (v288 : Value).ownBlock) (Kd.N_keptB (HO270.out) hkp (fun k_ hk_ hs_ => (fun e_ => by simp [Value.ownBlock] at e_) hs_)) (fun k_ hk_ => ⟨hk_.1.1.1, hk_.1.1.2.1, hk_.1.1.2.2.2.2, hk_.1.2, hk_.1.1.2.2.1, hk_.1.1.2.2.2.1, fun e_ => Or.elim (ho0.1 k_ e_.symm) (fun hs_ => hk_.2.1 hs_) (fun hn_ => Nat.not_le.2 hk_.2.2 hn_)⟩)); have n3_ := Aside0.mk (blk_kept (by (with_reducible repeat (first | refine blk_drewN ?_ _ | refine blk_drew ?_ | refine blk_alloc ?_ _)); exact BK271.out) hkp (fun hs_ => (fun e_ => by simp [Value.ownBlock] at e_) hs_)); have n4_ := Aside0.mk (Kd.R_mono (ok' := fun k_ => (w.heap.size ≤ k_) ∧ some k_ ≠ (v282 : Value).ownBlock ∧ some k_ ≠ (v288 : Value).ownBlock) (Kd.R_keptB (HO277.out) hkp (fun k_ hk_ hs_ => (fun e_ => by simp [Value.ownBlock] at e_) hs_)) (fun k_ hk_ => ⟨hk_.1.1, hk_.1.2, fun e_ => Or.elim (ho0.1 k_ e_.symm) (fun hs_ => hk_.2.1 hs_) (fun hn_ => Nat.not_le.2 hk_.2.2 hn_)⟩)); have n5_ := Aside0.mk (Kd.R_mono (ok' := fun k_ => (w.heap.size ≤ k_) ∧ some k_ ≠ (v276 : Value).ownBlock ∧ some k_ ≠ (v288 : Value).ownBlock) (Kd.R_keptB (HO283.out) hkp (fun k_ hk_ hs_ => (fun e_ => by simp [Value.ownBlock] at e_) hs_)) (fun k_ hk_ => ⟨hk_.1.1.1, hk_.1.2, fun e_ => Or.elim (ho0.1 k_ e_.symm) (fun hs_ => hk_.2.1 hs_) (fun hn_ => Nat.not_le.2 hk_.2.2 hn_)⟩)); have n6_ := Aside0.mk (Kd.R_mono (ok' := fun k_ => (w.heap.size ≤ k_) ∧ some k_ ≠ (v276 : Value).ownBlock ∧ some k_ ≠ (v282 : Value).ownBlock) ho0 (fun k_ hk_ => ⟨Or.elim hk_ (fun hs_ => absurd hs_ (by simp [Value.ownBlock])) (fun hn_ => (Nat.le_trans (below_size (by repeat (first | (with_reducible first | exact HB.out | apply below_alloc | apply pw_below_drewN | apply below_drew1 | refine below_set ?_ GE264.out | refine below_set ?_ GE271.out) | exact HB.out))) hn_)), Or.elim hk_ (fun hs_ => absurd hs_ (by simp [Value.ownBlock])) (fun hn_ => (Kd.fresh' (Kd.R_lt (by (with_reducible repeat (first | apply Kd.R_alloc | apply Kd.R_drewN | apply Kd.R_drew)); exact HO277.out)) k_ hn_)), Or.elim hk_ (fun hs_ => absurd hs_ (by simp [Value.ownBlock])) (fun hn_ => (Kd.fresh' (Kd.R_lt (by (with_reducible repeat (first | apply Kd.R_alloc | apply Kd.R_drewN | apply Kd.R_drew)); exact HO283.out)) k_ hn_))⟩)); have n7_ := Aside0.mk (hb); clear BK264; clear HO267; clear HO270; clear BK271; clear HO277; clear HO283; clear HB; have BK264 := n0_; have HO267 := n1_; have HO270 := n2_; have BK271 := n3_; have HO277 := n4_; have HO283 := n5_; have HO289 := n6_; have HB := n7_; clear n0_ n1_ n2_ n3_ n4_ n5_ n6_ n7_; (try clear hb); (try clear hkp); (try clear ho0)) | ((with_reducible refine gate_callee (f := 70) rfl ?_); refine goesL_ (some 6) rfl rfl Try.func70 (by kernel_rfl) rfl #[.string (⟨#[105, 114, 111, 110, 109, 111, 110, 103, 101, 114]⟩ : ByteArray), .int .i64 0, .slice none 0 0] rfl (by (try simp only [List.map_toArray, List.map_cons, List.map_nil]); first | done | rfl | (simp only [List.length_drop, List.length_take]; rfl)) ?_; (refine (wayzgooselaw04_is.calls (⟨#[105, 114, 111, 110, 109, 111, 110, 103, 101, 114]⟩ : ByteArray) 0 (fun k_ => some k_ = (.slice none 0 0 : Value).ownBlock) (.slice none 0 0) ([] : List Int) t290 t291 t292 t293 w _ ?side1 ?side2 A5.out).mono ?_); (case side1 => repeat (first | (with_reducible first | exact HB.out | apply below_alloc | apply pw_below_drewN | apply below_drew1 | refine below_set ?_ GE264.out | refine below_set ?_ GE271.out) | exact HB.out)); (case side2 => exact Kd.R_nil _ _ _ _ _); rintro e w19 ⟨v294, rfl, ho0, hb, hkp⟩; refine ⟨_, rfl, ?_⟩; have n0_ := Aside0.mk (blk_kept (by (with_reducible repeat (first | refine blk_drewN ?_ _ | refine blk_drew ?_ | refine blk_alloc ?_ _)); exact BK264.out) hkp (fun hs_ => (fun e_ => by simp [Value.ownBlock] at e_) hs_)); have n1_ := Aside0.mk (Kd.R_mono (ok' := fun k_ => (w.heap.size ≤ k_)) (Kd.R_keptB (HO267.out) hkp (fun k_ hk_ hs_ => (fun e_ => by simp [Value.ownBlock] at e_) hs_)) (fun k_ hk_ => hk_.1)); have n2_ := Aside0.mk (Kd.N_mono (ok' := fun k_ => (w.heap.size ≤ k_) ∧ some k_ ≠ (.slice Ao11 t265.length co11 : Value).ownBlock ∧ some k_ ≠ (v276 : Value).ownBlock ∧ some k_ ≠ (v282 : Value).ownBlock ∧ some k_ ≠ (v288 : Value).ownBlock ∧ k_ ≠ gb264 ∧ k_ ≠ gb271 ∧ some k_ ≠ (v294 : Value).ownBlock) (Kd.N_keptB (HO270.out) hkp (fun k_ hk_ hs_ => (fun e_ => by simp [Value.ownBlock] at e_) hs_)) (fun k_ hk_ => ⟨hk_.1.1, hk_.1.2.1, hk_.1.2.2.1, hk_.1.2.2.2.1, hk_.1.2.2.2.2.2.2, hk_.1.2.2.2.2.1, hk_.1.2.2.2.2.2.1, fun e_ => Or.elim (ho0.1 k_ e_.symm) (fun hs_ => hk_.2.1 hs_) (fun hn_ => Nat.not_le.2 hk_.2.2 hn_)⟩)); have n3_ := Aside0.mk (blk_kept (by (with_reducible repeat (first | refine blk_drewN ?_ _ | refine blk_drew ?_ | refine blk_alloc ?_ _)); exact BK271.out) hkp (fun hs_ => (fun e_ => by simp [Value.ownBlock] at e_) hs_)); have n4_ := Aside0.mk (Kd.R_mono (ok' := fun k_ => (w.heap.size ≤ k_) ∧ some k_ ≠ (v282 : Value).ownBlock ∧ some k_ ≠ (v288 : Value).ownBlock ∧ some k_ ≠ (v294 : Value).ownBlock) (Kd.R_keptB (HO277.out) hkp (fun k_ hk_ hs_ => (fun e_ => by simp [Value.ownBlock] at e_) hs_)) (fun k_ hk_ => ⟨hk_.1.1, hk_.1.2.1, hk_.1.2.2, fun e_ => Or.elim (ho0.1 k_ e_.symm) (fun hs_ => hk_.2.1 hs_) (fun hn_ => Nat.not_le.2 hk_.2.2 hn_)⟩)); have n5_ := Aside0.mk (Kd.R_mono (ok' := fun k_ => (w.heap.size ≤ k_) ∧ some k_ ≠ (v276 : Value).ownBlock ∧ some k_ ≠ (v288 : Value).ownBlock ∧ some k_ ≠ (v294 : Value).ownBlock) (Kd.R_keptB (HO283.out) hkp (fun k_ hk_ hs_ => (fun e_ => by simp [Value.ownBlock] at e_) hs_)) (fun k_ hk_ => ⟨hk_.1.1, hk_.1.2.1, hk_.1.2.2, fun e_ => Or.elim (ho0.1 k_ e_.symm) (fun hs_ => hk_.2.1 hs_) (fun hn_ => Nat.not_le.2 hk_.2.2 hn_)⟩)); have n6_ := Aside0.mk (Kd.R_mono (ok' := fun k_ => (w.heap.size ≤ k_) ∧ some k_ ≠ (v276 : Value).ownBlock ∧ some k_ ≠ (v282 : Value).ownBlock ∧ some k_ ≠ (v294 : Value).ownBlock) (Kd.R_keptB (HO289.out) hkp (fun k_ hk_ hs_ => (fun e_ => by simp [Value.ownBlock] at e_) hs_)) (fun k_ hk_ => ⟨hk_.1.1, hk_.1.2.1, hk_.1.2.2, fun e_ => Or.elim (ho0.1 k_ e_.symm) (fun hs_ => hk_.2.1 hs_) (fun hn_ => Nat.not_le.2 hk_.2.2 hn_)⟩)); have n7_ := Aside0.mk (Kd.R_mono (ok' := fun k_ => (w.heap.size ≤ k_) ∧ some k_ ≠ (v276 : Value).ownBlock ∧ some k_ ≠ (v282 : Value).ownBlock ∧ some k_ ≠ (v288 : Value).ownBlock) ho0 (fun k_ hk_ => ⟨Or.elim hk_ (fun hs_ => absurd hs_ (by simp [Value.ownBlock])) (fun hn_ => (Nat.le_trans (below_size (by repeat (first | (with_reducible first | exact HB.out | apply below_alloc | apply pw_below_drewN | apply below_drew1 | refine below_set ?_ GE264.out | refine below_set ?_ GE271.out) | exact HB.out))) hn_)), Or.elim hk_ (fun hs_ => absurd hs_ (by simp [Value.ownBlock])) (fun hn_ => (Kd.fresh' (Kd.R_lt (by (with_reducible repeat (first | apply Kd.R_alloc | apply Kd.R_drewN | apply Kd.R_drew)); exact HO277.out)) k_ hn_)), Or.elim hk_ (fun hs_ => absurd hs_ (by simp [Value.ownBlock])) (fun hn_ => (Kd.fresh' (Kd.R_lt (by (with_reducible repeat (first | apply Kd.R_alloc | apply Kd.R_drewN | apply Kd.R_drew)); exact HO283.out)) k_ hn_)), Or.elim hk_ (fun hs_ => absurd hs_ (by simp [Value.ownBlock])) (fun hn_ => (Kd.fresh' (Kd.R_lt (by (with_reducible repeat (first | apply Kd.R_alloc | apply Kd.R_drewN | apply Kd.R_drew)); exact HO289.out)) k_ hn_))⟩)); have n8_ := Aside0.mk (hb); clear BK264; clear HO267; clear HO270; clear BK271; clear HO277; clear HO283; clear HO289; clear HB; have BK264 := n0_; have HO267 := n1_; have HO270 := n2_; have BK271 := n3_; have HO277 := n4_; have HO283 := n5_; have HO289 := n6_; have HO295 := n7_; have HB := n8_; clear n0_ n1_ n2_ n3_ n4_ n5_ n6_ n7_ n8_; (try clear hb); (try clear hkp); (try clear ho0)) | ((with_reducible refine gate_dst (N := 7) rfl ?_); refine Kd.R_lit (Kd.int .i64) _ 3 ?hg (N := 7) ?hd (xs := ([2] : List Int)) (inner := [.int .i64 2]) (ok := fun _ => True) (okp := fun _ => True) ?hr ?hp (fun _ hk => hk) trivial (Below.refl _ _) (Nat.le_refl _) (by simp) ?_; (case hd => rfl); (case hg => rfl); (case hr => first | (go_simp; done) | (go_simp; rfl)); (case hp => exact (Reps.one (show Kd.M (Kd.int .i64) _ _ _ 2 [.int .i64 2] from rfl) (Reps.none _ _))); intro v297 w20 ho21 hb hg_ hnew_; clear hg_ hnew_; (first | rw [← Ny296.out] at ho21 | (simp only [Int.reduceToNat] at ho21; rw [← Ny296.out] at ho21)); have n0_ := Aside0.mk (Kd.R_below (by (with_reducible repeat (first | apply Kd.R_alloc | apply Kd.R_drewN | apply Kd.R_drew)); exact HO267.out) hb); have n1_ := Aside0.mk (Kd.N_elder' (by (with_reducible repeat (first | apply Kd.N_alloc | apply Kd.N_drewN | apply Kd.N_drew)); exact HO270.out) (Kd.R_base ho21) hb); have n2_ := Aside0.mk (Kd.R_elder' (by (with_reducible repeat (first | apply Kd.R_alloc | apply Kd.R_drewN | apply Kd.R_drew)); exact HO277.out) (Kd.R_base ho21) hb); have n3_ := Aside0.mk (Kd.R_elder' (by (with_reducible repeat (first | apply Kd.R_alloc | apply Kd.R_drewN | apply Kd.R_drew)); exact HO283.out) (Kd.R_base ho21) hb); have n4_ := Aside0.mk (Kd.R_elder' (by (with_reducible repeat (first | apply Kd.R_alloc | apply Kd.R_drewN | apply Kd.R_drew)); exact HO289.out) (Kd.R_base ho21) hb); have n5_ := Aside0.mk (Kd.R_elder' (by (with_reducible repeat (first | apply Kd.R_alloc | apply Kd.R_drewN | apply Kd.R_drew)); exact HO295.out) (Kd.R_base ho21) hb); have n6_ := Aside0.mk (Kd.R_lower (Kd.R_new' (Kd.R_new' (Kd.R_new' (Kd.R_new' (Kd.R_newM (M := fun k_ => (w.heap.size ≤ k_)) ho21 (below_size (by repeat (first | (with_reducible first | exact HB.out | apply below_alloc | apply pw_below_drewN | apply below_drew1 | refine below_set ?_ GE264.out | refine below_set ?_ GE271.out) | exact HB.out))) (fun k_ h_ => h_)) (Kd.R_lt (by (with_reducible repeat (first | apply Kd.R_alloc | apply Kd.R_drewN | apply Kd.R_drew)); exact HO277.out))) (Kd.R_lt (by (with_reducible repeat (first | apply Kd.R_alloc | apply Kd.R_drewN | apply Kd.R_drew)); exact HO283.out))) (Kd.R_lt (by (with_reducible repeat (first | apply Kd.R_alloc | apply Kd.R_drewN | apply Kd.R_drew)); exact HO289.out))) (Kd.R_lt (by (with_reducible repeat (first | apply Kd.R_alloc | apply Kd.R_drewN | apply Kd.R_drew)); exact HO295.out))) (below_size (by repeat (first | (with_reducible first | exact HB.out | apply below_alloc | apply pw_below_drewN | apply below_drew1 | refine below_set ?_ GE264.out | refine below_set ?_ GE271.out) | exact HB.out)))); have n7_ := Aside0.mk (blk_below (g := gb264) (o := .cells #[.slice none 0 0, .slice none 0 0] 26 (0, 0)) (by (with_reducible repeat (first | refine blk_drewN ?_ _ | refine blk_drew ?_ | refine blk_alloc ?_ _)); exact BK264.out) hb); have n8_ := Aside0.mk (blk_below (g := gb271) (o := .cells #[.slice Ao11 t265.length co11, .slice Ao14 t268.length co14] 26 (0, 0)) (by (with_reducible repeat (first | refine blk_drewN ?_ _ | refine blk_drew ?_ | refine blk_alloc ?_ _)); exact BK271.out) hb); have n9_ := Aside0.mk (below_step (by repeat (first | (with_reducible first | exact HB.out | apply below_alloc | apply pw_below_drewN | apply below_drew1 | refine below_set ?_ GE264.out | refine below_set ?_ GE271.out) | exact HB.out)) hb); clear HO267; clear HO270; clear HO277; clear HO283; clear HO289; clear HO295; clear BK264; clear BK271; clear HB; have HO267 := n0_; have HO270 := n1_; have HO277 := n2_; have HO283 := n3_; have HO289 := n4_; have HO295 := n5_; have HO298 := n6_; have BK264 := n7_; have BK271 := n8_; have HB := n9_; clear n0_ n1_ n2_ n3_ n4_ n5_ n6_ n7_ n8_ n9_; clear hb ho21; obtain ⟨Ao22, co22, eo22⟩ := Kd.R_slice HO298.out; subst eo22) | ((with_reducible refine gate_callee (f := 70) rfl ?_); refine goesL_ (some 8) rfl rfl Try.func70 (by kernel_rfl) rfl #[.string (⟨#[109, 101, 114, 99, 101, 114]⟩ : ByteArray), .int .i64 2, .slice Ao22 y296.length co22] rfl (by (try simp only [List.map_toArray, List.map_cons, List.map_nil]); first | done | rfl | (simp only [List.length_drop, List.length_take]; rfl)) ?_; (with_reducible refine (wayzgooselaw04_is.calls (⟨#[109, 101, 114, 99, 101, 114]⟩ : ByteArray) 2 (fun k_ => some k_ = (.slice Ao22 y296.length co22 : Value).ownBlock) (.slice Ao22 y296.length co22) y296 t299 t300 t301 t302 w _ ?side1 ?side2 A6.out).mono ?_); (case side1 => repeat (first | (with_reducible first | exact HB.out | apply below_alloc | apply pw_below_drewN | apply below_drew1 | refine below_set ?_ GE264.out | refine below_set ?_ GE271.out) | exact HB.out)); (case side2 => exact Kd.R_tight rfl HO298.out); rintro e w23 ⟨v303, rfl, ho0, hb, hkp⟩; refine ⟨_, rfl, ?_⟩; have n0_ := Aside0.mk (blk_kept (by (with_reducible repeat (first | refine blk_drewN ?_ _ | refine blk_drew ?_ | refine blk_alloc ?_ _)); exact BK264.out) hkp (fun hs_ => (fun e_ => (Kd.R_ne HO298.out BK264.out (by decide)) e_) hs_)); have n1_ := Aside0.mk (Kd.R_mono (ok' := fun k_ => (w.heap.size ≤ k_)) (Kd.R_keptB ((Kd.R_apart' HO267.out (Kd.R_typed HO298.out) (by decide))) hkp (fun k_ hk_ hs_ => (hk_.2) hs_)) (fun k_ hk_ => hk_.1.1)); have n2_ := Aside0.mk (Kd.N_mono (ok' := fun k_ => (w.heap.size ≤ k_) ∧ some k_ ≠ (.slice Ao11 t265.length co11 : Value).ownBlock ∧ some k_ ≠ (v276 : Value).ownBlock ∧ some k_ ≠ (v282 : Value).ownBlock ∧ some k_ ≠ (v288 : Value).ownBlock ∧ some k_ ≠ (v294 : Value).ownBlock ∧ k_ ≠ gb264 ∧ k_ ≠ gb271 ∧ some k_ ≠ (v303 : Value).ownBlock) (Kd.N_keptB (HO270.out) hkp (fun k_ hk_ hs_ => (hk_.2) hs_)) (fun k_ hk_ => ⟨hk_.1.1.1, hk_.1.1.2.1, hk_.1.1.2.2.1, hk_.1.1.2.2.2.1, hk_.1.1.2.2.2.2.1, hk_.1.1.2.2.2.2.2.2.2, hk_.1.1.2.2.2.2.2.1, hk_.1.1.2.2.2.2.2.2.1, fun e_ => Or.elim (ho0.1 k_ e_.symm) (fun hs_ => hk_.2.1 hs_) (fun hn_ => Nat.not_le.2 hk_.2.2 hn_)⟩)); have n3_ := Aside0.mk (blk_kept (by (with_reducible repeat (first | refine blk_drewN ?_ _ | refine blk_drew ?_ | refine blk_alloc ?_ _)); exact BK271.out) hkp (fun hs_ => (fun e_ => (Kd.R_ne HO298.out BK271.out (by decide)) e_) hs_)); have n4_ := Aside0.mk (Kd.R_mono (ok' := fun k_ => (w.heap.size ≤ k_) ∧ some k_ ≠ (v282 : Value).ownBlock ∧ some k_ ≠ (v288 : Value).ownBlock ∧ some k_ ≠ (v294 : Value).ownBlock ∧ some k_ ≠ (v303 : Value).ownBlock) (Kd.R_keptB (HO277.out) hkp (fun k_ hk_ hs_ => (hk_.2) hs_)) (fun k_ hk_ => ⟨hk_.1.1.1, hk_.1.1.2.1, hk_.1.1.2.2.1, hk_.1.1.2.2.2, fun e_ => Or.elim (ho0.1 k_ e_.symm) (fun hs_ => hk_.2.1 hs_) (fun hn_ => Nat.not_le.2 hk_.2.2 hn_)⟩)); have n5_ := Aside0.mk (Kd.R_mono (ok' := fun k_ => (w.heap.size ≤ k_) ∧ some k_ ≠ (v276 : Value).ownBlock ∧ some k_ ≠ (v288 : Value).ownBlock ∧ some k_ ≠ (v294 : Value).ownBlock ∧ some k_ ≠ (v303 : Value).ownBlock) (Kd.R_keptB (HO283.out) hkp (fun k_ hk_ hs_ => (hk_.2) hs_)) (fun k_ hk_ => ⟨hk_.1.1.1, hk_.1.1.2.1, hk_.1.1.2.2.1, hk_.1.1.2.2.2, fun e_ => Or.elim (ho0.1 k_ e_.symm) (fun hs_ => hk_.2.1 hs_) (fun hn_ => Nat.not_le.2 hk_.2.2 hn_)⟩)); have n6_ := Aside0.mk (Kd.R_mono (ok' := fun k_ => (w.heap.size ≤ k_) ∧ some k_ ≠ (v276 : Value).ownBlock ∧ some k_ ≠ (v282 : Value).ownBlock ∧ some k_ ≠ (v294 : Value).ownBlock ∧ some k_ ≠ (v303 : Value).ownBlock) (Kd.R_keptB (HO289.out) hkp (fun k_ hk_ hs_ => (hk_.2) hs_)) (fun k_ hk_ => ⟨hk_.1.1.1, hk_.1.1.2.1, hk_.1.1.2.2.1, hk_.1.1.2.2.2, fun e_ => Or.elim (ho0.1 k_ e_.symm) (fun hs_ => hk_.2.1 hs_) (fun hn_ => Nat.not_le.2 hk_.2.2 hn_)⟩)); have n7_ := Aside0.mk (Kd.R_mono (ok' := fun k_ => (w.heap.size ≤ k_) ∧ some k_ ≠ (v276 : Value).ownBlock ∧ some k_ ≠ (v282 : Value).ownBlock ∧ some k_ ≠ (v288 : Value).ownBlock ∧ some k_ ≠ (v303 : Value).ownBlock) (Kd.R_keptB (HO295.out) hkp (fun k_ hk_ hs_ => (hk_.2) hs_)) (fun k_ hk_ => ⟨hk_.1.1.1, hk_.1.1.2.1, hk_.1.1.2.2.1, hk_.1.1.2.2.2, fun e_ => Or.elim (ho0.1 k_ e_.symm) (fun hs_ => hk_.2.1 hs_) (fun hn_ => Nat.not_le.2 hk_.2.2 hn_)⟩)); have n8_ := Aside0.mk (Kd.R_mono (ok' := fun k_ => (w.heap.size ≤ k_) ∧ some k_ ≠ (v276 : Value).ownBlock ∧ some k_ ≠ (v282 : Value).ownBlock ∧ some k_ ≠ (v288 : Value).ownBlock ∧ some k_ ≠ (v294 : Value).ownBlock) ho0 (fun k_ hk_ => ⟨Or.elim hk_ (fun hs_ => (HO298.out.1 k_ (hs_).symm).1.1.1.1.1) (fun hn_ => (Nat.le_trans (below_size (by repeat (first | (with_reducible first | exact HB.out | apply below_alloc | apply pw_below_drewN | apply below_drew1 | refine below_set ?_ GE264.out | refine below_set ?_ GE271.out) | exact HB.out))) hn_)), Or.elim hk_ (fun hs_ => fun e_ => (((HO277.out).1 k_ e_.symm).2) hs_) (fun hn_ => (Kd.fresh' (Kd.R_lt (by (with_reducible repeat (first | apply Kd.R_alloc | apply Kd.R_drewN | apply Kd.R_drew)); exact HO277.out)) k_ hn_)), Or.elim hk_ (fun hs_ => fun e_ => (((HO283.out).1 k_ e_.symm).2) hs_) (fun hn_ => (Kd.fresh' (Kd.R_lt (by (with_reducible repeat (first | apply Kd.R_alloc | apply Kd.R_drewN | apply Kd.R_drew)); exact HO283.out)) k_ hn_)), Or.elim hk_ (fun hs_ => fun e_ => (((HO289.out).1 k_ e_.symm).2) hs_) (fun hn_ => (Kd.fresh' (Kd.R_lt (by (with_reducible repeat (first | apply Kd.R_alloc | apply Kd.R_drewN | apply Kd.R_drew)); exact HO289.out)) k_ hn_)), Or.elim hk_ (fun hs_ => fun e_ => (((HO295.out).1 k_ e_.symm).2) hs_) (fun hn_ => (Kd.fresh' (Kd.R_lt (by (with_reducible repeat (first | apply Kd.R_alloc | apply Kd.R_drewN | apply Kd.R_drew)); exact HO295.out)) k_ hn_))⟩)); have n9_ := Aside0.mk (hb); clear BK264; clear HO267; clear HO270; clear BK271; clear HO277; clear HO283; clear HO289; clear HO295; clear HB; clear HO298; have BK264 := n0_; have HO267 := n1_; have HO270 := n2_; have BK271 := n3_; have HO277 := n4_; have HO283 := n5_; have HO289 := n6_; have HO295 := n7_; have HO304 := n8_; have HB := n9_; clear n0_ n1_ n2_ n3_ n4_ n5_ n6_ n7_ n8_ n9_; (try clear hb); (try clear hkp); (try clear ho0)) | ((with_reducible refine gate_callee (f := 71) rfl ?_); refine goesL_ (some 9) rfl rfl Try.func71 (by kernel_rfl) rfl #[.string (⟨#[109, 105, 108, 108, 105, 110, 101, 114]⟩ : ByteArray), .int .i64 1] rfl (by (try simp only [List.map_toArray, List.map_cons, List.map_nil]); first | done | rfl | (simp only [List.length_drop, List.length_take]; rfl)) ?_; (with_reducible refine (wayzgooselaw04_see.calls (⟨#[109, 105, 108, 108, 105, 110, 101, 114]⟩ : ByteArray) 1 t305 t306 t307 t308 _ A7.out).mono ?_); rintro e w24 ⟨v309, rfl, ho0, hb⟩; refine ⟨_, rfl, ?_⟩; have n0_ := Aside0.mk (Kd.R_below (by (with_reducible repeat (first | apply Kd.R_alloc | apply Kd.R_drewN | apply Kd.R_drew)); exact HO267.out) hb); have n1_ := Aside0.mk (Kd.N_elder' (by (with_reducible repeat (first | apply Kd.N_alloc | apply Kd.N_drewN | apply Kd.N_drew)); exact HO270.out) (Kd.R_base ho0) hb); have n2_ := Aside0.mk (Kd.R_elder' (by (with_reducible repeat (first | apply Kd.R_alloc | apply Kd.R_drewN | apply Kd.R_drew)); exact HO277.out) (Kd.R_base ho0) hb); have n3_ := Aside0.mk (Kd.R_elder' (by (with_reducible repeat (first | apply Kd.R_alloc | apply Kd.R_drewN | apply Kd.R_drew)); exact HO283.out) (Kd.R_base ho0) hb); have n4_ := Aside0.mk (Kd.R_elder' (by (with_reducible repeat (first | apply Kd.R_alloc | apply Kd.R_drewN | apply Kd.R_drew)); exact HO289.out) (Kd.R_base ho0) hb); have n5_ := Aside0.mk (Kd.R_elder' (by (with_reducible repeat (first | apply Kd.R_alloc | apply Kd.R_drewN | apply Kd.R_drew)); exact HO295.out) (Kd.R_base ho0) hb); have n6_ := Aside0.mk (Kd.R_elder' (by (with_reducible repeat (first | apply Kd.R_alloc | apply Kd.R_drewN | apply Kd.R_drew)); exact HO304.out) (Kd.R_base ho0) hb); have n7_ := Aside0.mk (Kd.R_lower (Kd.R_new' (Kd.R_new' (Kd.R_new' (Kd.R_new' (Kd.R_new' (Kd.R_newM (M := fun k_ => (w.heap.size ≤ k_)) ho0 (below_size (by repeat (first | (with_reducible first | exact HB.out | apply below_alloc | apply pw_below_drewN | apply below_drew1 | refine below_set ?_ GE264.out | refine below_set ?_ GE271.out) | exact HB.out))) (fun k_ h_ => h_)) (Kd.R_lt (by (with_reducible repeat (first | apply Kd.R_alloc | apply Kd.R_drewN | apply Kd.R_drew)); exact HO277.out))) (Kd.R_lt (by (with_reducible repeat (first | apply Kd.R_alloc | apply Kd.R_drewN | apply Kd.R_drew)); exact HO283.out))) (Kd.R_lt (by (with_reducible repeat (first | apply Kd.R_alloc | apply Kd.R_drewN | apply Kd.R_drew)); exact HO289.out))) (Kd.R_lt (by (with_reducible repeat (first | apply Kd.R_alloc | apply Kd.R_drewN | apply Kd.R_drew)); exact HO295.out))) (Kd.R_lt (by (with_reducible repeat (first | apply Kd.R_alloc | apply Kd.R_drewN | apply Kd.R_drew)); exact HO304.out))) (below_size (by repeat (first | (with_reducible first | exact HB.out | apply below_alloc | apply pw_below_drewN | apply below_drew1 | refine below_set ?_ GE264.out | refine below_set ?_ GE271.out) | exact HB.out)))); have n8_ := Aside0.mk (blk_below (g := gb264) (o := .cells #[.slice none 0 0, .slice none 0 0] 26 (0, 0)) (by (with_reducible repeat (first | refine blk_drewN ?_ _ | refine blk_drew ?_ | refine blk_alloc ?_ _)); exact BK264.out) hb); have n9_ := Aside0.mk (blk_below (g := gb271) (o := .cells #[.slice Ao11 t265.length co11, .slice Ao14 t268.length co14] 26 (0, 0)) (by (with_reducible repeat (first | refine blk_drewN ?_ _ | refine blk_drew ?_ | refine blk_alloc ?_ _)); exact BK271.out) hb); have n10_ := Aside0.mk (below_step (by repeat (first | (with_reducible first | exact HB.out | apply below_alloc | apply pw_below_drewN | apply below_drew1 | refine below_set ?_ GE264.out | refine below_set ?_ GE271.out) | exact HB.out)) hb); clear HO267; clear HO270; clear HO277; clear HO283; clear HO289; clear HO295; clear HO304; clear BK264; clear BK271; clear HB; have HO267 := n0_; have HO270 := n1_; have HO277 := n2_; have HO283 := n3_; have HO289 := n4_; have HO295 := n5_; have HO304 := n6_; have HO310 := n7_; have BK264 := n8_; have BK271 := n9_; have HB := n10_; clear n0_ n1_ n2_ n3_ n4_ n5_ n6_ n7_ n8_ n9_ n10_; (try clear hb); (try clear hb2); (try clear hk); (try clear hi); (try clear ho0); obtain ⟨Ao25, co25, eo25⟩ := Kd.R_slice HO277.out; subst eo25; obtain ⟨Ao26, co26, eo26⟩ := Kd.R_slice HO283.out; subst eo26; obtain ⟨Ao27, co27, eo27⟩ := Kd.R_slice HO289.out; subst eo27; obtain ⟨Ao28, co28, eo28⟩ := Kd.R_slice HO295.out; subst eo28; obtain ⟨Ao29, co29, eo29⟩ := Kd.R_slice HO304.out; subst eo29; obtain ⟨Ao30, co30, eo30⟩ := Kd.R_slice HO310.out; subst eo30) | ((with_reducible refine gate_dst (N := 10) rfl ?_); refine Kd.N_lit k39 _ 39 ?hg (N' := 10) ?hd (xs := ([(⟨t272, t273, t274, t275⟩ : S39), (⟨t278, t279, t280, t281⟩ : S39), (⟨t284, t285, t286, t287⟩ : S39), (⟨t290, t291, t292, t293⟩ : S39), (⟨t299, t300, t301, t302⟩ : S39), (⟨t305, t306, t307, t308⟩ : S39)] : List (S39))) (inner := [.string t272, .int .i64 t273, .int .i64 t274, .slice Ao25 t275.length co25, .string t278, .int .i64 t279, .int .i64 t280, .slice Ao26 t281.length co26, .string t284, .int .i64 t285, .int .i64 t286, .slice Ao27 t287.length co27, .string t290, .int .i64 t291, .int .i64 t292, .slice Ao28 t293.length co28, .string t299, .int .i64 t300, .int .i64 t301, .slice Ao29 t302.length co29, .string t305, .int .i64 t306, .int .i64 t307, .slice Ao30 t308.length co30]) (ok := (fun k_ => (w.heap.size ≤ k_) ∧ some k_ ≠ (.slice Ao11 t265.length co11 : Value).ownBlock ∧ some k_ ≠ (.slice Ao14 t268.length co14 : Value).ownBlock ∧ k_ ≠ gb264 ∧ k_ ≠ gb271)) (okp := (fun k_ => (w.heap.size ≤ k_) ∧ some k_ ≠ (.slice Ao11 t265.length co11 : Value).ownBlock ∧ some k_ ≠ (.slice Ao14 t268.length co14 : Value).ownBlock ∧ k_ ≠ gb264 ∧ k_ ≠ gb271)) ?hr ?hp (fun _ hk => hk) ((show ∀ k_, w24.heap.size ≤ k_ → (fun k_ => (w.heap.size ≤ k_) ∧ some k_ ≠ (.slice Ao11 t265.length co11 : Value).ownBlock ∧ some k_ ≠ (.slice Ao14 t268.length co14 : Value).ownBlock ∧ k_ ≠ gb264 ∧ k_ ≠ gb271) k_ from fun k_ hk => ⟨(Nat.le_trans (below_size (by repeat (first | (with_reducible first | exact HB.out | apply below_alloc | apply pw_below_drewN | apply below_drew1 | refine below_set ?_ GE264.out | refine below_set ?_ GE271.out) | exact HB.out))) hk), Kd.fresh' (Kd.R_lt (by (with_reducible repeat (first | apply Kd.R_alloc | apply Kd.R_drewN | apply Kd.R_drew)); exact HO267.out)) k_ hk, Kd.fresh' (Kd.N_lt (by (with_reducible repeat (first | apply Kd.N_alloc | apply Kd.N_drewN | apply Kd.N_drew)); exact HO270.out)) k_ hk, Kd.freshB (g := gb264) (o := .cells #[.slice none 0 0, .slice none 0 0] 26 (0, 0)) (by (with_reducible repeat (first | refine blk_drewN ?_ _ | refine blk_drew ?_ | refine blk_alloc ?_ _)); exact BK264.out) k_ hk, Kd.freshB (g := gb271) (o := .cells #[.slice Ao11 t265.length co11, .slice Ao14 t268.length co14] 26 (0, 0)) (by (with_reducible repeat (first | refine blk_drewN ?_ _ | refine blk_drew ?_ | refine blk_alloc ?_ _)); exact BK271.out) k_ hk⟩) _ (Nat.le_refl _)) (Below.refl _ _) (Nat.le_refl _) (by simp) ?_; (case hd => rfl); (case hg => rfl); (case hr => first | (go_simp; done) | (go_simp; rfl)); (case hp => exact (Reps.c4 (show Kd.FK k39 _ _ (⟨t272, t273, t274, t275⟩ : S39) [.string t272, .int .i64 t273, .int .i64 t274, .slice Ao25 t275.length co25] from (k39_mkF _ _ (⟨t272, t273, t274, t275⟩ : S39) (Kd.R_reads' (Kd.R_mono (ok' := (fun k_ => (w.heap.size ≤ k_) ∧ some k_ ≠ (.slice Ao11 t265.length co11 : Value).ownBlock ∧ some k_ ≠ (.slice Ao14 t268.length co14 : Value).ownBlock ∧ k_ ≠ gb264 ∧ k_ ≠ gb271)) (Kd.R_types (Kd.R_types (Kd.R_apart' (Kd.R_apart' (HO277.out) (Kd.R_typed HO267.out) (by decide)) (Kd.N_typed HO270.out) (by decide)) BK264.out (by decide)) BK271.out (by decide)) (fun k_ hk => ⟨hk.1.1.1.1.1.1, ⟨hk.1.1.1.2, ⟨hk.1.1.2, ⟨hk.1.2, hk.2⟩⟩⟩⟩))).2.1 (Kd.R_F (Kd.R_mono (ok' := (fun k_ => (w.heap.size ≤ k_) ∧ some k_ ≠ (.slice Ao11 t265.length co11 : Value).ownBlock ∧ some k_ ≠ (.slice Ao14 t268.length co14 : Value).ownBlock ∧ k_ ≠ gb264 ∧ k_ ≠ gb271)) (Kd.R_types (Kd.R_types (Kd.R_apart' (Kd.R_apart' (HO277.out) (Kd.R_typed HO267.out) (by decide)) (Kd.N_typed HO270.out) (by decide)) BK264.out (by decide)) BK271.out (by decide)) (fun k_ hk => ⟨hk.1.1.1.1.1.1, ⟨hk.1.1.1.2, ⟨hk.1.1.2, ⟨hk.1.2, hk.2⟩⟩⟩⟩))))) (Reps.c4 (show Kd.FK k39 _ _ (⟨t278, t279, t280, t281⟩ : S39) [.string t278, .int .i64 t279, .int .i64 t280, .slice Ao26 t281.length co26] from (k39_mkF _ _ (⟨t278, t279, t280, t281⟩ : S39) (Kd.R_reads' (Kd.R_mono (ok' := (fun k_ => (w.heap.size ≤ k_) ∧ some k_ ≠ (.slice Ao11 t265.length co11 : Value).ownBlock ∧ some k_ ≠ (.slice Ao14 t268.length co14 : Value).ownBlock ∧ k_ ≠ gb264 ∧ k_ ≠ gb271)) (Kd.R_types (Kd.R_types (Kd.R_apart' (Kd.R_apart' (HO283.out) (Kd.R_typed HO267.out) (by decide)) (Kd.N_typed HO270.out) (by decide)) BK264.out (by decide)) BK271.out (by decide)) (fun k_ hk => ⟨hk.1.1.1.1.1.1, ⟨hk.1.1.1.2, ⟨hk.1.1.2, ⟨hk.1.2, hk.2⟩⟩⟩⟩))).2.1 (Kd.R_F (Kd.R_mono (ok' := (fun k_ => (w.heap.size ≤ k_) ∧ some k_ ≠ (.slice Ao11 t265.length co11 : Value).ownBlock ∧ some k_ ≠ (.slice Ao14 t268.length co14 : Value).ownBlock ∧ k_ ≠ gb264 ∧ k_ ≠ gb271)) (Kd.R_types (Kd.R_types (Kd.R_apart' (Kd.R_apart' (HO283.out) (Kd.R_typed HO267.out) (by decide)) (Kd.N_typed HO270.out) (by decide)) BK264.out (by decide)) BK271.out (by decide)) (fun k_ hk => ⟨hk.1.1.1.1.1.1, ⟨hk.1.1.1.2, ⟨hk.1.1.2, ⟨hk.1.2, hk.2⟩⟩⟩⟩))))) (Reps.c4 (show Kd.FK k39 _ _ (⟨t284, t285, t286, t287⟩ : S39) [.string t284, .int .i64 t285, .int .i64 t286, .slice Ao27 t287.length co27] from (k39_mkF _ _ (⟨t284, t285, t286, t287⟩ : S39) (Kd.R_reads' (Kd.R_mono (ok' := (fun k_ => (w.heap.size ≤ k_) ∧ some k_ ≠ (.slice Ao11 t265.length co11 : Value).ownBlock ∧ some k_ ≠ (.slice Ao14 t268.length co14 : Value).ownBlock ∧ k_ ≠ gb264 ∧ k_ ≠ gb271)) (Kd.R_types (Kd.R_types (Kd.R_apart' (Kd.R_apart' (HO289.out) (Kd.R_typed HO267.out) (by decide)) (Kd.N_typed HO270.out) (by decide)) BK264.out (by decide)) BK271.out (by decide)) (fun k_ hk => ⟨hk.1.1.1.1.1.1, ⟨hk.1.1.1.2, ⟨hk.1.1.2, ⟨hk.1.2, hk.2⟩⟩⟩⟩))).2.1 (Kd.R_F (Kd.R_mono (ok' := (fun k_ => (w.heap.size ≤ k_) ∧ some k_ ≠ (.slice Ao11 t265.length co11 : Value).ownBlock ∧ some k_ ≠ (.slice Ao14 t268.length co14 : Value).ownBlock ∧ k_ ≠ gb264 ∧ k_ ≠ gb271)) (Kd.R_types (Kd.R_types (Kd.R_apart' (Kd.R_apart' (HO289.out) (Kd.R_typed HO267.out) (by decide)) (Kd.N_typed HO270.out) (by decide)) BK264.out (by decide)) BK271.out (by decide)) (fun k_ hk => ⟨hk.1.1.1.1.1.1, ⟨hk.1.1.1.2, ⟨hk.1.1.2, ⟨hk.1.2, hk.2⟩⟩⟩⟩))))) (Reps.c4 (show Kd.FK k39 _ _ (⟨t290, t291, t292, t293⟩ : S39) [.string t290, .int .i64 t291, .int .i64 t292, .slice Ao28 t293.length co28] from (k39_mkF _ _ (⟨t290, t291, t292, t293⟩ : S39) (Kd.R_reads' (Kd.R_mono (ok' := (fun k_ => (w.heap.size ≤ k_) ∧ some k_ ≠ (.slice Ao11 t265.length co11 : Value).ownBlock ∧ some k_ ≠ (.slice Ao14 t268.length co14 : Value).ownBlock ∧ k_ ≠ gb264 ∧ k_ ≠ gb271)) (Kd.R_types (Kd.R_types (Kd.R_apart' (Kd.R_apart' (HO295.out) (Kd.R_typed HO267.out) (by decide)) (Kd.N_typed HO270.out) (by decide)) BK264.out (by decide)) BK271.out (by decide)) (fun k_ hk => ⟨hk.1.1.1.1.1.1, ⟨hk.1.1.1.2, ⟨hk.1.1.2, ⟨hk.1.2, hk.2⟩⟩⟩⟩))).2.1 (Kd.R_F (Kd.R_mono (ok' := (fun k_ => (w.heap.size ≤ k_) ∧ some k_ ≠ (.slice Ao11 t265.length co11 : Value).ownBlock ∧ some k_ ≠ (.slice Ao14 t268.length co14 : Value).ownBlock ∧ k_ ≠ gb264 ∧ k_ ≠ gb271)) (Kd.R_types (Kd.R_types (Kd.R_apart' (Kd.R_apart' (HO295.out) (Kd.R_typed HO267.out) (by decide)) (Kd.N_typed HO270.out) (by decide)) BK264.out (by decide)) BK271.out (by decide)) (fun k_ hk => ⟨hk.1.1.1.1.1.1, ⟨hk.1.1.1.2, ⟨hk.1.1.2, ⟨hk.1.2, hk.2⟩⟩⟩⟩))))) (Reps.c4 (show Kd.FK k39 _ _ (⟨t299, t300, t301, t302⟩ : S39) [.string t299, .int .i64 t300, .int .i64 t301, .slice Ao29 t302.length co29] from (k39_mkF _ _ (⟨t299, t300, t301, t302⟩ : S39) (Kd.R_reads' (Kd.R_mono (ok' := (fun k_ => (w.heap.size ≤ k_) ∧ some k_ ≠ (.slice Ao11 t265.length co11 : Value).ownBlock ∧ some k_ ≠ (.slice Ao14 t268.length co14 : Value).ownBlock ∧ k_ ≠ gb264 ∧ k_ ≠ gb271)) (Kd.R_types (Kd.R_types (Kd.R_apart' (Kd.R_apart' (HO304.out) (Kd.R_typed HO267.out) (by decide)) (Kd.N_typed HO270.out) (by decide)) BK264.out (by decide)) BK271.out (by decide)) (fun k_ hk => ⟨hk.1.1.1.1.1.1, ⟨hk.1.1.1.2, ⟨hk.1.1.2, ⟨hk.1.2, hk.2⟩⟩⟩⟩))).2.1 (Kd.R_F (Kd.R_mono (ok' := (fun k_ => (w.heap.size ≤ k_) ∧ some k_ ≠ (.slice Ao11 t265.length co11 : Value).ownBlock ∧ some k_ ≠ (.slice Ao14 t268.length co14 : Value).ownBlock ∧ k_ ≠ gb264 ∧ k_ ≠ gb271)) (Kd.R_types (Kd.R_types (Kd.R_apart' (Kd.R_apart' (HO304.out) (Kd.R_typed HO267.out) (by decide)) (Kd.N_typed HO270.out) (by decide)) BK264.out (by decide)) BK271.out (by decide)) (fun k_ hk => ⟨hk.1.1.1.1.1.1, ⟨hk.1.1.1.2, ⟨hk.1.1.2, ⟨hk.1.2, hk.2⟩⟩⟩⟩))))) (Reps.c4 (show Kd.FK k39 _ _ (⟨t305, t306, t307, t308⟩ : S39) [.string t305, .int .i64 t306, .int .i64 t307, .slice Ao30 t308.length co30] from (k39_mkF _ _ (⟨t305, t306, t307, t308⟩ : S39) (Kd.R_reads' (Kd.R_mono (ok' := (fun k_ => (w.heap.size ≤ k_) ∧ some k_ ≠ (.slice Ao11 t265.length co11 : Value).ownBlock ∧ some k_ ≠ (.slice Ao14 t268.length co14 : Value).ownBlock ∧ k_ ≠ gb264 ∧ k_ ≠ gb271)) (Kd.R_types (Kd.R_types (Kd.R_apart' (Kd.R_apart' (HO310.out) (Kd.R_typed HO267.out) (by decide)) (Kd.N_typed HO270.out) (by decide)) BK264.out (by decide)) BK271.out (by decide)) (fun k_ hk => ⟨hk.1.1.1.1.1.1.1.1.1.1, ⟨hk.1.1.1.2, ⟨hk.1.1.2, ⟨hk.1.2, hk.2⟩⟩⟩⟩))).2.1 (Kd.R_F (Kd.R_mono (ok' := (fun k_ => (w.heap.size ≤ k_) ∧ some k_ ≠ (.slice Ao11 t265.length co11 : Value).ownBlock ∧ some k_ ≠ (.slice Ao14 t268.length co14 : Value).ownBlock ∧ k_ ≠ gb264 ∧ k_ ≠ gb271)) (Kd.R_types (Kd.R_types (Kd.R_apart' (Kd.R_apart' (HO310.out) (Kd.R_typed HO267.out) (by decide)) (Kd.N_typed HO270.out) (by decide)) BK264.out (by decide)) BK271.out (by decide)) (fun k_ hk => ⟨hk.1.1.1.1.1.1.1.1.1.1, ⟨hk.1.1.1.2, ⟨hk.1.1.2, ⟨hk.1.2, hk.2⟩⟩⟩⟩))))) (Reps.none _ _)))))))); intro v312 w31 ho32 hb hg_ hnew_; clear hg_ hnew_; (first | rw [← Ny311.out] at ho32 | (simp only [Int.reduceToNat] at ho32; rw [← Ny311.out] at ho32)); have n0_ := Aside0.mk (Kd.R_below (by (with_reducible repeat (first | apply Kd.R_alloc | apply Kd.R_drewN | apply Kd.R_drew)); exact HO267.out) hb); have n1_ := Aside0.mk (Kd.N_elder' (by (with_reducible repeat (first | apply Kd.N_alloc | apply Kd.N_drewN | apply Kd.N_drew)); exact HO270.out) (Kd.N_base ho32) hb); have n2_ := Aside0.mk (Kd.N_lower ho32 (below_size (by repeat (first | (with_reducible first | exact HB.out | apply below_alloc | apply pw_below_drewN | apply below_drew1 | refine below_set ?_ GE264.out | refine below_set ?_ GE271.out) | exact HB.out)))); have n3_ := Aside0.mk (blk_below (g := gb264) (o := .cells #[.slice none 0 0, .slice none 0 0] 26 (0, 0)) (by (with_reducible repeat (first | refine blk_drewN ?_ _ | refine blk_drew ?_ | refine blk_alloc ?_ _)); exact BK264.out) hb); have n4_ := Aside0.mk (blk_below (g := gb271) (o := .cells #[.slice Ao11 t265.length co11, .slice Ao14 t268.length co14] 26 (0, 0)) (by (with_reducible repeat (first | refine blk_drewN ?_ _ | refine blk_drew ?_ | refine blk_alloc ?_ _)); exact BK271.out) hb); have n5_ := Aside0.mk (below_step (by repeat (first | (with_reducible first | exact HB.out | apply below_alloc | apply pw_below_drewN | apply below_drew1 | refine below_set ?_ GE264.out | refine below_set ?_ GE271.out) | exact HB.out)) hb); clear HO267; clear HO270; clear BK264; clear BK271; clear HB; clear HO277; clear HO283; clear HO289; clear HO295; clear HO304; clear HO310; have HO267 := n0_; have HO270 := n1_; have HO313 := n2_; have BK264 := n3_; have BK271 := n4_; have HB := n5_; clear n0_ n1_ n2_ n3_ n4_ n5_; clear hb ho32; obtain ⟨Ao33, co33, eo33⟩ := Kd.N_slice HO313.out; subst eo33; have hcz34_0 : w31.cell? ⟨gb271, 0, none⟩ = some (.slice Ao11 t265.length co11) := (blk_cell BK271.out 0).trans rfl; have hcz34_1 : w31.cell? ⟨gb271, 1, none⟩ = some (.slice Ao14 t268.length co14) := (blk_cell BK271.out 1).trans rfl; have hfz34_0 := blk_frozen BK271.out 0; have hfz34_1 := blk_frozen BK271.out 1; have hcz35_0 : w31.cell? ⟨gb264, 0, none⟩ = some (.slice none 0 0) := (blk_cell BK264.out 0).trans rfl; have hcz35_1 : w31.cell? ⟨gb264, 1, none⟩ = some (.slice none 0 0) := (blk_cell BK264.out 1).trans rfl; have hfz35_0 := blk_frozen BK264.out 0; have hfz35_1 := blk_frozen BK264.out 1))
  refine bodyPost_ret (results_cell_row rfl _ _ gb264 26 #[.slice Ao11 t265.length co11, .slice Ao33 y311.length co33] (0, 0) _ rfl (by (with_reducible repeat (first | refine blk_drewN ?_ _ | refine blk_drew ?_ | refine blk_alloc ?_ _)); refine blk_put (cs := #[.slice Ao11 t265.length co11, .slice none 0 0]) ?_ 1 _ rfl; (with_reducible repeat (first | refine blk_drewN ?_ _ | refine blk_drew ?_ | refine blk_alloc ?_ _)); refine blk_put (cs := #[.slice none 0 0, .slice none 0 0]) ?_ 0 _ rfl; (with_reducible repeat (first | refine blk_drewN ?_ _ | refine blk_drew ?_ | refine blk_alloc ?_ _)); refine blk_far ?_ NB264_271.out _; (with_reducible repeat (first | refine blk_drewN ?_ _ | refine blk_drew ?_ | refine blk_alloc ?_ _)); exact BK264.out) Try.underlying26 rfl (by kernel_rfl)) rfl ?_
  exact ⟨_, _, by first | rfl | (simp [errW_none, errW_some] <;> rfl) | (simp [*, errW_none, errW_some] <;> rfl), by (with_reducible repeat (first | apply Kd.R_alloc | apply Kd.R_drewN | apply Kd.R_drew)); exact Kd.R_mono (Kd.R_far (p := ⟨gb264, 1, none⟩) (Kd.R_far (p := ⟨gb264, 0, none⟩) (Kd.R_far (p := ⟨gb271, 1, none⟩) (Kd.R_types (Kd.R_types HO267.out BK271.out (by decide)) BK264.out (by decide)) (fun _ hk => hk.1.2) (.slice Ao33 y311.length co33)) (fun _ hk => hk.2) (.slice Ao11 t265.length co11)) (fun _ hk => hk.2) (.slice Ao33 y311.length co33)) (fun _ hk => hk.1.1), by (with_reducible repeat (first | apply Kd.N_alloc | apply Kd.N_drewN | apply Kd.N_drew)); exact Kd.N_mono (Kd.N_far (p := ⟨gb264, 1, none⟩) (Kd.N_far (p := ⟨gb264, 0, none⟩) (Kd.N_far (p := ⟨gb271, 1, none⟩) (Kd.N_mono (Kd.N_mono HO313.out (fun k_ hk => (⟨hk, hk.2.2.2.2⟩ : _ ∧ k_ ≠ gb271))) (fun k_ hk => (⟨hk, hk.1.2.2.2.1⟩ : _ ∧ k_ ≠ gb264))) (fun _ hk => hk.1.2) (.slice Ao33 y311.length co33)) (fun _ hk => hk.2) (.slice Ao11 t265.length co11)) (fun _ hk => hk.2) (.slice Ao33 y311.length co33)) (fun _ hk => ⟨hk.1.1.1, hk.1.1.2.1⟩), by repeat (first | (with_reducible first | exact HB.out | apply below_alloc | apply pw_below_drewN | apply below_drew1 | refine below_set ?_ GE264.out | refine below_set ?_ GE271.out) | exact HB.out)⟩

/-! ### wayzgoosekit_EqInts: function 49 -/
def wayzgoosekit_EqInts.l0 : Nat → List Int → List Int → Int → Option (Bool)
  | 0, _, _, _ => none
  | k + 1, x0, x1, x5 => if x5 < (x0.length : Int) then (if 0 ≤ x5 then (if x5 < (x1.length : Int) then (if (rd x0 x5) = (rd x1 x5) then (wayzgoosekit_EqInts.l0 k x0 x1 (wrap64 (x5 + 1))) else (some false)) else (none)) else (none)) else (some true)
def wayzgoosekit_EqInts.f (k : Nat) (l0 : List Int) (l1 : List Int) : Option (Bool) := if (l0.length : Int) = (l1.length : Int) then (wayzgoosekit_EqInts.l0 k l0 l1 0) else (some false)
theorem wayzgoosekit_EqInts.mono_l : ∀ k, (∀ y0 y1 y2, LeO (wayzgoosekit_EqInts.l0 k y0 y1 y2) (wayzgoosekit_EqInts.l0 (k + 1) y0 y1 y2))
  | 0 => fun _ _ _ r h => by simp [wayzgoosekit_EqInts.l0] at h
  | k + 1 => by
    have ih0 := wayzgoosekit_EqInts.mono_l k
    · intro y0 y1 y2
      unfold wayzgoosekit_EqInts.l0
      repeat' first
      | (with_reducible exact ih0 _ _ _)
      | (with_reducible exact LeO.refl _)
      | (with_reducible exact LeO.none _)
      | (with_reducible refine LeO.ite ?_ ?_)
      | (with_reducible refine LeO.bind ?_ (fun _ => ?_))
      | exact ih0 _ _ _
      | exact LeO.none _
      | refine LeO.ite ?_ ?_
      | refine LeO.bind ?_ (fun _ => ?_)
theorem wayzgoosekit_EqInts.mono : ∀ a0 a1 k, LeO (wayzgoosekit_EqInts.f k a0 a1) (wayzgoosekit_EqInts.f (k + 1) a0 a1) := by
  intro a0 a1 k
  have ih0 := wayzgoosekit_EqInts.mono_l k
  unfold wayzgoosekit_EqInts.f
  repeat' first
      | (with_reducible exact ih0 _ _ _)
      | (with_reducible exact LeO.refl _)
      | (with_reducible exact LeO.none _)
      | (with_reducible refine LeO.ite ?_ ?_)
      | (with_reducible refine LeO.bind ?_ (fun _ => ?_))
      | exact ih0 _ _ _
      | exact LeO.none _
      | refine LeO.ite ?_ ?_
      | refine LeO.bind ?_ (fun _ => ?_)
set_option maxHeartbeats 8000000 in
set_option maxRecDepth 100000 in
theorem wayzgoosekit_EqInts.calls (k : Nat) (A0 : Option Addr) (c0 : Nat) (l0 : List Int) (A1 : Option Addr) (c1 : Nat) (l1 : List Int) (r : Bool) (w : World) (hr0 : Kd.C (Kd.int .i64) w A0 l0.length l0) (hc0 : l0.length ≤ c0) (hr1 : Kd.C (Kd.int .i64) w A1 l1.length l1) (hc1 : l1.length ≤ c1) (h : wayzgoosekit_EqInts.f k l0 l1 = some r) :
    Calls Try.prog 49 #[.slice A0 l0.length c0, .slice A1 l1.length c1] w fun e w' => e = .returned (.bool r) ∧ Drawn0 w w' := by
  have HR0 := Aside0.mk hr0
  have HC0 := Aside0.mk hc0
  clear hr0 hc0
  have HR1 := Aside0.mk hr1
  have HC1 := Aside0.mk hc1
  clear hr1 hc1
  have H : (if (l0.length : Int) = (l1.length : Int) then (wayzgoosekit_EqInts.l0 k l0 l1 0) else (some false)) = some r := h
  clear h
  by_cases c3 : (l0.length : Int) = (l1.length : Int)
  · rw [if_pos c3] at H
    have c3b0 : ((l0.length : Int) == (l1.length : Int)) = true := beq_iff_eq.mpr c3
    have c3b1 : ((l0.length : Int) != (l1.length : Int)) = false := bne_eq_false_iff_eq.mpr c3
    have c3b2 : (l0.length == l1.length) = true := by first | simpa using c3 | (simp at c3 ⊢; omega)
    clear c3
    have H' := Aside0.mk H
    clear H
    go_enter Try.func49, Try.ntmps49
    go_wp2
    repeat (go_quiet (fail); try go_wp2)
    go_loopg [5] k (fun kq v5 w' => ∃ (x5_1 : Int), v5 = .int .i64 x5_1 ∧ Aside0 (wayzgoosekit_EqInts.l0 kq l0 l1 x5_1 = some r) ∧ Aside0 (kq ≤ k) ∧ Drawn0 w w')
    case atStart => exact ⟨(0), (by first | rfl | (simp; done) | (simp [*]; done)), H', ⟨Nat.le_refl _⟩, by repeat (first | exact Drawn0.refl _ | apply Drawn0.step)⟩
    case round =>
      clear H'
      try clear c1
      try clear p2
      try clear c3
      try clear c3b0
      try clear c3b1
      try clear c3b2
      obtain ⟨x5_1, rfl, HA, HK1, ⟨m1, rfl⟩⟩ := hrel
      cases gk with
      | zero => exact absurd HA.out (by simp [wayzgoosekit_EqInts.l0])
      | succ k1 =>
        have H := HA.out
        clear HA
        simp only [wayzgoosekit_EqInts.l0] at H
        by_cases c4 : x5_1 < (l0.length : Int)
        · rw [if_pos c4] at H
          have c4b0 : decide (x5_1 < (l0.length : Int)) = true := decide_eq_true c4
          clear c4
          by_cases c5 : 0 ≤ x5_1
          · rw [if_pos c5] at H
            have c5b0 : decide (0 ≤ x5_1) = true := decide_eq_true c5
            clear c5
            by_cases c6 : x5_1 < (l1.length : Int)
            · rw [if_pos c6] at H
              have c6b0 : decide (x5_1 < (l1.length : Int)) = true := decide_eq_true c6
              clear c6
              by_cases c7 : (rd l0 x5_1) = (rd l1 x5_1)
              · rw [if_pos c7] at H
                have c7b0 : ((rd l0 x5_1) == (rd l1 x5_1)) = true := beq_iff_eq.mpr c7
                have c7b1 : ((rd l0 x5_1) != (rd l1 x5_1)) = false := bne_eq_false_iff_eq.mpr c7
                clear c7
                have H' := Aside0.mk H
                clear H
                have p314 : 0 ≤ (x5_1 : Int) := of_decide_eq_true (by first | (with_reducible assumption) | assumption)
                have q314 : x5_1 < (l0.length : Int) := of_decide_eq_true (by first | (with_reducible assumption) | assumption)
                obtain ⟨ad314, e314, hx314_0⟩ := Kd.at_int HR0.out x5_1 p314 q314
                cases e314
                replace p314 := eq_true p314
                replace q314 := eq_true q314
                have p315 : 0 ≤ (x5_1 : Int) := of_decide_eq_true (by first | (with_reducible assumption) | assumption)
                have q315 : x5_1 < (l1.length : Int) := of_decide_eq_true (by first | (with_reducible assumption) | assumption)
                obtain ⟨ad315, e315, hx315_0⟩ := Kd.at_int HR1.out x5_1 p315 q315
                cases e315
                replace p315 := eq_true p315
                replace q315 := eq_true q315
                go_wp2
                repeat (go_quiet (fail); try go_wp2)
                go_roundg k1
                case measure => have := HK1.out; omega
                case rel => exact ⟨(wrap64 (x5_1 + 1)), (by first | rfl | (simp; done) | (simp [*]; done)), H', ⟨by have := HK1.out; omega⟩, by repeat (first | exact Drawn0.refl _ | apply Drawn0.step)⟩
              · rw [if_neg c7] at H
                have c7b0 : ((rd l0 x5_1) == (rd l1 x5_1)) = false := beq_eq_false_iff_ne.mpr c7
                have c7b1 : ((rd l0 x5_1) != (rd l1 x5_1)) = true := bne_iff_ne.mpr c7
                obtain rfl := Option.some.inj H
                have p314 : 0 ≤ (x5_1 : Int) := of_decide_eq_true (by first | (with_reducible assumption) | assumption)
                have q314 : x5_1 < (l0.length : Int) := of_decide_eq_true (by first | (with_reducible assumption) | assumption)
                obtain ⟨ad314, e314, hx314_0⟩ := Kd.at_int HR0.out x5_1 p314 q314
                cases e314
                replace p314 := eq_true p314
                replace q314 := eq_true q314
                have p315 : 0 ≤ (x5_1 : Int) := of_decide_eq_true (by first | (with_reducible assumption) | assumption)
                have q315 : x5_1 < (l1.length : Int) := of_decide_eq_true (by first | (with_reducible assumption) | assumption)
                obtain ⟨ad315, e315, hx315_0⟩ := Kd.at_int HR1.out x5_1 p315 q315
                cases e315
                replace p315 := eq_true p315
                replace q315 := eq_true q315
                go_wp2
                repeat (go_quiet (fail); try go_wp2)
                go_ret
                exact ⟨by first | rfl | (simp; done) | (simp [*]; done), by repeat (first | exact Drawn0.refl _ | apply Drawn0.step)⟩
            · rw [if_neg c6] at H
              exact absurd H (by simp)
          · rw [if_neg c5] at H
            exact absurd H (by simp)
        · rw [if_neg c4] at H
          have c4b0 : decide (x5_1 < (l0.length : Int)) = false := decide_eq_false c4
          clear c4
          obtain rfl := Option.some.inj H
          go_wp2
          repeat (go_quiet (fail); try go_wp2)
          go_ret
          exact ⟨by first | rfl | (simp; done) | (simp [*]; done), by repeat (first | exact Drawn0.refl _ | apply Drawn0.step)⟩
  · rw [if_neg c3] at H
    have c3b0 : ((l0.length : Int) == (l1.length : Int)) = false := beq_eq_false_iff_ne.mpr c3
    have c3b1 : ((l0.length : Int) != (l1.length : Int)) = true := bne_iff_ne.mpr c3
    have c3b2 : (l0.length == l1.length) = false := by first | simpa using c3 | (simp at c3 ⊢; omega)
    obtain rfl := Option.some.inj H
    go_enter Try.func49, Try.ntmps49
    go_wp2
    repeat (go_quiet (fail); try go_wp2)
    go_ret
    exact ⟨by first | rfl | (simp; done) | (simp [*]; done), by repeat (first | exact Drawn0.refl _ | apply Drawn0.step)⟩

/-! ### wayzgoosekit_EqLists: function 48 -/
def wayzgoosekit_EqLists.l0 : Nat → List (List Int) → List (List Int) → Int → Option (Bool)
  | 0, _, _, _ => none
  | k + 1, x0, x1, x5 => if x5 < (x0.length : Int) then (if 0 ≤ x5 then (if x5 < (x1.length : Int) then ((wayzgoosekit_EqInts.f k (rd_L3 x0 x5) (rd_L3 x1 x5)).bind fun t318 => (if t318 = true then (wayzgoosekit_EqLists.l0 k x0 x1 (wrap64 (x5 + 1))) else (some false))) else (none)) else (none)) else (some true)
def wayzgoosekit_EqLists.f (k : Nat) (l0 : List (List Int)) (l1 : List (List Int)) : Option (Bool) := if (l0.length : Int) = (l1.length : Int) then (wayzgoosekit_EqLists.l0 k l0 l1 0) else (some false)
theorem wayzgoosekit_EqLists.mono_l : ∀ k, (∀ y0 y1 y2, LeO (wayzgoosekit_EqLists.l0 k y0 y1 y2) (wayzgoosekit_EqLists.l0 (k + 1) y0 y1 y2))
  | 0 => fun _ _ _ r h => by simp [wayzgoosekit_EqLists.l0] at h
  | k + 1 => by
    have ih0 := wayzgoosekit_EqLists.mono_l k
    · intro y0 y1 y2
      unfold wayzgoosekit_EqLists.l0
      repeat' first
      | (with_reducible exact ih0 _ _ _)
      | (with_reducible exact wayzgoosekit_EqInts.mono _ _ _)
      | (with_reducible exact LeO.refl _)
      | (with_reducible exact LeO.none _)
      | (with_reducible refine LeO.ite ?_ ?_)
      | (with_reducible refine LeO.bind ?_ (fun _ => ?_))
      | exact ih0 _ _ _
      | exact wayzgoosekit_EqInts.mono _ _ _
      | exact LeO.none _
      | refine LeO.ite ?_ ?_
      | refine LeO.bind ?_ (fun _ => ?_)
theorem wayzgoosekit_EqLists.mono : ∀ a0 a1 k, LeO (wayzgoosekit_EqLists.f k a0 a1) (wayzgoosekit_EqLists.f (k + 1) a0 a1) := by
  intro a0 a1 k
  have ih0 := wayzgoosekit_EqLists.mono_l k
  unfold wayzgoosekit_EqLists.f
  repeat' first
      | (with_reducible exact ih0 _ _ _)
      | (with_reducible exact wayzgoosekit_EqInts.mono _ _ _)
      | (with_reducible exact LeO.refl _)
      | (with_reducible exact LeO.none _)
      | (with_reducible refine LeO.ite ?_ ?_)
      | (with_reducible refine LeO.bind ?_ (fun _ => ?_))
      | exact ih0 _ _ _
      | exact wayzgoosekit_EqInts.mono _ _ _
      | exact LeO.none _
      | refine LeO.ite ?_ ?_
      | refine LeO.bind ?_ (fun _ => ?_)
set_option maxHeartbeats 8000000 in
set_option maxRecDepth 100000 in
theorem wayzgoosekit_EqLists.calls (k : Nat) (A0 : Option Addr) (c0 : Nat) (l0 : List (List Int)) (A1 : Option Addr) (c1 : Nat) (l1 : List (List Int)) (r : Bool) (w : World) (hr0 : Kd.C (Kd.slice 3 (Kd.int .i64)) w A0 l0.length l0) (hc0 : l0.length ≤ c0) (hr1 : Kd.C (Kd.slice 3 (Kd.int .i64)) w A1 l1.length l1) (hc1 : l1.length ≤ c1) (h : wayzgoosekit_EqLists.f k l0 l1 = some r) :
    Calls Try.prog 48 #[.slice A0 l0.length c0, .slice A1 l1.length c1] w fun e w' => e = .returned (.bool r) ∧ Drawn0 w w' := by
  have HR0 := Aside0.mk hr0
  have HC0 := Aside0.mk hc0
  clear hr0 hc0
  have HR1 := Aside0.mk hr1
  have HC1 := Aside0.mk hc1
  clear hr1 hc1
  have H : (if (l0.length : Int) = (l1.length : Int) then (wayzgoosekit_EqLists.l0 k l0 l1 0) else (some false)) = some r := h
  clear h
  by_cases c3 : (l0.length : Int) = (l1.length : Int)
  · rw [if_pos c3] at H
    have c3b0 : ((l0.length : Int) == (l1.length : Int)) = true := beq_iff_eq.mpr c3
    have c3b1 : ((l0.length : Int) != (l1.length : Int)) = false := bne_eq_false_iff_eq.mpr c3
    have c3b2 : (l0.length == l1.length) = true := by first | simpa using c3 | (simp at c3 ⊢; omega)
    clear c3
    have H' := Aside0.mk H
    clear H
    go_enter Try.func48, Try.ntmps48
    go_wp2
    repeat (go_quiet (fail); try go_wp2)
    go_loopg [5] k (fun kq v5 w' => ∃ (x5_1 : Int), v5 = .int .i64 x5_1 ∧ Aside0 (wayzgoosekit_EqLists.l0 kq l0 l1 x5_1 = some r) ∧ Aside0 (kq ≤ k) ∧ Drawn0 w w')
    case atStart => exact ⟨(0), (by first | rfl | (simp; done) | (simp [*]; done)), H', ⟨Nat.le_refl _⟩, by repeat (first | exact Drawn0.refl _ | apply Drawn0.step)⟩
    case round =>
      clear H'
      try clear c1
      try clear p2
      try clear c3
      try clear c3b0
      try clear c3b1
      try clear c3b2
      obtain ⟨x5_1, rfl, HA, HK1, ⟨m1, rfl⟩⟩ := hrel
      cases gk with
      | zero => exact absurd HA.out (by simp [wayzgoosekit_EqLists.l0])
      | succ k1 =>
        have H := HA.out
        clear HA
        simp only [wayzgoosekit_EqLists.l0] at H
        by_cases c4 : x5_1 < (l0.length : Int)
        · rw [if_pos c4] at H
          have c4b0 : decide (x5_1 < (l0.length : Int)) = true := decide_eq_true c4
          clear c4
          by_cases c5 : 0 ≤ x5_1
          · rw [if_pos c5] at H
            have c5b0 : decide (0 ≤ x5_1) = true := decide_eq_true c5
            clear c5
            by_cases c6 : x5_1 < (l1.length : Int)
            · rw [if_pos c6] at H
              have c6b0 : decide (x5_1 < (l1.length : Int)) = true := decide_eq_true c6
              clear c6
              replace H := Option.bind_eq_some_iff.mp H
              obtain ⟨t318, A70, H⟩ := H
              replace H : (if t318 = true then (wayzgoosekit_EqLists.l0 k1 l0 l1 (wrap64 (x5_1 + 1))) else (some false)) = some r := H
              have A7 := Aside0.mk A70
              clear A70
              by_cases c8 : t318 = true
              · subst c8
                have H1 : (wayzgoosekit_EqLists.l0 k1 l0 l1 (wrap64 (x5_1 + 1))) = some r := by rw [if_pos rfl] at H; exact H
                clear H
                have H := H1
                clear H1
                have H' := Aside0.mk H
                clear H
                have p316 : 0 ≤ (x5_1 : Int) := of_decide_eq_true (by first | (with_reducible assumption) | assumption)
                have q316 : x5_1 < (l0.length : Int) := of_decide_eq_true (by first | (with_reducible assumption) | assumption)
                obtain ⟨ad316, A316_0, c316_0, e316, hx316_0, hl316_0, hi316_0⟩ := at_L3 HR0.out x5_1 p316 q316
                cases e316
                have HR316_0 := Aside0.mk hi316_0
                have HC316_0 := Aside0.mk hl316_0
                clear hi316_0 hl316_0
                replace p316 := eq_true p316
                replace q316 := eq_true q316
                have p317 : 0 ≤ (x5_1 : Int) := of_decide_eq_true (by first | (with_reducible assumption) | assumption)
                have q317 : x5_1 < (l1.length : Int) := of_decide_eq_true (by first | (with_reducible assumption) | assumption)
                obtain ⟨ad317, A317_0, c317_0, e317, hx317_0, hl317_0, hi317_0⟩ := at_L3 HR1.out x5_1 p317 q317
                cases e317
                have HR317_0 := Aside0.mk hi317_0
                have HC317_0 := Aside0.mk hl317_0
                clear hi317_0 hl317_0
                replace p317 := eq_true p317
                replace q317 := eq_true q317
                go_wp2_with (first | (go_at_call 49; (with_reducible refine (wayzgoosekit_EqInts.calls k1 _ _ (rd_L3 l0 x5_1) _ _ (rd_L3 l1 x5_1) true _ ?side1 ?side2 ?side3 ?side4 A7.out).mono ?_); (case side1 => repeat (first | exact HR316_0.out | (with_reducible refine Kd.C_alloc ?_ _) | (with_reducible refine Kd.C_drewN ?_ _) | (with_reducible refine Kd.C_drew ?_))); (case side2 => exact HC316_0.out); (case side3 => repeat (first | exact HR317_0.out | (with_reducible refine Kd.C_alloc ?_ _) | (with_reducible refine Kd.C_drewN ?_ _) | (with_reducible refine Kd.C_drew ?_))); (case side4 => exact HC317_0.out); rintro e w' ⟨rfl, ⟨nd, rfl⟩⟩; (try first | exact ⟨rfl, _, World.drewN_drewN _ _ _⟩ | exact ⟨rfl, _, Eq.trans (World.drewN_drewN _ _ _) (congrArg (World.drewN _) (Nat.add_assoc _ _ _))⟩)))
                repeat (go_quiet (first | (go_at_call 49; (with_reducible refine (wayzgoosekit_EqInts.calls k1 _ _ (rd_L3 l0 x5_1) _ _ (rd_L3 l1 x5_1) true _ ?side1 ?side2 ?side3 ?side4 A7.out).mono ?_); (case side1 => repeat (first | exact HR316_0.out | (with_reducible refine Kd.C_alloc ?_ _) | (with_reducible refine Kd.C_drewN ?_ _) | (with_reducible refine Kd.C_drew ?_))); (case side2 => exact HC316_0.out); (case side3 => repeat (first | exact HR317_0.out | (with_reducible refine Kd.C_alloc ?_ _) | (with_reducible refine Kd.C_drewN ?_ _) | (with_reducible refine Kd.C_drew ?_))); (case side4 => exact HC317_0.out); rintro e w' ⟨rfl, ⟨nd, rfl⟩⟩; (try first | exact ⟨rfl, _, World.drewN_drewN _ _ _⟩ | exact ⟨rfl, _, Eq.trans (World.drewN_drewN _ _ _) (congrArg (World.drewN _) (Nat.add_assoc _ _ _))⟩))); try go_wp2_with (first | (go_at_call 49; (with_reducible refine (wayzgoosekit_EqInts.calls k1 _ _ (rd_L3 l0 x5_1) _ _ (rd_L3 l1 x5_1) true _ ?side1 ?side2 ?side3 ?side4 A7.out).mono ?_); (case side1 => repeat (first | exact HR316_0.out | (with_reducible refine Kd.C_alloc ?_ _) | (with_reducible refine Kd.C_drewN ?_ _) | (with_reducible refine Kd.C_drew ?_))); (case side2 => exact HC316_0.out); (case side3 => repeat (first | exact HR317_0.out | (with_reducible refine Kd.C_alloc ?_ _) | (with_reducible refine Kd.C_drewN ?_ _) | (with_reducible refine Kd.C_drew ?_))); (case side4 => exact HC317_0.out); rintro e w' ⟨rfl, ⟨nd, rfl⟩⟩; (try first | exact ⟨rfl, _, World.drewN_drewN _ _ _⟩ | exact ⟨rfl, _, Eq.trans (World.drewN_drewN _ _ _) (congrArg (World.drewN _) (Nat.add_assoc _ _ _))⟩))))
                go_roundg k1
                case measure => have := HK1.out; omega
                case rel => exact ⟨(wrap64 (x5_1 + 1)), (by first | rfl | (simp; done) | (simp [*]; done)), H', ⟨by have := HK1.out; omega⟩, by repeat (first | exact Drawn0.refl _ | apply Drawn0.step)⟩
              · replace c8 := Bool.eq_false_iff.mpr c8
                subst c8
                have H1 : (some false) = some r := by rw [if_neg (show ¬ (false = true) by decide)] at H; exact H
                clear H
                have H := H1
                clear H1
                obtain rfl := Option.some.inj H
                have p316 : 0 ≤ (x5_1 : Int) := of_decide_eq_true (by first | (with_reducible assumption) | assumption)
                have q316 : x5_1 < (l0.length : Int) := of_decide_eq_true (by first | (with_reducible assumption) | assumption)
                obtain ⟨ad316, A316_0, c316_0, e316, hx316_0, hl316_0, hi316_0⟩ := at_L3 HR0.out x5_1 p316 q316
                cases e316
                have HR316_0 := Aside0.mk hi316_0
                have HC316_0 := Aside0.mk hl316_0
                clear hi316_0 hl316_0
                replace p316 := eq_true p316
                replace q316 := eq_true q316
                have p317 : 0 ≤ (x5_1 : Int) := of_decide_eq_true (by first | (with_reducible assumption) | assumption)
                have q317 : x5_1 < (l1.length : Int) := of_decide_eq_true (by first | (with_reducible assumption) | assumption)
                obtain ⟨ad317, A317_0, c317_0, e317, hx317_0, hl317_0, hi317_0⟩ := at_L3 HR1.out x5_1 p317 q317
                cases e317
                have HR317_0 := Aside0.mk hi317_0
                have HC317_0 := Aside0.mk hl317_0
                clear hi317_0 hl317_0
                replace p317 := eq_true p317
                replace q317 := eq_true q317
                go_wp2_with (first | (go_at_call 49; (with_reducible refine (wayzgoosekit_EqInts.calls k1 _ _ (rd_L3 l0 x5_1) _ _ (rd_L3 l1 x5_1) false _ ?side1 ?side2 ?side3 ?side4 A7.out).mono ?_); (case side1 => repeat (first | exact HR316_0.out | (with_reducible refine Kd.C_alloc ?_ _) | (with_reducible refine Kd.C_drewN ?_ _) | (with_reducible refine Kd.C_drew ?_))); (case side2 => exact HC316_0.out); (case side3 => repeat (first | exact HR317_0.out | (with_reducible refine Kd.C_alloc ?_ _) | (with_reducible refine Kd.C_drewN ?_ _) | (with_reducible refine Kd.C_drew ?_))); (case side4 => exact HC317_0.out); rintro e w' ⟨rfl, ⟨nd, rfl⟩⟩; (try first | exact ⟨rfl, _, World.drewN_drewN _ _ _⟩ | exact ⟨rfl, _, Eq.trans (World.drewN_drewN _ _ _) (congrArg (World.drewN _) (Nat.add_assoc _ _ _))⟩)))
                repeat (go_quiet (first | (go_at_call 49; (with_reducible refine (wayzgoosekit_EqInts.calls k1 _ _ (rd_L3 l0 x5_1) _ _ (rd_L3 l1 x5_1) false _ ?side1 ?side2 ?side3 ?side4 A7.out).mono ?_); (case side1 => repeat (first | exact HR316_0.out | (with_reducible refine Kd.C_alloc ?_ _) | (with_reducible refine Kd.C_drewN ?_ _) | (with_reducible refine Kd.C_drew ?_))); (case side2 => exact HC316_0.out); (case side3 => repeat (first | exact HR317_0.out | (with_reducible refine Kd.C_alloc ?_ _) | (with_reducible refine Kd.C_drewN ?_ _) | (with_reducible refine Kd.C_drew ?_))); (case side4 => exact HC317_0.out); rintro e w' ⟨rfl, ⟨nd, rfl⟩⟩; (try first | exact ⟨rfl, _, World.drewN_drewN _ _ _⟩ | exact ⟨rfl, _, Eq.trans (World.drewN_drewN _ _ _) (congrArg (World.drewN _) (Nat.add_assoc _ _ _))⟩))); try go_wp2_with (first | (go_at_call 49; (with_reducible refine (wayzgoosekit_EqInts.calls k1 _ _ (rd_L3 l0 x5_1) _ _ (rd_L3 l1 x5_1) false _ ?side1 ?side2 ?side3 ?side4 A7.out).mono ?_); (case side1 => repeat (first | exact HR316_0.out | (with_reducible refine Kd.C_alloc ?_ _) | (with_reducible refine Kd.C_drewN ?_ _) | (with_reducible refine Kd.C_drew ?_))); (case side2 => exact HC316_0.out); (case side3 => repeat (first | exact HR317_0.out | (with_reducible refine Kd.C_alloc ?_ _) | (with_reducible refine Kd.C_drewN ?_ _) | (with_reducible refine Kd.C_drew ?_))); (case side4 => exact HC317_0.out); rintro e w' ⟨rfl, ⟨nd, rfl⟩⟩; (try first | exact ⟨rfl, _, World.drewN_drewN _ _ _⟩ | exact ⟨rfl, _, Eq.trans (World.drewN_drewN _ _ _) (congrArg (World.drewN _) (Nat.add_assoc _ _ _))⟩))))
                go_ret
                exact ⟨by first | rfl | (simp; done) | (simp [*]; done), by repeat (first | exact Drawn0.refl _ | apply Drawn0.step)⟩
            · rw [if_neg c6] at H
              exact absurd H (by simp)
          · rw [if_neg c5] at H
            exact absurd H (by simp)
        · rw [if_neg c4] at H
          have c4b0 : decide (x5_1 < (l0.length : Int)) = false := decide_eq_false c4
          clear c4
          obtain rfl := Option.some.inj H
          go_wp2
          repeat (go_quiet (fail); try go_wp2)
          go_ret
          exact ⟨by first | rfl | (simp; done) | (simp [*]; done), by repeat (first | exact Drawn0.refl _ | apply Drawn0.step)⟩
  · rw [if_neg c3] at H
    have c3b0 : ((l0.length : Int) == (l1.length : Int)) = false := beq_eq_false_iff_ne.mpr c3
    have c3b1 : ((l0.length : Int) != (l1.length : Int)) = true := bne_iff_ne.mpr c3
    have c3b2 : (l0.length == l1.length) = false := by first | simpa using c3 | (simp at c3 ⊢; omega)
    obtain rfl := Option.some.inj H
    go_enter Try.func48, Try.ntmps48
    go_wp2
    repeat (go_quiet (fail); try go_wp2)
    go_ret
    exact ⟨by first | rfl | (simp; done) | (simp [*]; done), by repeat (first | exact Drawn0.refl _ | apply Drawn0.step)⟩

end Go.Proofs.Ytfbimhnlcmdcpaa.Pa
/- What the chapter's examples compute. -/
namespace Go.Proofs.Ytfbimhnlcmdcpaa.Pa
open Go.RowKit
def shops2 : List Cl × List Hd := (wayzgooselaw04_shops.f).getD ([], [])
def later2 : List Cl × List Hd := (wayzgooselaw04_later.f).getD ([], [])
theorem shops_f : wayzgooselaw04_shops.f = some shops2 := by kernel_rfl
theorem later_f : wayzgooselaw04_later.f = some later2 := by kernel_rfl
theorem idx1 : trade_Least.f shops2.1 shops2.2 1 0 = some (0, 0) := by kernel_rfl
theorem idx2 : trade_Follow.f shops2.1 shops2.2 5 = some (3, 2, 0) := by kernel_rfl
theorem idx4 : trade_May.f shops2.1 shops2.2 ⟨#[109]⟩ = some ([3, 4], 0) := by kernel_rfl
theorem idx5 : trade_Short.f shops2.1 shops2.2 1 = some (⟨#[98, 111]⟩, 0) := by kernel_rfl
theorem idx3 : trade_Join.f shops2.1 shops2.2 3 2 = some ([[2, 4], [3, 2]], 0) := by kernel_rfl

/-! ### the sorted list, by insertion: it reduces -/
def insS (x : ByteArray) : List ByteArray → List ByteArray
  | [] => [x]
  | y :: l => if sLt y x = true then y :: insS x l else x :: y :: l
def sortI : List ByteArray → List ByteArray
  | [] => []
  | x :: l => insS x (sortI l)
theorem insS_perm (x : ByteArray) : ∀ l, (insS x l).Perm (x :: l)
  | [] => List.Perm.refl _
  | y :: l => by
    unfold insS
    split
    · exact ((insS_perm x l).cons y).trans (List.Perm.swap x y l)
    · exact List.Perm.refl _
theorem sortI_perm : ∀ l, (sortI l).Perm l
  | [] => List.Perm.refl _
  | x :: l => (insS_perm x (sortI l)).trans ((sortI_perm l).cons x)
theorem sLt_trans {x y z : ByteArray} (h : sLt x y = true) (h2 : sLt y z = true) : sLt x z = true := bl_trans _ _ _ h h2
theorem sLt_asymm {x y : ByteArray} (h : sLt x y = true) : sLt y x = false := by
  cases h2 : sLt y x with
  | false => rfl
  | true =>
    have := sLt_trans h h2
    rw [show sLt x x = false from bl_irrefl _] at this
    cases this
theorem le_trans' {x y z : ByteArray} (h : sLt y x = false) (h2 : sLt z y = false) : sLt z x = false := by
  cases h3 : sLt z x with
  | false => rfl
  | true =>
    cases h4 : sLt x y with
    | true => rw [sLt_trans h3 h4] at h2; cases h2
    | false =>
      have := sLt_total h4 h
      subst this
      rw [h3] at h2; cases h2
theorem insS_sorted (x : ByteArray) : ∀ l : List ByteArray, l.Pairwise (fun a b => (!sLt b a) = true) → (insS x l).Pairwise (fun a b => (!sLt b a) = true)
  | [], _ => by simp [insS]
  | y :: l, h => by
    obtain ⟨h1, h2⟩ := List.pairwise_cons.1 h
    unfold insS
    split
    · rename_i hy
      refine List.pairwise_cons.2 ⟨fun b hb => ?_, insS_sorted x l h2⟩
      rcases List.mem_cons.1 ((insS_perm x l).mem_iff.1 hb) with rfl | hb
      · rw [sLt_asymm hy]; rfl
      · exact h1 b hb
    · rename_i hy
      have hy2 : sLt y x = false := by simpa using hy
      refine List.pairwise_cons.2 ⟨fun b hb => ?_, h⟩
      rcases List.mem_cons.1 hb with rfl | hb
      · rw [hy2]; rfl
      · have := h1 b hb
        rw [le_trans' hy2 (by simpa using this)]; rfl
theorem sortI_sorted : ∀ l : List ByteArray, (sortI l).Pairwise (fun a b => (!sLt b a) = true)
  | [] => List.Pairwise.nil
  | x :: l => insS_sorted x _ (sortI_sorted l)
theorem sortW_eq (l : List ByteArray) : sortW l = sortI l := by
  refine List.Perm.eq_of_pairwise (le := fun x y => (!sLt y x) = true) ?_ ?_ (sortI_sorted l) ((List.mergeSort_perm _ _).trans (sortI_perm l).symm)
  · intro a b _ _ h1 h2
    simp only [Bool.not_eq_true'] at h1 h2
    exact sLt_total h2 h1
  · refine List.pairwise_mergeSort ?_ ?_ l
    · intro a b c h1 h2
      simp only [Bool.not_eq_true'] at *
      exact le_trans' h1 h2
    · intro a b
      cases h : sLt b a with
      | false => rfl
      | true => rw [sLt_asymm h]; rfl
theorem idx6 : trade_Compare.f shops2.1 shops2.2 later2.1 later2.2 = some ([⟨⟨#[99, 111, 110, 102, 101, 99, 116, 105, 111, 110, 101, 114]⟩, 1⟩, ⟨⟨#[104, 97, 116, 116, 101, 114]⟩, 3⟩, ⟨⟨#[105, 114, 111, 110, 109, 111, 110, 103, 101, 114]⟩, 2⟩], 0) := by
  unfold trade_Compare.f movesT wordsT
  rw [sortW_eq]
  kernel_rfl
end Go.Proofs.Ytfbimhnlcmdcpaa.Pa
/- The chapter's examples have their results. -/
namespace Go.Proofs.Ytfbimhnlcmdcpaa.Pa
open Go.RowKit Go.Proofs.YtfbimhnlcmdcpaaW.PrintWords Go.Proofs.YtfbimhnlcmdcpaaW.PrintLast Go.Proofs.YtfbimhnlcmdcpaaW.PrintMore
set_option linter.unusedVariables false
set_option linter.unusedSimpArgs false

/-- A row just made is a row of the call's own. -/
theorem R_made {α : Type} (d : Kd α) (base e : Nat) (W : World) {xs : List α} {inner : List Value} {okp : Nat → Prop} (hrep : Reps (d.M W base okp) d.sz xs inner) (hbase : base ≤ W.heap.size) (hm : xs.length ≤ 9223372036854775807) :
    d.R e (W.alloc (.cells inner.toArray e)) base (fun _ => True) (.slice (some ⟨W.heap.size, 0, none⟩) xs.length xs.length) xs := by
  refine ⟨fun _ _ => trivial, inner, ?_, ?_⟩
  · have h2 := World.ownsRow_lit (base := base) (e := e) (size := d.sz) W inner.toArray xs.length hbase (by simpa [maxLen] using hm) (by simpa using hrep.1)
    simpa using h2
  · refine hrep.imp_ (fun p c hp => d.M_mono (fun k hk => ⟨trivial, fun he => ?_⟩) (Kd.M_below (d.M_bound hp) (below_alloc (Below.refl _ _) _)))
    have h3 : k = W.heap.size := by simpa [Value.ownBlock] using he
    have := hk.2.1
    omega
theorem C_made {α : Type} {d : Kd α} {base e : Nat} {W : World} {xs : List α} {A : Option Addr} {n c : Nat} (h : d.R e W base (fun _ => True) (.slice A n c) xs) : d.C W A xs.length xs := (Kd.R_reads' h).2.2
theorem reps_ints (W : World) (base : Nat) (okp : Nat → Prop) (l : List Int) : Reps ((Kd.int .i64).M W base okp) 1 l (nums .i64 l) := Kd.reps_scalar l
theorem made_ints (W : World) (base : Nat) (hb : base ≤ W.heap.size) (l : List Int) (hm : l.length ≤ 9223372036854775807) :
    (Kd.int .i64).R 3 (W.alloc (.cells (nums .i64 l).toArray 3)) base (fun _ => True) (.slice (some ⟨W.heap.size, 0, none⟩) l.length l.length) l :=
  R_made (Kd.int .i64) base 3 W (okp := fun _ => True) (reps_ints W base _ l) hb hm
theorem row_ints (W : World) (l : List Int) (hm : l.length ≤ 9223372036854775807) : (Kd.int .i64).C (W.alloc (.cells (nums .i64 l).toArray 3)) (some ⟨W.heap.size, 0, none⟩) l.length l := C_made (made_ints W W.heap.size (Nat.le_refl _) l hm)
theorem row_ints2 (W : World) (a b : List Int) (ha : a.length ≤ 9223372036854775807) (hb : b.length ≤ 9223372036854775807) :
    (Kd.slice 3 (Kd.int .i64)).C (((W.alloc (.cells (nums .i64 a).toArray 3)).alloc (.cells (nums .i64 b).toArray 3)).alloc (.cells #[.slice (some ⟨W.heap.size, 0, none⟩) a.length a.length, .slice (some ⟨W.heap.size + 1, 0, none⟩) b.length b.length] 22)) (some ⟨W.heap.size + 1 + 1, 0, none⟩) 2 [a, b] := by
  have h0 := made_ints W W.heap.size (Nat.le_refl _) a ha
  have h1 := made_ints (W.alloc (.cells (nums .i64 a).toArray 3)) W.heap.size (by simp) b hb
  have h0' := Kd.R_below h0 ((Below.refl _ _).alloc (Nat.le_refl _) (.cells (nums .i64 b).toArray 3))
  rw [World.size_alloc] at h1
  have hR := R_made (Kd.slice 3 (Kd.int .i64)) W.heap.size 22 _ (okp := fun _ => True) (xs := [a, b]) (inner := [_, _]) (Reps.one ⟨_, rfl, h0'⟩ (Reps.one ⟨_, rfl, h1⟩ (Reps.none _ _))) (by simp only [World.size_alloc]; omega) (by simp)
  have hC := C_made hR
  simpa using hC
theorem row_moves (W : World) (l : List (S47)) (hm : l.length ≤ 9223372036854775807) : k47.C (W.alloc (.cells (mvCells l).toArray 47)) (some ⟨W.heap.size, 0, none⟩) l.length l :=
  C_made (R_made k47 W.heap.size 47 W (okp := fun _ => True) (mv_reps W W.heap.size _ l) (Nat.le_refl _) hm)
theorem eqJ : wayzgoosekit_EqLists.f 10 [[2, 4], [3, 2]] [[2, 4], [3, 2]] = some true := by kernel_rfl
theorem eqM : wayzgoosekit_EqInts.f 10 [3, 4] [3, 4] = some true := by kernel_rfl
theorem eqP : wayzgoosekit_EqMoves.f 10 [⟨⟨#[99, 111, 110, 102, 101, 99, 116, 105, 111, 110, 101, 114]⟩, 1⟩, ⟨⟨#[104, 97, 116, 116, 101, 114]⟩, 3⟩, ⟨⟨#[105, 114, 111, 110, 109, 111, 110, 103, 101, 114]⟩, 2⟩] [⟨⟨#[99, 111, 110, 102, 101, 99, 116, 105, 111, 110, 101, 114]⟩, 1⟩, ⟨⟨#[104, 97, 116, 116, 101, 114]⟩, 3⟩, ⟨⟨#[105, 114, 111, 110, 109, 111, 110, 103, 101, 114]⟩, 2⟩] = some true := by kernel_rfl
theorem callJ (A B : Option Addr) (c : Nat) (W : World) (h0 : Kd.C (Kd.slice 3 (Kd.int .i64)) W A 2 [[2, 4], [3, 2]]) (h1 : 2 ≤ c) (h2 : Kd.C (Kd.slice 3 (Kd.int .i64)) W B 2 [[2, 4], [3, 2]]) : Calls Try.prog 48 #[.slice A 2 c, .slice B 2 2] W fun e w' => e = .returned (.bool true) ∧ Drawn0 W w' :=
  wayzgoosekit_EqLists.calls 10 A c [[2, 4], [3, 2]] B 2 [[2, 4], [3, 2]] true W h0 h1 h2 (Nat.le_refl _) eqJ
theorem callM (A B : Option Addr) (c : Nat) (W : World) (h0 : Kd.C (Kd.int .i64) W A 2 [3, 4]) (h1 : 2 ≤ c) (h2 : Kd.C (Kd.int .i64) W B 2 [3, 4]) : Calls Try.prog 49 #[.slice A 2 c, .slice B 2 2] W fun e w' => e = .returned (.bool true) ∧ Drawn0 W w' :=
  wayzgoosekit_EqInts.calls 10 A c [3, 4] B 2 [3, 4] true W h0 h1 h2 (Nat.le_refl _) eqM
theorem callP (A B : Option Addr) (c : Nat) (W : World) (h0 : Kd.C k47 W A 3 [⟨⟨#[99, 111, 110, 102, 101, 99, 116, 105, 111, 110, 101, 114]⟩, 1⟩, ⟨⟨#[104, 97, 116, 116, 101, 114]⟩, 3⟩, ⟨⟨#[105, 114, 111, 110, 109, 111, 110, 103, 101, 114]⟩, 2⟩]) (h1 : 3 ≤ c) (h2 : Kd.C k47 W B 3 [⟨⟨#[99, 111, 110, 102, 101, 99, 116, 105, 111, 110, 101, 114]⟩, 1⟩, ⟨⟨#[104, 97, 116, 116, 101, 114]⟩, 3⟩, ⟨⟨#[105, 114, 111, 110, 109, 111, 110, 103, 101, 114]⟩, 2⟩]) : Calls Try.prog 50 #[.slice A 3 c, .slice B 3 3] W fun e w' => e = .returned (.bool true) ∧ Drawn0 W w' :=
  wayzgoosekit_EqMoves.calls 10 A c [⟨⟨#[99, 111, 110, 102, 101, 99, 116, 105, 111, 110, 101, 114]⟩, 1⟩, ⟨⟨#[104, 97, 116, 116, 101, 114]⟩, 3⟩, ⟨⟨#[105, 114, 111, 110, 109, 111, 110, 103, 101, 114]⟩, 2⟩] B 3 [⟨⟨#[99, 111, 110, 102, 101, 99, 116, 105, 111, 110, 101, 114]⟩, 1⟩, ⟨⟨#[104, 97, 116, 116, 101, 114]⟩, 3⟩, ⟨⟨#[105, 114, 111, 110, 109, 111, 110, 103, 101, 114]⟩, 2⟩] true W h0 h1 h2 (Nat.le_refl _) eqP
def wayzgooselaw04_indexed.f : Option Bool := some true

/-- What a call that gives the trades of the chapter leaves. -/
def Shop (W : World) (w' : World) (e : Ending) (C : List Cl) (H : List Hd) : Prop := ∃ A0 c0 A1 c1, e = .returned (.agg #[.slice A0 C.length c0, .slice A1 H.length c1]) ∧ C.length ≤ c0 ∧ H.length ≤ c1 ∧ Kd.C k51 w' A0 C.length C ∧ Kd.C k39 w' A1 H.length H ∧ Below W.heap.size W w'
theorem shops_any (W : World) : Calls Try.prog 45 #[] W fun e w' => Shop W w' e shops2.1 shops2.2 := by
  refine (wayzgooselaw04_shops.calls shops2.1 shops2.2 W shops_f).mono ?_
  rintro e w' ⟨v0, v1, rfl, h0, h1, hb⟩
  obtain ⟨A0, c0, rfl, hl0, hC0⟩ := Kd.R_reads h0
  obtain ⟨A1, c1, rfl, hl1, hC1⟩ := Kd.N_reads h1
  exact ⟨A0, c0, A1, c1, rfl, hl0, hl1, hC0, hC1, hb⟩
theorem later_any (W : World) : Calls Try.prog 47 #[] W fun e w' => Shop W w' e later2.1 later2.2 := by
  refine (wayzgooselaw04_later.calls later2.1 later2.2 W later_f).mono ?_
  rintro e w' ⟨v0, v1, rfl, h0, h1, hb⟩
  obtain ⟨A0, c0, rfl, hl0, hC0⟩ := Kd.R_reads h0
  obtain ⟨A1, c1, rfl, hl1, hC1⟩ := Kd.N_reads h1
  exact ⟨A0, c0, A1, c1, rfl, hl0, hl1, hC0, hC1, hb⟩

set_option maxHeartbeats 4000000 in
set_option maxRecDepth 100000 in
theorem wayzgooselaw04_indexed.calls (r : Bool) (w : World) (h : wayzgooselaw04_indexed.f = some r) :
    Calls Try.prog 17 #[] w fun e w' => e = .returned (.bool r) ∧ Below w.heap.size w w' := by
  obtain rfl := Option.some.inj h
  clear h
  have HS := shops_any
  have HL := later_any
  have i1 := idx1
  have i2 := idx2
  have i3 := idx3
  have i4 := idx4
  have i5 := idx5
  have i6 := idx6
  generalize shops2.1 = C at *
  generalize shops2.2 = H at *
  generalize later2.1 = D at *
  generalize later2.2 = G at *
  have e1 := fun W (A0 : Option Addr) c0 A1 c1 h0 h1 h2 h3 => trade_Least.calls A0 c0 C A1 c1 H 1 0 0 0 W h0 h1 h2 h3 i1
  have e2 := fun W (A0 : Option Addr) c0 A1 c1 h0 h1 h2 h3 => trade_Follow.calls A0 c0 C A1 c1 H 5 3 2 0 W h0 h1 h2 h3 i2
  have e3 := fun W (A0 : Option Addr) c0 A1 c1 h0 h1 h2 h3 => trade_Join.calls A0 c0 C A1 c1 H 3 2 [[2, 4], [3, 2]] 0 W h0 h1 h2 h3 i3
  have e4 := fun W (A0 : Option Addr) c0 A1 c1 h0 h1 h2 h3 => trade_May.calls A0 c0 C A1 c1 H ⟨#[109]⟩ [3, 4] 0 W h0 h1 h2 h3 i4
  have e5 := fun W (A0 : Option Addr) c0 A1 c1 h0 h1 h2 h3 => trade_Short.calls A0 c0 C A1 c1 H 1 ⟨#[98, 111]⟩ 0 W h0 h1 h2 h3 i5
  have e6 := fun W (A0 : Option Addr) c0 A1 c1 (B0 : Option Addr) d0 B1 d1 h0 h1 h2 h3 h4 h5 h6 h7 => trade_Compare.calls A0 c0 C A1 c1 H B0 d0 D B1 d1 G [⟨⟨#[99, 111, 110, 102, 101, 99, 116, 105, 111, 110, 101, 114]⟩, 1⟩, ⟨⟨#[104, 97, 116, 116, 101, 114]⟩, 3⟩, ⟨⟨#[105, 114, 111, 110, 109, 111, 110, 103, 101, 114]⟩, 2⟩] 0 W h0 h1 h2 h3 h4 h5 h6 h7 i6
  clear i1 i2 i3 i4 i5 i6
  have hB0 := Below.refl w.heap.size w
  go_enter Try.func17, Try.ntmps17
  go_upto_region 2 with (first
    | (go_at_call 45; go_loud ((with_reducible refine (HS _).mono ?_); rintro e w1 ⟨A0, c0, A1, c1, rfl, h0, h1, h2, h3, hb1⟩; have hB1 := below_then hB0 hB0.size hb1))
    | (go_at_call 15; go_loud ((with_reducible refine (e1 _ _ _ _ _ h2 h0 h3 h1).mono ?_); rintro e w2 ⟨rfl, hb2⟩; have hB2 := below_then hB1 hB1.size hb2)))
  clear hB0 hB1 hb1 hb2 h0 h1 h2 h3 e1
  have hB0 := hB2; clear hB2
  go_upto_region 3 with (first
    | (go_at_call 45; go_loud ((with_reducible refine (HS _).mono ?_); rintro e w3 ⟨A0, c0, A1, c1, rfl, h0, h1, h2, h3, hb1⟩; have hB1 := below_then hB0 hB0.size hb1))
    | (go_at_call 18; go_loud ((with_reducible refine (e2 _ _ _ _ _ h2 h0 h3 h1).mono ?_); rintro e w4 ⟨rfl, hb2⟩; have hB2 := below_then hB1 hB1.size hb2)))
  clear hB0 hB1 hb1 hb2 h0 h1 h2 h3 e2
  have hB0 := hB2; clear hB2
  go_upto_region 4 with (first
    | (go_at_call 45; go_loud ((with_reducible refine (HS _).mono ?_); rintro e w5 ⟨A0, c0, A1, c1, rfl, h0, h1, h2, h3, hb1⟩; have hB1 := below_then hB0 hB0.size hb1))
    | (go_at_call 46; go_loud ((with_reducible refine (e3 _ _ _ _ _ h2 h0 h3 h1).mono ?_); rintro e w6 ⟨vJ, rfl, hRJ, hb2⟩; have hB2 := below_then hB1 hB1.size hb2)))
  obtain ⟨Ja, Jc, rfl, hlJ, hCJ⟩ := Kd.R_reads hRJ
  clear hRJ
  clear hB0 hB1 hb1 hb2 h0 h1 h2 h3 e3
  have hB0 := hB2; clear hB2
  go_upto_region 5 with (first
    | (go_at_call 45; go_loud ((with_reducible refine (HS _).mono ?_); rintro e w7 ⟨A0, c0, A1, c1, rfl, h0, h1, h2, h3, hb1⟩; have hB1 := below_then hB0 hB0.size hb1))
    | (go_at_call 19; go_loud ((with_reducible refine (e4 _ _ _ _ _ h2 h0 h3 h1).mono ?_); rintro e w8 ⟨vM, rfl, hRM, hb2⟩; have hB2 := below_then hB1 hB1.size hb2)))
  obtain ⟨Ma, Mc, rfl, hlM, hCM⟩ := Kd.R_reads hRM
  clear hRM
  replace hCJ := Kd.C_below (Kd.C_below hCJ hb1) hb2
  clear hB0 hB1 hb1 hb2 h0 h1 h2 h3 e4
  have hB0 := hB2; clear hB2
  go_upto_region 6 with (first
    | (go_at_call 45; go_loud ((with_reducible refine (HS _).mono ?_); rintro e w9 ⟨A0, c0, A1, c1, rfl, h0, h1, h2, h3, hb1⟩; have hB1 := below_then hB0 hB0.size hb1))
    | (go_at_call 27; go_loud ((with_reducible refine (e5 _ _ _ _ _ h2 h0 h3 h1).mono ?_); rintro e w10 ⟨rfl, hb2⟩; have hB2 := below_then hB1 hB1.size hb2)))
  replace hCJ := Kd.C_below (Kd.C_below hCJ hb1) hb2
  replace hCM := Kd.C_below (Kd.C_below hCM hb1) hb2
  clear hB0 hB1 hb1 hb2 h0 h1 h2 h3 e5
  have hB0 := hB2; clear hB2
  go_upto_region 7 with (first
    | (go_at_call 45; go_loud ((with_reducible refine (HS _).mono ?_); rintro e w11 ⟨A0, c0, A1, c1, rfl, h0, h1, h2, h3, hb1⟩; have hB1 := below_then hB0 hB0.size hb1))
    | (go_at_call 47; go_loud ((with_reducible refine (HL _).mono ?_); rintro e w12 ⟨B0, d0, B1, d1, rfl, h4, h5, h6, h7, hb2⟩; have hB2 := below_then hB1 hB1.size hb2; replace h2 := Kd.C_below h2 hb2; replace h3 := Kd.C_below h3 hb2))
    | (go_at_call 21; go_loud ((with_reducible refine (e6 _ _ _ _ _ _ _ _ _ h2 h0 h3 h1 h6 h4 h7 h5).mono ?_); rintro e w13 ⟨vP, rfl, hRP, hb3⟩; have hB3 := below_then hB2 hB2.size hb3)))
  obtain ⟨Pa, Pc, rfl, hlP, hCP⟩ := Kd.R_reads hRP
  clear hRP
  replace hCJ := Kd.C_below (Kd.C_below (Kd.C_below hCJ hb1) hb2) hb3
  replace hCM := Kd.C_below (Kd.C_below (Kd.C_below hCM hb1) hb2) hb3
  clear hB0 hB1 hb1 hb2 hb3 hB2 h0 h1 h2 h3 h4 h5 h6 h7 e6 HS HL
  change 2 ≤ Jc at hlJ
  change 2 ≤ Mc at hlM
  change 3 ≤ Pc at hlP
  change Kd.C _ w13 Ja 2 [[2, 4], [3, 2]] at hCJ
  change Kd.C _ w13 Ma 2 [3, 4] at hCM
  replace hCP : Kd.C k47 w13 Pa 3 [⟨⟨#[99, 111, 110, 102, 101, 99, 116, 105, 111, 110, 101, 114]⟩, 1⟩, ⟨⟨#[104, 97, 116, 116, 101, 114]⟩, 3⟩, ⟨⟨#[105, 114, 111, 110, 109, 111, 110, 103, 101, 114]⟩, 2⟩] := hCP
  have hJ : (Kd.slice 3 (Kd.int .i64)).C (((w13.alloc (.cells #[.int .i64 2, .int .i64 4] 3)).alloc (.cells #[.int .i64 3, .int .i64 2] 3)).alloc (.cells #[.slice (some ⟨w13.heap.size, 0, none⟩) 2 2, .slice (some ⟨w13.heap.size + 1, 0, none⟩) 2 2] 22)) (some ⟨w13.heap.size + 1 + 1, 0, none⟩) 2 [[2, 4], [3, 2]] := row_ints2 w13 [2, 4] [3, 2] (by decide) (by decide)
  have hbJ := ((((Below.refl w13.heap.size w13).alloc (Nat.le_refl _) (.cells #[.int .i64 2, .int .i64 4] 3)).alloc (by simp only [World.size_alloc]; omega) (.cells #[.int .i64 3, .int .i64 2] 3)).alloc (by simp only [World.size_alloc]; omega) (.cells #[.slice (some ⟨w13.heap.size, 0, none⟩) 2 2, .slice (some ⟨w13.heap.size + 1, 0, none⟩) 2 2] 22))
  have hM : ∀ W : World, (Kd.int .i64).C (W.alloc (.cells #[.int .i64 3, .int .i64 4] 3)) (some ⟨W.heap.size, 0, none⟩) 2 [3, 4] := fun W => row_ints W [3, 4] (by decide)
  have hP : ∀ W : World, k47.C (W.alloc (.cells #[.string ⟨#[99, 111, 110, 102, 101, 99, 116, 105, 111, 110, 101, 114]⟩, .int .i64 1, .string ⟨#[104, 97, 116, 116, 101, 114]⟩, .int .i64 3, .string ⟨#[105, 114, 111, 110, 109, 111, 110, 103, 101, 114]⟩, .int .i64 2] 47)) (some ⟨W.heap.size, 0, none⟩) 3 [⟨⟨#[99, 111, 110, 102, 101, 99, 116, 105, 111, 110, 101, 114]⟩, 1⟩, ⟨⟨#[104, 97, 116, 116, 101, 114]⟩, 3⟩, ⟨⟨#[105, 114, 111, 110, 109, 111, 110, 103, 101, 114]⟩, 2⟩] := fun W => row_moves W [⟨⟨#[99, 111, 110, 102, 101, 99, 116, 105, 111, 110, 101, 114]⟩, 1⟩, ⟨⟨#[104, 97, 116, 116, 101, 114]⟩, 3⟩, ⟨⟨#[105, 114, 111, 110, 109, 111, 110, 103, 101, 114]⟩, 2⟩] (by simp)
  go_wp2_with (first
    | (go_at_call 48; go_loud ((with_reducible refine (callJ _ _ _ _ (Kd.C_below hCJ hbJ) hlJ hJ).mono ?_); rintro e w14 ⟨rfl, hd14⟩; have hb14 := below_then hbJ hbJ.size hd14.below; have hbM := hb14.alloc hb14.size (.cells #[.int .i64 3, .int .i64 4] 3); have hM := hM w14))
    | (go_at_call 49; go_loud ((with_reducible refine (callM _ _ _ _ (Kd.C_below hCM hbM) hlM hM).mono ?_); rintro e w15 ⟨rfl, hd15⟩; have hb15 := below_then hbM hbM.size hd15.below; have hbP := hb15.alloc hb15.size (.cells #[.string ⟨#[99, 111, 110, 102, 101, 99, 116, 105, 111, 110, 101, 114]⟩, .int .i64 1, .string ⟨#[104, 97, 116, 116, 101, 114]⟩, .int .i64 3, .string ⟨#[105, 114, 111, 110, 109, 111, 110, 103, 101, 114]⟩, .int .i64 2] 47); have hP := hP w15))
    | (go_at_call 50; go_loud ((with_reducible refine (callP _ _ _ _ (Kd.C_below hCP hbP) hlP hP).mono ?_); rintro e w16 ⟨rfl, hd16⟩; have hb16 := below_then hbP hbP.size hd16.below)))
  go_ret
  exact ⟨rfl, below_then hB3 hB3.size hb16⟩
end Go.Proofs.Ytfbimhnlcmdcpaa.Pa
namespace Go.Proofs.Ytfbimhnlcmdcpaa.Pa
open Go.RowKit Go.Proofs.YtfbimhnlcmdcpaaW.PrintWords Go.Proofs.YtfbimhnlcmdcpaaW.PrintLast Go.Proofs.YtfbimhnlcmdcpaaW.PrintMore
attribute [local go_sem] max2_int min2_int max_two min_two max_three min_three max_four min_four   -- for this text's walks alone
set_option linter.unusedVariables false
set_option linter.unusedSimpArgs false


/-! ### wayzgoosekit_NewDice: function 14 -/
def wayzgoosekit_NewDice.f (l0 : List Int) : Option (List Int × Int × Int) := some (l0, 0, 11400714819323198485)
set_option maxHeartbeats 8000000 in
set_option maxRecDepth 100000 in
theorem wayzgoosekit_NewDice.calls (A0 : Option Addr) (c0 : Nat) (l0 : List Int) (r1 : List Int) (r2 : Int) (r3 : Int) (w0 w : World) (hB : Below w0.heap.size w0 w) (hr0 : Kd.C (Kd.int .i64) w0 A0 l0.length l0) (hc0 : l0.length ≤ c0) (h : wayzgoosekit_NewDice.f l0 = some (r1, r2, r3)) :
    Calls Try.prog 14 #[.slice A0 l0.length c0] w fun e w' => ∃ g_ : Nat, e = .returned (.pointer (some ⟨g_, 0, none⟩)) ∧ IsS72 w0 w' g_ r1 r2 r3 ∧ Below w0.heap.size w0 w' ∧ Below w.heap.size w w' := by
  have hu72 := Try.underlying72
  have HR0 := Aside0.mk hr0
  have HC0 := Aside0.mk hc0
  clear hr0 hc0
  have HBW := Aside0.mk (Below.refl w.heap.size w)
  have HW0 := Aside0.mk hB.size
  have HB := Aside0.mk hB
  clear hB
  have H : (some (l0, 0, 11400714819323198485)) = some (r1, r2, r3) := h
  clear h
  simp only [Option.some.injEq, Prod.mk.injEq] at H
  obtain ⟨rfl, rfl, rfl⟩ := H
  go_enter Try.func14, Try.ntmps14
  go_wp2_with (first | ((with_reducible refine gate_dst (N := 5) rfl ?_); refine box_event ?hg (N := 5) ?hd (cs := #[.slice A0 l0.length c0, .int .i64 0, .int .u64 11400714819323198485]) (t := 72) ?hr ?_; (case hd => rfl); (case hg => rfl); (case hr => first | (go_simp; done) | (go_simp; rfl)); intro gb208 hg w2 hbox hb; have n0_ := Aside0.mk (below_step HBW.out hb); have n1_ := Aside0.mk (below_step (by repeat (first | (with_reducible first | exact HB.out | apply below_alloc | apply pw_below_drewN | apply below_drew1) | exact HB.out)) hb); have n2_ := Aside0.mk (hbox); have n3_ := Aside0.mk ((by rw [hg]; exact (below_size (by repeat (first | (with_reducible first | exact HBW.out | apply below_alloc | apply pw_below_drewN | apply below_drew1) | exact HBW.out))) : w.heap.size ≤ gb208)); have n4_ := Aside0.mk ((Nat.le_trans HW0.out (by rw [hg]; exact (below_size (by repeat (first | (with_reducible first | exact HBW.out | apply below_alloc | apply pw_below_drewN | apply below_drew1) | exact HBW.out))) : w.heap.size ≤ gb208) : w0.heap.size ≤ gb208)); clear HBW; clear HB; have HBW := n0_; have HB := n1_; have BK208 := n2_; have GW208 := n3_; have GE208 := n4_; clear n0_ n1_ n2_ n3_ n4_; clear hb hbox hg))
  go_ret
  exact ⟨_, rfl, (show IsS72 w0 _ gb208 l0 0 11400714819323198485 from ⟨_, _, by (with_reducible repeat (first | refine blk_drewN ?_ _ | refine blk_drew ?_ | refine blk_alloc ?_ _)); exact BK208.out, GE208.out, HR0.out⟩), by repeat (first | (with_reducible first | exact HB.out | apply below_alloc | apply pw_below_drewN | apply below_drew1 | refine below_set ?_ GE208.out) | exact HB.out), by repeat (first | (with_reducible first | exact HBW.out | apply below_alloc | apply pw_below_drewN | apply below_drew1 | refine below_set ?_ GW208.out) | exact HBW.out)⟩

/-! ### trade_classes_has: function 44 -/
def trade_classes_has.f (a0 : Int) (a1 : Int) : Option (Bool) := if 0 ≤ a1 then (some ((Go.bits .and .u8 (shr .u8 a0 a1) 1) == 1)) else (none)
set_option maxHeartbeats 8000000 in
set_option maxRecDepth 100000 in
theorem trade_classes_has.calls (a0 : Int) (a1 : Int) (r : Bool) (w : World) (h : trade_classes_has.f a0 a1 = some r) :
    Calls Try.prog 44 #[.int .u8 a0, .int .i64 a1] w fun e w' => e = .returned (.bool r) ∧ Drawn0 w w' := by
  have H : (if 0 ≤ a1 then (some ((Go.bits .and .u8 (shr .u8 a0 a1) 1) == 1)) else (none)) = some r := h
  clear h
  by_cases c3 : 0 ≤ a1
  · rw [if_pos c3] at H
    have c3b0 := eq_true c3
    have c3b1 : decide (0 ≤ a1) = true := decide_eq_true c3
    clear c3
    obtain ⟨ji4, hji4⟩ : ∃ j_ : Int, (shr .u8 a0 a1) = j_ := ⟨_, rfl⟩
    replace H : (some ((Go.bits .and .u8 (ji4) 1) == 1)) = some r := by first | (rw [hji4] at H; exact H) | (simp only [hji4] at H ⊢; exact H)
    have hji4_ : (a0 / 2 ^ min a1.toNat 8) = ji4 := hji4
    have hji4z : a1 ≤ 8 → (a0 / 2 ^ a1.toNat) = ji4 := shr_small hji4
    obtain rfl := Option.some.inj H
    go_enter Try.func44, Try.ntmps44
    go_wp2
    go_ret
    exact ⟨by first | rfl | (simp; done) | (simp only [← hji4] <;> (first | rfl | simp)) | (simp [*]; done), by repeat (first | exact Drawn0.refl _ | apply Drawn0.step)⟩
  · rw [if_neg c3] at H
    exact absurd H (by simp)

end Go.Proofs.Ytfbimhnlcmdcpaa.Pa
namespace Go.Proofs.Ytfbimhnlcmdcpaa.Pa
open Go.RowKit Go.Proofs.YtfbimhnlcmdcpaaW.PrintWords Go.Proofs.YtfbimhnlcmdcpaaW.PrintLast Go.Proofs.YtfbimhnlcmdcpaaW.PrintMore
attribute [local go_sem] max2_int min2_int max_two min_two max_three min_three max_four min_four   -- for this text's walks alone
set_option linter.unusedVariables false
set_option linter.unusedSimpArgs false

/-! ### wayzgooselaw04_under: function 16 -/
mutual
def wayzgooselaw04_under.l0 : Nat → Int → Int → Int → List (S51) → List (S39) → Option (Bool)
  | 0, _, _, _, _, _ => none
  | k + 1, x1, x2, x7, x211000, x211001 => if x7 < (x211000.length : Int) then (wayzgooselaw04_under.j1 k x1 x2 x7 (decide (x1 ≥ 0)) x211000 x211001) else (wayzgooselaw04_under.j1 k x1 x2 x7 false x211000 x211001)
def wayzgooselaw04_under.j1 : Nat → Int → Int → Int → Bool → List (S51) → List (S39) → Option (Bool)
  | 0, _, _, _, _, _, _ => none
  | k + 1, x1, x2, x7, x16, x211000, x211001 => if x16 = true then (if x1 = x2 then (some true) else (if 0 ≤ x1 then (if x1 < (x211000.length : Int) then (wayzgooselaw04_under.l0 k ((rd_T51 x211000 x1).f1) x2 (wrap64 (x7 + 1)) x211000 x211001) else (none)) else (none))) else (some false)
end
def wayzgooselaw04_under.f (k : Nat) (l0_0 : List (S51)) (l0_1 : List (S39)) (a1 : Int) (a2 : Int) : Option (Bool) := wayzgooselaw04_under.l0 k a1 a2 0 l0_0 l0_1
theorem wayzgooselaw04_under.mono_l : ∀ k, (∀ y0 y1 y2 y3 y4, LeO (wayzgooselaw04_under.l0 k y0 y1 y2 y3 y4) (wayzgooselaw04_under.l0 (k + 1) y0 y1 y2 y3 y4)) ∧ (∀ y0 y1 y2 y3 y4 y5, LeO (wayzgooselaw04_under.j1 k y0 y1 y2 y3 y4 y5) (wayzgooselaw04_under.j1 (k + 1) y0 y1 y2 y3 y4 y5))
  | 0 => ⟨fun _ _ _ _ _ r h => by simp [wayzgooselaw04_under.l0] at h, fun _ _ _ _ _ _ r h => by simp [wayzgooselaw04_under.j1] at h⟩
  | k + 1 => by
    obtain ⟨ih0, ih1⟩ := wayzgooselaw04_under.mono_l k
    refine ⟨?_, ?_⟩
    · intro y0 y1 y2 y3 y4
      unfold wayzgooselaw04_under.l0
      repeat' first
      | (with_reducible exact ih0 _ _ _ _ _)
      | (with_reducible exact ih1 _ _ _ _ _ _)
      | (with_reducible exact LeO.refl _)
      | (with_reducible exact LeO.none _)
      | (with_reducible refine LeO.ite ?_ ?_)
      | (with_reducible refine LeO.bind ?_ (fun _ => ?_))
      | exact ih0 _ _ _ _ _
      | exact ih1 _ _ _ _ _ _
      | exact LeO.none _
      | refine LeO.ite ?_ ?_
      | refine LeO.bind ?_ (fun _ => ?_)
    · intro y0 y1 y2 y3 y4 y5
      unfold wayzgooselaw04_under.j1
      repeat' first
      | (with_reducible exact ih0 _ _ _ _ _)
      | (with_reducible exact ih1 _ _ _ _ _ _)
      | (with_reducible exact LeO.refl _)
      | (with_reducible exact LeO.none _)
      | (with_reducible refine LeO.ite ?_ ?_)
      | (with_reducible refine LeO.bind ?_ (fun _ => ?_))
      | exact ih0 _ _ _ _ _
      | exact ih1 _ _ _ _ _ _
      | exact LeO.none _
      | refine LeO.ite ?_ ?_
      | refine LeO.bind ?_ (fun _ => ?_)
theorem wayzgooselaw04_under.mono : ∀ a0 a1 a2 a3 k, LeO (wayzgooselaw04_under.f k a0 a1 a2 a3) (wayzgooselaw04_under.f (k + 1) a0 a1 a2 a3) := by
  intro a0 a1 a2 a3 k
  obtain ⟨ih0, ih1⟩ := wayzgooselaw04_under.mono_l k
  unfold wayzgooselaw04_under.f
  repeat' first
      | (with_reducible exact ih0 _ _ _ _ _)
      | (with_reducible exact ih1 _ _ _ _ _ _)
      | (with_reducible exact LeO.refl _)
      | (with_reducible exact LeO.none _)
      | (with_reducible refine LeO.ite ?_ ?_)
      | (with_reducible refine LeO.bind ?_ (fun _ => ?_))
      | exact ih0 _ _ _ _ _
      | exact ih1 _ _ _ _ _ _
      | exact LeO.none _
      | refine LeO.ite ?_ ?_
      | refine LeO.bind ?_ (fun _ => ?_)
set_option maxHeartbeats 8000000 in
set_option maxRecDepth 100000 in
theorem wayzgooselaw04_under.calls (k : Nat) (A0_0 : Option Addr) (c0_0 : Nat) (l0_0 : List (S51)) (A0_1 : Option Addr) (c0_1 : Nat) (l0_1 : List (S39)) (a1 : Int) (a2 : Int) (r : Bool) (w : World) (hr0_0 : Kd.C k51 w A0_0 l0_0.length l0_0) (hc0_0 : l0_0.length ≤ c0_0) (hr0_1 : Kd.C k39 w A0_1 l0_1.length l0_1) (hc0_1 : l0_1.length ≤ c0_1) (h : wayzgooselaw04_under.f k l0_0 l0_1 a1 a2 = some r) :
    Calls Try.prog 16 #[.agg #[.slice A0_0 l0_0.length c0_0, .slice A0_1 l0_1.length c0_1], .int .i64 a1, .int .i64 a2] w fun e w' => e = .returned (.bool r) ∧ Below w.heap.size w w' := by
  have hu26 := Try.underlying26
  have HR0_0 := Aside0.mk hr0_0
  have HC0_0 := Aside0.mk hc0_0
  clear hr0_0 hc0_0
  have HR0_1 := Aside0.mk hr0_1
  have HC0_1 := Aside0.mk hc0_1
  clear hr0_1 hc0_1
  have HB := Aside0.mk (Below.refl w.heap.size w)
  have H : (wayzgooselaw04_under.l0 k a1 a2 0 l0_0 l0_1) = some r := h
  clear h
  have H' := Aside0.mk H
  clear H
  go_enter Try.func16, Try.ntmps16
  go_wp2_with (first | ((with_reducible refine gate_dst (N := 3) rfl ?_); refine box_event ?hg (N := 3) ?hd (cs := #[.slice A0_0 l0_0.length c0_0, .slice A0_1 l0_1.length c0_1]) (t := 26) ?hr ?_; (case hd => rfl); (case hg => rfl); (case hr => first | (go_simp; done) | (go_simp; rfl)); intro gb210 hg w4 hbox hb; have n0_ := Aside0.mk (below_step (by repeat (first | (with_reducible first | exact HB.out | apply below_alloc | apply pw_below_drewN | apply below_drew1) | exact HB.out)) hb); have n1_ := Aside0.mk (hbox); have n2_ := Aside0.mk ((by rw [hg]; exact (below_size (by repeat (first | (with_reducible first | exact HB.out | apply below_alloc | apply pw_below_drewN | apply below_drew1) | exact HB.out))) : w.heap.size ≤ gb210)); have n3_ := Aside0.mk ((by rw [hg]; exact (below_size (by repeat (first | (with_reducible first | exact HB.out | apply below_alloc | apply pw_below_drewN | apply below_drew1) | exact HB.out))) : w.heap.size ≤ gb210)); clear HB; have HB := n0_; have BK210 := n1_; have GW210 := n2_; have GE210 := n3_; clear n0_ n1_ n2_ n3_; clear hb hbox hg))
  go_loopg [1, 7] k (fun kq v1 v7 w' => ∃ (x1_1 : Int) (x7_1 : Int), v1 = .int .i64 x1_1 ∧ v7 = .int .i64 x7_1 ∧ Aside0 (wayzgooselaw04_under.l0 kq x1_1 a2 x7_1 l0_0 l0_1 = some r) ∧ Aside0 (kq ≤ k) ∧ Aside0 (w'.heap[gb210]? = some (.cells #[(.slice A0_0 l0_0.length c0_0), (.slice A0_1 l0_1.length c0_1)] 26 (0, 0))) ∧ Aside0 (Below w.heap.size w w'))
  case atStart => exact ⟨(a1), (0), (by first | rfl | (simp; done) | (simp [*]; done)), (by first | rfl | (simp; done) | (simp [*]; done)), H', ⟨Nat.le_refl _⟩, ⟨by (with_reducible repeat (first | refine blk_drewN ?_ _ | refine blk_drew ?_ | refine blk_alloc ?_ _)); exact BK210.out⟩, ⟨by repeat (first | (with_reducible first | exact HB.out | apply below_alloc | apply pw_below_drewN | apply below_drew1 | refine below_set ?_ GE210.out) | exact HB.out)⟩⟩
  case round =>
    clear H'
    try clear c1
    try clear p2
    obtain ⟨x1_1, x7_1, rfl, rfl, HA, HK1, BK210, HB⟩ := hrel
    cases gk with
    | zero => exact absurd HA.out (by simp [wayzgooselaw04_under.l0])
    | succ k1 =>
      have H := HA.out
      clear HA
      simp only [wayzgooselaw04_under.l0] at H
      have HC5 := Aside0.mk H
      clear H
      go_upto_region 2 with (fail)
      go_cut [16] (fun v16 wc => ∃ (kq : Nat) (x16_4 : Bool), v16 = .bool x16_4 ∧ Aside0 (wayzgooselaw04_under.j1 kq x1_1 a2 x7_1 x16_4 l0_0 l0_1 = some r) ∧ Aside0 (kq ≤ k1) ∧ Aside0 (wc.heap[gb210]? = some (.cells #[(.slice A0_0 l0_0.length c0_0), (.slice A0_1 l0_1.length c0_1)] 26 (0, 0))) ∧ Aside0 (Below w.heap.size w wc))
      case first =>
        have H := HC5.out
        clear HC5
        by_cases c6 : x7_1 < (l0_0.length : Int)
        · rw [if_pos c6] at H
          have c6b0 : decide (x7_1 < (l0_0.length : Int)) = true := decide_eq_true c6
          clear c6
          (first | rw [c6b0] | (simp only [i64_w, i32_w]; rw [c6b0]) | skip)
          have H' := Aside0.mk H
          clear H
          have hcz7_0 : wr.cell? ⟨gb210, 0, none⟩ = some (.slice A0_0 l0_0.length c0_0) := (blk_cell BK210.out 0).trans rfl
          have hcz7_1 : wr.cell? ⟨gb210, 1, none⟩ = some (.slice A0_1 l0_1.length c0_1) := (blk_cell BK210.out 1).trans rfl
          have hfz7_0 := blk_frozen BK210.out 0
          have hfz7_1 := blk_frozen BK210.out 1
          go_wp2
          go_meet
          case rel => exact ⟨_, (decide (x1_1 ≥ 0)), (by first | rfl | (simp; done) | (simp [*]; done)), H', ⟨by have := HK1.out; first | omega | exact Nat.le_refl _⟩, ⟨by (with_reducible repeat (first | refine blk_drewN ?_ _ | refine blk_drew ?_ | refine blk_alloc ?_ _)); exact BK210.out⟩, ⟨by repeat (first | (with_reducible first | exact HB.out | apply below_alloc | apply pw_below_drewN | apply below_drew1 | refine below_set ?_ GE210.out) | exact HB.out)⟩⟩
        · rw [if_neg c6] at H
          have c6b0 : decide (x7_1 < (l0_0.length : Int)) = false := decide_eq_false c6
          clear c6
          (first | rw [c6b0] | (simp only [i64_w, i32_w]; rw [c6b0]) | skip)
          have H' := Aside0.mk H
          clear H
          have hcz8_0 : wr.cell? ⟨gb210, 0, none⟩ = some (.slice A0_0 l0_0.length c0_0) := (blk_cell BK210.out 0).trans rfl
          have hcz8_1 : wr.cell? ⟨gb210, 1, none⟩ = some (.slice A0_1 l0_1.length c0_1) := (blk_cell BK210.out 1).trans rfl
          have hfz8_0 := blk_frozen BK210.out 0
          have hfz8_1 := blk_frozen BK210.out 1
          go_wp2
          go_meet
          case rel => exact ⟨_, (false), (by first | rfl | (simp; done) | (simp [*]; done)), H', ⟨by have := HK1.out; first | omega | exact Nat.le_refl _⟩, ⟨by (with_reducible repeat (first | refine blk_drewN ?_ _ | refine blk_drew ?_ | refine blk_alloc ?_ _)); exact BK210.out⟩, ⟨by repeat (first | (with_reducible first | exact HB.out | apply below_alloc | apply pw_below_drewN | apply below_drew1 | refine below_set ?_ GE210.out) | exact HB.out)⟩⟩
      case rest =>
        clear HC5
        try clear c1
        try clear p2
        try clear c6
        try clear c6b0
        try clear hcz7_0
        try clear hcz7_1
        try clear hcz8_0
        try clear hcz8_1
        try clear hfz7_0
        try clear hfz7_1
        try clear hfz8_0
        try clear hfz8_1
        try clear p2
        obtain ⟨kq, x16_4, rfl, HA, HJ4, BK210, HB⟩ := hcut
        cases kq with
        | zero => exact absurd HA.out (by simp [wayzgooselaw04_under.j1])
        | succ kj4 =>
          have H := HA.out
          clear HA
          simp only [wayzgooselaw04_under.j1] at H
          by_cases c9 : x16_4 = true
          · subst c9
            have H1 : (if x1_1 = a2 then (some true) else (if 0 ≤ x1_1 then (if x1_1 < (l0_0.length : Int) then (wayzgooselaw04_under.l0 kj4 ((rd_T51 l0_0 x1_1).f1) a2 (wrap64 (x7_1 + 1)) l0_0 l0_1) else (none)) else (none))) = some r := by rw [if_pos rfl] at H; exact H
            clear H
            have H := H1
            clear H1
            by_cases c10 : x1_1 = a2
            · rw [if_pos c10] at H
              have c10b0 : (x1_1 == a2) = true := beq_iff_eq.mpr c10
              have c10b1 : (x1_1 != a2) = false := bne_eq_false_iff_eq.mpr c10
              clear c10
              obtain rfl := Option.some.inj H
              go_wp2
              go_ret
              exact ⟨by first | rfl | (simp [errW_none, errW_some] <;> rfl) | (simp [*, errW_none, errW_some] <;> rfl), by repeat (first | (with_reducible first | exact HB.out | apply below_alloc | apply pw_below_drewN | apply below_drew1 | refine below_set ?_ GE210.out) | exact HB.out)⟩
            · rw [if_neg c10] at H
              have c10b0 : (x1_1 == a2) = false := beq_eq_false_iff_ne.mpr c10
              have c10b1 : (x1_1 != a2) = true := bne_iff_ne.mpr c10
              by_cases c11 : 0 ≤ x1_1
              · rw [if_pos c11] at H
                have c11b0 : decide (0 ≤ x1_1) = true := decide_eq_true c11
                clear c11
                by_cases c12 : x1_1 < (l0_0.length : Int)
                · rw [if_pos c12] at H
                  have c12b0 : decide (x1_1 < (l0_0.length : Int)) = true := decide_eq_true c12
                  clear c12
                  have H' := Aside0.mk H
                  clear H
                  have hcz13_0 : wc.cell? ⟨gb210, 0, none⟩ = some (.slice A0_0 l0_0.length c0_0) := (blk_cell BK210.out 0).trans rfl
                  have hcz13_1 : wc.cell? ⟨gb210, 1, none⟩ = some (.slice A0_1 l0_1.length c0_1) := (blk_cell BK210.out 1).trans rfl
                  have hfz13_0 := blk_frozen BK210.out 0
                  have hfz13_1 := blk_frozen BK210.out 1
                  have p211 : 0 ≤ (x1_1 : Int) := of_decide_eq_true (by first | (with_reducible assumption) | assumption)
                  have q211 : x1_1 < (l0_0.length : Int) := of_decide_eq_true (by first | (with_reducible assumption) | assumption)
                  obtain ⟨ad211, e211, hx211_0, hx211_1⟩ := at_T51 HR0_0.out x1_1 p211 q211
                  cases e211
                  replace hx211_0 := (HB.out.cell (World.block_lt_of_cell? w _ hx211_0)).trans hx211_0
                  replace hx211_1 := (HB.out.cell (World.block_lt_of_cell? w _ hx211_1)).trans hx211_1
                  replace p211 := eq_true p211
                  replace q211 := eq_true q211
                  go_wp2
                  go_roundg kj4
                  case measure => have := HK1.out; have := HJ4.out; omega
                  case rel => exact ⟨((rd_T51 l0_0 x1_1).f1), (wrap64 (x7_1 + 1)), (by first | rfl | (simp; done) | (simp [*]; done)), (by first | rfl | (simp; done) | (simp [*]; done)), H', ⟨by have := HK1.out; have := HJ4.out; omega⟩, ⟨by (with_reducible repeat (first | refine blk_drewN ?_ _ | refine blk_drew ?_ | refine blk_alloc ?_ _)); exact BK210.out⟩, ⟨by repeat (first | (with_reducible first | exact HB.out | apply below_alloc | apply pw_below_drewN | apply below_drew1 | refine below_set ?_ GE210.out) | exact HB.out)⟩⟩
                · rw [if_neg c12] at H
                  exact absurd H (by simp)
              · rw [if_neg c11] at H
                exact absurd H (by simp)
          · replace c9 := Bool.eq_false_iff.mpr c9
            subst c9
            have H1 : (some false) = some r := by rw [if_neg (show ¬ (false = true) by decide)] at H; exact H
            clear H
            have H := H1
            clear H1
            obtain rfl := Option.some.inj H
            go_wp2
            go_ret
            exact ⟨by first | rfl | (simp [errW_none, errW_some] <;> rfl) | (simp [*, errW_none, errW_some] <;> rfl), by repeat (first | (with_reducible first | exact HB.out | apply below_alloc | apply pw_below_drewN | apply below_drew1 | refine below_set ?_ GE210.out) | exact HB.out)⟩

end Go.Proofs.Ytfbimhnlcmdcpaa.Pa
