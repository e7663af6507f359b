/- A part of the proof: If classes have other numbers, and the same names, Compare finds no difference, and the least class of two has the same name: for all lists of numbers. Without conditions of its own. -/
import Derived.Test.YtfbimhnlcmdcpaaMTradeRenumbered4
import Derived.Lib.SliceRun
import Derived.Lib.Bytealg
import Derived.Lib.Walk
import Derived.Shelf.SlSortCmp.NoneTotal
import Derived.Shelf.SlicesE.Compact
import Derived.Shelf.SlicesE.Equal
import Derived.Ground.SlsfProg
import Derived.Ground.SlgnProg
import Derived.Test.YtfbimhnlcmdcpaaProg
import Derived.Lib.OwnBridge
import Derived.Test.YtfbimhnlcmdcpaaMTradeRenumbered3
import Derived.Deep.RegionHeld
import Derived.BigRegion
import Derived.Deep.RegionHeld3
/- The contract of names. -/
namespace Go.Proofs.Ytfbimhnlcmdcpaa.Pa
open Go.RowKit Go.Proofs.YtfbimhnlcmdcpaaW.PrintWords Go.Proofs.YtfbimhnlcmdcpaaW.PrintLast Go.Proofs.YtfbimhnlcmdcpaaW.PrintMore
set_option linter.unusedVariables false
set_option linter.unusedSimpArgs false

def classNames (cs : List Cl) (l : List Int) : List ByteArray := l.map (fun c => (cs.getD c.toNat zCl).f0)
/-- the names of the classes of the first trade, from heading i on, with a word -/
def namesFrom (cs : List Cl) (hs : List Hd) (s : ByteArray) : Nat → Nat → Option (List ByteArray)
  | 0, _ => none
  | k + 1, i => if sEq (hs.getD i zHd).f0 s = true ∧ (hs.getD i zHd).f1 ≠ -1 then some (classNames cs (pathT cs (hs.getD i zHd).f1)) else namesFrom cs hs s k (i + 1)
def namesT (cs : List Cl) (hs : List Hd) (s : ByteArray) : Option (List ByteArray) := namesFrom cs hs s hs.length 0
theorem infoStr : (Try.prog.info? 9).map (fun i => (i.zero, i.size, i.bytes)) = some (some (.string ⟨#[]⟩), 1, 16) := by kernel_rfl
theorem strR_of_own {w : World} {base n : Nat} {v : Value} {xs : List ByteArray} (h : w.ownsRow base 9 1 v n (xs.map Value.string)) : Kd.string.R 9 w base (fun _ => True) v xs := by
  have hn : n = xs.length := by have := h.1; simp at this; omega
  subst hn
  exact ⟨fun _ _ => trivial, _, h, Kd.reps_scalar xs⟩
theorem pathT_in (cs : List Cl) (c : Int) (j : Nat) (hj : j < (pathT cs c).length) : ∃ p : Nat, (pathT cs c).getD j 0 = p ∧ p < cs.length := by
  have hm : (pathT cs c)[j] ∈ pathT cs c := List.getElem_mem _
  have hm2 := (List.mem_filter.1 hm).1
  obtain ⟨p, hp, he⟩ := List.mem_map.1 hm2
  exact ⟨p, by rw [List.getD_eq_getElem?_getD, List.getElem?_eq_getElem hj]; exact he.symm, List.mem_range.1 hp⟩
theorem pathT_len (cs : List Cl) (c : Int) : (pathT cs c).length ≤ cs.length := by
  have := List.length_filter_le (fun o => isUp cs c o) (nats cs.length)
  rwa [nats_length] at this

set_option maxHeartbeats 4000000 in
set_option maxRecDepth 100000 in
theorem names_any (g : Nat) (cs : List Cl) (hs : List Hd) (s : ByteArray) (w : World) (hL : IsList w g cs hs) (hv : Valid cs hs) :
    Calls Try.prog 58 #[.pointer (some ⟨g, 0, none⟩), .string s] w fun e w' => ∃ v, e = .returned (.tuple #[v, .bool (namesT cs hs s).isSome]) ∧ Kd.string.R 9 w' w.heap.size (fun _ => True) v ((namesT cs hs s).getD []) ∧ Below w.heap.size w w' := by
  obtain ⟨m0, m1, -, -⟩ := hv.split
  have hu2 := Try.underlying26
  have hu3 := Try.underlying81
  have hu4 := Try.underlying39
  have hu5 := Try.underlying51
  obtain ⟨i0, hi, hz0, hz1, hz2⟩ := info_parts infoStr
  obtain ⟨A0, c0, A1, c1, A2, c2, A3, c3, hg, l0, l1, r0, r1, r2, r3⟩ := hL.ok
  obtain ⟨g0, g1, g2, g3⟩ := cells4 hg
  have HP := fun (n : Nat) (hn : n < cs.length) W (hW : Below w.heap.size w W) => path_any g cs hs n W (hL.below hW) hv hn
  have HR : Hid (namesT cs hs s = namesFrom cs hs s hs.length 0) := rfl
  obtain ⟨R, hR⟩ : ∃ R, namesT cs hs s = R := ⟨_, rfl⟩
  rw [hR] at HR ⊢
  clear hL hR
  go_enter Try.func58, Try.ntmps58
  go_wp2
  go_loopg [17] hs.length (fun gk v wr => ∃ k : Nat, k + gk = hs.length ∧ v = .int .i64 k ∧ Below w.heap.size w wr ∧ Hid (namesFrom cs hs s gk k = R))
  case atStart => exact ⟨0, by omega, rfl, Below.refl _ _, by show _ = _; exact HR.out.symm⟩
  case round =>
    obtain ⟨k, hk, rfl, hb, HK⟩ := hrel
    by_cases hlt : k < hs.length
    · obtain ⟨gk, rfl⟩ : ∃ m, gk = m + 1 := ⟨gk - 1, by omega⟩
      have hgd := (hv.head k hlt).cl
      have HK2 : Hid (R = if sEq (hs.getD k zHd).f0 s = true ∧ (hs.getD k zHd).f1 ≠ -1 then some (classNames cs (pathT cs (hs.getD k zHd).f1)) else namesFrom cs hs s gk (k + 1)) := by show _ = _; rw [← HK.out]; rfl
      clear HK
      obtain ⟨ad, A3', c3', e, h0, h1, h2, h3, h4, h5⟩ := hdAt r1 k hlt
      cases e
      obtain ⟨x, hx⟩ : ∃ x, hs.getD k zHd = x := ⟨_, rfl⟩
      rw [hx] at h0 h1 h2 h3 h4 h5 HK2 hgd
      clear hx
      replace h0 := pw_cell_below hb h0
      replace h1 := pw_cell_below hb h1
      replace h2 := pw_cell_below hb h2
      replace h3 := pw_cell_below hb h3
      have hbd := fun o => hb.alloc hb.size o
      by_cases he : sEq x.f0 s = true
      · have he1 : (x.f0.toList == s.toList) = true := by rw [toList_data, toList_data]; exact he
        by_cases hc : x.f1 = -1
        · have hc1 : (x.f1 == -1) = true := beq_iff_eq.mpr hc
          have HK3 : Hid (namesFrom cs hs s gk (k + 1) = R) := by show _ = _; rw [HK2.out, if_neg (fun h => h.2 hc)]
          clear HK2 he hc
          go_wp2
          go_roundg gk
          case measure => omega
          case rel => exact ⟨k + 1, by omega, by go_num, hbd _, HK3⟩
        · have hc1 : (x.f1 == -1) = false := beq_eq_false_iff_ne.mpr hc
          have HK3 : Hid (R = some (classNames cs (pathT cs x.f1))) := by show _ = _; rw [HK2.out, if_pos ⟨he, hc⟩]
          obtain ⟨p, hp⟩ : ∃ p : Nat, x.f1 = p := ⟨x.f1.toNat, by omega⟩
          have HPp := HP p (by omega)
          have hin := fun j hj => pathT_in cs p j hj
          have hpl := pathT_len cs p
          rw [hp] at HK3 h1 hc1
          obtain ⟨T, hT⟩ : ∃ T, pathT cs p = T := ⟨_, rfl⟩
          rw [hT] at HK3 hin hpl
          simp only [hT] at HPp
          clear HK2 he hc hT hp
          go_wp2_with (go_at_call 61; (with_reducible refine (HPp _ (hbd _)).mono ?_); rintro e w3 ⟨v, rfl, hR3, hb3⟩; obtain ⟨Ar, cr, rfl, -, hC3⟩ := Kd.R_reads hR3; have HB3 := below_then (hbd _) (hbd _).size hb3; clear hR3 hb3)
          have hTl : T.length ≤ 6 := by omega
          go_loopg [8, 35] T.length (fun gj v8 v wr => ∃ j : Nat, j + gj = T.length ∧ v = .int .i64 j ∧ Below w3.heap.size w3 wr ∧ wr.ownsRow w3.heap.size 9 1 v8 (classNames cs (T.take j)).length ((classNames cs (T.take j)).map Value.string))
          case atStart => exact ⟨0, by omega, rfl, Below.refl _ _, own_nil _ _ _ _⟩
          case round =>
            obtain ⟨j, hj, rfl, hbw, ho⟩ := hrel
            by_cases hjl : j < T.length
            · obtain ⟨q, hq, hql⟩ := hin j hjl
              obtain ⟨aj, ej, hcj⟩ := intAt (Kd.C_below hC3 hbw) j hjl
              cases ej
              rw [hq] at hcj
              have HBw := below_then HB3 HB3.size hbw
              have q0 := pw_cell_below HBw g0
              obtain ⟨ac, ec, k0, k1⟩ := clAt (Kd.C_below r0 HBw) q hql
              cases ec
              have HNx : Hid (classNames cs (T.take (j + 1)) = classNames cs (T.take j) ++ [(cs.getD q zCl).f0]) := by
                show _ = _
                have : T[j] = (q : Int) := by rw [← hq, List.getD_eq_getElem?_getD, List.getElem?_eq_getElem hjl]; rfl
                rw [List.take_succ_eq_append_getElem hjl, this]
                simp [classNames]
              have hcl : (classNames cs (T.take j)).length = j := by simp [classNames]; omega
              obtain ⟨F, hF⟩ : ∃ F, classNames cs (T.take j) = F := ⟨_, rfl⟩
              obtain ⟨y, hy⟩ : ∃ y, cs.getD q zCl = y := ⟨_, rfl⟩
              rw [hF] at ho HNx hcl
              rw [hy] at k0 k1 HNx
              clear hF hy hq
              go_wp2_with (at_builtin; refine wpList_append_own _ rfl _ _ 65 rfl w3.heap.size 9 i0 (.string ⟨#[]⟩) 1 16 Try.underlying65 hi hz0 hz1 hz2 rfl (by decide) _ _ _ rfl (ho.alloc _) ⟨wr.heap.size, 0, none⟩ 1 1 [.string y.f0] rfl rfl (cell_one_new _ _ _) (by simp [Value.oneCell']) (by unfold maxLen; omega) (by omega) (by have := hbw.size; simp; omega) ?_; intro v' w4 hown4 hgrow4 _; have HB4 := Below.grown (hbw.alloc hbw.size _) hgrow4 (by have := hbw.size; simp; omega) (fun j hj => (ho.lt j hj).1); have HO := Lib.hid hown4; clear hown4 hgrow4)
              go_roundg (T.length - (j + 1))
              case measure => omega
              case rel => exact ⟨j + 1, by omega, by go_num, HB4, by rw [HNx.out, List.map_append, List.length_append]; exact HO.out⟩
            · obtain rfl : j = T.length := by omega
              rw [List.take_length] at ho
              have HR3 := strR_of_own ho
              go_wp2
              go_ret2
              exact ⟨_, by rw [HK3.out]; rfl, by rw [HK3.out]; exact Kd.R_lower HR3 HB3.size, below_then HB3 HB3.size hbw⟩
      · have he1 : (x.f0.toList == s.toList) = false := by rw [toList_data, toList_data]; simpa [sEq] using he
        have HK3 : Hid (namesFrom cs hs s gk (k + 1) = R) := by show _ = _; rw [HK2.out, if_neg (fun h => he h.1)]
        clear HK2 he
        go_wp2
        go_roundg gk
        case measure => omega
        case rel => exact ⟨k + 1, by omega, by go_num, hbd _, HK3⟩
    · obtain rfl : k = hs.length := by omega
      obtain rfl : gk = 0 := by omega
      have HR2 : Hid (R = none) := by show _ = _; rw [← HK.out]; rfl
      go_wp2
      go_ret2
      exact ⟨_, by rw [HR2.out]; rfl, by rw [HR2.out]; exact Kd.R_nil _ _ _ _ _, hb⟩
end Go.Proofs.Ytfbimhnlcmdcpaa.Pa
/- The contract of slices.Clone at headings: the words of its result. -/
namespace Go.Proofs.Ytfbimhnlcmdcpaa.Pa
open Go.RowKit Go.Proofs.YtfbimhnlcmdcpaaW.PrintWords Go.Proofs.YtfbimhnlcmdcpaaW.PrintLast Go.Proofs.YtfbimhnlcmdcpaaW.PrintMore
set_option linter.unusedVariables false
set_option linter.unusedSimpArgs false

/-- the cells of a heading with a word -/
def hwK (x : ByteArray) (cs : List Value) : Prop := ∃ i j A n c, cs = [.string x, .int .i64 i, .int .i64 j, .slice A n c]
def kHw : Kd ByteArray where
  sz := 4
  E := []
  K := fun _ x cs => hwK x cs
  M := fun _ _ _ x cs => hwK x cs
  K_len := by rintro _ _ _ ⟨i, j, A, n, c, rfl⟩; rfl
  K_one := by
    rintro _ _ _ ⟨i, j, A, n, c, rfl⟩ u hu
    simp only [List.mem_cons, List.not_mem_nil, or_false] at hu
    rcases hu with rfl | rfl | rfl | rfl <;> rfl
  K_below := fun _ h => h
  K_of_M := fun h => h
  M_mono := fun _ h => h
  M_bound := fun h => h
  M_move := fun _ h => h
  M_lower := fun _ h => h
theorem hw_of_heads {w : World} {A : Option Addr} {n : Nat} {hs : List Hd} (h : Kd.C k39 w A n hs) : kHw.C w A n (hs.map (fun x => x.f0)) := by
  refine ⟨by rw [List.length_map]; exact h.1, h.2.1, fun hn => ?_⟩
  obtain ⟨ad, e, hc⟩ := h.2.2 hn
  refine ⟨ad, e, fun j p hp => ?_⟩
  rw [List.getElem?_map] at hp
  obtain ⟨x, hx, rfl⟩ := Option.map_eq_some_iff.1 hp
  obtain ⟨c, hl, hK, hcc⟩ := hc j x hx
  obtain ⟨A3, c3, rfl, -, -⟩ := k39_open hK
  exact ⟨_, rfl, ⟨_, _, _, _, _, rfl⟩, hcc⟩
theorem hwAt {w : World} {A : Option Addr} {n : Nat} {xs : List ByteArray} (h : kHw.C w A n xs) (k : Nat) (hk : k < n) :
    ∃ ad i j A3 n3 c3, A = some ad ∧ w.cell? (ad.add (k * 4)) = some (.string (xs.getD k ByteArray.empty)) ∧ w.cell? ⟨(ad.add (k * 4)).block, (ad.add (k * 4)).off + 1, none⟩ = some (.int .i64 i) ∧ w.cell? ⟨(ad.add (k * 4)).block, (ad.add (k * 4)).off + 2, none⟩ = some (.int .i64 j) ∧ w.cell? ⟨(ad.add (k * 4)).block, (ad.add (k * 4)).off + 3, none⟩ = some (.slice A3 n3 c3) := by
  obtain ⟨ad, c, e, _, hK, hc0⟩ := Kd.C_get h ByteArray.empty (k : Int) (by omega) (by omega)
  rw [Int.toNat_natCast] at hK hc0
  have hc : ∀ j u, c[j]? = some u → w.cell? (ad.add (k * 4 + j)) = some u := hc0
  obtain ⟨i, j, A3, n3, c3, rfl⟩ := hK
  exact ⟨ad, i, j, A3, n3, c3, e, hc 0 _ rfl, by rw [← add_field _ _ 1 (by omega)]; exact hc 1 _ rfl, by rw [← add_field _ _ 2 (by omega)]; exact hc 2 _ rfl, by rw [← add_field _ _ 3 (by omega)]; exact hc 3 _ rfl⟩
theorem infoHd : (Try.prog.info? 39).map (fun i => (i.zero, i.size, i.bytes)) = some (some (.agg #[.string ⟨#[]⟩, .int .i64 0, .int .i64 0, .slice none 0 0]), 4, 56) := by kernel_rfl

set_option maxHeartbeats 1000000 in
set_option maxRecDepth 100000 in
theorem clone_any (A : Option Addr) (c : Nat) (xs : List ByteArray) (w : World) (hC : kHw.C w A xs.length xs) (hl : xs.length ≤ 100) :
    Calls Try.prog 54 #[.slice A xs.length c] w fun e w' => ∃ v, e = .returned v ∧ kHw.R 39 w' w.heap.size (fun _ => True) v xs ∧ Below w.heap.size w w' := by
  cases A with
  | none =>
    have hq := fun W => Lib.run_eql_slice_nil (P := Try.prog) W 24 _ none 0 c 0 0 Try.underlying24
    have hx : xs = [] := by
      rcases Nat.eq_zero_or_pos xs.length with h | h
      · exact List.eq_nil_of_length_eq_zero h
      · obtain ⟨ad, e, _⟩ := hC.2.2 h
        cases e
    subst hx
    clear hC
    go_enter Try.func54, Try.ntmps54
    go_wp2
    go_ret
    exact ⟨_, rfl, Kd.R_nil _ _ _ _ _, Below.refl _ _⟩
  | some ad =>
    have hq := fun W => Lib.run_eql_slice_nil (P := Try.prog) W 24 _ (some ad) xs.length c 0 0 Try.underlying24
    have hB := (Below.refl w.heap.size w).alloc (Nat.le_refl _) (.cells #[] 39)
    have hC1 := Kd.C_below hC hB
    have hR0 : kHw.R 39 (w.alloc (.cells #[] 39)) w.heap.size (fun _ => True) (.slice (some ⟨w.heap.size, 0, none⟩) 0 0) [] :=
      ⟨fun _ _ => trivial, [], ⟨rfl, .inr ⟨w.heap.size, 0, #[], rfl, Nat.le_refl _, heap_alloc_new w _, Nat.le_refl _, by simp [maxLen], rfl, rfl⟩⟩, Reps.none _ _⟩
    clear hC
    go_enter Try.func54, Try.ntmps54
    go_wp2_with (at_builtin; go_loud (refine Kd.R_append_rows kHw (w0 := w) w.heap.size rfl _ _ 24 39 _ 56 rfl Try.underlying24 infoHd rfl (by decide) (by decide) _ [] xs (some ad) xs.length c (fun _ => True) (fun k => some k ≠ some w.heap.size) rfl rfl hR0 hC1 (fun _ _ h => h) (fun k hk => ⟨trivial, hk⟩) (fun _ _ => trivial) hB (by simp) (by simp; omega) ?_; intro v1 w1 hv1 hb1 _ _; have HV := Lib.hid hv1; clear hv1))
    go_ret
    exact ⟨_, rfl, HV.out, hb1⟩
end Go.Proofs.Ytfbimhnlcmdcpaa.Pa
/- The order of strings; the contract of strings.Compare. -/
namespace Go.Proofs.Ytfbimhnlcmdcpaa.Pa
open Go.RowKit Go.Lib Go.Proofs.YtfbimhnlcmdcpaaW.PrintWords Go.Proofs.YtfbimhnlcmdcpaaW.PrintLast Go.Proofs.YtfbimhnlcmdcpaaW.PrintMore
set_option linter.unusedVariables false
set_option linter.unusedSimpArgs false

theorem u8_cases (a b : UInt8) : a < b ∨ a = b ∨ b < a := by
  rcases Nat.lt_trichotomy a.toNat b.toNat with h | h | h
  · exact .inl (UInt8.lt_iff_toNat_lt.mpr h)
  · exact .inr (.inl (UInt8.toNat_inj.mp h))
  · exact .inr (.inr (UInt8.lt_iff_toNat_lt.mpr h))
theorem u8_asymm {a b : UInt8} (h : a < b) : ¬ b < a := by
  have := UInt8.lt_iff_toNat_lt.mp h
  intro h2
  have := UInt8.lt_iff_toNat_lt.mp h2
  omega
theorem u8_irrefl (a : UInt8) : ¬ a < a := fun h => u8_asymm h h
theorem u8_trans {a b c : UInt8} (h : a < b) (h2 : b < c) : a < c := by
  have := UInt8.lt_iff_toNat_lt.mp h
  have := UInt8.lt_iff_toNat_lt.mp h2
  exact UInt8.lt_iff_toNat_lt.mpr (by omega)
/-- the order of strings, as a relation -/
theorem cmp_neg : ∀ (a b : List UInt8), (compareBytes a b < 0) ↔ Op.bytesLess a b = true
  | [], [] => by simp [compareBytes, Op.bytesLess]
  | [], b :: ys => by simp [compareBytes, Op.bytesLess]
  | a :: xs, [] => by simp [compareBytes, Op.bytesLess]
  | a :: xs, b :: ys => by
    have ih := cmp_neg xs ys
    unfold compareBytes Op.bytesLess
    rcases u8_cases a b with h | h | h
    · simp [h]
    · subst h
      simp [u8_irrefl, ih]
    · have h2 := u8_asymm h
      have h3 : ¬ a = b := fun e => u8_irrefl b (e ▸ h)
      simp [h, h2, h3]
theorem bl_irrefl : ∀ a : List UInt8, Op.bytesLess a a = false
  | [] => rfl
  | a :: xs => by simp [Op.bytesLess, u8_irrefl, bl_irrefl xs]
theorem bl_cons (a b : UInt8) (x y : List UInt8) : Op.bytesLess (a :: x) (b :: y) = true ↔ a < b ∨ (a = b ∧ Op.bytesLess x y = true) := by simp [Op.bytesLess]
theorem bl_trans : ∀ a b c : List UInt8, Op.bytesLess a b = true → Op.bytesLess b c = true → Op.bytesLess a c = true
  | _, b, [], _, h2 => by cases b <;> simp [Op.bytesLess] at h2
  | [], b, c :: zs, _, _ => rfl
  | a :: xs, [], c :: zs, h1, _ => by simp [Op.bytesLess] at h1
  | a :: xs, b :: ys, c :: zs, h1, h2 => by
    rw [bl_cons] at h1 h2 ⊢
    rcases h1 with h1 | ⟨rfl, h1⟩
    · rcases h2 with h2 | ⟨rfl, h2⟩
      · exact .inl (u8_trans h1 h2)
      · exact .inl h1
    · rcases h2 with h2 | ⟨rfl, h2⟩
      · exact .inl h2
      · exact .inr ⟨rfl, bl_trans xs ys zs h1 h2⟩
theorem bl_total : ∀ a b : List UInt8, Op.bytesLess a b = false → Op.bytesLess b a = false → a = b
  | [], [], _, _ => rfl
  | [], b :: ys, h, _ => by simp [Op.bytesLess] at h
  | a :: xs, [], _, h => by simp [Op.bytesLess] at h
  | a :: xs, b :: ys, h1, h2 => by
    have k1 : ¬ (a < b ∨ (a = b ∧ Op.bytesLess xs ys = true)) := fun h => by rw [← bl_cons] at h; rw [h] at h1; cases h1
    have k2 : ¬ (b < a ∨ (b = a ∧ Op.bytesLess ys xs = true)) := fun h => by rw [← bl_cons] at h; rw [h] at h2; cases h2
    rcases u8_cases a b with h | h | h
    · exact absurd (.inl h) k1
    · subst h
      rw [bl_total xs ys (by simpa using fun h => k1 (.inr ⟨rfl, h⟩)) (by simpa using fun h => k2 (.inr ⟨rfl, h⟩))]
    · exact absurd (.inl h) k2
def cfS (x y : ByteArray) : Int := compareBytes x.data.toList y.data.toList
theorem sLt_total {x y : ByteArray} (h1 : sLt x y = false) (h2 : sLt y x = false) : x = y := by
  have := bl_total _ _ h1 h2
  exact ByteArray.ext (Array.toList_inj.mp this)
def sortW (l : List ByteArray) : List ByteArray := l.mergeSort (fun x y => !sLt y x)

set_option maxHeartbeats 1000000 in
set_option maxRecDepth 100000 in
theorem bytealg_any (a b : ByteArray) (w : World) :
    Calls Try.prog 78 #[.string a, .string b] w fun e w' => e = .returned (.int .i64 (compareBytes a.data.toList b.data.toList)) ∧ w' = w := by
  go_enter Try.func78, Try.ntmps78
  go_wp2
  rw [run_callFunc_extern Try.func103 (by kernel_rfl) (by kernel_rfl) (by kernel_rfl) (e := Extern.BytealgCompare.compare) (by kernel_rfl), Lib.run_compareString]
  simp only [Result.andThen]
  rw [Oper.upon_value]
  go_wp2
  go_ret
  exact ⟨rfl, rfl⟩
theorem compare_any (a b : ByteArray) (w : World) : Calls Try.prog 56 #[.string a, .string b] w fun e w' => e = .returned (.int .i64 (cfS a b)) ∧ ∃ q, w' = w.drewN q := by
  go_enter Try.func56, Try.ntmps56
  go_wp2_with (go_at_call 78; refine (bytealg_any _ _ _).mono ?_; rintro e w' ⟨rfl, rfl⟩)
  go_ret
  exact ⟨rfl, 0, rfl⟩
end Go.Proofs.Ytfbimhnlcmdcpaa.Pa
/-
  DERIVED: THE SHELF's CONTRACTS AT THIS DUMP, IN PLAIN WORDS (tools/lay-plain.mjs out of 'YtfbimhnlcmdcpaaHShelf.lean', which tools/lay-shelf.mjs wrote): THE SAME DECLARATIONS UNDER THE SAME NAMES: 'import', 'namespace', 'open', 'def', 'theorem' AND NOTHING ELSE: no command of the shelf's: FOR A HAND-IN. Each laying: the table of numbers ('.._ren') and one theorem, a field a fact of the dump's own or the kernel's comparison; each contract: ONE APPLICATION.
-/
namespace Go.Proofs
open Go.Shelf
def Try.sortStr_ren : Go.Shelf.Ren := ⟨fun | 6 => 55 | 15 => 77 | 14 => 76 | 28 => 101 | 29 => 102 | 20 => 93 | 21 => 94 | 22 => 95 | 23 => 96 | 24 => 97 | 25 => 98 | 26 => 99 | 27 => 100 | 46 => 113 | 47 => 114 | 48 => 115 | 49 => 116 | 50 => 117 | 57 => 122 | n => n, fun | 22 => 65 | 24 => 9 | 25 => 94 | 3 => 3 | 39 => 110 | 0 => 0 | 53 => 154 | 55 => 70 | 4 => 4 | 46 => 147 | 45 => 146 | 50 => 151 | 5 => 5 | 9 => 9 | 66 => 167 | 70 => 170 | 76 => 178 | 77 => 179 | n => n, fun | n => n⟩
theorem Try.sortStr : Go.Proofs.SlLaysF.n6 Try.prog Try.sortStr_ren := {
  mixed := by kernel_rfl
  f6 := ⟨Try.f55.name, by decide, Try.func55.trans (congrArg some (by kernel_rfl))⟩
  f14 := ⟨Try.f76.name, by decide, Try.func76.trans (congrArg some (by kernel_rfl))⟩
  f15 := Try.func77.trans (congrArg some (by kernel_rfl))
  f20 := ⟨Try.f93.name, by decide, Try.func93.trans (congrArg some (by kernel_rfl))⟩
  f21 := ⟨Try.f94.name, by decide, Try.func94.trans (congrArg some (by kernel_rfl))⟩
  f22 := ⟨Try.f95.name, by decide, Try.func95.trans (congrArg some (by kernel_rfl))⟩
  f23 := ⟨Try.f96.name, by decide, Try.func96.trans (congrArg some (by kernel_rfl))⟩
  f24 := ⟨Try.f97.name, by decide, Try.func97.trans (congrArg some (by kernel_rfl))⟩
  f25 := ⟨Try.f98.name, by decide, Try.func98.trans (congrArg some (by kernel_rfl))⟩
  f26 := ⟨Try.f99.name, by decide, Try.func99.trans (congrArg some (by kernel_rfl))⟩
  f27 := ⟨Try.f100.name, by decide, Try.func100.trans (congrArg some (by kernel_rfl))⟩
  f28 := Try.func101.trans (congrArg some (by kernel_rfl))
  f29 := Try.func102.trans (congrArg some (by kernel_rfl))
  f46 := ⟨Try.f113.name, by decide, Try.func113.trans (congrArg some (by kernel_rfl))⟩
  f47 := Try.func114.trans (congrArg some (by kernel_rfl))
  f48 := Try.func115.trans (congrArg some (by kernel_rfl))
  f49 := ⟨Try.f116.name, by decide, Try.func116.trans (congrArg some (by kernel_rfl))⟩
  f50 := ⟨Try.f117.name, by decide, Try.func117.trans (congrArg some (by kernel_rfl))⟩
  f57 := ⟨Try.f122.name, by decide, Try.func122.trans (congrArg some (by kernel_rfl))⟩
  t0 := Try.underlying0
  a0 := Try.isAgg0
  z0 := Try.sizeOf0
  v0 := Try.zeroValue0
  t3 := Try.underlying3
  a3 := Try.isAgg3
  z3 := Try.sizeOf3
  v3 := Try.zeroValue3
  t4 := Try.underlying4
  a4 := Try.isAgg4
  z4 := Try.sizeOf4
  v4 := Try.zeroValue4
  t5 := Try.underlying5
  a5 := Try.isAgg5
  z5 := Try.sizeOf5
  v5 := Try.zeroValue5
  t9 := Try.underlying9
  a9 := Try.isAgg9
  z9 := Try.sizeOf9
  v9 := Try.zeroValue9
  t22 := Try.underlying65
  a22 := Try.isAgg65
  z22 := Try.sizeOf65
  v22 := Try.zeroValue65
  a24 := Try.isAgg9
  z24 := Try.sizeOf9
  t25 := Try.underlying94
  a25 := Try.isAgg94
  z25 := Try.sizeOf94
  v25 := Try.zeroValue94
  t39 := Try.underlying110
  a39 := Try.isAgg110
  z39 := Try.sizeOf110
  v39 := Try.zeroValue110
  t45 := Try.underlying146
  a45 := Try.isAgg146
  z45 := Try.sizeOf146
  v45 := Try.zeroValue146
  t46 := Try.underlying147
  a46 := Try.isAgg147
  z46 := Try.sizeOf147
  v46 := Try.zeroValue147
  t50 := Try.underlying151
  a50 := Try.isAgg151
  z50 := Try.sizeOf151
  v50 := Try.zeroValue151
  t53 := Try.underlying154
  a53 := Try.isAgg154
  z53 := Try.sizeOf154
  v53 := Try.zeroValue154
  t55 := Try.underlying70
  a55 := Try.isAgg70
  z55 := Try.sizeOf70
  v55 := Try.zeroValue70
  t66 := Try.underlying167
  a66 := Try.isAgg167
  z66 := Try.sizeOf167
  v66 := Try.zeroValue167
  t70 := Try.underlying170
  a70 := Try.isAgg170
  z70 := Try.sizeOf170
  v70 := Try.zeroValue170
  t76 := Try.underlying178
  a76 := Try.isAgg178
  z76 := Try.sizeOf178
  v76 := Try.zeroValue178
  t77 := Try.underlying179
  a77 := Try.isAgg179
  z77 := Try.sizeOf179
  v77 := Try.zeroValue179 }
def Try.compStr_ren : Go.Shelf.Ren := ⟨fun | 43 => 57 | n => n, fun | 22 => 65 | 23 => 9 | 3 => 3 | 4 => 4 | 0 => 0 | n => n, fun | n => n⟩
theorem Try.compStr : Go.Proofs.SlLaysE.n43 Try.prog Try.compStr_ren := {
  mixed := by kernel_rfl
  f43 := ⟨Try.f57.name, by decide, Try.func57.trans (congrArg some (by kernel_rfl))⟩
  t0 := Try.underlying0
  a0 := Try.isAgg0
  z0 := Try.sizeOf0
  v0 := Try.zeroValue0
  t3 := Try.underlying3
  a3 := Try.isAgg3
  z3 := Try.sizeOf3
  v3 := Try.zeroValue3
  t4 := Try.underlying4
  a4 := Try.isAgg4
  z4 := Try.sizeOf4
  v4 := Try.zeroValue4
  t22 := Try.underlying65
  a22 := Try.isAgg65
  z22 := Try.sizeOf65
  v22 := Try.zeroValue65
  a23 := Try.isAgg9
  z23 := Try.sizeOf9 }
end Go.Proofs
/- The contracts of slices.SortFunc and slices.Compact at strings. -/
namespace Go.Proofs.Ytfbimhnlcmdcpaa.Pa
open Go.Shelf Go.RowKit Go.Lib Go.Sort Go.Proofs.YtfbimhnlcmdcpaaW.PrintWords Go.Proofs.YtfbimhnlcmdcpaaW.PrintLast Go.Proofs.YtfbimhnlcmdcpaaW.PrintMore
set_option linter.unusedVariables false
set_option linter.unusedSimpArgs false

theorem ltS (x y : ByteArray) : ltOf cfS x y = sLt x y := by
  unfold ltOf cfS sLt
  rw [Bool.eq_iff_iff, decide_eq_true_iff]
  exact cmp_neg _ _
theorem swoS : SWO (ltOf cfS) where
  irrefl x := by rw [ltS]; exact bl_irrefl _
  trans x y z h1 h2 := by rw [ltS] at *; exact bl_trans _ _ _ h1 h2
  ntrans x y z h1 h2 := by
    rw [ltS] at *
    cases h : sLt x z with
    | false => rfl
    | true =>
      exfalso
      cases h3 : sLt y x with
      | false =>
        have := sLt_total h1 h3
        subst this
        rw [h] at h2
        cases h2
      | true =>
        have := bl_trans _ _ _ h3 h
        rw [show sLt y z = true from this] at h2
        cases h2
theorem cmpReadsS (blk off size : Nat) (w : World) : CmpReads Try.prog 56 #[] Value.string cfS blk off size w := fun _ _ _ _ x y => compare_any x y _

/-- a row of strings that may be written -/
def StrRow (w : World) (v : Value) (xs : List ByteArray) : Prop :=
  (v = .slice none 0 0 ∧ xs = []) ∨ ∃ g cap, v = .slice (some ⟨g, 0, none⟩) xs.length cap ∧ xs.length ≤ cap ∧ g < w.heap.size ∧ Holds Value.string w g 0 xs.toArray
theorem StrRow.of_own {w : World} {base n : Nat} {v : Value} {xs : List ByteArray} (h : w.ownsRow base 9 1 v n (xs.map Value.string)) : StrRow w v xs := by
  by_cases hv : v = .slice none 0 0
  · subst hv
    rcases h.2 with ⟨_, hn⟩ | ⟨g, cap, cur, e, _⟩
    · subst hn
      exact .inl ⟨rfl, by have := h.1; simpa using this⟩
    · cases e
  · obtain ⟨g, cap, rfl, hb, hg, hn, _, hl, hH⟩ := holds_of_ownsRow h hv
    subst hl
    exact .inr ⟨g, cap, rfl, hn, hg, hH⟩
theorem grownBy_putRow (w : World) (g off n : Nat) (d : Array ByteArray) (os : Array Obj) : w.grownBy (sortWorld Value.string w g off n d os) (some g) := by
  refine ⟨rfl, rfl, rfl, ?_, fun k hk hne => ?_⟩
  · show w.heap.size ≤ ((w.heap.modify g _) ++ os).size
    simp
  · have hkg : g ≠ k := fun e => hne (by rw [e])
    show ((w.heap.modify g _) ++ os)[k]? = _
    rw [Array.getElem?_append_left (by simpa using hk), Array.getElem?_modify, if_neg hkg]
theorem sort_any (v : Value) (xs : List ByteArray) (w : World) (h : StrRow w v xs) (hl : xs.length ≤ 100) :
    Calls Try.prog 55 #[v, .func (.func 56) #[] #[]] w fun e w' => e = .returned (.tuple #[]) ∧ w.grownBy w' v.ownBlock ∧ StrRow w' v (sortW xs) := by
  rcases h with ⟨rfl, rfl⟩ | ⟨g, cap, rfl, hc, hg, hH⟩
  · have hS := AnyF.slices_SortFunc_none (P := Try.prog) (ρ := Try.sortStr_ren) { Try.sortStr with } none 0 (.func (.func 56) #[] #[]) w
    change Calls Try.prog 55 _ _ _ at hS
    refine hS.mono ?_
    rintro e w' ⟨rfl, rfl⟩
    exact ⟨rfl, World.grownBy.refl _ _, .inl ⟨rfl, by simp [sortW]⟩⟩
  · have eg : ∀ args w, (callFunc 56 args).run Try.prog w = .ok (.enter 56 args) w := enters_of Try.func56 (by kernel_rfl) rfl
    have hS := Any.slices_SortFunc_total Try.sortStr Value.string (fun _ => rfl) cfS swoS 56 #[] g 0 cap xs.toArray w eg (cmpReadsS g 0 xs.toArray.size w).lays hH hg (by simp; omega) (fun x y h1 h2 => by rw [ltS] at h1 h2; exact sLt_total h1 h2)
    have hge : (fun x y : ByteArray => !ltOf cfS y x) = fun x y => !sLt y x := by funext x y; rw [ltS]
    rw [hge] at hS
    change Calls Try.prog 55 _ _ _ at hS
    have hsz : xs.toArray.size = xs.length := by simp
    rw [hsz] at hS
    refine hS.mono ?_
    rintro e w' ⟨rfl, n, os, rfl⟩
    have hlen : (sortW xs).length = xs.length := by unfold sortW; simp
    refine ⟨rfl, grownBy_putRow w g 0 n _ os, .inr ⟨g, cap, by rw [hlen], by rw [hlen]; exact hc, lt_sortWorld Value.string w g 0 n _ os hg, ?_⟩⟩
    have := holds_sortWorld Value.string w g 0 n xs.toArray (sortW xs).toArray os hg hH (by simp [hlen])
    simpa [sortW] using this
theorem eq_dec : (fun x y : ByteArray => x.toList == y.toList) = fun x y => decide (x = y) := by
  funext x y
  rw [toList_data, toList_data, Bool.eq_iff_iff, beq_iff_eq, decide_eq_true_iff]
  exact ⟨fun h => ByteArray.ext (Array.toList_inj.mp h), fun h => by rw [h]⟩
theorem grownBy_putRow0 (w : World) (g q : Nat) (d : Array ByteArray) : w.grownBy (putRow Value.string (Sort.ahead w q) g 0 d) (some g) := by
  have h := grownBy_putRow w g 0 q d #[]
  unfold sortWorld at h
  rw [grow_empty] at h
  exact h
theorem strs_of_holds {w : World} {g n : Nat} {d : Array ByteArray} (h : Holds Value.string w g 0 d) (xs : List ByteArray) (hx : xs.length = n) (hn : n ≤ 100) (hp : ∀ j, j < n → j < d.size ∧ d[j]! = xs.getD j ByteArray.empty) : Kd.string.C w (some ⟨g, 0, none⟩) n xs := by
  refine ⟨hx, by omega, fun _ => ⟨_, rfl, fun j p hj => ?_⟩⟩
  have hjl := (List.getElem?_eq_some_iff.1 hj).1
  obtain ⟨h1, h2⟩ := hp j (by omega)
  refine ⟨[.string p], rfl, rfl, fun i u hu => ?_⟩
  have hi : i = 0 := by
    have := (List.getElem?_eq_some_iff.1 hu).1
    simp at this
    exact this
  subst hi
  obtain rfl : Value.string p = u := by simpa using hu
  have hc := (h j h1).1
  rw [h2, List.getD_eq_getElem?_getD, hj] at hc
  have ha : ((⟨g, 0, none⟩ : Addr).add (j * 1 + 0)) = ⟨g, 0 + j, none⟩ := by
    rw [add_plain]; simp
  show w.cell? ((⟨g, 0, none⟩ : Addr).add (j * 1 + 0)) = _
  rw [ha]
  exact hc
theorem compact_any (v : Value) (xs : List ByteArray) (w : World) (h : StrRow w v xs) (hl : xs.length ≤ 100) :
    Calls Try.prog 57 #[v] w fun e w' => ∃ A c, e = .returned (.slice A (compact xs).length c) ∧ w.grownBy w' v.ownBlock ∧ Kd.string.C w' A (compact xs).length (compact xs) := by
  rcases h with ⟨rfl, rfl⟩ | ⟨g, cap, rfl, hc, hg, hH⟩
  · go_enter Try.func57, Try.ntmps57
    go_wp2
    go_ret
    exact ⟨none, 0, rfl, World.grownBy.refl _ _, rfl, by decide, fun h => absurd h (by decide)⟩
  · have he : EqlAt Try.prog 9 Value.string (fun x y => decide (x = y)) := by
      have := EqlAt.string Try.prog 9
      rwa [eq_dec] at this
    have hn : NeqAt Try.prog 9 Value.string (fun x y => decide (x = y)) := by
      have := NeqAt.string Try.prog 9
      rwa [eq_dec] at this
    have hC := AnyE.slices_Compact Try.compStr Value.string (fun _ => rfl) he hn ByteArray.empty (fun _ => by kernel_rfl) g 0 cap xs.toArray w hH (by simp; omega) (by simpa using hc)
    change Calls Try.prog 57 _ _ _ at hC
    have hsz : xs.toArray.size = xs.length := by simp
    rw [hsz] at hC
    refine hC.mono ?_
    rintro e w' ⟨rfl, q, rfl⟩
    have hcl : compactUpTo xs.toArray xs.length = compact xs := rfl
    rw [hcl]
    have hle : (compact xs).length ≤ xs.length := by
      unfold compact compactUpTo
      rw [List.length_map]
      have := List.length_filter_le (keeps xs.toArray) (List.range xs.length)
      rwa [List.length_range] at this
    refine ⟨_, _, rfl, grownBy_putRow0 w g q _, ?_⟩
    have hH2 := holds_putRow Value.string (Sort.ahead w q) g 0 xs.toArray (compact xs ++ List.replicate (xs.length - (compact xs).length) ByteArray.empty).toArray hH (by simp; omega)
    refine strs_of_holds hH2 (compact xs) rfl (by omega) (fun j hj => ⟨by simp; omega, ?_⟩)
    rw [getElem!_pos _ j (by simp; omega)]
    simp [List.getElem_append_left hj, List.getD_eq_getElem?_getD, List.getElem?_eq_getElem hj]
end Go.Proofs.Ytfbimhnlcmdcpaa.Pa
/- The contract of Compare. -/
namespace Go.Proofs.Ytfbimhnlcmdcpaa.Pa
open Go.RowKit Go.Proofs.YtfbimhnlcmdcpaaW.PrintWords Go.Proofs.YtfbimhnlcmdcpaaW.PrintLast Go.Proofs.YtfbimhnlcmdcpaaW.PrintMore
set_option linter.unusedVariables false
set_option linter.unusedSimpArgs false

abbrev Mv := S47
/-- what became of a word: p: its names before, q: after -/
def moveOf (s : ByteArray) (p q : Option (List ByteArray)) : List Mv :=
  if p.isSome && !q.isSome then [⟨s, 1⟩] else if q.isSome && !p.isSome then [⟨s, 2⟩] else if decide (p.getD [] = q.getD []) = false then [⟨s, 3⟩] else []
def wordsT (hs1 hs2 : List Hd) : List ByteArray := Lib.compact (sortW (hs1.map (fun x => x.f0) ++ hs2.map (fun x => x.f0)))
def movesT (cs1 : List Cl) (hs1 : List Hd) (cs2 : List Cl) (hs2 : List Hd) : List Mv :=
  (wordsT hs1 hs2).flatMap (fun s => moveOf s (namesT cs1 hs1 s) (namesT cs2 hs2 s))
def trade_Compare.f (cs1 : List Cl) (hs1 : List Hd) (cs2 : List Cl) (hs2 : List Hd) : Option (List Mv × Int) :=
  some (if checkT cs1 hs1 ≠ 0 then ([], checkT cs1 hs1) else if checkT cs2 hs2 ≠ 0 then ([], checkT cs2 hs2) else (movesT cs1 hs1 cs2 hs2, 0))

theorem equalL (xs ys : List ByteArray) (hl : xs.length = ys.length) (hb : xs.length ≤ 100) : ∀ (k i : Nat), i ≤ xs.length → xs.length < k + i →
    slices_Equal_string_string.l0 k xs ys (xs.length : Int) i = some (decide (xs.drop i = ys.drop i))
  | 0, i, h1, h2 => by omega
  | k + 1, i, h1, h2 => by
    show (if (i : Int) < (xs.length : Int) then _ else _) = _
    by_cases hi : i < xs.length
    · have hw : wrap64 ((i : Int) + 1) = ((i + 1 : Nat) : Int) := by unfold wrap64; omega
      rw [if_pos (by omega), if_pos (by omega), if_pos (by omega), if_pos (by omega), hw, equalL xs ys hl hb k (i + 1) (by omega) (by omega)]
      have e1 : rdOf ByteArray.empty xs (i : Int) = xs[i] := by simp [rdOf, List.getD_eq_getElem?_getD, List.getElem?_eq_getElem hi]
      have e2 : rdOf ByteArray.empty ys (i : Int) = ys[i] := by simp [rdOf, List.getD_eq_getElem?_getD, List.getElem?_eq_getElem (show i < ys.length by omega)]
      rw [e1, e2, List.drop_eq_getElem_cons hi, List.drop_eq_getElem_cons (show i < ys.length by omega)]
      by_cases he : xs[i] = ys[i]
      · rw [if_pos (by rw [he]), he]
        simp only [List.cons.injEq, true_and]
      · rw [if_neg (fun h => he (by
          rw [toList_data, toList_data] at h
          exact ByteArray.ext (Array.toList_inj.mp h))), decide_eq_false (fun h => he (List.cons.inj h).1)]
    · rw [if_neg (by omega), List.drop_eq_nil_of_le (by omega), List.drop_eq_nil_of_le (by omega)]
      rfl
theorem equal_strs (xs ys : List ByteArray) (hb : xs.length ≤ 100) : slices_Equal_string_string.f 101 xs ys = some (decide (xs = ys)) := by
  unfold slices_Equal_string_string.f
  by_cases hl : xs.length = ys.length
  · rw [if_pos (by omega)]
    exact equalL xs ys hl hb 101 0 (by omega) (by omega)
  · rw [if_neg (by omega), decide_eq_false (fun h => hl (by rw [h]))]

def mvCells (l : List Mv) : List Value := l.flatMap (fun x => [.string x.f0, .int .i64 x.f1])
theorem mvCells_append (a b : List Mv) : mvCells (a ++ b) = mvCells a ++ mvCells b := by simp [mvCells]
theorem mv_reps (w : World) (base : Nat) (ok : Nat → Prop) (l : List Mv) : Reps (k47.M w base ok) 2 l (mvCells l) := by
  induction l with
  | nil => exact Reps.none _ _
  | cons r l ih => exact Kd.reps_append (Reps.snoc (Reps.none _ _) (k47_mkM w base ok r) rfl) ih
theorem infoMv : (Try.prog.info? 47).map (fun i => (i.zero, i.size, i.bytes)) = some (some (.agg #[.string ⟨#[]⟩, .int .i64 0]), 2, 24) := by kernel_rfl

theorem compact_len (xs : List ByteArray) : (Lib.compact xs).length ≤ xs.length := by
  unfold Lib.compact Lib.compactUpTo
  rw [List.length_map]
  have := List.length_filter_le (Lib.keeps xs.toArray) (List.range xs.length)
  rwa [List.length_range] at this
theorem moves_len (U : List ByteArray) (N0 N1 : ByteArray → Option (List ByteArray)) : (U.flatMap (fun s => moveOf s (N0 s) (N1 s))).length ≤ U.length := by
  induction U with
  | nil => simp
  | cons s l ih =>
    rw [List.flatMap_cons, List.length_append, List.length_cons]
    have : (moveOf s (N0 s) (N1 s)).length ≤ 1 := by
      unfold moveOf
      split
      · simp
      · split
        · simp
        · split <;> simp
    omega
theorem namesFrom_len (cs : List Cl) (hs : List Hd) (s : ByteArray) : ∀ k i, ((namesFrom cs hs s k i).getD []).length ≤ cs.length
  | 0, i => by simp [namesFrom]
  | k + 1, i => by
    show ((if _ then _ else _ : Option (List ByteArray)).getD []).length ≤ _
    split
    · show (classNames cs _).length ≤ _
      unfold classNames
      rw [List.length_map]
      exact pathT_len _ _
    · exact namesFrom_len cs hs s k (i + 1)
theorem below_as {q : Nat} {w w3 : World} (hq : q = w.heap.size) (h : Below w.drew.heap.size w.drew w3) : Below q w w3 := by
  subst hq
  exact ⟨h.os, h.tape, h.output, h.size, h.block⟩

set_option maxHeartbeats 8000000 in
set_option maxRecDepth 100000 in
theorem compare_good (A0_0 : Option Addr) (c0_0 : Nat) (l0_0 : List (S51)) (A0_1 : Option Addr) (c0_1 : Nat) (l0_1 : List (S39)) (A1_0 : Option Addr) (c1_0 : Nat) (l1_0 : List (S51)) (A1_1 : Option Addr) (c1_1 : Nat) (l1_1 : List (S39)) (w : World) (hr0_0 : Kd.C k51 w A0_0 l0_0.length l0_0) (hc0_0 : l0_0.length ≤ c0_0) (hr0_1 : Kd.C k39 w A0_1 l0_1.length l0_1) (hc0_1 : l0_1.length ≤ c0_1) (hr1_0 : Kd.C k51 w A1_0 l1_0.length l1_0) (hc1_0 : l1_0.length ≤ c1_0) (hr1_1 : Kd.C k39 w A1_1 l1_1.length l1_1) (hc1_1 : l1_1.length ≤ c1_1) (hv0 : Valid l0_0 l0_1) (hv1 : Valid l1_0 l1_1) :
    Calls Try.prog 21 #[.agg #[.slice A0_0 l0_0.length c0_0, .slice A0_1 l0_1.length c0_1], .agg #[.slice A1_0 l1_0.length c1_0, .slice A1_1 l1_1.length c1_1]] w fun e w' => ∃ v0_ : Value, e = .returned (.tuple #[v0_, .int .i64 0]) ∧ Kd.R k47 47 w' w.heap.size (fun _ => True) v0_ (movesT l0_0 l0_1 l1_0 l1_1) ∧ Below w.heap.size w w' := by
  have hu2 := Try.underlying26
  have hu4 := Try.underlying39
  obtain ⟨m0, m1, -, -⟩ := hv0.split
  obtain ⟨-, m3, -, -⟩ := hv1.split
  obtain ⟨i0, hi, hz0, hz1, hz2⟩ := info_parts infoStr
  obtain ⟨j0, hj, hy0, hy1, hy2⟩ := info_parts infoMv
  have hB0 := ((Below.refl w.heap.size w).alloc (Nat.le_refl _) (.cells #[.slice A0_0 l0_0.length c0_0, .slice A0_1 l0_1.length c0_1] 26)).alloc (by simp) (.cells #[.slice A1_0 l1_0.length c1_0, .slice A1_1 l1_1.length c1_1] 26)
  have hx0 := blk_alloc (heap_alloc_new w (.cells #[.slice A0_0 l0_0.length c0_0, .slice A0_1 l0_1.length c0_1] 26)) (.cells #[.slice A1_0 l1_0.length c1_0, .slice A1_1 l1_1.length c1_1] 26)
  have hx1 := heap_alloc_new (w.alloc (.cells #[.slice A0_0 l0_0.length c0_0, .slice A0_1 l0_1.length c0_1] 26)) (.cells #[.slice A1_0 l1_0.length c1_0, .slice A1_1 l1_1.length c1_1] 26)
  rw [World.size_alloc] at hx1
  have HG0 := fun W (hW : Below w.heap.size w W) => begin_good A0_0 A0_1 c0_0 c0_1 l0_0 l0_1 W (Kd.C_below hr0_0 hW) (Kd.C_below hr0_1 hW) hc0_0 hc0_1 hv0
  have HG1 := fun W (hW : Below w.heap.size w W) => begin_good A1_0 A1_1 c1_0 c1_1 l1_0 l1_1 W (Kd.C_below hr1_0 hW) (Kd.C_below hr1_1 hW) hc1_0 hc1_1 hv1
  have HN0 := fun s W g (hL : IsList W g l0_0 l0_1) => names_any g l0_0 l0_1 s W hL hv0
  have HN1 := fun s W g (hL : IsList W g l1_0 l1_1) => names_any g l1_0 l1_1 s W hL hv1
  have hw0 := hw_of_heads hr0_1
  have hw1 := hw_of_heads hr1_1
  have hln : (l0_1.map (fun x => x.f0)).length = l0_1.length := List.length_map _
  have hln1 : (l1_1.map (fun x => x.f0)).length = l1_1.length := List.length_map _
  have HR : Hid (movesT l0_0 l0_1 l1_0 l1_1 = (wordsT l0_1 l1_1).flatMap (fun s => moveOf s (namesT l0_0 l0_1 s) (namesT l1_0 l1_1 s))) := rfl
  have HW : Hid (wordsT l0_1 l1_1 = Lib.compact (sortW (l0_1.map (fun x => x.f0) ++ l1_1.map (fun x => x.f0)))) := rfl
  obtain ⟨R, hRe⟩ : ∃ R, movesT l0_0 l0_1 l1_0 l1_1 = R := ⟨_, rfl⟩
  obtain ⟨N0, hN0⟩ : ∃ N, namesT l0_0 l0_1 = N := ⟨_, rfl⟩
  obtain ⟨N1, hN1⟩ : ∃ N, namesT l1_0 l1_1 = N := ⟨_, rfl⟩
  obtain ⟨X0, hX0⟩ : ∃ X, l0_1.map (fun x => x.f0) = X := ⟨_, rfl⟩
  obtain ⟨X1, hX1⟩ : ∃ X, l1_1.map (fun x => x.f0) = X := ⟨_, rfl⟩
  obtain ⟨U, hU⟩ : ∃ U, wordsT l0_1 l1_1 = U := ⟨_, rfl⟩
  have hP100 : ∀ s P Pl, N0 s = P → P.getD [] = Pl → Pl.length ≤ 100 := fun s P Pl h1 h2 => by
    have h3 := namesFrom_len l0_0 l0_1 s l0_1.length 0
    have h4 : N0 s = namesFrom l0_0 l0_1 s l0_1.length 0 := by rw [← hN0]; rfl
    rw [← h4, h1, h2] at h3
    omega
  rw [hRe] at HR ⊢
  rw [hN0, hN1, hU] at HR
  simp only [hN0] at HN0
  simp only [hN1] at HN1
  rw [hX0] at hw0 hln
  rw [hX1] at hw1 hln1
  rw [hX0, hX1, hU] at HW
  clear hRe hN0 hN1 hX0 hX1 hU
  go_enter Try.func21, Try.ntmps21
  go_upto_region 1 with (fail)
  obtain ⟨W0, hW0⟩ : ∃ W0, W0 = (w.alloc (.cells #[.slice A0_0 l0_0.length c0_0, .slice A0_1 l0_1.length c0_1] 26)).alloc (.cells #[.slice A1_0 l1_0.length c1_0, .slice A1_1 l1_1.length c1_1] 26) := ⟨_, rfl⟩
  rw [← hW0] at hB0 hx0 hx1 ⊢
  clear hW0
  obtain ⟨a0, a1⟩ := cells2 hx0
  go_upto_region 4 with (go_at_call 42; (with_reducible refine (HG0 _ hB0).mono ?_); rintro e w1 ⟨g, rfl, hL1, hb1⟩)
  have hB1 := below_then hB0 hB0.size hb1
  replace hx0 := blk_below hx0 hb1
  replace hx1 := blk_below hx1 hb1
  obtain ⟨b0, b1⟩ := cells2 hx1
  clear hB0 hb1 a0 a1
  clear W0
  go_upto_region 8 with (go_at_call 42; (with_reducible refine (HG1 _ hB1).mono ?_); rintro e w2 ⟨g2, rfl, hL2, hb2⟩)
  have hB2 := below_then hB1 hB1.size hb2
  replace hL1 := hL1.below hb2
  replace hx0 := blk_below hx0 hb2
  replace hx1 := blk_below hx1 hb2
  clear hB1 hb2 b0 b1
  clear w1
  obtain ⟨a0, a1⟩ := cells2 hx0
  obtain ⟨b0, b1⟩ := cells2 hx1
  have HCl := fun W (hW : Below w.heap.size w W) => clone_any A0_1 c0_1 X0 W (Kd.C_below (by rw [hln]; exact hw0) hW) (by omega)
  simp only [hln] at HCl
  have hC1b := fun W (hW : Below w.heap.size w W) => Kd.C_below hw1 hW
  obtain ⟨q2, hq2⟩ : ∃ q, q = w2.heap.size := ⟨_, rfl⟩
  have hZl : (X0 ++ X1).length = l0_1.length + l1_1.length := by rw [List.length_append, hln, hln1]
  go_cut [40, 41, 42] (fun s40 s41 s42 wx => ∃ Av cv, s40 = .slice Av (l0_1.length + l1_1.length) cv ∧ s41 = .int .i64 ((l0_1.length + l1_1.length : Nat) : Int) ∧ s42 = .int .i64 0 ∧ Below q2 w2 wx ∧ kHw.C wx Av (l0_1.length + l1_1.length) (X0 ++ X1))
  case first =>
    go_region_law (first
      | (refine Kd.R_append_rows_step kHw (w0 := w2) q2 (by rfl) _ _ 24 39 _ 56 (by rfl) Try.underlying24 infoHd (by rfl) (by decide) (by decide) vc X0 X1 A1_1 l1_1.length c1_1 (fun _ => True) (fun k => some k ≠ vc.ownBlock) (by rfl) (by rfl) hRc hC1c (fun _ _ h => h) (fun k hk => ⟨trivial, hk⟩) (fun _ _ => trivial) hb3' hq3 (by omega) ?_; intro v1 w4 hv1 hb4 _ _; obtain ⟨Av, cv, rfl, -, hCv⟩ := Kd.R_reads hv1; clear hv1)
      | (go_simp; go_at_call 54; go_loud ((with_reducible refine (HCl _ hB2.drew).mono ?_); rintro e w3 ⟨vc, rfl, hRc, hb3⟩); have hb3' := below_as hq2 hb3; have hB3 := below_then hB2.drew hB2.drew.size hb3; have hC1c := hC1b _ hB3; have hq3 := hb3'.size; rw [← hq2] at hq3; have b1c := pw_cell_below hb3 b1; have b0c := pw_cell_below hb3 b0; have hRc := Kd.R_lower (base' := q2) hRc (by rw [hq2]; exact Nat.le_refl _)))
    all_goals
      go_wp2
      go_meet
      case rel => exact ⟨Av, _, rfl, rfl, rfl, hb4, by rw [← hZl]; exact hCv⟩
  case rest =>
    obtain ⟨Av, cv, rfl, rfl, rfl, hb4, hCv⟩ := hcut
    have hB4 := below_then hB2 hB2.size (by rw [← hq2]; exact hb4)
    replace hL1 := hL1.below (by rw [← hq2]; exact hb4)
    replace hL2 := hL2.below (by rw [← hq2]; exact hb4)
    obtain ⟨Z, hZ⟩ : ∃ Z, X0 ++ X1 = Z := ⟨_, rfl⟩
    rw [hZ] at hCv hZl HW
    clear hZ hb4 HCl hC1b HG0 HG1 hw0 hw1 hx0 hx1 a0 a1 b0 b1 hB2
    obtain ⟨w4, hw4⟩ : ∃ w4, w4 = wc := ⟨_, rfl⟩
    subst hw4
    obtain ⟨nz, hnz⟩ : ∃ nz, l0_1.length + l1_1.length = nz := ⟨_, rfl⟩
    have hnz12 : nz ≤ 12 := by omega
    rw [hnz] at hZl hCv
    simp only [hnz]
    go_wp2
    go_loopg [9, 42] nz (fun gk v9 v wr => ∃ k : Nat, k + gk = nz ∧ v = .int .i64 k ∧ Below w4.heap.size w4 wr ∧ wr.ownsRow w4.heap.size 9 1 v9 k ((Z.take k).map Value.string))
    case atStart => exact ⟨0, by omega, rfl, Below.refl _ _, own_nil _ _ _ _⟩
    case round =>
      obtain ⟨k, hk, rfl, hb, ho⟩ := hrel
      by_cases hlt : k < nz
      · obtain ⟨ad, fi, fj, fA, fn, fc, e, h0, h1, h2, h3⟩ := hwAt (Kd.C_below hCv hb) k hlt
        cases e
        have hT : Hid ((Z.take (k + 1)).map Value.string = (Z.take k).map Value.string ++ [.string (Z.getD k ByteArray.empty)]) := by
          show _ = _
          rw [List.take_succ_eq_append_getElem (by omega), List.map_append, List.getD_eq_getElem?_getD, List.getElem?_eq_getElem (by omega)]
          rfl
        obtain ⟨y, hy⟩ : ∃ y, Z.getD k ByteArray.empty = y := ⟨_, rfl⟩
        rw [hy] at h0 hT
        clear hy
        have hbd := fun o => hb.alloc hb.size o
        have ho2 := fun o => ho.alloc o
        go_upto_region 11 with (fail)
        replace hbd := hbd (.cells #[.string y, .int .i64 fi, .int .i64 fj, .slice fA fn fc] 39)
        replace ho2 := ho2 (.cells #[.string y, .int .i64 fi, .int .i64 fj, .slice fA fn fc] 39)
        have hxb := cells4 (heap_alloc_new wr (.cells #[.string y, .int .i64 fi, .int .i64 fj, .slice fA fn fc] 39))
        obtain ⟨W1, hW1⟩ : ∃ W1, W1 = wr.alloc (.cells #[.string y, .int .i64 fi, .int .i64 fj, .slice fA fn fc] 39) := ⟨_, rfl⟩
        rw [← hW1] at hbd ho2 hxb ⊢
        clear hW1 hb ho h0 h1 h2 h3
        obtain ⟨z0, -, -, -⟩ := hxb
        go_wp2_with (at_builtin; go_loud (refine wpList_append_own _ rfl _ _ 65 rfl w4.heap.size 9 i0 (.string ⟨#[]⟩) 1 16 Try.underlying65 hi hz0 hz1 hz2 rfl (by decide) _ _ _ rfl (ho2.alloc _) ⟨W1.heap.size, 0, none⟩ 1 1 [.string y] rfl rfl (cell_one_new _ _ _) (by simp [Value.oneCell']) (by unfold maxLen; omega) (by omega) (by have := hbd.size; simp; omega) ?_; intro v' w5 hown5 hgrow5 _; have HB5 := Below.grown (hbd.alloc hbd.size _) hgrow5 (by have := hbd.size; simp; omega) (fun j hj => (ho2.lt j hj).1); have HO := Lib.hid hown5; clear hown5 hgrow5))
        go_roundg (nz - (k + 1))
        case measure => omega
        case rel => exact ⟨k + 1, by omega, by go_num, HB5, by rw [hT.out]; exact HO.out⟩
      · obtain rfl : nz = k := by omega
        rw [← hZl, List.take_length, hZl] at ho
        have HU := HW.out
        have hsl : (sortW Z).length = nz := by unfold sortW; rw [List.length_mergeSort]; exact hZl
        have hul := compact_len (sortW Z)
        rw [← HU, hsl] at hul
        have HS := sort_any _ Z wr (StrRow.of_own ho) (by omega)
        have HC := fun W v (hW : StrRow W v (sortW Z)) => compact_any v (sortW Z) W hW (by rw [hsl]; omega)
        simp only [← HU] at HC
        clear HU
        have hob := fun j hj => own_base ho j hj
        clear HW
        go_upto_region 16 with (first
          | (go_at_call 55; go_loud ((with_reducible refine HS.mono ?_); rintro e w6 ⟨rfl, hg6, hS6⟩); have hb6 := hb.grown hg6 hb.size hob; clear HS)
          | (go_at_call 57; go_loud ((with_reducible refine (HC _ _ hS6).mono ?_); rintro e w7 ⟨Au, cu, rfl, hg7, hCu⟩); have hb7 := hb6.grown hg7 hb6.size hob; clear HC))
        have hBL := below_then hB4 hB4.size hb7
        have hLa7 := hL1.below hb7
        have hLb7 := hL2.below hb7
        clear hb hb6 hg6 hS6 hg7 ho hob hL1 hL2 hB4 hCv hsl
        go_loopg [12, 57] U.length (fun gk v12 v wr => ∃ k : Nat, k + gk = U.length ∧ v = .int .i64 k ∧ Below w7.heap.size w7 wr ∧ wr.ownsRow w7.heap.size 47 2 v12 ((U.take k).flatMap (fun s => moveOf s (N0 s) (N1 s))).length (mvCells ((U.take k).flatMap (fun s => moveOf s (N0 s) (N1 s)))))
        case atStart => exact ⟨0, by omega, rfl, Below.refl _ _, own_nil _ _ _ _⟩
        case round =>
          obtain ⟨k, hk, rfl, hbw, ho⟩ := hrel
          by_cases hlt : k < U.length
          · obtain ⟨au, eu, hcu⟩ := Kd.at_string (Kd.C_below hCu hbw) (k : Int) (by omega) (by omega)
            cases eu
            have hTk : Hid ((U.take (k + 1)).flatMap (fun s => moveOf s (N0 s) (N1 s)) = (U.take k).flatMap (fun s => moveOf s (N0 s) (N1 s)) ++ moveOf (U.getD k ByteArray.empty) (N0 (U.getD k ByteArray.empty)) (N1 (U.getD k ByteArray.empty))) := by
              show _ = _
              rw [List.take_succ_eq_append_getElem hlt, List.flatMap_append, List.getD_eq_getElem?_getD, List.getElem?_eq_getElem hlt]
              simp
            have hrd : rdOf ByteArray.empty U (k : Int) = U.getD k ByteArray.empty := rfl
            rw [hrd, Int.toNat_natCast] at hcu
            obtain ⟨s, hs⟩ : ∃ s, U.getD k ByteArray.empty = s := ⟨_, rfl⟩
            rw [hs] at hcu hTk
            have hLa := hLa7.below hbw
            have hLb := hLb7.below hbw
            have HNa := fun W hL => HN0 s W g hL
            have HNb := fun W hL => HN1 s W g2 hL
            have hml : ((U.take k).flatMap (fun s => moveOf s (N0 s) (N1 s))).length ≤ k := by
              have := moves_len (U.take k) N0 N1
              rw [List.length_take] at this
              omega
            obtain ⟨M, hM⟩ : ∃ M, (U.take k).flatMap (fun s => moveOf s (N0 s) (N1 s)) = M := ⟨_, rfl⟩
            rw [hM] at ho hTk hml
            obtain ⟨P, hP⟩ : ∃ P, N0 s = P := ⟨_, rfl⟩
            obtain ⟨Q, hQ⟩ : ∃ Q, N1 s = Q := ⟨_, rfl⟩
            rw [hP, hQ] at hTk
            simp only [hP] at HNa
            simp only [hQ] at HNb
            obtain ⟨Pl, hPl⟩ : ∃ Pl, P.getD [] = Pl := ⟨_, rfl⟩
            obtain ⟨Ql, hQl⟩ : ∃ Ql, Q.getD [] = Ql := ⟨_, rfl⟩
            obtain ⟨pb, hpb⟩ : ∃ pb, P.isSome = pb := ⟨_, rfl⟩
            obtain ⟨qb, hqb⟩ : ∃ qb, Q.isSome = qb := ⟨_, rfl⟩
            have hMo : Hid (moveOf s P Q = if pb && !qb then [⟨s, 1⟩] else if qb && !pb then [⟨s, 2⟩] else if decide (Pl = Ql) = false then [⟨s, 3⟩] else []) := by
              show _ = _
              unfold moveOf
              rw [hPl, hQl, hpb, hqb]
            have hPn : Pl.length ≤ 100 := hP100 s P Pl hP hPl
            simp only [hPl, hpb] at HNa
            simp only [hQl, hqb] at HNb
            have hlt1 : (k : Int) < U.length := by omega
            have hlt2 : decide ((k : Int) < U.length) = true := decide_eq_true hlt1
            clear hM hs hP hQ hPl hQl hpb hqb
            cases pb with
            | true =>
              cases qb with
              | true =>
                have HEq0 := equal_strs Pl Ql hPn
                cases hed : decide (Pl = Ql) with
                | true =>
                  have HEq := HEq0
                  rw [hed] at HEq
                  have HG : Hid ((U.take (k + 1)).flatMap (fun s => moveOf s (N0 s) (N1 s)) = M) := by show _ = _; rw [hTk.out, hMo.out, hed]; exact List.append_nil _
                  clear hTk hMo HEq0 hed
                  go_wp2_with (first
                    | (go_at_call 58; (with_reducible refine (HNa wr hLa).mono ?_); rintro e w8 ⟨vp, rfl, hRp, hb8⟩; obtain ⟨Ap, cp, rfl, hlp, hCp⟩ := Kd.R_reads hRp; have hbw8 := below_then hbw hbw.size hb8; have ho8 := own_move ho (fun k hk => hb8.block k (own_lt ho k hk)); have hLb8 := hLb.below hb8; clear hRp)
                    | (go_at_call 58; (with_reducible refine (HNb w8 hLb8).mono ?_); rintro e w9 ⟨vq, rfl, hRq, hb9⟩; obtain ⟨Aq, cq, rfl, hlq, hCq⟩ := Kd.R_reads hRq; have hbw9 := below_then hbw8 hbw8.size hb9; have ho9 := own_move ho8 (fun k hk => hb9.block k (own_lt ho8 k hk)); have hCp9 := Kd.C_below hCp hb9; clear hRq)
                    | (go_at_call 59; go_loud ((with_reducible refine (slices_Equal_string_string.calls 101 Ap cp Pl Aq cq Ql true _ hCp9 hlp hCq hlq HEq).mono ?_); rintro e w10 ⟨rfl, ⟨nd, rfl⟩⟩; have ho10 := (show (w9.drewN nd).ownsRow w7.heap.size 47 2 _ _ _ from ho9); have hbw10 := pw_below_drewN hbw9 nd)))
                  go_roundg (U.length - (k + 1))
                  case measure => omega
                  case rel => exact ⟨k + 1, by omega, by go_num, hbw10, by rw [HG.out]; exact ho10⟩
                | false =>
                  have HEq := HEq0
                  rw [hed] at HEq
                  have HG : Hid ((U.take (k + 1)).flatMap (fun s => moveOf s (N0 s) (N1 s)) = M ++ [⟨s, 3⟩]) := by show _ = _; rw [hTk.out, hMo.out, hed]; rfl
                  clear hTk hMo HEq0 hed
                  go_wp2_with (first
                    | (go_at_call 58; (with_reducible refine (HNa wr hLa).mono ?_); rintro e w8 ⟨vp, rfl, hRp, hb8⟩; obtain ⟨Ap, cp, rfl, hlp, hCp⟩ := Kd.R_reads hRp; have hbw8 := below_then hbw hbw.size hb8; have ho8 := own_move ho (fun k hk => hb8.block k (own_lt ho k hk)); have hLb8 := hLb.below hb8; clear hRp)
                    | (go_at_call 58; (with_reducible refine (HNb w8 hLb8).mono ?_); rintro e w9 ⟨vq, rfl, hRq, hb9⟩; obtain ⟨Aq, cq, rfl, hlq, hCq⟩ := Kd.R_reads hRq; have hbw9 := below_then hbw8 hbw8.size hb9; have ho9 := own_move ho8 (fun k hk => hb9.block k (own_lt ho8 k hk)); have hCp9 := Kd.C_below hCp hb9; clear hRq)
                    | (go_at_call 59; go_loud ((with_reducible refine (slices_Equal_string_string.calls 101 Ap cp Pl Aq cq Ql false _ hCp9 hlp hCq hlq HEq).mono ?_); rintro e w10 ⟨rfl, ⟨nd, rfl⟩⟩; have ho10 := (show (w9.drewN nd).ownsRow w7.heap.size 47 2 _ _ _ from ho9); have hbw10 := pw_below_drewN hbw9 nd))
                    | (at_builtin; go_loud (refine wpList_append_own _ rfl _ _ 43 rfl w7.heap.size 47 j0 (.agg #[.string ⟨#[]⟩, .int .i64 0]) 2 24 Try.underlying43 hj hy0 hy1 hy2 rfl (by decide) _ _ _ rfl (ho10.alloc _) ⟨w9.heap.size, 0, none⟩ 1 1 [.string s, .int .i64 3] rfl rfl (World.news_of_block (cs := #[.string s, .int .i64 3]) (t := 47) (fr := (0, 0)) (heap_alloc_new ((w9.drewN nd)) _)) (by simp [Value.oneCell']) (by unfold maxLen; omega) (by omega) (by have := (hbw10).size; simp at this ⊢; omega) ?_; intro v' wa hown hgrow _; have HBa := Below.grown ((hbw10).alloc (hbw10).size _) hgrow (by have := (hbw10).size; simp at this ⊢; omega) (fun j hj => (ho10.lt j hj).1); have HO := Lib.hid hown; clear hown hgrow)))
                  go_roundg (U.length - (k + 1))
                  case measure => omega
                  case rel => exact ⟨k + 1, by omega, by go_num, HBa, by rw [HG.out, mvCells_append, List.length_append]; exact HO.out⟩
              | false =>
                have HG : Hid ((U.take (k + 1)).flatMap (fun s => moveOf s (N0 s) (N1 s)) = M ++ [⟨s, 1⟩]) := by show _ = _; rw [hTk.out, hMo.out]; rfl
                clear hTk hMo
                go_wp2_with (first
                  | (go_at_call 58; (with_reducible refine (HNa wr hLa).mono ?_); rintro e w8 ⟨vp, rfl, hRp, hb8⟩; obtain ⟨Ap, cp, rfl, hlp, hCp⟩ := Kd.R_reads hRp; have hbw8 := below_then hbw hbw.size hb8; have ho8 := own_move ho (fun k hk => hb8.block k (own_lt ho k hk)); have hLb8 := hLb.below hb8; clear hRp)
                  | (go_at_call 58; (with_reducible refine (HNb w8 hLb8).mono ?_); rintro e w9 ⟨vq, rfl, hRq, hb9⟩; obtain ⟨Aq, cq, rfl, hlq, hCq⟩ := Kd.R_reads hRq; have hbw9 := below_then hbw8 hbw8.size hb9; have ho9 := own_move ho8 (fun k hk => hb9.block k (own_lt ho8 k hk)); have hCp9 := Kd.C_below hCp hb9; clear hRq)
                  | (at_builtin; go_loud (refine wpList_append_own _ rfl _ _ 43 rfl w7.heap.size 47 j0 (.agg #[.string ⟨#[]⟩, .int .i64 0]) 2 24 Try.underlying43 hj hy0 hy1 hy2 rfl (by decide) _ _ _ rfl (ho9.alloc _) ⟨w9.heap.size, 0, none⟩ 1 1 [.string s, .int .i64 1] rfl rfl (World.news_of_block (cs := #[.string s, .int .i64 1]) (t := 47) (fr := (0, 0)) (heap_alloc_new (w9) _)) (by simp [Value.oneCell']) (by unfold maxLen; omega) (by omega) (by have := (hbw9).size; simp at this ⊢; omega) ?_; intro v' wa hown hgrow _; have HBa := Below.grown ((hbw9).alloc (hbw9).size _) hgrow (by have := (hbw9).size; simp at this ⊢; omega) (fun j hj => (ho9.lt j hj).1); have HO := Lib.hid hown; clear hown hgrow)))
                go_roundg (U.length - (k + 1))
                case measure => omega
                case rel => exact ⟨k + 1, by omega, by go_num, HBa, by rw [HG.out, mvCells_append, List.length_append]; exact HO.out⟩
            | false =>
              cases qb with
              | true =>
                have HG : Hid ((U.take (k + 1)).flatMap (fun s => moveOf s (N0 s) (N1 s)) = M ++ [⟨s, 2⟩]) := by show _ = _; rw [hTk.out, hMo.out]; rfl
                clear hTk hMo
                go_wp2_with (first
                  | (go_at_call 58; (with_reducible refine (HNa wr hLa).mono ?_); rintro e w8 ⟨vp, rfl, hRp, hb8⟩; obtain ⟨Ap, cp, rfl, hlp, hCp⟩ := Kd.R_reads hRp; have hbw8 := below_then hbw hbw.size hb8; have ho8 := own_move ho (fun k hk => hb8.block k (own_lt ho k hk)); have hLb8 := hLb.below hb8; clear hRp)
                  | (go_at_call 58; (with_reducible refine (HNb w8 hLb8).mono ?_); rintro e w9 ⟨vq, rfl, hRq, hb9⟩; obtain ⟨Aq, cq, rfl, hlq, hCq⟩ := Kd.R_reads hRq; have hbw9 := below_then hbw8 hbw8.size hb9; have ho9 := own_move ho8 (fun k hk => hb9.block k (own_lt ho8 k hk)); have hCp9 := Kd.C_below hCp hb9; clear hRq)
                  | (at_builtin; go_loud (refine wpList_append_own _ rfl _ _ 43 rfl w7.heap.size 47 j0 (.agg #[.string ⟨#[]⟩, .int .i64 0]) 2 24 Try.underlying43 hj hy0 hy1 hy2 rfl (by decide) _ _ _ rfl (ho9.alloc _) ⟨w9.heap.size, 0, none⟩ 1 1 [.string s, .int .i64 2] rfl rfl (World.news_of_block (cs := #[.string s, .int .i64 2]) (t := 47) (fr := (0, 0)) (heap_alloc_new (w9) _)) (by simp [Value.oneCell']) (by unfold maxLen; omega) (by omega) (by have := (hbw9).size; simp at this ⊢; omega) ?_; intro v' wa hown hgrow _; have HBa := Below.grown ((hbw9).alloc (hbw9).size _) hgrow (by have := (hbw9).size; simp at this ⊢; omega) (fun j hj => (ho9.lt j hj).1); have HO := Lib.hid hown; clear hown hgrow)))
                go_roundg (U.length - (k + 1))
                case measure => omega
                case rel => exact ⟨k + 1, by omega, by go_num, HBa, by rw [HG.out, mvCells_append, List.length_append]; exact HO.out⟩
              | false =>
                have HEq0 := equal_strs Pl Ql hPn
                cases hed : decide (Pl = Ql) with
                | true =>
                  have HEq := HEq0
                  rw [hed] at HEq
                  have HG : Hid ((U.take (k + 1)).flatMap (fun s => moveOf s (N0 s) (N1 s)) = M) := by show _ = _; rw [hTk.out, hMo.out, hed]; exact List.append_nil _
                  clear hTk hMo HEq0 hed
                  go_wp2_with (first
                    | (go_at_call 58; (with_reducible refine (HNa wr hLa).mono ?_); rintro e w8 ⟨vp, rfl, hRp, hb8⟩; obtain ⟨Ap, cp, rfl, hlp, hCp⟩ := Kd.R_reads hRp; have hbw8 := below_then hbw hbw.size hb8; have ho8 := own_move ho (fun k hk => hb8.block k (own_lt ho k hk)); have hLb8 := hLb.below hb8; clear hRp)
                    | (go_at_call 58; (with_reducible refine (HNb w8 hLb8).mono ?_); rintro e w9 ⟨vq, rfl, hRq, hb9⟩; obtain ⟨Aq, cq, rfl, hlq, hCq⟩ := Kd.R_reads hRq; have hbw9 := below_then hbw8 hbw8.size hb9; have ho9 := own_move ho8 (fun k hk => hb9.block k (own_lt ho8 k hk)); have hCp9 := Kd.C_below hCp hb9; clear hRq)
                    | (go_at_call 59; go_loud ((with_reducible refine (slices_Equal_string_string.calls 101 Ap cp Pl Aq cq Ql true _ hCp9 hlp hCq hlq HEq).mono ?_); rintro e w10 ⟨rfl, ⟨nd, rfl⟩⟩; have ho10 := (show (w9.drewN nd).ownsRow w7.heap.size 47 2 _ _ _ from ho9); have hbw10 := pw_below_drewN hbw9 nd)))
                  go_roundg (U.length - (k + 1))
                  case measure => omega
                  case rel => exact ⟨k + 1, by omega, by go_num, hbw10, by rw [HG.out]; exact ho10⟩
                | false =>
                  have HEq := HEq0
                  rw [hed] at HEq
                  have HG : Hid ((U.take (k + 1)).flatMap (fun s => moveOf s (N0 s) (N1 s)) = M ++ [⟨s, 3⟩]) := by show _ = _; rw [hTk.out, hMo.out, hed]; rfl
                  clear hTk hMo HEq0 hed
                  go_wp2_with (first
                    | (go_at_call 58; (with_reducible refine (HNa wr hLa).mono ?_); rintro e w8 ⟨vp, rfl, hRp, hb8⟩; obtain ⟨Ap, cp, rfl, hlp, hCp⟩ := Kd.R_reads hRp; have hbw8 := below_then hbw hbw.size hb8; have ho8 := own_move ho (fun k hk => hb8.block k (own_lt ho k hk)); have hLb8 := hLb.below hb8; clear hRp)
                    | (go_at_call 58; (with_reducible refine (HNb w8 hLb8).mono ?_); rintro e w9 ⟨vq, rfl, hRq, hb9⟩; obtain ⟨Aq, cq, rfl, hlq, hCq⟩ := Kd.R_reads hRq; have hbw9 := below_then hbw8 hbw8.size hb9; have ho9 := own_move ho8 (fun k hk => hb9.block k (own_lt ho8 k hk)); have hCp9 := Kd.C_below hCp hb9; clear hRq)
                    | (go_at_call 59; go_loud ((with_reducible refine (slices_Equal_string_string.calls 101 Ap cp Pl Aq cq Ql false _ hCp9 hlp hCq hlq HEq).mono ?_); rintro e w10 ⟨rfl, ⟨nd, rfl⟩⟩; have ho10 := (show (w9.drewN nd).ownsRow w7.heap.size 47 2 _ _ _ from ho9); have hbw10 := pw_below_drewN hbw9 nd))
                    | (at_builtin; go_loud (refine wpList_append_own _ rfl _ _ 43 rfl w7.heap.size 47 j0 (.agg #[.string ⟨#[]⟩, .int .i64 0]) 2 24 Try.underlying43 hj hy0 hy1 hy2 rfl (by decide) _ _ _ rfl (ho10.alloc _) ⟨w9.heap.size, 0, none⟩ 1 1 [.string s, .int .i64 3] rfl rfl (World.news_of_block (cs := #[.string s, .int .i64 3]) (t := 47) (fr := (0, 0)) (heap_alloc_new ((w9.drewN nd)) _)) (by simp [Value.oneCell']) (by unfold maxLen; omega) (by omega) (by have := (hbw10).size; simp at this ⊢; omega) ?_; intro v' wa hown hgrow _; have HBa := Below.grown ((hbw10).alloc (hbw10).size _) hgrow (by have := (hbw10).size; simp at this ⊢; omega) (fun j hj => (ho10.lt j hj).1); have HO := Lib.hid hown; clear hown hgrow)))
                  go_roundg (U.length - (k + 1))
                  case measure => omega
                  case rel => exact ⟨k + 1, by omega, by go_num, HBa, by rw [HG.out, mvCells_append, List.length_append]; exact HO.out⟩
          · obtain rfl : k = U.length := by omega
            rw [List.take_length, ← HR.out] at ho
            have HRv : k47.R 47 wr w7.heap.size (fun _ => True) _ R := ⟨fun _ _ => trivial, _, ho, mv_reps _ _ _ _⟩
            go_wp2
            go_ret2
            exact ⟨_, rfl, Kd.R_lower HRv hBL.size, below_then hBL hBL.size hbw⟩

set_option maxHeartbeats 1000000 in
set_option maxRecDepth 100000 in
theorem trade_Compare.calls (A0_0 : Option Addr) (c0_0 : Nat) (l0_0 : List (S51)) (A0_1 : Option Addr) (c0_1 : Nat) (l0_1 : List (S39)) (A1_0 : Option Addr) (c1_0 : Nat) (l1_0 : List (S51)) (A1_1 : Option Addr) (c1_1 : Nat) (l1_1 : List (S39)) (r1 : List (S47)) (r2 : Int) (w : World) (hr0_0 : Kd.C k51 w A0_0 l0_0.length l0_0) (hc0_0 : l0_0.length ≤ c0_0) (hr0_1 : Kd.C k39 w A0_1 l0_1.length l0_1) (hc0_1 : l0_1.length ≤ c0_1) (hr1_0 : Kd.C k51 w A1_0 l1_0.length l1_0) (hc1_0 : l1_0.length ≤ c1_0) (hr1_1 : Kd.C k39 w A1_1 l1_1.length l1_1) (hc1_1 : l1_1.length ≤ c1_1) (h : trade_Compare.f l0_0 l0_1 l1_0 l1_1 = some (r1, r2)) :
    Calls Try.prog 21 #[.agg #[.slice A0_0 l0_0.length c0_0, .slice A0_1 l0_1.length c0_1], .agg #[.slice A1_0 l1_0.length c1_0, .slice A1_1 l1_1.length c1_1]] w fun e w' => ∃ v0_ : Value, e = .returned (.tuple #[v0_, .int .i64 r2]) ∧ Kd.R k47 47 w' w.heap.size (fun _ => True) v0_ r1 ∧ Below w.heap.size w w' := by
  have hu2 := Try.underlying26
  have h := Option.some.inj h
  have hB0 := ((Below.refl w.heap.size w).alloc (Nat.le_refl _) (.cells #[.slice A0_0 l0_0.length c0_0, .slice A0_1 l0_1.length c0_1] 26)).alloc (by simp) (.cells #[.slice A1_0 l1_0.length c1_0, .slice A1_1 l1_1.length c1_1] 26)
  by_cases hz : checkT l0_0 l0_1 = 0
  · have hv0 : Valid l0_0 l0_1 := ⟨hz⟩
    rw [if_neg (by omega)] at h
    by_cases hz1 : checkT l1_0 l1_1 = 0
    · rw [if_neg (by omega)] at h
      simp only [Prod.mk.injEq] at h
      obtain ⟨rfl, rfl⟩ := h
      exact compare_good A0_0 c0_0 l0_0 A0_1 c0_1 l0_1 A1_0 c1_0 l1_0 A1_1 c1_1 l1_1 w hr0_0 hc0_0 hr0_1 hc0_1 hr1_0 hc1_0 hr1_1 hc1_1 hv0 ⟨hz1⟩
    · rw [if_pos hz1] at h
      simp only [Prod.mk.injEq] at h
      obtain ⟨rfl, rfl⟩ := h
      have hx1 := heap_alloc_new (w.alloc (.cells #[.slice A0_0 l0_0.length c0_0, .slice A0_1 l0_1.length c0_1] 26)) (.cells #[.slice A1_0 l1_0.length c1_0, .slice A1_1 l1_1.length c1_1] 26)
      rw [World.size_alloc] at hx1
      have HG0 := fun W (hW : Below w.heap.size w W) => begin_good A0_0 A0_1 c0_0 c0_1 l0_0 l0_1 W (Kd.C_below hr0_0 hW) (Kd.C_below hr0_1 hW) hc0_0 hc0_1 hv0
      have HG1 := fun W (hW : Below w.heap.size w W) => begin_bad A1_0 A1_1 c1_0 c1_1 l1_0 l1_1 W (Kd.C_below hr1_0 hW) (Kd.C_below hr1_1 hW) hc1_0 hc1_1 hz1
      obtain ⟨z, hze⟩ : ∃ z, checkT l1_0 l1_1 = z := ⟨_, rfl⟩
      simp only [hze] at HG1 hz1 ⊢
      have hzb : (z != 0) = true := bne_iff_ne.mpr hz1
      clear hz hze hz1
      go_enter Try.func21, Try.ntmps21
      go_upto_region 4 with (go_at_call 42; (with_reducible refine (HG0 _ hB0).mono ?_); rintro e w1 ⟨g, rfl, hL1, hb1⟩)
      have hB1 := below_then hB0 hB0.size hb1
      replace hx1 := blk_below hx1 hb1
      obtain ⟨b0, b1⟩ := cells2 hx1
      clear HG0 hb1
      go_wp2_with (go_at_call 42; (with_reducible refine (HG1 _ hB1).mono ?_); rintro e w2 ⟨rfl, hb2⟩)
      go_ret2
      exact ⟨_, rfl, Kd.R_nil _ _ _ _ _, below_then hB1 hB1.size hb2⟩
  · rw [if_pos hz] at h
    simp only [Prod.mk.injEq] at h
    obtain ⟨rfl, rfl⟩ := h
    have hx0 := blk_alloc (heap_alloc_new w (.cells #[.slice A0_0 l0_0.length c0_0, .slice A0_1 l0_1.length c0_1] 26)) (.cells #[.slice A1_0 l1_0.length c1_0, .slice A1_1 l1_1.length c1_1] 26)
    have HG0 := fun W (hW : Below w.heap.size w W) => begin_bad A0_0 A0_1 c0_0 c0_1 l0_0 l0_1 W (Kd.C_below hr0_0 hW) (Kd.C_below hr0_1 hW) hc0_0 hc0_1 hz
    obtain ⟨z, hze⟩ : ∃ z, checkT l0_0 l0_1 = z := ⟨_, rfl⟩
    simp only [hze] at HG0 hz ⊢
    have hzb : (z != 0) = true := bne_iff_ne.mpr hz
    clear hz hze
    go_enter Try.func21, Try.ntmps21
    go_upto_region 1 with (fail)
    obtain ⟨W0, hW0⟩ : ∃ W0, W0 = (w.alloc (.cells #[.slice A0_0 l0_0.length c0_0, .slice A0_1 l0_1.length c0_1] 26)).alloc (.cells #[.slice A1_0 l1_0.length c1_0, .slice A1_1 l1_1.length c1_1] 26) := ⟨_, rfl⟩
    rw [← hW0] at hB0 hx0 ⊢
    clear hW0
    obtain ⟨a0, a1⟩ := cells2 hx0
    go_wp2_with (go_at_call 42; (with_reducible refine (HG0 _ hB0).mono ?_); rintro e w1 ⟨rfl, hb1⟩)
    go_ret2
    exact ⟨_, rfl, Kd.R_nil _ _ _ _ _, below_then hB0 hB0.size hb1⟩
end Go.Proofs.Ytfbimhnlcmdcpaa.Pa
namespace Go.Proofs.Ytfbimhnlcmdcpaa.Pa
open Go.RowKit Go.Proofs.YtfbimhnlcmdcpaaW.PrintWords Go.Proofs.YtfbimhnlcmdcpaaW.PrintLast Go.Proofs.YtfbimhnlcmdcpaaW.PrintMore
attribute [local go_sem] max2_int min2_int max_two min_two max_three min_three max_four min_four   -- for this text's walks alone
set_option linter.unusedVariables false
set_option linter.unusedSimpArgs false

/-! ### wayzgooselaw04_word: function 22 -/
def wayzgooselaw04_word.l0 : Nat → ByteArray → Int → List (S51) → List (S39) → Option (Int)
  | 0, _, _, _, _ => none
  | k + 1, x1, x5, x403000, x403001 => if x5 < (x403001.length : Int) then (if 0 ≤ x5 then (if ((rd_T39 x403001 x5).f0).toList = x1.toList then (some x5) else (wayzgooselaw04_word.l0 k x1 (wrap64 (x5 + 1)) x403000 x403001)) else (none)) else (some (-1))
def wayzgooselaw04_word.f (k : Nat) (l0_0 : List (S51)) (l0_1 : List (S39)) (a1 : ByteArray) : Option (Int) := wayzgooselaw04_word.l0 k a1 0 l0_0 l0_1
theorem wayzgooselaw04_word.mono_l : ∀ k, (∀ y0 y1 y2 y3, LeO (wayzgooselaw04_word.l0 k y0 y1 y2 y3) (wayzgooselaw04_word.l0 (k + 1) y0 y1 y2 y3))
  | 0 => fun _ _ _ _ r h => by simp [wayzgooselaw04_word.l0] at h
  | k + 1 => by
    have ih0 := wayzgooselaw04_word.mono_l k
    · intro y0 y1 y2 y3
      unfold wayzgooselaw04_word.l0
      repeat' first
      | (with_reducible exact ih0 _ _ _ _)
      | (with_reducible exact LeO.refl _)
      | (with_reducible exact LeO.none _)
      | (with_reducible refine LeO.ite ?_ ?_)
      | (with_reducible refine LeO.bind ?_ (fun _ => ?_))
      | exact ih0 _ _ _ _
      | exact LeO.none _
      | refine LeO.ite ?_ ?_
      | refine LeO.bind ?_ (fun _ => ?_)
theorem wayzgooselaw04_word.mono : ∀ a0 a1 a2 k, LeO (wayzgooselaw04_word.f k a0 a1 a2) (wayzgooselaw04_word.f (k + 1) a0 a1 a2) := by
  intro a0 a1 a2 k
  have ih0 := wayzgooselaw04_word.mono_l k
  unfold wayzgooselaw04_word.f
  repeat' first
      | (with_reducible exact ih0 _ _ _ _)
      | (with_reducible exact LeO.refl _)
      | (with_reducible exact LeO.none _)
      | (with_reducible refine LeO.ite ?_ ?_)
      | (with_reducible refine LeO.bind ?_ (fun _ => ?_))
      | exact ih0 _ _ _ _
      | exact LeO.none _
      | refine LeO.ite ?_ ?_
      | refine LeO.bind ?_ (fun _ => ?_)
set_option maxHeartbeats 8000000 in
set_option maxRecDepth 100000 in
theorem wayzgooselaw04_word.calls (k : Nat) (A0_0 : Option Addr) (c0_0 : Nat) (l0_0 : List (S51)) (A0_1 : Option Addr) (c0_1 : Nat) (l0_1 : List (S39)) (a1 : ByteArray) (r : Int) (w : World) (hr0_0 : Kd.C k51 w A0_0 l0_0.length l0_0) (hc0_0 : l0_0.length ≤ c0_0) (hr0_1 : Kd.C k39 w A0_1 l0_1.length l0_1) (hc0_1 : l0_1.length ≤ c0_1) (h : wayzgooselaw04_word.f k l0_0 l0_1 a1 = some r) :
    Calls Try.prog 22 #[.agg #[.slice A0_0 l0_0.length c0_0, .slice A0_1 l0_1.length c0_1], .string a1] w fun e w' => e = .returned (.int .i64 r) ∧ Below w.heap.size w w' := by
  have hu26 := Try.underlying26
  have HR0_0 := Aside0.mk hr0_0
  have HC0_0 := Aside0.mk hc0_0
  clear hr0_0 hc0_0
  have HR0_1 := Aside0.mk hr0_1
  have HC0_1 := Aside0.mk hc0_1
  clear hr0_1 hc0_1
  have HB := Aside0.mk (Below.refl w.heap.size w)
  have H : (wayzgooselaw04_word.l0 k a1 0 l0_0 l0_1) = some r := h
  clear h
  have H' := Aside0.mk H
  clear H
  go_enter Try.func22, Try.ntmps22
  go_wp2_with (first | ((with_reducible refine gate_dst (N := 2) rfl ?_); refine box_event ?hg (N := 2) ?hd (cs := #[.slice A0_0 l0_0.length c0_0, .slice A0_1 l0_1.length c0_1]) (t := 26) ?hr ?_; (case hd => rfl); (case hg => rfl); (case hr => first | (go_simp; done) | (go_simp; rfl)); intro gb402 hg w3 hbox hb; have n0_ := Aside0.mk (below_step (by repeat (first | (with_reducible first | exact HB.out | apply below_alloc | apply pw_below_drewN | apply below_drew1) | exact HB.out)) hb); have n1_ := Aside0.mk (hbox); have n2_ := Aside0.mk ((by rw [hg]; exact (below_size (by repeat (first | (with_reducible first | exact HB.out | apply below_alloc | apply pw_below_drewN | apply below_drew1) | exact HB.out))) : w.heap.size ≤ gb402)); have n3_ := Aside0.mk ((by rw [hg]; exact (below_size (by repeat (first | (with_reducible first | exact HB.out | apply below_alloc | apply pw_below_drewN | apply below_drew1) | exact HB.out))) : w.heap.size ≤ gb402)); clear HB; have HB := n0_; have BK402 := n1_; have GW402 := n2_; have GE402 := n3_; clear n0_ n1_ n2_ n3_; clear hb hbox hg))
  go_loopg [5] k (fun kq v5 w' => ∃ (x5_1 : Int), v5 = .int .i64 x5_1 ∧ Aside0 (wayzgooselaw04_word.l0 kq a1 x5_1 l0_0 l0_1 = some r) ∧ Aside0 (kq ≤ k) ∧ Aside0 (w'.heap[gb402]? = some (.cells #[(.slice A0_0 l0_0.length c0_0), (.slice A0_1 l0_1.length c0_1)] 26 (0, 0))) ∧ Aside0 (Below w.heap.size w w'))
  case atStart => exact ⟨(0), (by first | rfl | (simp; done) | (simp [*]; done)), H', ⟨Nat.le_refl _⟩, ⟨by (with_reducible repeat (first | refine blk_drewN ?_ _ | refine blk_drew ?_ | refine blk_alloc ?_ _)); exact BK402.out⟩, ⟨by repeat (first | (with_reducible first | exact HB.out | apply below_alloc | apply pw_below_drewN | apply below_drew1 | refine below_set ?_ GE402.out) | exact HB.out)⟩⟩
  case round =>
    clear H'
    try clear c2
    try clear p2
    obtain ⟨x5_1, rfl, HA, HK1, BK402, HB⟩ := hrel
    cases gk with
    | zero => exact absurd HA.out (by simp [wayzgooselaw04_word.l0])
    | succ k1 =>
      have H := HA.out
      clear HA
      simp only [wayzgooselaw04_word.l0] at H
      by_cases c4 : x5_1 < (l0_1.length : Int)
      · rw [if_pos c4] at H
        have c4b0 : decide (x5_1 < (l0_1.length : Int)) = true := decide_eq_true c4
        clear c4
        by_cases c5 : 0 ≤ x5_1
        · rw [if_pos c5] at H
          have c5b0 : decide (0 ≤ x5_1) = true := decide_eq_true c5
          clear c5
          by_cases c6 : ((rd_T39 l0_1 x5_1).f0).toList = a1.toList
          · rw [if_pos c6] at H
            have c6b0 : (((rd_T39 l0_1 x5_1).f0).toList == a1.toList) = true := beq_iff_eq.mpr c6
            have c6b1 : (((rd_T39 l0_1 x5_1).f0).toList != a1.toList) = false := bne_eq_false_iff_eq.mpr c6
            clear c6
            obtain rfl := Option.some.inj H
            have hcz7_0 : wr.cell? ⟨gb402, 0, none⟩ = some (.slice A0_0 l0_0.length c0_0) := (blk_cell BK402.out 0).trans rfl
            have hcz7_1 : wr.cell? ⟨gb402, 1, none⟩ = some (.slice A0_1 l0_1.length c0_1) := (blk_cell BK402.out 1).trans rfl
            have hfz7_0 := blk_frozen BK402.out 0
            have hfz7_1 := blk_frozen BK402.out 1
            have p403 : 0 ≤ (x5_1 : Int) := of_decide_eq_true (by first | (with_reducible assumption) | assumption)
            have q403 : x5_1 < (l0_1.length : Int) := of_decide_eq_true (by first | (with_reducible assumption) | assumption)
            obtain ⟨ad403, A403_3, c403_3, e403, hx403_0, hx403_1, hx403_2, hx403_3, hl403_3, hi403_3⟩ := at_T39 HR0_1.out x5_1 p403 q403
            cases e403
            replace hx403_0 := (HB.out.cell (World.block_lt_of_cell? w _ hx403_0)).trans hx403_0
            replace hx403_1 := (HB.out.cell (World.block_lt_of_cell? w _ hx403_1)).trans hx403_1
            replace hx403_2 := (HB.out.cell (World.block_lt_of_cell? w _ hx403_2)).trans hx403_2
            replace hx403_3 := (HB.out.cell (World.block_lt_of_cell? w _ hx403_3)).trans hx403_3
            have HR403_3 := Aside0.mk hi403_3
            have HC403_3 := Aside0.mk hl403_3
            clear hi403_3 hl403_3
            replace p403 := eq_true p403
            replace q403 := eq_true q403
            go_wp2
            go_ret
            exact ⟨by first | rfl | (simp [errW_none, errW_some] <;> rfl) | (simp [*, errW_none, errW_some] <;> rfl), by repeat (first | (with_reducible first | exact HB.out | apply below_alloc | apply pw_below_drewN | apply below_drew1 | refine below_set ?_ GE402.out) | exact HB.out)⟩
          · rw [if_neg c6] at H
            have c6b0 : (((rd_T39 l0_1 x5_1).f0).toList == a1.toList) = false := beq_eq_false_iff_ne.mpr c6
            have c6b1 : (((rd_T39 l0_1 x5_1).f0).toList != a1.toList) = true := bne_iff_ne.mpr c6
            have H' := Aside0.mk H
            clear H
            have hcz8_0 : wr.cell? ⟨gb402, 0, none⟩ = some (.slice A0_0 l0_0.length c0_0) := (blk_cell BK402.out 0).trans rfl
            have hcz8_1 : wr.cell? ⟨gb402, 1, none⟩ = some (.slice A0_1 l0_1.length c0_1) := (blk_cell BK402.out 1).trans rfl
            have hfz8_0 := blk_frozen BK402.out 0
            have hfz8_1 := blk_frozen BK402.out 1
            have p403 : 0 ≤ (x5_1 : Int) := of_decide_eq_true (by first | (with_reducible assumption) | assumption)
            have q403 : x5_1 < (l0_1.length : Int) := of_decide_eq_true (by first | (with_reducible assumption) | assumption)
            obtain ⟨ad403, A403_3, c403_3, e403, hx403_0, hx403_1, hx403_2, hx403_3, hl403_3, hi403_3⟩ := at_T39 HR0_1.out x5_1 p403 q403
            cases e403
            replace hx403_0 := (HB.out.cell (World.block_lt_of_cell? w _ hx403_0)).trans hx403_0
            replace hx403_1 := (HB.out.cell (World.block_lt_of_cell? w _ hx403_1)).trans hx403_1
            replace hx403_2 := (HB.out.cell (World.block_lt_of_cell? w _ hx403_2)).trans hx403_2
            replace hx403_3 := (HB.out.cell (World.block_lt_of_cell? w _ hx403_3)).trans hx403_3
            have HR403_3 := Aside0.mk hi403_3
            have HC403_3 := Aside0.mk hl403_3
            clear hi403_3 hl403_3
            replace p403 := eq_true p403
            replace q403 := eq_true q403
            go_wp2
            go_roundg k1
            case measure => have := HK1.out; omega
            case rel => exact ⟨(wrap64 (x5_1 + 1)), (by first | rfl | (simp; done) | (simp [*]; done)), H', ⟨by have := HK1.out; omega⟩, ⟨by (with_reducible repeat (first | refine blk_drewN ?_ _ | refine blk_drew ?_ | refine blk_alloc ?_ _)); exact BK402.out⟩, ⟨by repeat (first | (with_reducible first | exact HB.out | apply below_alloc | apply pw_below_drewN | apply below_drew1 | refine below_set ?_ GE402.out) | exact HB.out)⟩⟩
        · rw [if_neg c5] at H
          exact absurd H (by simp)
      · rw [if_neg c4] at H
        have c4b0 : decide (x5_1 < (l0_1.length : Int)) = false := decide_eq_false c4
        clear c4
        obtain rfl := Option.some.inj H
        have hcz9_0 : wr.cell? ⟨gb402, 0, none⟩ = some (.slice A0_0 l0_0.length c0_0) := (blk_cell BK402.out 0).trans rfl
        have hcz9_1 : wr.cell? ⟨gb402, 1, none⟩ = some (.slice A0_1 l0_1.length c0_1) := (blk_cell BK402.out 1).trans rfl
        have hfz9_0 := blk_frozen BK402.out 0
        have hfz9_1 := blk_frozen BK402.out 1
        go_wp2
        go_ret
        exact ⟨by first | rfl | (simp [errW_none, errW_some] <;> rfl) | (simp [*, errW_none, errW_some] <;> rfl), by repeat (first | (with_reducible first | exact HB.out | apply below_alloc | apply pw_below_drewN | apply below_drew1 | refine below_set ?_ GE402.out) | exact HB.out)⟩

-- NOT PRINTED: function 6 (wayzgooselaw04_TradeCompared)

/-! ### wayzgoosekit_DupInts: function 60 -/
def wayzgoosekit_DupInts.f (l0 : List Int) : Option (List Int) := (some (([] : List Int) : List Int)).bind fun y495 => (if y495.length + l0.length < 17592186044416 then (some (y495 ++ l0)) else (none))
set_option maxHeartbeats 8000000 in
set_option maxRecDepth 100000 in
theorem wayzgoosekit_DupInts.calls (A0 : Option Addr) (c0 : Nat) (l0 : List Int) (r : List Int) (w : World) (hr0 : Kd.C (Kd.int .i64) w A0 l0.length l0) (hc0 : l0.length ≤ c0) (h : wayzgoosekit_DupInts.f l0 = some r) :
    Calls Try.prog 60 #[.slice A0 l0.length c0] w fun e w' => ∃ v0_ : Value, e = .returned (v0_) ∧ Kd.R (Kd.int .i64) 3 w' w.heap.size (fun _ => True) v0_ r ∧ Below w.heap.size w w' := by
  have HR0 := Aside0.mk hr0
  have HC0 := Aside0.mk hc0
  clear hr0 hc0
  have HB := Aside0.mk (Below.refl w.heap.size w)
  have H : ((some (([] : List Int) : List Int)).bind fun y495 => (if y495.length + l0.length < 17592186044416 then (some (y495 ++ l0)) else (none))) = some r := h
  clear h
  obtain ⟨y495, hy495⟩ : ∃ y_ : List Int, y_ = (([] : List Int)) := ⟨_, rfl⟩
  replace H : (if y495.length + l0.length < 17592186044416 then (some (y495 ++ l0)) else (none)) = some r := by first | (rw [hy495]; with_reducible exact H) | (have H2_ := (Option.bind_some _ _).symm.trans H; rw [hy495]; with_reducible exact H2_) | (have H2_ := (Option.bind_some _ _).symm.trans H; with_reducible exact H2_) | with_reducible exact H | (rw [hy495]; exact H) | exact H
  have Ny495 := Aside0.mk hy495
  clear hy495
  by_cases c2 : y495.length + l0.length < 17592186044416
  · rw [if_pos c2] at H
    have LMc2 := Aside0.mk c2
    clear c2
    obtain ⟨y498, hy498⟩ : ∃ y_ : List Int, y_ = (y495 ++ l0) := ⟨_, rfl⟩
    replace H : (some y498) = some r := by first | (rw [hy498]; with_reducible exact H) | (have H2_ := (Option.bind_some _ _).symm.trans H; rw [hy498]; with_reducible exact H2_) | (have H2_ := (Option.bind_some _ _).symm.trans H; with_reducible exact H2_) | with_reducible exact H | (rw [hy498]; exact H) | exact H
    have Ny498 := Aside0.mk hy498
    clear hy498
    obtain rfl := Option.some.inj H
    go_enter Try.func60, Try.ntmps60
    go_wp2_with (first | ((with_reducible refine gate_dst (N := 3) rfl ?_); refine Kd.R_lit (Kd.int .i64) _ 3 ?hg (N := 3) ?hd (xs := ([] : List Int)) (inner := []) (ok := fun _ => True) (okp := fun _ => True) ?hr ?hp (fun _ hk => hk) trivial (Below.refl _ _) (Nat.le_refl _) (by simp) ?_; (case hd => rfl); (case hg => rfl); (case hr => first | (go_simp; done) | (go_simp; rfl)); (case hp => exact (Reps.none _ _)); intro v496 w3 ho4 hb hg_ hnew_; clear hg_ hnew_; (first | rw [← Ny495.out] at ho4 | (simp only [Int.reduceToNat] at ho4; rw [← Ny495.out] at ho4)); have n0_ := Aside0.mk (Kd.R_lower ho4 (below_size (by repeat (first | (with_reducible first | exact HB.out | apply below_alloc | apply pw_below_drewN | apply below_drew1) | exact HB.out)))); have n1_ := Aside0.mk (below_step (by repeat (first | (with_reducible first | exact HB.out | apply below_alloc | apply pw_below_drewN | apply below_drew1) | exact HB.out)) hb); clear HB; have HO497 := n0_; have HB := n1_; clear n0_ n1_; clear hb ho4) | ((with_reducible refine gate_builtin (b := .append) (xs := #[.tmp 3, .tmp 4]) rfl ?_); at_builtin; refine Kd.R_append_rows (Kd.int .i64) (w0 := w) w.heap.size rfl (.tmp 3) (.tmp 4) 22 3 (.int .i64 0) 8 rfl Try.underlying22 info3 rfl (by decide) (by omega) v496 y495 l0 _ _ _ (fun _ => True) (fun _ => False) rfl rfl ?aO ?aR (fun _ _ h => h) (fun _ h => h.elim) ?aF ?aB ?aS ?aL ?_; (case aR => repeat (first | exact (Kd.C_below HR0.out HB.out) | (with_reducible refine Kd.C_alloc ?_ _) | (with_reducible refine Kd.C_drewN ?_ _) | (with_reducible refine Kd.C_drew ?_))); (case aB => exact (by repeat (first | (with_reducible first | exact HB.out | apply below_alloc | apply pw_below_drewN | apply below_drew1) | exact HB.out))); (case aF => exact (fun _ _ => trivial)); (case aO => exact (by (with_reducible repeat (first | apply Kd.R_alloc | apply Kd.R_drewN | apply Kd.R_drew)); exact HO497.out)); (case aS => exact (below_size (by repeat (first | (with_reducible first | exact HB.out | apply below_alloc | apply pw_below_drewN | apply below_drew1) | exact HB.out)))); (case aL => have := LMc2.out; omega); intro v499 w5 ho hb hg hat; rw [← Ny498.out] at ho; have n0_ := Aside0.mk (hb); have n1_ := Aside0.mk (ho); clear HB; clear HO497; have HB := n0_; have HO500 := n1_; clear n0_ n1_; clear ho hb hg hat))
    go_ret
    exact ⟨_, by first | rfl | (simp [errW_none, errW_some] <;> rfl) | (simp [*, errW_none, errW_some] <;> rfl), by (with_reducible repeat (first | apply Kd.R_alloc | apply Kd.R_drewN | apply Kd.R_drew)); exact HO500.out, by repeat (first | (with_reducible first | exact HB.out | apply below_alloc | apply pw_below_drewN | apply below_drew1) | exact HB.out)⟩
  · rw [if_neg c2] at H
    exact absurd H (by simp)

end Go.Proofs.Ytfbimhnlcmdcpaa.Pa
namespace Go.Proofs.Ytfbimhnlcmdcpaa.Pa
open Go.RowKit Go.Proofs.YtfbimhnlcmdcpaaW.PrintWords Go.Proofs.YtfbimhnlcmdcpaaW.PrintLast Go.Proofs.YtfbimhnlcmdcpaaW.PrintMore
attribute [local go_sem] max2_int min2_int max_two min_two max_three min_three max_four min_four   -- for this text's walks alone
set_option linter.unusedVariables false
set_option linter.unusedSimpArgs false


/-! ### wayzgoosekit_DupTrades: function 24 -/
def wayzgoosekit_DupTrades.l0 : Nat → Int → List (S51) → List (S39) → Option ((List (S51)) × (List (S39)))
  | 0, _, _, _ => none
  | k + 1, x3, x502000, x502001 => if x3 < (x502001.length : Int) then (if 0 ≤ x3 then ((wayzgoosekit_DupInts.f ((rd_T39 x502001 x3).f3)).bind fun t516 => (wayzgoosekit_DupTrades.l0 k (wrap64 (x3 + 1)) x502000 (x502001.set (x3 : Int).toNat (⟨(rd_T39 x502001 x3).f0, (rd_T39 x502001 x3).f1, (rd_T39 x502001 x3).f2, t516⟩ : S39)))) else (none)) else (some (x502000, x502001))
def wayzgoosekit_DupTrades.f (k : Nat) (l0_0 : List (S51)) (l0_1 : List (S39)) : Option ((List (S51)) × (List (S39))) := (some (([] : List (S51)) : List (S51))).bind fun y503 => (if y503.length + l0_0.length < 5864062014805 then ((some (([] : List (S39)) : List (S39))).bind fun y509 => (if y509.length + l0_1.length < 2513169434916 then (wayzgoosekit_DupTrades.l0 k 0 (y503 ++ l0_0) (y509 ++ l0_1)) else (none))) else (none))
theorem wayzgoosekit_DupTrades.mono_l : ∀ k, (∀ y0 y1 y2, LeO (wayzgoosekit_DupTrades.l0 k y0 y1 y2) (wayzgoosekit_DupTrades.l0 (k + 1) y0 y1 y2))
  | 0 => fun _ _ _ r h => by simp [wayzgoosekit_DupTrades.l0] at h
  | k + 1 => by
    have ih0 := wayzgoosekit_DupTrades.mono_l k
    · intro y0 y1 y2
      unfold wayzgoosekit_DupTrades.l0
      repeat' first
      | (with_reducible exact ih0 _ _ _)
      | (with_reducible exact LeO.refl _)
      | (with_reducible exact LeO.none _)
      | (with_reducible refine LeO.ite ?_ ?_)
      | (with_reducible refine LeO.bind ?_ (fun _ => ?_))
      | exact ih0 _ _ _
      | exact LeO.none _
      | refine LeO.ite ?_ ?_
      | refine LeO.bind ?_ (fun _ => ?_)
theorem wayzgoosekit_DupTrades.mono : ∀ a0 a1 k, LeO (wayzgoosekit_DupTrades.f k a0 a1) (wayzgoosekit_DupTrades.f (k + 1) a0 a1) := by
  intro a0 a1 k
  have ih0 := wayzgoosekit_DupTrades.mono_l k
  unfold wayzgoosekit_DupTrades.f
  repeat' first
      | (with_reducible exact ih0 _ _ _)
      | (with_reducible exact LeO.refl _)
      | (with_reducible exact LeO.none _)
      | (with_reducible refine LeO.ite ?_ ?_)
      | (with_reducible refine LeO.bind ?_ (fun _ => ?_))
      | exact ih0 _ _ _
      | exact LeO.none _
      | refine LeO.ite ?_ ?_
      | refine LeO.bind ?_ (fun _ => ?_)
end Go.Proofs.Ytfbimhnlcmdcpaa.Pa
/- Regions that draw their order: loads are taken first under a condition S on the world, shown anew behind each operation but those of a list M, which wait for all that is taken first. -/
namespace Go.Proofs.Ytfbimhnlcmdcpaa.Pa
open Go
section
variable {P : Program} {ops : Array Oper} {Q : Exit → Act → World → Prop} {md : Region.Mode} {S S' : World → Prop} {M : List Nat}

def wpAnyM (P : Program) (md : Region.Mode) (ops : Array Oper) (Q : Exit → Act → World → Prop) (S : World → Prop) (M : List Nat) : Nat → Array Bool → Act → World → Prop
  | 0, listed, a, w => Region.ready md ops listed = [] ∧ Q .normal a w
  | fuel + 1, listed, a, w =>
    (Region.ready md ops listed = [] → Q .normal a w) ∧
    ∀ i ∈ Region.ready md ops listed, wpOp P ops Q i (fun a' w' => (i ∉ M → S w') ∧ wpAnyM P md ops Q S M fuel (listed.setIfInBounds i true) a' w') a w

theorem wpAny_of_M : ∀ (fuel : Nat) (listed : Array Bool) (a : Act) (w : World), wpAnyM P md ops Q S M fuel listed a w → wpAny P md ops Q fuel listed a w
  | 0, _, _, _, h => h
  | fuel + 1, _, _, _, h => ⟨h.1, fun i hi => wpOp_mono (fun a' w' h' => wpAny_of_M fuel _ a' w' h'.2) (h.2 i hi)⟩

/-- More may be said of the world from here on. -/
theorem wpAnyM_more (hS : ∀ w, S' w → S w) : ∀ (fuel : Nat) (listed : Array Bool) (a : Act) (w : World), wpAnyM P md ops Q S' M fuel listed a w → wpAnyM P md ops Q S M fuel listed a w
  | 0, _, _, _, h => h
  | fuel + 1, _, _, _, h => ⟨h.1, fun i hi => wpOp_mono (fun a' w' h' => ⟨fun hne => hS _ (h'.1 hne), wpAnyM_more hS fuel _ a' w' h'.2⟩) (h.2 i hi)⟩

/-- Operation m waits for operation i. -/
def waitsFor (md : Region.Mode) (ops : Array Oper) (m i : Nat) : Bool :=
  match ops[m]? with
  | none => true
  | some o => o.after.any (fun e => Region.binds md e && e.on == i)

theorem not_ready {m i : Nat} (hw : waitsFor md ops m i = true) {listed : Array Bool} (hi : listed.getD i true = false) : m ∉ Region.ready md ops listed := by
  intro hm
  obtain ⟨_, om, hom, hall⟩ := mem_ready.1 hm
  unfold waitsFor at hw
  rw [hom] at hw
  obtain ⟨e, he, hb⟩ := Array.any_eq_true'.1 hw
  simp only [Bool.and_eq_true, beq_iff_eq] at hb
  have h1 := hall e he hb.1
  have h0 := hi
  rw [hb.2] at h1
  rcases Nat.lt_or_ge i listed.size with h' | h'
  · simp [h'] at h0 h1; rw [h0] at h1; cases h1
  · simp [Array.getElem?_eq_none h'] at h1

/-- C waits for i, and what of M has not come up yet is among it. -/
def laterC (md : Region.Mode) (ops : Array Oper) (listed : Array Bool) (i : Nat) (M C : List Nat) : Bool :=
  C.contains i && C.all (fun c => !listed.getD c true && (c == i || C.any (fun c' => waitsFor md ops c c'))) && M.all (fun j => listed.getD j true || C.contains j)
structure Later (md : Region.Mode) (ops : Array Oper) (listed : Array Bool) (i : Nat) (M C : List Nat) : Prop where
  own : i ∈ C
  open_ : ∀ c ∈ C, listed.getD c true = false
  waits : ∀ c ∈ C, c ≠ i → ∃ c' ∈ C, waitsFor md ops c c' = true
  all : ∀ j ∈ M, listed.getD j true = false → j ∈ C
theorem laterC_spec {listed : Array Bool} {i : Nat} {C : List Nat} (h : laterC md ops listed i M C = true) : Later md ops listed i M C := by
  unfold laterC at h
  simp only [Bool.and_eq_true, List.contains_eq_mem, decide_eq_true_eq, List.all_eq_true, Bool.not_eq_true', Bool.or_eq_true, beq_iff_eq, List.any_eq_true] at h
  obtain ⟨⟨h1, h2⟩, h3⟩ := h
  exact ⟨h1, fun c hc => (h2 c hc).1, fun c hc hne => (h2 c hc).2.resolve_left hne, fun j hj hl => (h3 j hj).resolve_left (by rw [hl]; simp)⟩
theorem Later.not {listed : Array Bool} {i j : Nat} {C : List Nat} (h : Later md ops listed i M C) (hj : j ∈ Region.ready md ops listed) (hne : j ≠ i) : j ∉ C ∧ j ∉ M := by
  have h1 : j ∉ C := fun hc => by
    obtain ⟨c', hc', hw⟩ := h.waits j hc hne
    exact not_ready hw (h.open_ c' hc') hj
  exact ⟨h1, fun hm => h1 (h.all j hm (mem_ready.1 hj).1)⟩
theorem Later.step {listed : Array Bool} {i j : Nat} {C : List Nat} (h : Later md ops listed i M C) (hj : j ∉ C) : Later md ops (listed.setIfInBounds j true) i M C := by
  refine ⟨h.own, fun c hc => ?_, h.waits, fun k hk hl => ?_⟩
  · rw [getD_set_ne true (fun e : j = c => hj (by rw [e]; exact hc))]; exact h.open_ c hc
  · by_cases hjk : j = k
    · subst hjk
      exfalso
      rcases Nat.lt_or_ge j listed.size with h' | h'
      · simp [h'] at hl
      · simp at hl
    · rw [getD_set_ne true hjk] at hl
      exact h.all k hk hl

theorem wpAnyM_first {i : Nat} {oi : Oper} {v : Value} (hi : ops[i]? = some oi) (hsel : ∀ (j : Nat) (o : Oper) cs b, ops[j]? = some o → o.op ≠ .select cs b)
    (hQ : ∀ c a w, Q (.panic c) (a.put oi.dst v) w → Q (.panic c) a w) {C : List Nat} :
    ∀ (fuel : Nat) (listed : Array Bool) (a : Act) (w : World), Later md ops listed i M C →
      (∀ j oj, ops[j]? = some oj → j ≠ i → listed.getD j true = false → (∀ e ∈ oj.after, Region.binds md e = true → e.on ≠ i) → oi.apart ops oj = true) →
      i ∈ Region.ready md ops listed → YieldsIf P ops S oi v a → S w →
      wpAnyM P md ops Q S M fuel (listed.setIfInBounds i true) (a.put oi.dst v) w → wpAnyM P md ops Q S M (fuel + 1) listed a w := by
  intro fuel
  induction fuel with
  | zero =>
    intro listed a w _ _ hr hy hS H
    refine ⟨fun h => (by rw [h] at hr; cases hr), fun j hj => ?_⟩
    by_cases hji : j = i
    · subst hji; exact hy.wpOp hi hS ⟨fun _ => hS, H⟩
    · have := ready_mono hj hji
      rw [H.1] at this
      cases this
  | succ fuel ih =>
    intro listed a w hlt hfree hr hy hS H
    refine ⟨fun h => (by rw [h] at hr; cases hr), fun j hj => ?_⟩
    by_cases hji : j = i
    · subst hji; exact hy.wpOp hi hS ⟨fun _ => hS, H⟩
    · obtain ⟨hjC, hjm⟩ := hlt.not hj hji
      have h1 := H.2 j (ready_mono hj hji)
      obtain ⟨hjun, oj, hoj, hall⟩ := mem_ready.1 hj
      have hnot : ∀ e ∈ oj.after, Region.binds md e = true → e.on ≠ i := fun e he hb heq => by
        have h1 := hall e he hb
        have h0 := (mem_ready.1 hr).1
        rw [heq] at h1
        rcases Nat.lt_or_ge i listed.size with h' | h'
        · simp [h'] at h0 h1; rw [h0] at h1; cases h1
        · simp [Array.getElem?_eq_none h'] at h1
      have h2 := wpOp_putIf hoj (hfree j oj hoj hji hjun hnot) (fun cs b => hsel i oi cs b hi) (fun cs b => hsel j oj cs b hoj) hQ hy h1
      have hfree' : ∀ k ok, ops[k]? = some ok → k ≠ i → (listed.setIfInBounds j true).getD k true = false →
          (∀ e ∈ ok.after, Region.binds md e = true → e.on ≠ i) → oi.apart ops ok = true := fun k ok hk hki hun hno => by
        refine hfree k ok hk hki ?_ hno
        by_cases hjk : j = k
        · subst hjk; exact hjun
        · rw [getD_set_ne true hjk] at hun; exact hun
      refine wpOp_mono (fun a' w' h3 => ⟨h3.2.1, ih (listed.setIfInBounds j true) a' w' (hlt.step hjC) hfree' (ready_mono hr (Ne.symm hji)) h3.1 (h3.2.1 hjm) ?_⟩) h2
      rw [Array.setIfInBounds_comm _ _ hji]
      exact h3.2.2

theorem wpAnyM_take (C : List Nat) {i : Nat} {oi : Oper} {v : Value} {fuel : Nat} {listed : Array Bool} {a : Act} {w : World} (hi : ops[i]? = some oi)
    (hs : (Region.noSelect ops && Region.free md ops listed i && (Region.ready md ops listed).contains i && laterC md ops listed i M C) = true)
    (hQ : ∀ c a w, Q (.panic c) (a.put oi.dst v) w → Q (.panic c) a w) (hy : YieldsIf P ops S oi v a) (hS : S w)
    (h : wpAnyM P md ops Q S M fuel (listed.setIfInBounds i true) (a.put oi.dst v) w) : wpAnyM P md ops Q S M (fuel + 1) listed a w := by
  simp only [Bool.and_eq_true] at hs
  obtain ⟨⟨⟨h1, h2⟩, h3⟩, h4⟩ := hs
  exact wpAnyM_first hi (Region.noSelect_spec h1) hQ fuel listed a w (laterC_spec h4) (Region.free_spec hi h2) (by simpa using h3) hy hS h

/-- The one operation that may come up comes up. -/
theorem wpAnyM_one {i : Nat} {o : Oper} {fuel : Nat} {listed : Array Bool} {a : Act} {w : World} (hr : Region.ready md ops listed = [i]) (ho : ops[i]? = some o)
    (h : ∀ K' : Act → World → Prop, Shut (∀ a w, (i ∉ M → S w) → ((i ∉ M → S w) → wpAnyM P md ops Q S M fuel (listed.setIfInBounds i true) a w) → K' a w) → if Region.wanted o (yielded ops a.tmps) = true then Oper.wp P o a w K' Q else K' (a.put o.dst undef) w) : wpAnyM P md ops Q S M (fuel + 1) listed a w := by
  refine ⟨fun h0 => absurd (hr ▸ h0) (by simp), fun j hj => ?_⟩
  rw [hr, List.mem_singleton] at hj
  subst hj
  exact wpOp_step ho (fun K' hK => h K' (fun a w hS hW => hK a w ⟨hS, hW hS⟩))
/-- Two operations may come up. -/
theorem wpAnyM_two {i j : Nat} {o o' : Oper} {fuel : Nat} {listed : Array Bool} {a : Act} {w : World} (hr : Region.ready md ops listed = [i, j]) (ho : ops[i]? = some o) (ho' : ops[j]? = some o')
    (h : ∀ K' : Act → World → Prop, Shut (∀ a w, (i ∉ M → S w) → ((i ∉ M → S w) → wpAnyM P md ops Q S M fuel (listed.setIfInBounds i true) a w) → K' a w) → if Region.wanted o (yielded ops a.tmps) = true then Oper.wp P o a w K' Q else K' (a.put o.dst undef) w)
    (h' : ∀ K' : Act → World → Prop, Shut (∀ a w, (j ∉ M → S w) → ((j ∉ M → S w) → wpAnyM P md ops Q S M fuel (listed.setIfInBounds j true) a w) → K' a w) → if Region.wanted o' (yielded ops a.tmps) = true then Oper.wp P o' a w K' Q else K' (a.put o'.dst undef) w) : wpAnyM P md ops Q S M (fuel + 1) listed a w := by
  refine ⟨fun h0 => absurd (hr ▸ h0) (by simp), fun k hk => ?_⟩
  rw [hr] at hk
  rcases List.mem_cons.1 hk with rfl | hk
  · exact wpOp_step ho (fun K' hK => h K' (fun a w hS hW => hK a w ⟨hS, hW hS⟩))
  · rw [List.mem_singleton] at hk
    subst hk
    exact wpOp_step ho' (fun K' hK => h' K' (fun a w hS hW => hK a w ⟨hS, hW hS⟩))
theorem wpAnyM_done {listed : Array Bool} {a : Act} {w : World} (hr : Region.ready md ops listed = []) (h : Q .normal a w) : ∀ fuel, wpAnyM P md ops Q S M fuel listed a w
  | 0 => ⟨hr, h⟩
  | _ + 1 => ⟨fun _ => h, by rw [hr]; simp⟩
theorem wp_region_M {id : Nat} {a : Act} {w : World} (M : List Nat) (hm : P.follows .mixedOrders = true) (hS : S w.drew)
    (h : S w.drew → wpAnyM P .any ops Q S M ops.size (Array.replicate ops.size false) a w.drew) : (Code.region id ops true).wp P Q a w :=
  wp_region_any hm (wpAny_of_M _ _ _ _ (h hS))
end
end Go.Proofs.Ytfbimhnlcmdcpaa.Pa
/- The contract of DupTrades: trades of one's own. -/
namespace Go.Proofs.Ytfbimhnlcmdcpaa.Pa
open Go.RowKit Go.Proofs.YtfbimhnlcmdcpaaW.PrintWords Go.Proofs.YtfbimhnlcmdcpaaW.PrintLast Go.Proofs.YtfbimhnlcmdcpaaW.PrintMore
attribute [local go_sem] max2_int min2_int max_two min_two max_three min_three max_four min_four
set_option linter.unusedVariables false
set_option linter.unusedSimpArgs false

/-- The state of DupTrades: the trades' variable at block b (cells x0, x1), the result's at r; classes vc, headings vh, of one's own. -/
structure DD (w W : World) (P : Nat → Prop) (b r : Nat) (x0 x1 vc : Value) (cs : List S51) (vh : Value) (hs : List S39) : Prop where
  mk ::
  wb : w.heap.size ≤ b
  wr : w.heap.size ≤ r
  br : b ≠ r
  bk : W.heap[b]? = some (.cells #[x0, x1] 26 (0, 0))
  rk : W.heap[r]? = some (.cells #[.slice none 0 0, .slice none 0 0] 26 (0, 0))
  hc : Kd.R k51 51 W w.heap.size (fun k => w.heap.size ≤ k) vc cs
  hh : Kd.N k39 39 W w.heap.size (fun k => (P k ∨ w.heap.size ≤ k) ∧ some k ≠ vc.ownBlock ∧ k ≠ b ∧ k ≠ r) vh hs
  bl : Below w.heap.size w W
/-- The headings that came in: read, apart from all of it. -/
abbrev DV (w W : World) (P : Nat → Prop) (b r : Nat) (vc vh V1 : Value) (l1 : List S39) : Prop := Kd.V k39 39 W w.heap.size (fun k => (P k ∨ w.heap.size ≤ k) ∧ some k ≠ vc.ownBlock ∧ some k ≠ vh.ownBlock ∧ k ≠ b ∧ k ≠ r) V1 l1
section
variable {w W W1 : World} {P : Nat → Prop} {b r : Nat} {x0 x1 vc vh V1 v : Value} {cs cs' : List S51} {hs hs' l1 : List S39}
theorem DD.below (h : DD w W P b r x0 x1 vc cs vh hs) (hb : Below W.heap.size W W1) : DD w W1 P b r x0 x1 vc cs vh hs :=
  ⟨h.wb, h.wr, h.br, blk_below h.bk hb, blk_below h.rk hb, Kd.R_below h.hc hb, Kd.N_below h.hh hb, below_step h.bl hb⟩
theorem DD.fresh (h : DD w W P b r x0 x1 vc cs vh hs) : ∀ k, W.heap.size ≤ k → (P k ∨ w.heap.size ≤ k) ∧ some k ≠ vc.ownBlock ∧ k ≠ b ∧ k ≠ r := by
  intro k hk
  have h1 := blk_lt h.bk
  have h2 := blk_lt h.rk
  have h3 := h.bl.size
  refine ⟨.inr (by omega), ?_, by omega, by omega⟩
  intro he
  have := Kd.R_lt h.hc k he.symm
  omega
theorem DD.litC (h : DD w W P b r x0 x1 (.slice none 0 0) [] vh hs) (hv : DV w W P b r (.slice none 0 0) vh V1 l1) (hr : Kd.R k51 51 W1 W.heap.size (fun _ => True) v []) (hb : Below W.heap.size W W1) :
    DD w W1 P b r x0 x1 v [] vh hs ∧ DV w W1 P b r v vh V1 l1 :=
  ⟨⟨h.wb, h.wr, h.br, blk_below h.bk hb, blk_below h.rk hb, Kd.R_mono (Kd.R_lower (Kd.R_newM (M := fun k => w.heap.size ≤ k) hr h.bl.size (fun _ hk => hk)) h.bl.size) (fun _ hk => hk.1),
    Kd.N_mono (Kd.N_elder' h.hh (Kd.R_base hr) hb) (fun k hk => ⟨hk.1.1, hk.2, hk.1.2.2⟩), below_step h.bl hb⟩,
   Kd.V_mono (Kd.V_elder' hv (Kd.R_base hr) hb) (fun k hk => ⟨hk.1.1, hk.2, hk.1.2.2⟩)⟩
theorem DD.litH (h : DD w W P b r x0 x1 vc cs (.slice none 0 0) []) (hv : DV w W P b r vc (.slice none 0 0) V1 l1) (hr : Kd.N k39 39 W1 W.heap.size (fun k => (P k ∨ w.heap.size ≤ k) ∧ some k ≠ vc.ownBlock ∧ k ≠ b ∧ k ≠ r) v []) (hb : Below W.heap.size W W1) :
    DD w W1 P b r x0 x1 vc cs v [] ∧ DV w W1 P b r vc v V1 l1 :=
  ⟨⟨h.wb, h.wr, h.br, blk_below h.bk hb, blk_below h.rk hb, Kd.R_below h.hc hb, Kd.N_lower hr h.bl.size, below_step h.bl hb⟩,
   Kd.V_mono (Kd.V_elder' hv (Kd.N_base hr) hb) (fun k hk => ⟨hk.1.1, hk.1.2.1, hk.2, hk.1.2.2.2⟩)⟩
theorem DD.appC (h : DD w W P b r x0 x1 vc cs vh hs) (hv : DV w W P b r vc vh V1 l1) (hr : Kd.R k51 51 W1 w.heap.size (fun k => w.heap.size ≤ k) v cs') (hb : Below w.heap.size w W1) (hg : W.grownBy W1 vc.ownBlock)
    (hat : v.ownBlock = vc.ownBlock ∨ ∃ b, v.ownBlock = some b ∧ W.heap.size ≤ b) : DD w W1 P b r x0 x1 v cs' vh hs ∧ DV w W1 P b r v vh V1 l1 :=
  ⟨⟨h.wb, h.wr, h.br, blk_grown h.bk hg (Kd.R_ne h.hc h.bk (by decide)), blk_grown h.rk hg (Kd.R_ne h.hc h.rk (by decide)), hr,
    Kd.N_mono (Kd.N_afterv (ok := fun k => (P k ∨ w.heap.size ≤ k) ∧ k ≠ b ∧ k ≠ r) (Kd.N_mono h.hh (fun k hk => ⟨⟨hk.1, hk.2.2⟩, hk.2.1⟩)) hg hat) (fun k hk => ⟨hk.1.1, hk.2, hk.1.2⟩), hb⟩,
   Kd.V_mono (Kd.V_afterv (ok := fun k => (P k ∨ w.heap.size ≤ k) ∧ some k ≠ vh.ownBlock ∧ k ≠ b ∧ k ≠ r) (Kd.V_mono hv (fun k hk => ⟨⟨hk.1, hk.2.2⟩, hk.2.1⟩)) hg hat) (fun k hk => ⟨hk.1.1, hk.2, hk.1.2⟩)⟩
theorem DD.appH (h : DD w W P b r x0 x1 vc cs vh hs) (hr : Kd.N k39 39 W1 w.heap.size (fun k => (P k ∨ w.heap.size ≤ k) ∧ some k ≠ vc.ownBlock ∧ k ≠ b ∧ k ≠ r) v hs') (hb : Below w.heap.size w W1) (hg : W.grownBy W1 vh.ownBlock) : DD w W1 P b r x0 x1 vc cs v hs' :=
  ⟨h.wb, h.wr, h.br, blk_grown h.bk hg (Kd.N_ne h.hh h.bk (by decide)), blk_grown h.rk hg (Kd.N_ne h.hh h.rk (by decide)), Kd.R_over' h.hc (Kd.N_typed h.hh) (by decide) hg, hr, hb⟩
theorem DD.put (h : DD w W P b r x0 x1 vc cs vh hs) {j : Nat} {y0 y1 : Value} (e : (#[x0, x1] : Array Value).setIfInBounds j v = #[y0, y1]) : DD w (W.setCell ⟨b, j, none⟩ v) P b r y0 y1 vc cs vh hs :=
  ⟨h.wb, h.wr, h.br, blk_put h.bk j v e, blk_far h.rk (p := ⟨b, j, none⟩) (fun e => h.br e.symm) _, Kd.R_mono (Kd.R_far (p := ⟨b, j, none⟩) (Kd.R_types h.hc h.bk (by decide)) (fun _ hk => hk.2) v) (fun _ hk => hk.1),
    Kd.N_far (p := ⟨b, j, none⟩) h.hh (fun _ hk => hk.2.2.1) v, below_set h.bl h.wb⟩
/-- What stands for element i of the headings, and that its references may be stored anew. -/
theorem DD.also {go n cap : Nat} (h : DD w W P b r x0 x1 vc cs (.slice (some ⟨go, 0, none⟩) n cap) hs) {t : List Int} (hr : Kd.R (Kd.int .i64) 3 W1 W.heap.size (fun _ => True) v t) (hb : Below W.heap.size W W1) (i : Int) (h0 : 0 ≤ i) (h1 : i < hs.length) :
    (∃ u, W1.cell? ⟨go, i.toNat * 4 + 3, none⟩ = some u) ∧ W1.frozen? ⟨go, i.toNat * 4 + 3, none⟩ = false ∧
    DD w (W1.setCell ⟨go, i.toNat * 4 + 3, none⟩ v) P b r x0 x1 vc cs (.slice (some ⟨go, 0, none⟩) n cap) (hs.set i.toNat ⟨(rd_T39 hs i).f0, (rd_T39 hs i).f1, (rd_T39 hs i).f2, t⟩) := by
  have hn : n = hs.length := (Kd.N_reads' h.hh).1
  have h2 := h.below hb
  have hgo := Kd.N_base h.hh go (by simp [Value.ownBlock])
  have hN : Kd.N k39 39 W1 w.heap.size (fun k => (P k ∨ w.heap.size ≤ k) ∧ some k ≠ vc.ownBlock ∧ k ≠ b ∧ k ≠ r) (.slice (some ⟨go, 0, none⟩) n cap) hs := h2.hh
  obtain ⟨c, hcl, hM, hcc, hfr⟩ := Kd.N_elem hN z39 i h0 (by omega)
  obtain ⟨u3, d3, rfl, ul, ge⟩ := k39_openF hM
  have hrr : Kd.R (Kd.int .i64) 3 W1 w.heap.size (fun k => ((P k ∨ w.heap.size ≤ k) ∧ some k ≠ vc.ownBlock ∧ k ≠ b ∧ k ≠ r) ∧ k ≠ go) v t := by
    have hr1 := Kd.R_lower (Kd.R_newM (M := fun k => w.heap.size ≤ k) hr h.bl.size (fun _ hk => hk)) h.bl.size
    refine Kd.R_mono (Kd.R_types (Kd.R_types (Kd.R_apart' (Kd.R_apart' hr1 (Kd.R_typed h2.hc) (by decide)) (Kd.N_typed h2.hh) (by decide)) h2.bk (by decide)) h2.rk (by decide)) (fun k hk => ⟨⟨.inr hk.1.1.1.1.1, hk.1.1.1.2, hk.1.2, hk.2⟩, fun e => hk.1.1.2 (by rw [e]; rfl)⟩)
  obtain ⟨A, cc, rfl, hlc, -⟩ := Kd.R_reads hrr
  have HP := Kd.N_seg hN i h0 (by omega) (seg := [.slice A t.length cc]) (j := 3) hcl hcc (show 4 ≤ 4 from by decide) (x' := (⟨(rd_T39 hs i).f0, (rd_T39 hs i).f1, (rd_T39 hs i).f2, t⟩ : S39)) (k39_mkF _ _ (⟨(rd_T39 hs i).f0, (rd_T39 hs i).f1, (rd_T39 hs i).f2, t⟩ : S39) hlc (Kd.R_F hrr)) (fun _ hk => hk)
  have hx := hcc 3 _ rfl
  have hf := hfr 3
  refine ⟨⟨_, hx⟩, hf, h.wb, h.wr, h.br, blk_grown h2.bk HP.2 ?_, blk_grown h2.rk HP.2 ?_, Kd.R_over' (v := .slice (some ⟨go, 0, none⟩) n cap) h2.hc (Kd.N_typed h2.hh) (by decide) HP.2, HP.1, below_set h2.bl hgo⟩
  · exact Kd.N_ne h2.hh h2.bk (by decide)
  · exact Kd.N_ne h2.hh h2.rk (by decide)
end

set_option maxHeartbeats 8000000 in
set_option maxRecDepth 100000 in
theorem wayzgoosekit_DupTrades.calls (k : Nat) (A0_0 : Option Addr) (c0_0 : Nat) (l0_0 : List (S51)) (P0_1_ : Nat → Prop) (A0_1 : Option Addr) (c0_1 : Nat) (l0_1 : List (S39)) (r1 : List (S51)) (r2 : List (S39)) (w : World) (hr0_0 : Kd.C k51 w A0_0 l0_0.length l0_0) (hc0_0 : l0_0.length ≤ c0_0) (hs0_1 : Kd.V k39 39 w w.heap.size (fun k_ => P0_1_ k_) (.slice A0_1 l0_1.length c0_1) l0_1) (h : wayzgoosekit_DupTrades.f k l0_0 l0_1 = some (r1, r2)) :
    Calls Try.prog 24 #[.agg #[.slice A0_0 l0_0.length c0_0, .slice A0_1 l0_1.length c0_1]] w fun e w' => ∃ v0_ v1_ : Value, e = .returned (.agg #[v0_, v1_]) ∧ Kd.R k51 51 w' w.heap.size (fun k_ => (w.heap.size ≤ k_)) v0_ r1 ∧ Kd.N k39 39 w' w.heap.size (fun k_ => (P0_1_ k_ ∨ w.heap.size ≤ k_) ∧ some k_ ≠ (v0_ : Value).ownBlock) v1_ r2 ∧ Below w.heap.size w w' := by
  have hu1 := Try.underlying26
  have hu2 := Try.underlying51
  have hu3 := Try.underlying39
  simp only [wayzgoosekit_DupTrades.f, Option.bind_some, List.length_nil, Nat.zero_add, List.nil_append] at h
  by_cases c2 : l0_0.length < 5864062014805
  case neg => rw [if_neg c2] at h; cases h
  rw [if_pos c2] at h
  by_cases c3 : l0_1.length < 2513169434916
  case neg => rw [if_neg c3] at h; cases h
  rw [if_pos c3] at h
  have H := Aside0.mk h
  clear h
  obtain ⟨V0, hV0⟩ : ∃ V, V = Value.slice A0_0 l0_0.length c0_0 := ⟨_, rfl⟩
  obtain ⟨V1, hV1⟩ : ∃ V, V = Value.slice A0_1 l0_1.length c0_1 := ⟨_, rfl⟩
  obtain ⟨w1, hw1⟩ : ∃ W, W = (w.alloc (.cells #[.slice A0_0 l0_0.length c0_0, .slice A0_1 l0_1.length c0_1] 26)).alloc (.cells #[.slice none 0 0, .slice none 0 0] 26) := ⟨_, rfl⟩
  have hb1 := ((Below.refl w.heap.size w).alloc (Nat.le_refl _) (.cells #[.slice A0_0 l0_0.length c0_0, .slice A0_1 l0_1.length c0_1] 26)).alloc (by simp) (.cells #[.slice none 0 0, .slice none 0 0] 26)
  rw [← hw1] at hb1
  have hz1 : w1.heap.size = w.heap.size + 1 + 1 := by rw [hw1, World.size_alloc, World.size_alloc]
  have hD : DD w w1 P0_1_ w.heap.size (w.heap.size + 1) (.slice A0_0 l0_0.length c0_0) (.slice A0_1 l0_1.length c0_1) (.slice none 0 0) [] (.slice none 0 0) [] := by
    refine ⟨Nat.le_refl _, by omega, by omega, ?_, ?_, Kd.R_nil _ _ _ _ _, Kd.N_nil _ _ _ _ _, hb1⟩
    · rw [hw1]; exact blk_alloc (heap_alloc_new w _) _
    · have := heap_alloc_new (w.alloc (.cells #[.slice A0_0 l0_0.length c0_0, .slice A0_1 l0_1.length c0_1] 26)) (.cells #[.slice none 0 0, .slice none 0 0] 26)
      rw [World.size_alloc] at this
      rw [hw1]; exact this
  have hV : DV w w1 P0_1_ w.heap.size (w.heap.size + 1) (.slice none 0 0) (.slice none 0 0) (.slice A0_1 l0_1.length c0_1) l0_1 :=
    Kd.V_mono (Kd.V_below (Kd.V_bound hs0_1) hb1) (fun k hk => ⟨.inl hk.1, by simp [Value.ownBlock], by simp [Value.ownBlock], by have := hk.2; omega, by have := hk.2; omega⟩)
  go_enter Try.func24, Try.ntmps24
  go_upto_region 1 with (fail)
  rw [← hw1]
  clear hw1 hb1 hz1
  go_cut [7, 11] (fun v7 v11 wc => ∃ (vc vh : Value), v7 = vc ∧ v11 = vh ∧ DD w wc P0_1_ w.heap.size (w.heap.size + 1) vc vh vc l0_0 vh l0_1)
  case first =>
      have hD0 := hD.below (below_drew (Below.refl _ _))
      have hV0 : DV w w1.drew P0_1_ w.heap.size (w.heap.size + 1) (.slice none 0 0) (.slice none 0 0) (.slice A0_1 l0_1.length c0_1) l0_1 := Kd.V_drew hV
      have hL := fun W vc cs vh hs (hD : DD w W P0_1_ w.heap.size (w.heap.size + 1) (.slice A0_0 l0_0.length c0_0) (.slice A0_1 l0_1.length c0_1) vc cs vh hs) => And.intro ((blk_cell hD.bk 0).trans rfl : W.cell? ⟨w.heap.size, 0, none⟩ = some (.slice A0_0 l0_0.length c0_0)) ((blk_cell hD.bk 1).trans rfl : W.cell? ⟨w.heap.size, 1, none⟩ = some (.slice A0_1 l0_1.length c0_1))
      refine wp_region_M (S := fun W => W.cell? ⟨w.heap.size, 0, none⟩ = some (.slice A0_0 l0_0.length c0_0) ∧ W.cell? ⟨w.heap.size, 1, none⟩ = some (.slice A0_1 l0_1.length c0_1)) [9, 10, 11] (by kernel_rfl) (hL _ _ _ _ _ hD0) (fun hHeld => ?_)
      refine wpAnyM_take [1, 2, 3, 7, 8, 9, 10, 11] (i := 1) (oi := _) (v := ?hv1) rfl (by kernel_rfl) (fun _ _ _ h => h) (Or.inl ⟨by rfl, ?hy1⟩) (by assumption) ?re1
      case hy1 => intro W hSw; (try dsimp only at hSw); go_simp; try with_reducible rfl
      try simp only [Act.put, List.setIfInBounds_toArray, List.set_cons_zero, List.set_cons_succ]
      refine wpAnyM_take [2, 3, 7, 8, 9, 10, 11] (i := 2) (oi := _) (v := ?hv2) rfl (by kernel_rfl) (fun _ _ _ h => h) (Or.inl ⟨by rfl, ?hy2⟩) (by assumption) ?re2
      case hy2 => intro W hSw; (try dsimp only at hSw); go_simp; try with_reducible rfl
      try simp only [Act.put, List.setIfInBounds_toArray, List.set_cons_zero, List.set_cons_succ]
      refine wpAnyM_take [5, 6, 7, 8, 9, 10, 11] (i := 5) (oi := _) (v := ?hv5) rfl (by kernel_rfl) (fun _ _ _ h => h) (Or.inl ⟨by rfl, ?hy5⟩) (by assumption) ?re5
      case hy5 => intro W hSw; (try dsimp only at hSw); go_simp; try with_reducible rfl
      try simp only [Act.put, List.setIfInBounds_toArray, List.set_cons_zero, List.set_cons_succ]
      refine wpAnyM_take [6, 7, 8, 9, 10, 11] (i := 6) (oi := _) (v := ?hv6) rfl (by kernel_rfl) (fun _ _ _ h => h) (Or.inl ⟨by rfl, ?hy6⟩) (by assumption) ?re6
      case hy6 => intro W hSw; (try dsimp only at hSw); go_simp; try with_reducible rfl
      try simp only [Act.put, List.setIfInBounds_toArray, List.set_cons_zero, List.set_cons_succ]
      refine wpAnyM_two (i := 0) (j := 4) (o := _) (o' := _) (by kernel_rfl) rfl rfl (fun K hK => ?_) (fun K hK => ?_)
      · refine Kd.R_lit_step k51 _ 51 (by rfl) (N := 4) rfl (xs := ([] : List S51)) (inner := []) (ok := fun _ => True) (okp := fun _ => True) (by go_simp; first | done | rfl) (Reps.none _ _) (fun _ hk => hk) trivial (Below.refl _ _) (Nat.le_refl _) (by simp) ?_
        intro v4 w4 hr4 hb4 _ _
        obtain ⟨hD1, hV1⟩ := hD0.litC hV0 hr4 hb4
        refine hK.out _ _ (fun _ => hL _ _ _ _ _ hD1) (fun hHeld => ?_)
        replace hHeld := hHeld (by decide)
        clear hK
        clear K
        try simp only [Act.put, List.setIfInBounds_toArray, List.set_cons_zero, List.set_cons_succ]
        refine wpAnyM_two (i := 3) (j := 4) (o := _) (o' := _) (by kernel_rfl) rfl rfl (fun K hK => ?_) (fun K hK => ?_)
        · refine Kd.R_append_rows_step k51 (w0 := w) w.heap.size (by rfl) (.tmp 4) (.tmp 6) 23 51 (.agg #[(.string ⟨#[]⟩), (.int .i64 0)]) 24 (by rfl) Try.underlying23 info51 (by rfl) (by decide) (by decide) _ [] l0_0 _ _ _ (fun k_ => w.heap.size ≤ k_) (fun _ => False) (by rfl) (by rfl) hD1.hc (Kd.C_below hr0_0 hD1.bl) (fun _ _ h => h) (fun _ h => h.elim) (fun k hk => Nat.le_trans hD1.bl.size hk) hD1.bl hD1.bl.size (by simp only [List.length_nil, Nat.zero_add]; omega) ?_
          intro v7 w7 hr7 hb7 hg7 ha7
          obtain ⟨hD2, hV2⟩ := hD1.appC hV1 hr7 hb7 hg7 ha7
          refine hK.out _ _ (fun _ => hL _ _ _ _ _ hD2) (fun hHeld => ?_)
          replace hHeld := hHeld (by decide)
          clear hK
          clear K
          try simp only [Act.put, List.setIfInBounds_toArray, List.set_cons_zero, List.set_cons_succ]
          refine wpAnyM_take [8, 9, 10, 11] (i := 8) (oi := _) (v := ?hv8a) rfl (by kernel_rfl) (fun _ _ _ h => h) (Or.inl ⟨by rfl, ?hy8a⟩) (by assumption) ?re8a
          case hy8a => intro W hSw; (try dsimp only at hSw); go_simp; try with_reducible rfl
          try simp only [Act.put, List.setIfInBounds_toArray, List.set_cons_zero, List.set_cons_succ]
          refine wpAnyM_one (i := 4) (o := _) (by kernel_rfl) rfl (fun K hK => ?_)
          refine Kd.N_lit_step k39 _ 39 (by rfl) (N' := 8) rfl (xs := ([] : List S39)) (inner := []) (ok := fun k => (P0_1_ k ∨ w.heap.size ≤ k) ∧ some k ≠ (v7 : Value).ownBlock ∧ k ≠ w.heap.size ∧ k ≠ w.heap.size + 1) (okp := fun k => (P0_1_ k ∨ w.heap.size ≤ k) ∧ some k ≠ (v7 : Value).ownBlock ∧ k ≠ w.heap.size ∧ k ≠ w.heap.size + 1) (by go_simp; first | done | rfl) (Reps.none _ _) (fun _ hk => hk) (hD2.fresh _ (Nat.le_refl _)) (Below.refl _ _) (Nat.le_refl _) (by simp) ?_
          intro v8 w8 hr8 hb8 _ _
          obtain ⟨hD3, hV3⟩ := hD2.litH hV2 hr8 hb8
          refine hK.out _ _ (fun _ => hL _ _ _ _ _ hD3) (fun hHeld => ?_)
          replace hHeld := hHeld (by decide)
          clear hK
          clear K
          try simp only [Act.put, List.setIfInBounds_toArray, List.set_cons_zero, List.set_cons_succ]
          refine wpAnyM_one (i := 7) (o := _) (by kernel_rfl) rfl (fun K hK => ?_)
          refine Kd.N_append_rows_step k39 (w0 := w) w.heap.size (by rfl) (.tmp 8) (.tmp 10) 24 39 (.agg #[(.string ⟨#[]⟩), (.int .i64 0), (.int .i64 0), (.slice none 0 0)]) 56 (by rfl) Try.underlying24 info39 (by rfl) (by decide) (by decide) _ [] l0_1 _ _ _ _ _ (by rfl) (by rfl) hD3.hh (Kd.V_F hV3) (fun k hk => ⟨⟨hk.1, hk.2.1, hk.2.2.2⟩, hk.2.2.1⟩) hD3.fresh hD3.bl hD3.bl.size (by simp only [List.length_nil, Nat.zero_add]; omega) ?_
          intro v11 w11 hr11 hb11 hg11 ha11
          have hD4 := hD3.appH hr11 hb11 hg11
          refine hK.out _ _ (fun _ => hL _ _ _ _ _ hD4) (fun hHeld => ?_)
          replace hHeld := hHeld (by decide)
          clear hK
          clear K
          try simp only [Act.put, List.setIfInBounds_toArray, List.set_cons_zero, List.set_cons_succ]
          obtain ⟨A7, c7, rfl⟩ := Kd.R_slice hD4.hc
          obtain ⟨A11, c11, rfl⟩ := Kd.N_slice hD4.hh
          have hD5 := hD4.put (j := 0) (v := .slice A7 ([] ++ l0_0).length c7) rfl
          have hD6 := hD5.put (j := 1) (v := .slice A11 ([] ++ l0_1).length c11) rfl
          have hf0 := blk_frozen hD4.bk 0
          have hf1 := blk_frozen hD4.bk 1
          have hq0 := (blk_cell hD4.bk 0).trans rfl
          have hq1 := (blk_cell hD5.bk 1).trans rfl
          refine wpAnyM_one (i := 9) (o := _) (by kernel_rfl) rfl (fun K hK => ?_)
          go_simp
          refine hK.out _ _ (fun h => absurd (by decide) h) (fun _ => ?_)
          clear hK
          clear K
          try simp only [Act.put, List.setIfInBounds_toArray, List.set_cons_zero, List.set_cons_succ]
          refine wpAnyM_one (i := 10) (o := _) (by kernel_rfl) rfl (fun K hK => ?_)
          go_simp
          refine hK.out _ _ (fun h => absurd (by decide) h) (fun _ => ?_)
          clear hK
          clear K
          try simp only [Act.put, List.setIfInBounds_toArray, List.set_cons_zero, List.set_cons_succ]
          refine wpAnyM_one (i := 11) (o := _) (by kernel_rfl) rfl (fun K hK => ?_)
          go_simp
          refine hK.out _ _ (fun h => absurd (by decide) h) (fun _ => ?_)
          clear hK
          clear K
          try simp only [Act.put, List.setIfInBounds_toArray, List.set_cons_zero, List.set_cons_succ]
          refine wpAnyM_done (by kernel_rfl) ?_ _
          try simp only [Act.put, List.setIfInBounds_toArray, List.set_cons_zero, List.set_cons_succ]
          go_wp2
          go_meet
          case rel => exact ⟨_, _, rfl, rfl, hD6⟩
        · refine Kd.N_lit_step k39 _ 39 (by rfl) (N' := 8) rfl (xs := ([] : List S39)) (inner := []) (ok := fun k => (P0_1_ k ∨ w.heap.size ≤ k) ∧ some k ≠ (v4 : Value).ownBlock ∧ k ≠ w.heap.size ∧ k ≠ w.heap.size + 1) (okp := fun k => (P0_1_ k ∨ w.heap.size ≤ k) ∧ some k ≠ (v4 : Value).ownBlock ∧ k ≠ w.heap.size ∧ k ≠ w.heap.size + 1) (by go_simp; first | done | rfl) (Reps.none _ _) (fun _ hk => hk) (hD1.fresh _ (Nat.le_refl _)) (Below.refl _ _) (Nat.le_refl _) (by simp) ?_
          intro v8 w8 hr8 hb8 _ _
          obtain ⟨hD2, hV2⟩ := hD1.litH hV1 hr8 hb8
          refine hK.out _ _ (fun _ => hL _ _ _ _ _ hD2) (fun hHeld => ?_)
          replace hHeld := hHeld (by decide)
          clear hK
          clear K
          try simp only [Act.put, List.setIfInBounds_toArray, List.set_cons_zero, List.set_cons_succ]
          refine wpAnyM_one (i := 3) (o := _) (by kernel_rfl) rfl (fun K hK => ?_)
          refine Kd.R_append_rows_step k51 (w0 := w) w.heap.size (by rfl) (.tmp 4) (.tmp 6) 23 51 (.agg #[(.string ⟨#[]⟩), (.int .i64 0)]) 24 (by rfl) Try.underlying23 info51 (by rfl) (by decide) (by decide) _ [] l0_0 _ _ _ (fun k_ => w.heap.size ≤ k_) (fun _ => False) (by rfl) (by rfl) hD2.hc (Kd.C_below hr0_0 hD2.bl) (fun _ _ h => h) (fun _ h => h.elim) (fun k hk => Nat.le_trans hD2.bl.size hk) hD2.bl hD2.bl.size (by simp only [List.length_nil, Nat.zero_add]; omega) ?_
          intro v7 w7 hr7 hb7 hg7 ha7
          obtain ⟨hD3, hV3⟩ := hD2.appC hV2 hr7 hb7 hg7 ha7
          refine hK.out _ _ (fun _ => hL _ _ _ _ _ hD3) (fun hHeld => ?_)
          replace hHeld := hHeld (by decide)
          clear hK
          clear K
          try simp only [Act.put, List.setIfInBounds_toArray, List.set_cons_zero, List.set_cons_succ]
          refine wpAnyM_take [8, 9, 10, 11] (i := 8) (oi := _) (v := ?hv8b) rfl (by kernel_rfl) (fun _ _ _ h => h) (Or.inl ⟨by rfl, ?hy8b⟩) (by assumption) ?re8b
          case hy8b => intro W hSw; (try dsimp only at hSw); go_simp; try with_reducible rfl
          try simp only [Act.put, List.setIfInBounds_toArray, List.set_cons_zero, List.set_cons_succ]
          refine wpAnyM_one (i := 7) (o := _) (by kernel_rfl) rfl (fun K hK => ?_)
          refine Kd.N_append_rows_step k39 (w0 := w) w.heap.size (by rfl) (.tmp 8) (.tmp 10) 24 39 (.agg #[(.string ⟨#[]⟩), (.int .i64 0), (.int .i64 0), (.slice none 0 0)]) 56 (by rfl) Try.underlying24 info39 (by rfl) (by decide) (by decide) _ [] l0_1 _ _ _ _ _ (by rfl) (by rfl) hD3.hh (Kd.V_F hV3) (fun k hk => ⟨⟨hk.1, hk.2.1, hk.2.2.2⟩, hk.2.2.1⟩) hD3.fresh hD3.bl hD3.bl.size (by simp only [List.length_nil, Nat.zero_add]; omega) ?_
          intro v11 w11 hr11 hb11 hg11 ha11
          have hD4 := hD3.appH hr11 hb11 hg11
          refine hK.out _ _ (fun _ => hL _ _ _ _ _ hD4) (fun hHeld => ?_)
          replace hHeld := hHeld (by decide)
          clear hK
          clear K
          try simp only [Act.put, List.setIfInBounds_toArray, List.set_cons_zero, List.set_cons_succ]
          obtain ⟨A7, c7, rfl⟩ := Kd.R_slice hD4.hc
          obtain ⟨A11, c11, rfl⟩ := Kd.N_slice hD4.hh
          have hD5 := hD4.put (j := 0) (v := .slice A7 ([] ++ l0_0).length c7) rfl
          have hD6 := hD5.put (j := 1) (v := .slice A11 ([] ++ l0_1).length c11) rfl
          have hf0 := blk_frozen hD4.bk 0
          have hf1 := blk_frozen hD4.bk 1
          have hq0 := (blk_cell hD4.bk 0).trans rfl
          have hq1 := (blk_cell hD5.bk 1).trans rfl
          refine wpAnyM_one (i := 9) (o := _) (by kernel_rfl) rfl (fun K hK => ?_)
          go_simp
          refine hK.out _ _ (fun h => absurd (by decide) h) (fun _ => ?_)
          clear hK
          clear K
          try simp only [Act.put, List.setIfInBounds_toArray, List.set_cons_zero, List.set_cons_succ]
          refine wpAnyM_one (i := 10) (o := _) (by kernel_rfl) rfl (fun K hK => ?_)
          go_simp
          refine hK.out _ _ (fun h => absurd (by decide) h) (fun _ => ?_)
          clear hK
          clear K
          try simp only [Act.put, List.setIfInBounds_toArray, List.set_cons_zero, List.set_cons_succ]
          refine wpAnyM_one (i := 11) (o := _) (by kernel_rfl) rfl (fun K hK => ?_)
          go_simp
          refine hK.out _ _ (fun h => absurd (by decide) h) (fun _ => ?_)
          clear hK
          clear K
          try simp only [Act.put, List.setIfInBounds_toArray, List.set_cons_zero, List.set_cons_succ]
          refine wpAnyM_done (by kernel_rfl) ?_ _
          try simp only [Act.put, List.setIfInBounds_toArray, List.set_cons_zero, List.set_cons_succ]
          go_wp2
          go_meet
          case rel => exact ⟨_, _, rfl, rfl, hD6⟩
      · refine Kd.N_lit_step k39 _ 39 (by rfl) (N' := 8) rfl (xs := ([] : List S39)) (inner := []) (ok := fun k => (P0_1_ k ∨ w.heap.size ≤ k) ∧ some k ≠ (.slice none 0 0 : Value).ownBlock ∧ k ≠ w.heap.size ∧ k ≠ w.heap.size + 1) (okp := fun k => (P0_1_ k ∨ w.heap.size ≤ k) ∧ some k ≠ (.slice none 0 0 : Value).ownBlock ∧ k ≠ w.heap.size ∧ k ≠ w.heap.size + 1) (by go_simp; first | done | rfl) (Reps.none _ _) (fun _ hk => hk) (hD0.fresh _ (Nat.le_refl _)) (Below.refl _ _) (Nat.le_refl _) (by simp) ?_
        intro v8 w8 hr8 hb8 _ _
        obtain ⟨hD1, hV1⟩ := hD0.litH hV0 hr8 hb8
        refine hK.out _ _ (fun _ => hL _ _ _ _ _ hD1) (fun hHeld => ?_)
        replace hHeld := hHeld (by decide)
        clear hK
        clear K
        try simp only [Act.put, List.setIfInBounds_toArray, List.set_cons_zero, List.set_cons_succ]
        refine wpAnyM_one (i := 0) (o := _) (by kernel_rfl) rfl (fun K hK => ?_)
        refine Kd.R_lit_step k51 _ 51 (by rfl) (N := 4) rfl (xs := ([] : List S51)) (inner := []) (ok := fun _ => True) (okp := fun _ => True) (by go_simp; first | done | rfl) (Reps.none _ _) (fun _ hk => hk) trivial (Below.refl _ _) (Nat.le_refl _) (by simp) ?_
        intro v4 w4 hr4 hb4 _ _
        obtain ⟨hD2, hV2⟩ := hD1.litC hV1 hr4 hb4
        refine hK.out _ _ (fun _ => hL _ _ _ _ _ hD2) (fun hHeld => ?_)
        replace hHeld := hHeld (by decide)
        clear hK
        clear K
        try simp only [Act.put, List.setIfInBounds_toArray, List.set_cons_zero, List.set_cons_succ]
        refine wpAnyM_one (i := 3) (o := _) (by kernel_rfl) rfl (fun K hK => ?_)
        refine Kd.R_append_rows_step k51 (w0 := w) w.heap.size (by rfl) (.tmp 4) (.tmp 6) 23 51 (.agg #[(.string ⟨#[]⟩), (.int .i64 0)]) 24 (by rfl) Try.underlying23 info51 (by rfl) (by decide) (by decide) _ [] l0_0 _ _ _ (fun k_ => w.heap.size ≤ k_) (fun _ => False) (by rfl) (by rfl) hD2.hc (Kd.C_below hr0_0 hD2.bl) (fun _ _ h => h) (fun _ h => h.elim) (fun k hk => Nat.le_trans hD2.bl.size hk) hD2.bl hD2.bl.size (by simp only [List.length_nil, Nat.zero_add]; omega) ?_
        intro v7 w7 hr7 hb7 hg7 ha7
        obtain ⟨hD3, hV3⟩ := hD2.appC hV2 hr7 hb7 hg7 ha7
        refine hK.out _ _ (fun _ => hL _ _ _ _ _ hD3) (fun hHeld => ?_)
        replace hHeld := hHeld (by decide)
        clear hK
        clear K
        try simp only [Act.put, List.setIfInBounds_toArray, List.set_cons_zero, List.set_cons_succ]
        refine wpAnyM_take [8, 9, 10, 11] (i := 8) (oi := _) (v := ?hv8c) rfl (by kernel_rfl) (fun _ _ _ h => h) (Or.inl ⟨by rfl, ?hy8c⟩) (by assumption) ?re8c
        case hy8c => intro W hSw; (try dsimp only at hSw); go_simp; try with_reducible rfl
        try simp only [Act.put, List.setIfInBounds_toArray, List.set_cons_zero, List.set_cons_succ]
        refine wpAnyM_one (i := 7) (o := _) (by kernel_rfl) rfl (fun K hK => ?_)
        refine Kd.N_append_rows_step k39 (w0 := w) w.heap.size (by rfl) (.tmp 8) (.tmp 10) 24 39 (.agg #[(.string ⟨#[]⟩), (.int .i64 0), (.int .i64 0), (.slice none 0 0)]) 56 (by rfl) Try.underlying24 info39 (by rfl) (by decide) (by decide) _ [] l0_1 _ _ _ _ _ (by rfl) (by rfl) hD3.hh (Kd.V_F hV3) (fun k hk => ⟨⟨hk.1, hk.2.1, hk.2.2.2⟩, hk.2.2.1⟩) hD3.fresh hD3.bl hD3.bl.size (by simp only [List.length_nil, Nat.zero_add]; omega) ?_
        intro v11 w11 hr11 hb11 hg11 ha11
        have hD4 := hD3.appH hr11 hb11 hg11
        refine hK.out _ _ (fun _ => hL _ _ _ _ _ hD4) (fun hHeld => ?_)
        replace hHeld := hHeld (by decide)
        clear hK
        clear K
        try simp only [Act.put, List.setIfInBounds_toArray, List.set_cons_zero, List.set_cons_succ]
        obtain ⟨A7, c7, rfl⟩ := Kd.R_slice hD4.hc
        obtain ⟨A11, c11, rfl⟩ := Kd.N_slice hD4.hh
        have hD5 := hD4.put (j := 0) (v := .slice A7 ([] ++ l0_0).length c7) rfl
        have hD6 := hD5.put (j := 1) (v := .slice A11 ([] ++ l0_1).length c11) rfl
        have hf0 := blk_frozen hD4.bk 0
        have hf1 := blk_frozen hD4.bk 1
        have hq0 := (blk_cell hD4.bk 0).trans rfl
        have hq1 := (blk_cell hD5.bk 1).trans rfl
        refine wpAnyM_one (i := 9) (o := _) (by kernel_rfl) rfl (fun K hK => ?_)
        go_simp
        refine hK.out _ _ (fun h => absurd (by decide) h) (fun _ => ?_)
        clear hK
        clear K
        try simp only [Act.put, List.setIfInBounds_toArray, List.set_cons_zero, List.set_cons_succ]
        refine wpAnyM_one (i := 10) (o := _) (by kernel_rfl) rfl (fun K hK => ?_)
        go_simp
        refine hK.out _ _ (fun h => absurd (by decide) h) (fun _ => ?_)
        clear hK
        clear K
        try simp only [Act.put, List.setIfInBounds_toArray, List.set_cons_zero, List.set_cons_succ]
        refine wpAnyM_one (i := 11) (o := _) (by kernel_rfl) rfl (fun K hK => ?_)
        go_simp
        refine hK.out _ _ (fun h => absurd (by decide) h) (fun _ => ?_)
        clear hK
        clear K
        try simp only [Act.put, List.setIfInBounds_toArray, List.set_cons_zero, List.set_cons_succ]
        refine wpAnyM_done (by kernel_rfl) ?_ _
        try simp only [Act.put, List.setIfInBounds_toArray, List.set_cons_zero, List.set_cons_succ]
        go_wp2
        go_meet
        case rel => exact ⟨_, _, rfl, rfl, hD6⟩
  case rest =>
    clear hD hV hs0_1
    obtain ⟨vC, vH, -, -, hD⟩ := hcut
    obtain ⟨w5, hw5⟩ : ∃ w5, w5 = wc := ⟨_, rfl⟩
    subst hw5
    go_upto_region 2 with (fail)
    go_wp2
    go_loopg [3] k (fun kq v3 wr => ∃ (x : Int) (vh : Value) (hs : List S39), v3 = .int .i64 x ∧ Aside0 (wayzgoosekit_DupTrades.l0 kq x l0_0 hs = some (r1, r2)) ∧ DD w wr P0_1_ w.heap.size (w.heap.size + 1) vC vh vC l0_0 vh hs)
    case atStart => exact ⟨0, _, _, rfl, H, hD⟩
    case round =>
      clear hD H
      obtain ⟨x, vh, hs, rfl, HA, hD⟩ := hrel
      cases gk with
      | zero => exact absurd HA.out (by simp [wayzgoosekit_DupTrades.l0])
      | succ k1 =>
        have h := HA.out
        clear HA
        simp only [wayzgoosekit_DupTrades.l0] at h
        obtain ⟨Ac, cc, rfl, hlc, -⟩ := Kd.R_reads hD.hc
        obtain ⟨Ah, ch, rfl, hlh, -⟩ := Kd.N_reads hD.hh
        have hq1 := (blk_cell hD.bk 1).trans rfl
        have hq0 := (blk_cell hD.bk 0).trans rfl
        by_cases c1 : x < (hs.length : Int)
        · rw [if_pos c1] at h
          have hlt : decide (x < (hs.length : Int)) = true := decide_eq_true c1
          by_cases c2 : 0 ≤ x
          · rw [if_pos c2] at h
            obtain ⟨t, hdu, h⟩ := Option.bind_eq_some_iff.1 h
            have H := Aside0.mk h
            clear h
            obtain ⟨go, cap, e, hgo, -, -⟩ := Kd.N_form hD.hh (by omega)
            cases e
            have hDd := hD.below (below_drew (Below.refl _ _))
            obtain ⟨cE, hcl, hM, hcc, hfr⟩ := Kd.N_elem hDd.hh z39 x c2 c1
            obtain ⟨A3, n3, rfl, hl3, hF⟩ := k39_openF hM
            have hx3 := hcc 3 _ rfl
            have hL : ∀ W, DD w W P0_1_ w.heap.size (w.heap.size + 1) (.slice Ac l0_0.length cc) (.slice (some ⟨go, 0, none⟩) hs.length ch) (.slice Ac l0_0.length cc) l0_0 (.slice (some ⟨go, 0, none⟩) hs.length ch) hs → W.cell? ⟨w.heap.size, 1, none⟩ = some (.slice (some ⟨go, 0, none⟩) hs.length ch) := fun W hD => (blk_cell hD.bk 1).trans rfl
            go_upto_region 5 with (fail)
            refine wp_region_M (S := fun W => W.cell? ⟨w.heap.size, 1, none⟩ = some (.slice (some ⟨go, 0, none⟩) hs.length ch) ∧ W.cell? ⟨go, x.toNat * 4 + 3, none⟩ = some (.slice A3 (rd_T39 hs x).f3.length n3)) [12] (by kernel_rfl) ⟨hL _ hDd, hx3⟩ (fun hHeld => ?_)
            refine wpAnyM_take [0, 1, 10, 11, 12] (i := 0) (oi := _) (v := ?hv0r) rfl (by kernel_rfl) (fun _ _ _ h => h) (Or.inl ⟨by rfl, ?hy0r⟩) (by assumption) ?re0r
            case hy0r => intro W hSw; (try dsimp only at hSw); go_simp; try with_reducible rfl
            try simp only [Act.put, List.setIfInBounds_toArray, List.set_cons_zero, List.set_cons_succ]
            refine wpAnyM_take [1, 10, 11, 12] (i := 1) (oi := _) (v := ?hv1r) rfl (by kernel_rfl) (fun _ _ _ h => h) (Or.inl ⟨by rfl, ?hy1r⟩) (by assumption) ?re1r
            case hy1r => intro W hSw; (try dsimp only at hSw); go_simp; try with_reducible rfl
            try simp only [Act.put, List.setIfInBounds_toArray, List.set_cons_zero, List.set_cons_succ]
            refine wpAnyM_take [2, 10, 11, 12] (i := 2) (oi := _) (v := ?hv2r) rfl (by kernel_rfl) (fun _ _ _ h => h) (Or.inl ⟨by rfl, ?hy2r⟩) (by assumption) ?re2r
            case hy2r => intro W hSw; (try dsimp only at hSw); go_simp; try with_reducible rfl
            try simp only [Act.put, List.setIfInBounds_toArray, List.set_cons_zero, List.set_cons_succ]
            refine wpAnyM_take [3, 4, 6, 7, 8, 9, 10, 11, 12] (i := 3) (oi := _) (v := ?hv3r) rfl (by kernel_rfl) (fun _ _ _ h => h) (Or.inl ⟨by rfl, ?hy3r⟩) (by assumption) ?re3r
            case hy3r => intro W hSw; (try dsimp only at hSw); go_simp; try with_reducible rfl
            try simp only [Act.put, List.setIfInBounds_toArray, List.set_cons_zero, List.set_cons_succ]
            refine wpAnyM_take [4, 6, 7, 8, 9, 10, 11, 12] (i := 4) (oi := _) (v := ?hv4r) rfl (by kernel_rfl) (fun _ _ _ h => h) (Or.inl ⟨by rfl, ?hy4r⟩) (by assumption) ?re4r
            case hy4r => intro W hSw; (try dsimp only at hSw); go_simp; try with_reducible rfl
            try simp only [Act.put, List.setIfInBounds_toArray, List.set_cons_zero, List.set_cons_succ]
            refine wpAnyM_take [5, 6, 7, 8, 9, 10, 11, 12] (i := 5) (oi := _) (v := ?hv5r) rfl (by kernel_rfl) (fun _ _ _ h => h) (Or.inl ⟨by rfl, ?hy5r⟩) (by assumption) ?re5r
            case hy5r => intro W hSw; (try dsimp only at hSw); go_simp; try with_reducible rfl
            try simp only [Act.put, List.setIfInBounds_toArray, List.set_cons_zero, List.set_cons_succ]
            refine wpAnyM_take [6, 7, 8, 9, 10, 11, 12] (i := 6) (oi := _) (v := ?hv6r) rfl (by kernel_rfl) (fun _ _ _ h => h) (Or.inl ⟨by rfl, ?hy6r⟩) (by assumption) ?re6r
            case hy6r => intro W hSw; (try dsimp only at hSw); go_simp; try with_reducible rfl
            try simp only [Act.put, List.setIfInBounds_toArray, List.set_cons_zero, List.set_cons_succ]
            refine wpAnyM_take [7, 8, 9, 10, 11, 12] (i := 7) (oi := _) (v := ?hv7r) rfl (by kernel_rfl) (fun _ _ _ h => h) (Or.inl ⟨by rfl, ?hy7r⟩) (by assumption) ?re7r
            case hy7r => intro W hSw; (try dsimp only at hSw); go_simp; try with_reducible rfl
            try simp only [Act.put, List.setIfInBounds_toArray, List.set_cons_zero, List.set_cons_succ]
            refine wpAnyM_take [8, 9, 10, 11, 12] (i := 8) (oi := _) (v := ?hv8r) rfl (by kernel_rfl) (fun _ _ _ h => h) (Or.inl ⟨by rfl, ?hy8r⟩) (by assumption) ?re8r
            case hy8r => intro W hSw; (try dsimp only at hSw); go_simp; try with_reducible rfl
            try simp only [Act.put, List.setIfInBounds_toArray, List.set_cons_zero, List.set_cons_succ]
            refine wpAnyM_one (i := 9) (o := _) (by kernel_rfl) rfl (fun K hK => ?_)
            go_simp
            go_at_call 60
            refine (wayzgoosekit_DupInts.calls _ _ _ _ _ (Kd.F_now hF) hl3 hdu).mono ?_
            rintro e w2 ⟨vr, rfl, hr2, hb2⟩
            obtain ⟨Ar, cr, rfl⟩ := Kd.R_slice hr2
            obtain ⟨⟨u2, hx2⟩, hf2, hD2⟩ := hDd.also hr2 hb2 x c2 c1
            refine hK.out _ _ (fun _ => ⟨pw_cell_below hb2 (hL _ hDd), pw_cell_below hb2 hx3⟩) (fun hHeld => ?_)
            replace hHeld := hHeld (by decide)
            clear hK
            clear K
            try simp only [Act.put, List.setIfInBounds_toArray, List.set_cons_zero, List.set_cons_succ]
            refine wpAnyM_take [10, 11, 12] (i := 10) (oi := _) (v := ?hv10r) rfl (by kernel_rfl) (fun _ _ _ h => h) (Or.inl ⟨by rfl, ?hy10r⟩) (by assumption) ?re10r
            case hy10r => intro W hSw; (try dsimp only at hSw); go_simp; try with_reducible rfl
            try simp only [Act.put, List.setIfInBounds_toArray, List.set_cons_zero, List.set_cons_succ]
            refine wpAnyM_take [11, 12] (i := 11) (oi := _) (v := ?hv11r) rfl (by kernel_rfl) (fun _ _ _ h => h) (Or.inl ⟨by rfl, ?hy11r⟩) (by assumption) ?re11r
            case hy11r => intro W hSw; (try dsimp only at hSw); go_simp; try with_reducible rfl
            try simp only [Act.put, List.setIfInBounds_toArray, List.set_cons_zero, List.set_cons_succ]
            refine wpAnyM_one (i := 12) (o := _) (by kernel_rfl) rfl (fun K hK => ?_)
            go_simp
            refine hK.out _ _ (fun h => absurd (by decide) h) (fun _ => ?_)
            clear hK
            clear K
            try simp only [Act.put, List.setIfInBounds_toArray, List.set_cons_zero, List.set_cons_succ]
            refine wpAnyM_done (by kernel_rfl) ?_ _
            try simp only [Act.put, List.setIfInBounds_toArray, List.set_cons_zero, List.set_cons_succ]
            go_wp2
            go_roundg k1
            case measure => omega
            case rel => exact ⟨_, _, _, rfl, H, by first | exact hD2 | (rw [List.length_set]; exact hD2) | simpa using hD2⟩
          · rw [if_neg c2] at h; cases h
        · rw [if_neg c1] at h
          have hlt : decide (x < (hs.length : Int)) = false := decide_eq_false c1
          simp only [Option.some.injEq, Prod.mk.injEq] at h
          obtain ⟨rfl, rfl⟩ := h
          have hb0 := (blk_cell hD.rk 0).trans rfl
          have hb1 := (blk_cell hD.rk 1).trans rfl
          have hf0 := blk_frozen hD.rk 0
          have hf1 := blk_frozen hD.rk 1
          have hq := blk_put (blk_put hD.rk 0 (.slice Ac l0_0.length cc) (cs' := #[.slice Ac l0_0.length cc, .slice none 0 0]) rfl) 1 (.slice Ah hs.length ch) (cs' := #[.slice Ac l0_0.length cc, .slice Ah hs.length ch]) rfl
          have hR0 := Kd.R_far (p := ⟨w.heap.size + 1, 0, none⟩) (Kd.R_types hD.hc hD.rk (by decide)) (fun _ hk => hk.2) (.slice Ac l0_0.length cc)
          have hR1 := Kd.R_mono (Kd.R_far (p := ⟨w.heap.size + 1, 1, none⟩) hR0 (fun _ hk => hk.2) (.slice Ah hs.length ch)) (fun _ hk => hk.1)
          have hN0 := Kd.N_far (p := ⟨w.heap.size + 1, 0, none⟩) hD.hh (fun _ hk => hk.2.2.2) (.slice Ac l0_0.length cc)
          have hN1 : Kd.N k39 39 _ w.heap.size (fun k_ => (P0_1_ k_ ∨ w.heap.size ≤ k_) ∧ some k_ ≠ (Value.slice Ac l0_0.length cc).ownBlock) (.slice Ah hs.length ch) hs := Kd.N_mono (Kd.N_far (p := ⟨w.heap.size + 1, 1, none⟩) hN0 (fun _ hk => hk.2.2.2) (.slice Ah hs.length ch)) (fun _ hk => ⟨hk.1, hk.2.1⟩)
          have hB1 := below_set (below_set hD.bl hD.wr (j := 0) (v := .slice Ac l0_0.length cc)) hD.wr (j := 1) (v := .slice Ah hs.length ch)
          go_wp2
          refine bodyPost_ret (results_cell_row rfl _ _ (w.heap.size + 1) 26 #[.slice Ac l0_0.length cc, .slice Ah hs.length ch] (0, 0) _ rfl hq Try.underlying26 rfl (by kernel_rfl)) rfl ?_
          exact ⟨_, _, rfl, hR1, hN1, hB1⟩
end Go.Proofs.Ytfbimhnlcmdcpaa.Pa
namespace Go.Proofs.Ytfbimhnlcmdcpaa.Pa
open Go.RowKit Go.Proofs.YtfbimhnlcmdcpaaW.PrintWords Go.Proofs.YtfbimhnlcmdcpaaW.PrintLast Go.Proofs.YtfbimhnlcmdcpaaW.PrintMore
attribute [local go_sem] max2_int min2_int max_two min_two max_three min_three max_four min_four   -- for this text's walks alone
set_option linter.unusedVariables false
set_option linter.unusedSimpArgs false


/-- A state of type 72 at block g of W; what its slices lead to came in by w0. -/
def IsS72 (w0 W : World) (g : Nat) (f0 : List Int) (f1 : Int) (f2 : Int) : Prop := ∃ A0 c0, W.heap[g]? = some (.cells #[.slice A0 f0.length c0, .int .i64 f1, .int .u64 f2] 72 (0, 0)) ∧ w0.heap.size ≤ g ∧ Kd.C (Kd.int .i64) w0 A0 f0.length f0
theorem IsS72.grown {w0 W : World} {g : Nat} {f0 : List Int} {f1 : Int} {f2 : Int} {W1 : World} {row : Option Nat} (h : IsS72 w0 W g f0 f1 f2) (hw : W.grownBy W1 row) (hne : some g ≠ row) : IsS72 w0 W1 g f0 f1 f2 := by
  obtain ⟨A0, c0, hb, hg, hr0⟩ := h
  exact ⟨A0, c0, blk_grown hb hw hne, hg, hr0⟩
theorem IsS72.fresh {w0 W : World} {g : Nat} {f0 : List Int} {f1 : Int} {f2 : Int} (h : IsS72 w0 W g f0 f1 f2) : ∀ k, W.heap.size ≤ k → k ≠ g := by
  obtain ⟨A0, c0, hb, hg, hr0⟩ := h
  exact Kd.freshB hb
theorem IsS72.kept {w0 W : World} {g : Nat} {f0 : List Int} {f1 : Int} {f2 : Int} {W1 : World} {S : Nat → Prop} (h : IsS72 w0 W g f0 f1 f2) (hk : Kept W W1 S) (hne : ¬ S g) : IsS72 w0 W1 g f0 f1 f2 := by
  obtain ⟨A0, c0, hb, hg, hr0⟩ := h
  exact ⟨A0, c0, blk_kept hb hk hne, hg, hr0⟩
theorem IsS72.below {w0 W : World} {g : Nat} {f0 : List Int} {f1 : Int} {f2 : Int} {W1 : World} (h : IsS72 w0 W g f0 f1 f2) (hw : Below W.heap.size W W1) : IsS72 w0 W1 g f0 f1 f2 := h.grown (grown_of_below hw none) (by simp)
theorem IsS72.alloc {w0 W : World} {g : Nat} {f0 : List Int} {f1 : Int} {f2 : Int} (h : IsS72 w0 W g f0 f1 f2) (o : Obj) : IsS72 w0 (W.alloc o) g f0 f1 f2 := h.below (below_alloc (Below.refl _ _) o)
theorem IsS72.drewN {w0 W : World} {g : Nat} {f0 : List Int} {f1 : Int} {f2 : Int} (h : IsS72 w0 W g f0 f1 f2) (m : Nat) : IsS72 w0 (W.drewN m) g f0 f1 f2 := h
theorem IsS72.drew {w0 W : World} {g : Nat} {f0 : List Int} {f1 : Int} {f2 : Int} (h : IsS72 w0 W g f0 f1 f2) : IsS72 w0 W.drew g f0 f1 f2 := h
theorem IsS72.apart {w0 W : World} {g : Nat} {f0 : List Int} {f1 : Int} {f2 : Int} {α : Type} {d : Kd α} {e : Nat} {base : Nat} {ok : Nat → Prop} {v : Value} {xs : List α} (h : IsS72 w0 W g f0 f1 f2) (ho : d.R e W base ok v xs) (ht : ∀ q, q ∈ e :: d.E → q ≠ 72) : d.R e W base (fun k => ok k ∧ k ≠ g) v xs := by
  obtain ⟨A0, c0, hb, hg, hr0⟩ := h
  exact Kd.R_types ho hb ht
theorem IsS72.own_ne {w0 W : World} {g : Nat} {f0 : List Int} {f1 : Int} {f2 : Int} {α : Type} {d : Kd α} {e : Nat} {base : Nat} {ok : Nat → Prop} {v : Value} {xs : List α} (h : IsS72 w0 W g f0 f1 f2) (ho : d.R e W base ok v xs) (ht : e ≠ 72) : some g ≠ v.ownBlock := by
  obtain ⟨A0, c0, hb, hg, hr0⟩ := h
  exact Kd.R_ne ho hb ht
theorem IsS72.apartS {w0 W : World} {g : Nat} {f0 : List Int} {f1 : Int} {f2 : Int} {α : Type} {d : Kd α} {e : Nat} {base : Nat} {ok : Nat → Prop} {v : Value} {xs : List α} (h : IsS72 w0 W g f0 f1 f2) (ho : d.S e W base ok v xs) (ht : ∀ q, q ∈ e :: d.E → q ≠ 72) : d.S e W base (fun k => ok k ∧ k ≠ g) v xs := by
  obtain ⟨A0, c0, hb, hg, hr0⟩ := h
  exact Kd.S_types ho hb ht
theorem IsS72.own_neS {w0 W : World} {g : Nat} {f0 : List Int} {f1 : Int} {f2 : Int} {α : Type} {d : Kd α} {e : Nat} {base : Nat} {ok : Nat → Prop} {v : Value} {xs : List α} (h : IsS72 w0 W g f0 f1 f2) (ho : d.S e W base ok v xs) (ht : e ≠ 72) : some g ≠ v.ownBlock := by
  obtain ⟨A0, c0, hb, hg, hr0⟩ := h
  exact Kd.S_ne ho hb ht
theorem IsS72.lt {w0 W : World} {g : Nat} {f0 : List Int} {f1 : Int} {f2 : Int} (h : IsS72 w0 W g f0 f1 f2) : g < W.heap.size := by
  obtain ⟨A0, c0, hb, hg, hr0⟩ := h
  exact blk_lt hb
theorem IsS72.ge {w0 W : World} {g : Nat} {f0 : List Int} {f1 : Int} {f2 : Int} (h : IsS72 w0 W g f0 f1 f2) : w0.heap.size ≤ g := by
  obtain ⟨A0, c0, hb, hg, hr0⟩ := h
  exact hg
theorem IsS72.far {w0 W : World} {g : Nat} {f0 : List Int} {f1 : Int} {f2 : Int} {p : Addr} (h : IsS72 w0 W g f0 f1 f2) (hne : g ≠ p.block) (u : Value) : IsS72 w0 (W.setCell p u) g f0 f1 f2 := by
  obtain ⟨A0, c0, hb, hg, hr0⟩ := h
  exact ⟨A0, c0, blk_far hb hne u, hg, hr0⟩
theorem cellS72_0 {W : World} {g : Nat} {A0 : Option Addr} {c0 : Nat} {f0 : List Int} {f1 : Int} {f2 : Int} (h : W.heap[g]? = some (.cells #[.slice A0 f0.length c0, .int .i64 f1, .int .u64 f2] 72 (0, 0))) : W.cell? ⟨g, 0, none⟩ = some (.slice A0 f0.length c0) := (blk_cell h 0).trans rfl
theorem cellS72_1 {W : World} {g : Nat} {A0 : Option Addr} {c0 : Nat} {f0 : List Int} {f1 : Int} {f2 : Int} (h : W.heap[g]? = some (.cells #[.slice A0 f0.length c0, .int .i64 f1, .int .u64 f2] 72 (0, 0))) : W.cell? ⟨g, 1, none⟩ = some (.int .i64 f1) := (blk_cell h 1).trans rfl
theorem IsS72.set_1 {w0 W : World} {g : Nat} {f0 : List Int} {f1 : Int} {f2 : Int} (h : IsS72 w0 W g f0 f1 f2) (x : Int) : IsS72 w0 (W.setCell ⟨g, 1, none⟩ (.int .i64 x)) g f0 x f2 := by
  obtain ⟨A0, c0, hb, hg, hr0⟩ := h
  exact ⟨A0, c0, by simpa using blk_set hb 1 (.int .i64 x), hg, hr0⟩
theorem cellS72_2 {W : World} {g : Nat} {A0 : Option Addr} {c0 : Nat} {f0 : List Int} {f1 : Int} {f2 : Int} (h : W.heap[g]? = some (.cells #[.slice A0 f0.length c0, .int .i64 f1, .int .u64 f2] 72 (0, 0))) : W.cell? ⟨g, 2, none⟩ = some (.int .u64 f2) := (blk_cell h 2).trans rfl
theorem IsS72.set_2 {w0 W : World} {g : Nat} {f0 : List Int} {f1 : Int} {f2 : Int} (h : IsS72 w0 W g f0 f1 f2) (x : Int) : IsS72 w0 (W.setCell ⟨g, 2, none⟩ (.int .u64 x)) g f0 f1 x := by
  obtain ⟨A0, c0, hb, hg, hr0⟩ := h
  exact ⟨A0, c0, by simpa using blk_set hb 2 (.int .u64 x), hg, hr0⟩
theorem IsS72.new (w0 W : World) (A0 : Option Addr) (c0 : Nat) (f0 : List Int) (f1 : Int) (f2 : Int) (hB : Below w0.heap.size w0 W) (hr0 : Kd.C (Kd.int .i64) w0 A0 f0.length f0) : IsS72 w0 (W.alloc (.cells #[.slice A0 f0.length c0, .int .i64 f1, .int .u64 f2] 72)) W.heap.size f0 f1 f2 := ⟨A0, c0, by simpa using heap_alloc_new W _, hB.size, hr0⟩

/-! ### wayzgoosekit_Dice_raw: function 67 -/
def wayzgoosekit_Dice_raw.f (s0_0 : List Int) (s0_1 : Int) (s0_2 : Int) : Option (Int × Int × Int) := if s0_1 < (s0_0.length : Int) then (if 0 ≤ s0_1 then (some (Go.bits .xor .u64 (IntKind.u64.wrap ((Go.bits .xor .u64 (IntKind.u64.wrap ((Go.bits .xor .u64 (Go.bits .xor .u64 (Go.bits .xor .u64 s0_2 (IntKind.u64.wrap (s0_2 * 8192))) ((Go.bits .xor .u64 s0_2 (IntKind.u64.wrap (s0_2 * 8192))) / 128)) (IntKind.u64.wrap ((Go.bits .xor .u64 (Go.bits .xor .u64 s0_2 (IntKind.u64.wrap (s0_2 * 8192))) ((Go.bits .xor .u64 s0_2 (IntKind.u64.wrap (s0_2 * 8192))) / 128)) * 131072))) + (IntKind.u64.wrap ((IntKind.u64.wrap (rd s0_0 s0_1)) * 13787848793156543929)))) ((IntKind.u64.wrap ((Go.bits .xor .u64 (Go.bits .xor .u64 (Go.bits .xor .u64 s0_2 (IntKind.u64.wrap (s0_2 * 8192))) ((Go.bits .xor .u64 s0_2 (IntKind.u64.wrap (s0_2 * 8192))) / 128)) (IntKind.u64.wrap ((Go.bits .xor .u64 (Go.bits .xor .u64 s0_2 (IntKind.u64.wrap (s0_2 * 8192))) ((Go.bits .xor .u64 s0_2 (IntKind.u64.wrap (s0_2 * 8192))) / 128)) * 131072))) + (IntKind.u64.wrap ((IntKind.u64.wrap (rd s0_0 s0_1)) * 13787848793156543929)))) / 1073741824)) * 10723151780598845931)) ((IntKind.u64.wrap ((Go.bits .xor .u64 (IntKind.u64.wrap ((Go.bits .xor .u64 (Go.bits .xor .u64 (Go.bits .xor .u64 s0_2 (IntKind.u64.wrap (s0_2 * 8192))) ((Go.bits .xor .u64 s0_2 (IntKind.u64.wrap (s0_2 * 8192))) / 128)) (IntKind.u64.wrap ((Go.bits .xor .u64 (Go.bits .xor .u64 s0_2 (IntKind.u64.wrap (s0_2 * 8192))) ((Go.bits .xor .u64 s0_2 (IntKind.u64.wrap (s0_2 * 8192))) / 128)) * 131072))) + (IntKind.u64.wrap ((IntKind.u64.wrap (rd s0_0 s0_1)) * 13787848793156543929)))) ((IntKind.u64.wrap ((Go.bits .xor .u64 (Go.bits .xor .u64 (Go.bits .xor .u64 s0_2 (IntKind.u64.wrap (s0_2 * 8192))) ((Go.bits .xor .u64 s0_2 (IntKind.u64.wrap (s0_2 * 8192))) / 128)) (IntKind.u64.wrap ((Go.bits .xor .u64 (Go.bits .xor .u64 s0_2 (IntKind.u64.wrap (s0_2 * 8192))) ((Go.bits .xor .u64 s0_2 (IntKind.u64.wrap (s0_2 * 8192))) / 128)) * 131072))) + (IntKind.u64.wrap ((IntKind.u64.wrap (rd s0_0 s0_1)) * 13787848793156543929)))) / 1073741824)) * 10723151780598845931)) / 2147483648), wrap64 (s0_1 + 1), IntKind.u64.wrap ((Go.bits .xor .u64 (Go.bits .xor .u64 (Go.bits .xor .u64 s0_2 (IntKind.u64.wrap (s0_2 * 8192))) ((Go.bits .xor .u64 s0_2 (IntKind.u64.wrap (s0_2 * 8192))) / 128)) (IntKind.u64.wrap ((Go.bits .xor .u64 (Go.bits .xor .u64 s0_2 (IntKind.u64.wrap (s0_2 * 8192))) ((Go.bits .xor .u64 s0_2 (IntKind.u64.wrap (s0_2 * 8192))) / 128)) * 131072))) + (IntKind.u64.wrap ((IntKind.u64.wrap (rd s0_0 s0_1)) * 13787848793156543929))))) else (none)) else (some (Go.bits .xor .u64 (IntKind.u64.wrap ((Go.bits .xor .u64 (Go.bits .xor .u64 (Go.bits .xor .u64 (Go.bits .xor .u64 s0_2 (IntKind.u64.wrap (s0_2 * 8192))) ((Go.bits .xor .u64 s0_2 (IntKind.u64.wrap (s0_2 * 8192))) / 128)) (IntKind.u64.wrap ((Go.bits .xor .u64 (Go.bits .xor .u64 s0_2 (IntKind.u64.wrap (s0_2 * 8192))) ((Go.bits .xor .u64 s0_2 (IntKind.u64.wrap (s0_2 * 8192))) / 128)) * 131072))) ((Go.bits .xor .u64 (Go.bits .xor .u64 (Go.bits .xor .u64 s0_2 (IntKind.u64.wrap (s0_2 * 8192))) ((Go.bits .xor .u64 s0_2 (IntKind.u64.wrap (s0_2 * 8192))) / 128)) (IntKind.u64.wrap ((Go.bits .xor .u64 (Go.bits .xor .u64 s0_2 (IntKind.u64.wrap (s0_2 * 8192))) ((Go.bits .xor .u64 s0_2 (IntKind.u64.wrap (s0_2 * 8192))) / 128)) * 131072))) / 1073741824)) * 10723151780598845931)) ((IntKind.u64.wrap ((Go.bits .xor .u64 (Go.bits .xor .u64 (Go.bits .xor .u64 (Go.bits .xor .u64 s0_2 (IntKind.u64.wrap (s0_2 * 8192))) ((Go.bits .xor .u64 s0_2 (IntKind.u64.wrap (s0_2 * 8192))) / 128)) (IntKind.u64.wrap ((Go.bits .xor .u64 (Go.bits .xor .u64 s0_2 (IntKind.u64.wrap (s0_2 * 8192))) ((Go.bits .xor .u64 s0_2 (IntKind.u64.wrap (s0_2 * 8192))) / 128)) * 131072))) ((Go.bits .xor .u64 (Go.bits .xor .u64 (Go.bits .xor .u64 s0_2 (IntKind.u64.wrap (s0_2 * 8192))) ((Go.bits .xor .u64 s0_2 (IntKind.u64.wrap (s0_2 * 8192))) / 128)) (IntKind.u64.wrap ((Go.bits .xor .u64 (Go.bits .xor .u64 s0_2 (IntKind.u64.wrap (s0_2 * 8192))) ((Go.bits .xor .u64 s0_2 (IntKind.u64.wrap (s0_2 * 8192))) / 128)) * 131072))) / 1073741824)) * 10723151780598845931)) / 2147483648), s0_1, Go.bits .xor .u64 (Go.bits .xor .u64 (Go.bits .xor .u64 s0_2 (IntKind.u64.wrap (s0_2 * 8192))) ((Go.bits .xor .u64 s0_2 (IntKind.u64.wrap (s0_2 * 8192))) / 128)) (IntKind.u64.wrap ((Go.bits .xor .u64 (Go.bits .xor .u64 s0_2 (IntKind.u64.wrap (s0_2 * 8192))) ((Go.bits .xor .u64 s0_2 (IntKind.u64.wrap (s0_2 * 8192))) / 128)) * 131072))))
end Go.Proofs.Ytfbimhnlcmdcpaa.Pa
/- The contract of Dice.raw: the next number. -/
namespace Go.Proofs.Ytfbimhnlcmdcpaa.Pa
open Go.RowKit Go.Proofs.YtfbimhnlcmdcpaaW.PrintWords Go.Proofs.YtfbimhnlcmdcpaaW.PrintLast Go.Proofs.YtfbimhnlcmdcpaaW.PrintMore
attribute [local go_sem] max2_int min2_int max_two min_two max_three min_three max_four min_four
set_option linter.unusedVariables false
set_option linter.unusedSimpArgs false

set_option maxHeartbeats 8000000 in
set_option maxRecDepth 100000 in
theorem wayzgoosekit_Dice_raw.calls (g : Nat) (s0_0 : List Int) (s0_1 : Int) (s0_2 : Int) (r1 : Int) (r2 : Int) (r3 : Int) (w0 w : World) (hI : IsS72 w0 w g s0_0 s0_1 s0_2) (hB : Below w0.heap.size w0 w) (h : wayzgoosekit_Dice_raw.f s0_0 s0_1 s0_2 = some (r1, r2, r3)) :
    Calls Try.prog 67 #[.pointer (some ⟨g, 0, none⟩)] w fun e w' => e = .returned (.int .u64 r1) ∧ IsS72 w0 w' g s0_0 r2 r3 ∧ Below w0.heap.size w0 w' ∧ KeepBut w w' g none := by
  have hK := KeepBut.refl w g none
  have hge := hI.ge
  unfold wayzgoosekit_Dice_raw.f at h
  obtain ⟨v1, hv1⟩ : ∃ v, Go.bits .xor .u64 s0_2 (IntKind.u64.wrap (s0_2 * 8192)) = v := ⟨_, rfl⟩
  rw [hv1] at h
  obtain ⟨v2, hv2⟩ : ∃ v, Go.bits .xor .u64 v1 (v1 / 128) = v := ⟨_, rfl⟩
  rw [hv2] at h
  obtain ⟨v3, hv3⟩ : ∃ v, Go.bits .xor .u64 v2 (IntKind.u64.wrap (v2 * 131072)) = v := ⟨_, rfl⟩
  rw [hv3] at h
  have hI0 := hI
  obtain ⟨A0, c0, HG, -, HS⟩ := hI
  have hc0 := cellS72_0 HG
  have hc1 := cellS72_1 HG
  have hc2 := cellS72_2 HG
  have hf1 := blk_frozen HG 1
  have hf2 := blk_frozen HG 2
  go_enter Try.func67, Try.ntmps67
  go_upto_region 1 with (fail)
  go_region
  obtain ⟨w1, hw1⟩ : ∃ W, W = (w.setCell ⟨g, 2, none⟩ (.int .u64 v1)).drew := ⟨_, rfl⟩
  have hI : IsS72 w0 w1 g s0_0 s0_1 v1 := by rw [hw1]; exact (IsS72.set_2 ⟨A0, c0, HG, hge, HS⟩ v1).drew
  replace hB : Below w0.heap.size w0 w1 := by rw [hw1]; exact below_drew1 (below_set hB hge)
  replace hK : KeepBut w w1 g none := by rw [hw1]; exact keep_drew (KeepBut.set_ hK _ _)
  rw [← hw1]
  clear hw1 hc0 hc1 hc2 hf1 hf2 HG HS hv1
  clear A0 c0 hI0
  have hI0 := hI
  obtain ⟨A0, c0, HG, -, HS⟩ := hI
  have hc0 := cellS72_0 HG
  have hc1 := cellS72_1 HG
  have hc2 := cellS72_2 HG
  have hf1 := blk_frozen HG 1
  have hf2 := blk_frozen HG 2
  go_upto_region 2 with (fail)
  go_region
  obtain ⟨w2, hw2⟩ : ∃ W, W = (w1.setCell ⟨g, 2, none⟩ (.int .u64 v2)).drew := ⟨_, rfl⟩
  have hI : IsS72 w0 w2 g s0_0 s0_1 v2 := by rw [hw2]; exact (IsS72.set_2 ⟨A0, c0, HG, hge, HS⟩ v2).drew
  replace hB : Below w0.heap.size w0 w2 := by rw [hw2]; exact below_drew1 (below_set hB hge)
  replace hK : KeepBut w w2 g none := by rw [hw2]; exact keep_drew (KeepBut.set_ hK _ _)
  rw [← hw2]
  clear hw2 hc0 hc1 hc2 hf1 hf2 HG HS hv2
  clear A0 c0 hI0
  have hI0 := hI
  obtain ⟨A0, c0, HG, -, HS⟩ := hI
  have hc0 := cellS72_0 HG
  have hc1 := cellS72_1 HG
  have hc2 := cellS72_2 HG
  have hf1 := blk_frozen HG 1
  have hf2 := blk_frozen HG 2
  go_upto_region 3 with (fail)
  go_region
  obtain ⟨w3, hw3⟩ : ∃ W, W = (w2.setCell ⟨g, 2, none⟩ (.int .u64 v3)).drew := ⟨_, rfl⟩
  have hI : IsS72 w0 w3 g s0_0 s0_1 v3 := by rw [hw3]; exact (IsS72.set_2 ⟨A0, c0, HG, hge, HS⟩ v3).drew
  replace hB : Below w0.heap.size w0 w3 := by rw [hw3]; exact below_drew1 (below_set hB hge)
  replace hK : KeepBut w w3 g none := by rw [hw3]; exact keep_drew (KeepBut.set_ hK _ _)
  rw [← hw3]
  clear hw3 hc0 hc1 hc2 hf1 hf2 HG HS hv3
  clear A0 c0 hI0
  have hI0 := hI
  obtain ⟨A0, c0, HG, -, HS⟩ := hI
  have hc0 := cellS72_0 HG
  have hc1 := cellS72_1 HG
  have hc2 := cellS72_2 HG
  have hf1 := blk_frozen HG 1
  have hf2 := blk_frozen HG 2
  go_upto_region 4 with (fail)
  by_cases c2 : s0_1 < (s0_0.length : Int)
  · rw [if_pos c2] at h
    by_cases c3 : 0 ≤ s0_1
    · rw [if_pos c3] at h
      obtain ⟨v4, hv4⟩ : ∃ v, IntKind.u64.wrap (v3 + (IntKind.u64.wrap ((IntKind.u64.wrap (rd s0_0 s0_1)) * 13787848793156543929))) = v := ⟨_, rfl⟩
      rw [hv4] at h
      obtain ⟨rfl, rfl, rfl⟩ : _ = r1 ∧ _ = r2 ∧ _ = r3 := by simpa only [Option.some.injEq, Prod.mk.injEq] using h
      clear h
      obtain ⟨ad, rfl, hx⟩ := Kd.at_int HS s0_1 c3 c2
      have hx3 := pw_cell_below hB hx
      have p1 := eq_true c3
      have q1 := eq_true c2
      have c2b : decide (s0_1 < (s0_0.length : Int)) = true := decide_eq_true c2
      clear c2 c3
      go_region
      go_upto_region 5 with (fail)
      go_region
      go_wp2
      go_ret
      exact ⟨rfl, ((hI0.set_2 v4).set_1 (wrap64 (s0_1 + 1))).drew.drew, below_drew1 (below_drew1 (below_set (below_set hB hge) hge)), keep_drew (keep_drew (KeepBut.set_ (KeepBut.set_ hK _ _) _ _))⟩
    · rw [if_neg c3] at h
      cases h
  · rw [if_neg c2] at h
    have c2b : decide (s0_1 < (s0_0.length : Int)) = false := decide_eq_false c2
    obtain ⟨rfl, rfl, rfl⟩ : _ = r1 ∧ _ = r2 ∧ _ = r3 := by simpa only [Option.some.injEq, Prod.mk.injEq] using h
    clear h
    go_region
    go_wp2
    go_ret
    exact ⟨rfl, hI0.drewN _, pw_below_drewN hB _, keep_drewN hK _⟩
end Go.Proofs.Ytfbimhnlcmdcpaa.Pa
