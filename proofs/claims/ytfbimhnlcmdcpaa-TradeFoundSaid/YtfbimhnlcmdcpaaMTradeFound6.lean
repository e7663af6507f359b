/- A part of the proof: A heading is found in n steps just if some heading found in n - 1 steps has a reference to it, and none found in fewer; trades are hidden just if they are not found so: for all lists of numbers. Without conditions of its own. -/
import Derived.Test.YtfbimhnlcmdcpaaMTradeFound5
import Derived.Lib.SliceRun
import Derived.Lib.Bytealg
import Derived.Lib.Walk
import Derived.Shelf.SlSortCmp.NoneTotal
import Derived.Shelf.SlicesE.Compact
import Derived.Shelf.SlicesE.Equal
import Derived.Ground.SlsfProg
import Derived.Ground.SlgnProg
import Derived.Test.YtfbimhnlcmdcpaaProg
import Derived.Lib.OwnBridge
/- The contract of names. -/
namespace Go.Proofs.Ytfbimhnlcmdcpaa.Pa
open Go.RowKit Go.Proofs.YtfbimhnlcmdcpaaW.PrintWords Go.Proofs.YtfbimhnlcmdcpaaW.PrintLast Go.Proofs.YtfbimhnlcmdcpaaW.PrintMore
set_option linter.unusedVariables false
set_option linter.unusedSimpArgs false

def classNames (cs : List Cl) (l : List Int) : List ByteArray := l.map (fun c => (cs.getD c.toNat zCl).f0)
/-- the names of the classes of the first trade, from heading i on, with a word -/
def namesFrom (cs : List Cl) (hs : List Hd) (s : ByteArray) : Nat → Nat → Option (List ByteArray)
  | 0, _ => none
  | k + 1, i => if sEq (hs.getD i zHd).f0 s = true ∧ (hs.getD i zHd).f1 ≠ -1 then some (classNames cs (pathT cs (hs.getD i zHd).f1)) else namesFrom cs hs s k (i + 1)
def namesT (cs : List Cl) (hs : List Hd) (s : ByteArray) : Option (List ByteArray) := namesFrom cs hs s hs.length 0
theorem infoStr : (Try.prog.info? 9).map (fun i => (i.zero, i.size, i.bytes)) = some (some (.string ⟨#[]⟩), 1, 16) := by kernel_rfl
theorem strR_of_own {w : World} {base n : Nat} {v : Value} {xs : List ByteArray} (h : w.ownsRow base 9 1 v n (xs.map Value.string)) : Kd.string.R 9 w base (fun _ => True) v xs := by
  have hn : n = xs.length := by have := h.1; simp at this; omega
  subst hn
  exact ⟨fun _ _ => trivial, _, h, Kd.reps_scalar xs⟩
theorem pathT_in (cs : List Cl) (c : Int) (j : Nat) (hj : j < (pathT cs c).length) : ∃ p : Nat, (pathT cs c).getD j 0 = p ∧ p < cs.length := by
  have hm : (pathT cs c)[j] ∈ pathT cs c := List.getElem_mem _
  have hm2 := (List.mem_filter.1 hm).1
  obtain ⟨p, hp, he⟩ := List.mem_map.1 hm2
  exact ⟨p, by rw [List.getD_eq_getElem?_getD, List.getElem?_eq_getElem hj]; exact he.symm, List.mem_range.1 hp⟩
theorem pathT_len (cs : List Cl) (c : Int) : (pathT cs c).length ≤ cs.length := by
  have := List.length_filter_le (fun o => isUp cs c o) (nats cs.length)
  rwa [nats_length] at this

set_option maxHeartbeats 4000000 in
set_option maxRecDepth 100000 in
theorem names_any (g : Nat) (cs : List Cl) (hs : List Hd) (s : ByteArray) (w : World) (hL : IsList w g cs hs) (hv : Valid cs hs) :
    Calls Try.prog 58 #[.pointer (some ⟨g, 0, none⟩), .string s] w fun e w' => ∃ v, e = .returned (.tuple #[v, .bool (namesT cs hs s).isSome]) ∧ Kd.string.R 9 w' w.heap.size (fun _ => True) v ((namesT cs hs s).getD []) ∧ Below w.heap.size w w' := by
  obtain ⟨m0, m1, -, -⟩ := hv.split
  have hu2 := Try.underlying26
  have hu3 := Try.underlying81
  have hu4 := Try.underlying39
  have hu5 := Try.underlying51
  obtain ⟨i0, hi, hz0, hz1, hz2⟩ := info_parts infoStr
  obtain ⟨A0, c0, A1, c1, A2, c2, A3, c3, hg, l0, l1, r0, r1, r2, r3⟩ := hL.ok
  obtain ⟨g0, g1, g2, g3⟩ := cells4 hg
  have HP := fun (n : Nat) (hn : n < cs.length) W (hW : Below w.heap.size w W) => path_any g cs hs n W (hL.below hW) hv hn
  have HR : Hid (namesT cs hs s = namesFrom cs hs s hs.length 0) := rfl
  obtain ⟨R, hR⟩ : ∃ R, namesT cs hs s = R := ⟨_, rfl⟩
  rw [hR] at HR ⊢
  clear hL hR
  go_enter Try.func58, Try.ntmps58
  go_wp2
  go_loopg [17] hs.length (fun gk v wr => ∃ k : Nat, k + gk = hs.length ∧ v = .int .i64 k ∧ Below w.heap.size w wr ∧ Hid (namesFrom cs hs s gk k = R))
  case atStart => exact ⟨0, by omega, rfl, Below.refl _ _, by show _ = _; exact HR.out.symm⟩
  case round =>
    obtain ⟨k, hk, rfl, hb, HK⟩ := hrel
    by_cases hlt : k < hs.length
    · obtain ⟨gk, rfl⟩ : ∃ m, gk = m + 1 := ⟨gk - 1, by omega⟩
      have hgd := (hv.head k hlt).cl
      have HK2 : Hid (R = if sEq (hs.getD k zHd).f0 s = true ∧ (hs.getD k zHd).f1 ≠ -1 then some (classNames cs (pathT cs (hs.getD k zHd).f1)) else namesFrom cs hs s gk (k + 1)) := by show _ = _; rw [← HK.out]; rfl
      clear HK
      obtain ⟨ad, A3', c3', e, h0, h1, h2, h3, h4, h5⟩ := hdAt r1 k hlt
      cases e
      obtain ⟨x, hx⟩ : ∃ x, hs.getD k zHd = x := ⟨_, rfl⟩
      rw [hx] at h0 h1 h2 h3 h4 h5 HK2 hgd
      clear hx
      replace h0 := pw_cell_below hb h0
      replace h1 := pw_cell_below hb h1
      replace h2 := pw_cell_below hb h2
      replace h3 := pw_cell_below hb h3
      have hbd := fun o => hb.alloc hb.size o
      by_cases he : sEq x.f0 s = true
      · have he1 : (x.f0.toList == s.toList) = true := by rw [toList_data, toList_data]; exact he
        by_cases hc : x.f1 = -1
        · have hc1 : (x.f1 == -1) = true := beq_iff_eq.mpr hc
          have HK3 : Hid (namesFrom cs hs s gk (k + 1) = R) := by show _ = _; rw [HK2.out, if_neg (fun h => h.2 hc)]
          clear HK2 he hc
          go_wp2
          go_roundg gk
          case measure => omega
          case rel => exact ⟨k + 1, by omega, by go_num, hbd _, HK3⟩
        · have hc1 : (x.f1 == -1) = false := beq_eq_false_iff_ne.mpr hc
          have HK3 : Hid (R = some (classNames cs (pathT cs x.f1))) := by show _ = _; rw [HK2.out, if_pos ⟨he, hc⟩]
          obtain ⟨p, hp⟩ : ∃ p : Nat, x.f1 = p := ⟨x.f1.toNat, by omega⟩
          have HPp := HP p (by omega)
          have hin := fun j hj => pathT_in cs p j hj
          have hpl := pathT_len cs p
          rw [hp] at HK3 h1 hc1
          obtain ⟨T, hT⟩ : ∃ T, pathT cs p = T := ⟨_, rfl⟩
          rw [hT] at HK3 hin hpl
          simp only [hT] at HPp
          clear HK2 he hc hT hp
          go_wp2_with (go_at_call 61; (with_reducible refine (HPp _ (hbd _)).mono ?_); rintro e w3 ⟨v, rfl, hR3, hb3⟩; obtain ⟨Ar, cr, rfl, -, hC3⟩ := Kd.R_reads hR3; have HB3 := below_then (hbd _) (hbd _).size hb3; clear hR3 hb3)
          have hTl : T.length ≤ 6 := by omega
          go_loopg [8, 35] T.length (fun gj v8 v wr => ∃ j : Nat, j + gj = T.length ∧ v = .int .i64 j ∧ Below w3.heap.size w3 wr ∧ wr.ownsRow w3.heap.size 9 1 v8 (classNames cs (T.take j)).length ((classNames cs (T.take j)).map Value.string))
          case atStart => exact ⟨0, by omega, rfl, Below.refl _ _, own_nil _ _ _ _⟩
          case round =>
            obtain ⟨j, hj, rfl, hbw, ho⟩ := hrel
            by_cases hjl : j < T.length
            · obtain ⟨q, hq, hql⟩ := hin j hjl
              obtain ⟨aj, ej, hcj⟩ := intAt (Kd.C_below hC3 hbw) j hjl
              cases ej
              rw [hq] at hcj
              have HBw := below_then HB3 HB3.size hbw
              have q0 := pw_cell_below HBw g0
              obtain ⟨ac, ec, k0, k1⟩ := clAt (Kd.C_below r0 HBw) q hql
              cases ec
              have HNx : Hid (classNames cs (T.take (j + 1)) = classNames cs (T.take j) ++ [(cs.getD q zCl).f0]) := by
                show _ = _
                have : T[j] = (q : Int) := by rw [← hq, List.getD_eq_getElem?_getD, List.getElem?_eq_getElem hjl]; rfl
                rw [List.take_succ_eq_append_getElem hjl, this]
                simp [classNames]
              have hcl : (classNames cs (T.take j)).length = j := by simp [classNames]; omega
              obtain ⟨F, hF⟩ : ∃ F, classNames cs (T.take j) = F := ⟨_, rfl⟩
              obtain ⟨y, hy⟩ : ∃ y, cs.getD q zCl = y := ⟨_, rfl⟩
              rw [hF] at ho HNx hcl
              rw [hy] at k0 k1 HNx
              clear hF hy hq
              go_wp2_with (at_builtin; refine wpList_append_own _ rfl _ _ 65 rfl w3.heap.size 9 i0 (.string ⟨#[]⟩) 1 16 Try.underlying65 hi hz0 hz1 hz2 rfl (by decide) _ _ _ rfl (ho.alloc _) ⟨wr.heap.size, 0, none⟩ 1 1 [.string y.f0] rfl rfl (cell_one_new _ _ _) (by simp [Value.oneCell']) (by unfold maxLen; omega) (by omega) (by have := hbw.size; simp; omega) ?_; intro v' w4 hown4 hgrow4 _; have HB4 := Below.grown (hbw.alloc hbw.size _) hgrow4 (by have := hbw.size; simp; omega) (fun j hj => (ho.lt j hj).1); have HO := Lib.hid hown4; clear hown4 hgrow4)
              go_roundg (T.length - (j + 1))
              case measure => omega
              case rel => exact ⟨j + 1, by omega, by go_num, HB4, by rw [HNx.out, List.map_append, List.length_append]; exact HO.out⟩
            · obtain rfl : j = T.length := by omega
              rw [List.take_length] at ho
              have HR3 := strR_of_own ho
              go_wp2
              go_ret2
              exact ⟨_, by rw [HK3.out]; rfl, by rw [HK3.out]; exact Kd.R_lower HR3 HB3.size, below_then HB3 HB3.size hbw⟩
      · have he1 : (x.f0.toList == s.toList) = false := by rw [toList_data, toList_data]; simpa [sEq] using he
        have HK3 : Hid (namesFrom cs hs s gk (k + 1) = R) := by show _ = _; rw [HK2.out, if_neg (fun h => he h.1)]
        clear HK2 he
        go_wp2
        go_roundg gk
        case measure => omega
        case rel => exact ⟨k + 1, by omega, by go_num, hbd _, HK3⟩
    · obtain rfl : k = hs.length := by omega
      obtain rfl : gk = 0 := by omega
      have HR2 : Hid (R = none) := by show _ = _; rw [← HK.out]; rfl
      go_wp2
      go_ret2
      exact ⟨_, by rw [HR2.out]; rfl, by rw [HR2.out]; exact Kd.R_nil _ _ _ _ _, hb⟩
end Go.Proofs.Ytfbimhnlcmdcpaa.Pa
/- The contract of slices.Clone at headings: the words of its result. -/
namespace Go.Proofs.Ytfbimhnlcmdcpaa.Pa
open Go.RowKit Go.Proofs.YtfbimhnlcmdcpaaW.PrintWords Go.Proofs.YtfbimhnlcmdcpaaW.PrintLast Go.Proofs.YtfbimhnlcmdcpaaW.PrintMore
set_option linter.unusedVariables false
set_option linter.unusedSimpArgs false

/-- the cells of a heading with a word -/
def hwK (x : ByteArray) (cs : List Value) : Prop := ∃ i j A n c, cs = [.string x, .int .i64 i, .int .i64 j, .slice A n c]
def kHw : Kd ByteArray where
  sz := 4
  E := []
  K := fun _ x cs => hwK x cs
  M := fun _ _ _ x cs => hwK x cs
  K_len := by rintro _ _ _ ⟨i, j, A, n, c, rfl⟩; rfl
  K_one := by
    rintro _ _ _ ⟨i, j, A, n, c, rfl⟩ u hu
    simp only [List.mem_cons, List.not_mem_nil, or_false] at hu
    rcases hu with rfl | rfl | rfl | rfl <;> rfl
  K_below := fun _ h => h
  K_of_M := fun h => h
  M_mono := fun _ h => h
  M_bound := fun h => h
  M_move := fun _ h => h
  M_lower := fun _ h => h
theorem hw_of_heads {w : World} {A : Option Addr} {n : Nat} {hs : List Hd} (h : Kd.C k39 w A n hs) : kHw.C w A n (hs.map (fun x => x.f0)) := by
  refine ⟨by rw [List.length_map]; exact h.1, h.2.1, fun hn => ?_⟩
  obtain ⟨ad, e, hc⟩ := h.2.2 hn
  refine ⟨ad, e, fun j p hp => ?_⟩
  rw [List.getElem?_map] at hp
  obtain ⟨x, hx, rfl⟩ := Option.map_eq_some_iff.1 hp
  obtain ⟨c, hl, hK, hcc⟩ := hc j x hx
  obtain ⟨A3, c3, rfl, -, -⟩ := k39_open hK
  exact ⟨_, rfl, ⟨_, _, _, _, _, rfl⟩, hcc⟩
theorem hwAt {w : World} {A : Option Addr} {n : Nat} {xs : List ByteArray} (h : kHw.C w A n xs) (k : Nat) (hk : k < n) :
    ∃ ad i j A3 n3 c3, A = some ad ∧ w.cell? (ad.add (k * 4)) = some (.string (xs.getD k ByteArray.empty)) ∧ w.cell? ⟨(ad.add (k * 4)).block, (ad.add (k * 4)).off + 1, none⟩ = some (.int .i64 i) ∧ w.cell? ⟨(ad.add (k * 4)).block, (ad.add (k * 4)).off + 2, none⟩ = some (.int .i64 j) ∧ w.cell? ⟨(ad.add (k * 4)).block, (ad.add (k * 4)).off + 3, none⟩ = some (.slice A3 n3 c3) := by
  obtain ⟨ad, c, e, _, hK, hc0⟩ := Kd.C_get h ByteArray.empty (k : Int) (by omega) (by omega)
  rw [Int.toNat_natCast] at hK hc0
  have hc : ∀ j u, c[j]? = some u → w.cell? (ad.add (k * 4 + j)) = some u := hc0
  obtain ⟨i, j, A3, n3, c3, rfl⟩ := hK
  exact ⟨ad, i, j, A3, n3, c3, e, hc 0 _ rfl, by rw [← add_field _ _ 1 (by omega)]; exact hc 1 _ rfl, by rw [← add_field _ _ 2 (by omega)]; exact hc 2 _ rfl, by rw [← add_field _ _ 3 (by omega)]; exact hc 3 _ rfl⟩
theorem infoHd : (Try.prog.info? 39).map (fun i => (i.zero, i.size, i.bytes)) = some (some (.agg #[.string ⟨#[]⟩, .int .i64 0, .int .i64 0, .slice none 0 0]), 4, 56) := by kernel_rfl

set_option maxHeartbeats 1000000 in
set_option maxRecDepth 100000 in
theorem clone_any (A : Option Addr) (c : Nat) (xs : List ByteArray) (w : World) (hC : kHw.C w A xs.length xs) (hl : xs.length ≤ 100) :
    Calls Try.prog 54 #[.slice A xs.length c] w fun e w' => ∃ v, e = .returned v ∧ kHw.R 39 w' w.heap.size (fun _ => True) v xs ∧ Below w.heap.size w w' := by
  cases A with
  | none =>
    have hq := fun W => Lib.run_eql_slice_nil (P := Try.prog) W 24 _ none 0 c 0 0 Try.underlying24
    have hx : xs = [] := by
      rcases Nat.eq_zero_or_pos xs.length with h | h
      · exact List.eq_nil_of_length_eq_zero h
      · obtain ⟨ad, e, _⟩ := hC.2.2 h
        cases e
    subst hx
    clear hC
    go_enter Try.func54, Try.ntmps54
    go_wp2
    go_ret
    exact ⟨_, rfl, Kd.R_nil _ _ _ _ _, Below.refl _ _⟩
  | some ad =>
    have hq := fun W => Lib.run_eql_slice_nil (P := Try.prog) W 24 _ (some ad) xs.length c 0 0 Try.underlying24
    have hB := (Below.refl w.heap.size w).alloc (Nat.le_refl _) (.cells #[] 39)
    have hC1 := Kd.C_below hC hB
    have hR0 : kHw.R 39 (w.alloc (.cells #[] 39)) w.heap.size (fun _ => True) (.slice (some ⟨w.heap.size, 0, none⟩) 0 0) [] :=
      ⟨fun _ _ => trivial, [], ⟨rfl, .inr ⟨w.heap.size, 0, #[], rfl, Nat.le_refl _, heap_alloc_new w _, Nat.le_refl _, by simp [maxLen], rfl, rfl⟩⟩, Reps.none _ _⟩
    clear hC
    go_enter Try.func54, Try.ntmps54
    go_wp2_with (at_builtin; go_loud (refine Kd.R_append_rows kHw (w0 := w) w.heap.size rfl _ _ 24 39 _ 56 rfl Try.underlying24 infoHd rfl (by decide) (by decide) _ [] xs (some ad) xs.length c (fun _ => True) (fun k => some k ≠ some w.heap.size) rfl rfl hR0 hC1 (fun _ _ h => h) (fun k hk => ⟨trivial, hk⟩) (fun _ _ => trivial) hB (by simp) (by simp; omega) ?_; intro v1 w1 hv1 hb1 _ _; have HV := Lib.hid hv1; clear hv1))
    go_ret
    exact ⟨_, rfl, HV.out, hb1⟩
end Go.Proofs.Ytfbimhnlcmdcpaa.Pa
/- The order of strings; the contract of strings.Compare. -/
namespace Go.Proofs.Ytfbimhnlcmdcpaa.Pa
open Go.RowKit Go.Lib Go.Proofs.YtfbimhnlcmdcpaaW.PrintWords Go.Proofs.YtfbimhnlcmdcpaaW.PrintLast Go.Proofs.YtfbimhnlcmdcpaaW.PrintMore
set_option linter.unusedVariables false
set_option linter.unusedSimpArgs false

theorem u8_cases (a b : UInt8) : a < b ∨ a = b ∨ b < a := by
  rcases Nat.lt_trichotomy a.toNat b.toNat with h | h | h
  · exact .inl (UInt8.lt_iff_toNat_lt.mpr h)
  · exact .inr (.inl (UInt8.toNat_inj.mp h))
  · exact .inr (.inr (UInt8.lt_iff_toNat_lt.mpr h))
theorem u8_asymm {a b : UInt8} (h : a < b) : ¬ b < a := by
  have := UInt8.lt_iff_toNat_lt.mp h
  intro h2
  have := UInt8.lt_iff_toNat_lt.mp h2
  omega
theorem u8_irrefl (a : UInt8) : ¬ a < a := fun h => u8_asymm h h
theorem u8_trans {a b c : UInt8} (h : a < b) (h2 : b < c) : a < c := by
  have := UInt8.lt_iff_toNat_lt.mp h
  have := UInt8.lt_iff_toNat_lt.mp h2
  exact UInt8.lt_iff_toNat_lt.mpr (by omega)
/-- the order of strings, as a relation -/
theorem cmp_neg : ∀ (a b : List UInt8), (compareBytes a b < 0) ↔ Op.bytesLess a b = true
  | [], [] => by simp [compareBytes, Op.bytesLess]
  | [], b :: ys => by simp [compareBytes, Op.bytesLess]
  | a :: xs, [] => by simp [compareBytes, Op.bytesLess]
  | a :: xs, b :: ys => by
    have ih := cmp_neg xs ys
    unfold compareBytes Op.bytesLess
    rcases u8_cases a b with h | h | h
    · simp [h]
    · subst h
      simp [u8_irrefl, ih]
    · have h2 := u8_asymm h
      have h3 : ¬ a = b := fun e => u8_irrefl b (e ▸ h)
      simp [h, h2, h3]
theorem bl_irrefl : ∀ a : List UInt8, Op.bytesLess a a = false
  | [] => rfl
  | a :: xs => by simp [Op.bytesLess, u8_irrefl, bl_irrefl xs]
theorem bl_cons (a b : UInt8) (x y : List UInt8) : Op.bytesLess (a :: x) (b :: y) = true ↔ a < b ∨ (a = b ∧ Op.bytesLess x y = true) := by simp [Op.bytesLess]
theorem bl_trans : ∀ a b c : List UInt8, Op.bytesLess a b = true → Op.bytesLess b c = true → Op.bytesLess a c = true
  | _, b, [], _, h2 => by cases b <;> simp [Op.bytesLess] at h2
  | [], b, c :: zs, _, _ => rfl
  | a :: xs, [], c :: zs, h1, _ => by simp [Op.bytesLess] at h1
  | a :: xs, b :: ys, c :: zs, h1, h2 => by
    rw [bl_cons] at h1 h2 ⊢
    rcases h1 with h1 | ⟨rfl, h1⟩
    · rcases h2 with h2 | ⟨rfl, h2⟩
      · exact .inl (u8_trans h1 h2)
      · exact .inl h1
    · rcases h2 with h2 | ⟨rfl, h2⟩
      · exact .inl h2
      · exact .inr ⟨rfl, bl_trans xs ys zs h1 h2⟩
theorem bl_total : ∀ a b : List UInt8, Op.bytesLess a b = false → Op.bytesLess b a = false → a = b
  | [], [], _, _ => rfl
  | [], b :: ys, h, _ => by simp [Op.bytesLess] at h
  | a :: xs, [], _, h => by simp [Op.bytesLess] at h
  | a :: xs, b :: ys, h1, h2 => by
    have k1 : ¬ (a < b ∨ (a = b ∧ Op.bytesLess xs ys = true)) := fun h => by rw [← bl_cons] at h; rw [h] at h1; cases h1
    have k2 : ¬ (b < a ∨ (b = a ∧ Op.bytesLess ys xs = true)) := fun h => by rw [← bl_cons] at h; rw [h] at h2; cases h2
    rcases u8_cases a b with h | h | h
    · exact absurd (.inl h) k1
    · subst h
      rw [bl_total xs ys (by simpa using fun h => k1 (.inr ⟨rfl, h⟩)) (by simpa using fun h => k2 (.inr ⟨rfl, h⟩))]
    · exact absurd (.inl h) k2
def cfS (x y : ByteArray) : Int := compareBytes x.data.toList y.data.toList
theorem sLt_total {x y : ByteArray} (h1 : sLt x y = false) (h2 : sLt y x = false) : x = y := by
  have := bl_total _ _ h1 h2
  exact ByteArray.ext (Array.toList_inj.mp this)
def sortW (l : List ByteArray) : List ByteArray := l.mergeSort (fun x y => !sLt y x)

set_option maxHeartbeats 1000000 in
set_option maxRecDepth 100000 in
theorem bytealg_any (a b : ByteArray) (w : World) :
    Calls Try.prog 78 #[.string a, .string b] w fun e w' => e = .returned (.int .i64 (compareBytes a.data.toList b.data.toList)) ∧ w' = w := by
  go_enter Try.func78, Try.ntmps78
  go_wp2
  rw [run_callFunc_extern Try.func103 (by kernel_rfl) (by kernel_rfl) (by kernel_rfl) (e := Extern.BytealgCompare.compare) (by kernel_rfl), Lib.run_compareString]
  simp only [Result.andThen]
  rw [Oper.upon_value]
  go_wp2
  go_ret
  exact ⟨rfl, rfl⟩
theorem compare_any (a b : ByteArray) (w : World) : Calls Try.prog 56 #[.string a, .string b] w fun e w' => e = .returned (.int .i64 (cfS a b)) ∧ ∃ q, w' = w.drewN q := by
  go_enter Try.func56, Try.ntmps56
  go_wp2_with (go_at_call 78; refine (bytealg_any _ _ _).mono ?_; rintro e w' ⟨rfl, rfl⟩)
  go_ret
  exact ⟨rfl, 0, rfl⟩
end Go.Proofs.Ytfbimhnlcmdcpaa.Pa
/-
  DERIVED: THE SHELF's CONTRACTS AT THIS DUMP, IN PLAIN WORDS (tools/lay-plain.mjs out of 'YtfbimhnlcmdcpaaHShelf.lean', which tools/lay-shelf.mjs wrote): THE SAME DECLARATIONS UNDER THE SAME NAMES: 'import', 'namespace', 'open', 'def', 'theorem' AND NOTHING ELSE: no command of the shelf's: FOR A HAND-IN. Each laying: the table of numbers ('.._ren') and one theorem, a field a fact of the dump's own or the kernel's comparison; each contract: ONE APPLICATION.
-/
namespace Go.Proofs
open Go.Shelf
def Try.sortStr_ren : Go.Shelf.Ren := ⟨fun | 6 => 55 | 15 => 77 | 14 => 76 | 28 => 101 | 29 => 102 | 20 => 93 | 21 => 94 | 22 => 95 | 23 => 96 | 24 => 97 | 25 => 98 | 26 => 99 | 27 => 100 | 46 => 113 | 47 => 114 | 48 => 115 | 49 => 116 | 50 => 117 | 57 => 122 | n => n, fun | 22 => 65 | 24 => 9 | 25 => 94 | 3 => 3 | 39 => 110 | 0 => 0 | 53 => 154 | 55 => 70 | 4 => 4 | 46 => 147 | 45 => 146 | 50 => 151 | 5 => 5 | 9 => 9 | 66 => 167 | 70 => 170 | 76 => 178 | 77 => 179 | n => n, fun | n => n⟩
theorem Try.sortStr : Go.Proofs.SlLaysF.n6 Try.prog Try.sortStr_ren := {
  mixed := by kernel_rfl
  f6 := ⟨Try.f55.name, by decide, Try.func55.trans (congrArg some (by kernel_rfl))⟩
  f14 := ⟨Try.f76.name, by decide, Try.func76.trans (congrArg some (by kernel_rfl))⟩
  f15 := Try.func77.trans (congrArg some (by kernel_rfl))
  f20 := ⟨Try.f93.name, by decide, Try.func93.trans (congrArg some (by kernel_rfl))⟩
  f21 := ⟨Try.f94.name, by decide, Try.func94.trans (congrArg some (by kernel_rfl))⟩
  f22 := ⟨Try.f95.name, by decide, Try.func95.trans (congrArg some (by kernel_rfl))⟩
  f23 := ⟨Try.f96.name, by decide, Try.func96.trans (congrArg some (by kernel_rfl))⟩
  f24 := ⟨Try.f97.name, by decide, Try.func97.trans (congrArg some (by kernel_rfl))⟩
  f25 := ⟨Try.f98.name, by decide, Try.func98.trans (congrArg some (by kernel_rfl))⟩
  f26 := ⟨Try.f99.name, by decide, Try.func99.trans (congrArg some (by kernel_rfl))⟩
  f27 := ⟨Try.f100.name, by decide, Try.func100.trans (congrArg some (by kernel_rfl))⟩
  f28 := Try.func101.trans (congrArg some (by kernel_rfl))
  f29 := Try.func102.trans (congrArg some (by kernel_rfl))
  f46 := ⟨Try.f113.name, by decide, Try.func113.trans (congrArg some (by kernel_rfl))⟩
  f47 := Try.func114.trans (congrArg some (by kernel_rfl))
  f48 := Try.func115.trans (congrArg some (by kernel_rfl))
  f49 := ⟨Try.f116.name, by decide, Try.func116.trans (congrArg some (by kernel_rfl))⟩
  f50 := ⟨Try.f117.name, by decide, Try.func117.trans (congrArg some (by kernel_rfl))⟩
  f57 := ⟨Try.f122.name, by decide, Try.func122.trans (congrArg some (by kernel_rfl))⟩
  t0 := Try.underlying0
  a0 := Try.isAgg0
  z0 := Try.sizeOf0
  v0 := Try.zeroValue0
  t3 := Try.underlying3
  a3 := Try.isAgg3
  z3 := Try.sizeOf3
  v3 := Try.zeroValue3
  t4 := Try.underlying4
  a4 := Try.isAgg4
  z4 := Try.sizeOf4
  v4 := Try.zeroValue4
  t5 := Try.underlying5
  a5 := Try.isAgg5
  z5 := Try.sizeOf5
  v5 := Try.zeroValue5
  t9 := Try.underlying9
  a9 := Try.isAgg9
  z9 := Try.sizeOf9
  v9 := Try.zeroValue9
  t22 := Try.underlying65
  a22 := Try.isAgg65
  z22 := Try.sizeOf65
  v22 := Try.zeroValue65
  a24 := Try.isAgg9
  z24 := Try.sizeOf9
  t25 := Try.underlying94
  a25 := Try.isAgg94
  z25 := Try.sizeOf94
  v25 := Try.zeroValue94
  t39 := Try.underlying110
  a39 := Try.isAgg110
  z39 := Try.sizeOf110
  v39 := Try.zeroValue110
  t45 := Try.underlying146
  a45 := Try.isAgg146
  z45 := Try.sizeOf146
  v45 := Try.zeroValue146
  t46 := Try.underlying147
  a46 := Try.isAgg147
  z46 := Try.sizeOf147
  v46 := Try.zeroValue147
  t50 := Try.underlying151
  a50 := Try.isAgg151
  z50 := Try.sizeOf151
  v50 := Try.zeroValue151
  t53 := Try.underlying154
  a53 := Try.isAgg154
  z53 := Try.sizeOf154
  v53 := Try.zeroValue154
  t55 := Try.underlying70
  a55 := Try.isAgg70
  z55 := Try.sizeOf70
  v55 := Try.zeroValue70
  t66 := Try.underlying167
  a66 := Try.isAgg167
  z66 := Try.sizeOf167
  v66 := Try.zeroValue167
  t70 := Try.underlying170
  a70 := Try.isAgg170
  z70 := Try.sizeOf170
  v70 := Try.zeroValue170
  t76 := Try.underlying178
  a76 := Try.isAgg178
  z76 := Try.sizeOf178
  v76 := Try.zeroValue178
  t77 := Try.underlying179
  a77 := Try.isAgg179
  z77 := Try.sizeOf179
  v77 := Try.zeroValue179 }
def Try.compStr_ren : Go.Shelf.Ren := ⟨fun | 43 => 57 | n => n, fun | 22 => 65 | 23 => 9 | 3 => 3 | 4 => 4 | 0 => 0 | n => n, fun | n => n⟩
theorem Try.compStr : Go.Proofs.SlLaysE.n43 Try.prog Try.compStr_ren := {
  mixed := by kernel_rfl
  f43 := ⟨Try.f57.name, by decide, Try.func57.trans (congrArg some (by kernel_rfl))⟩
  t0 := Try.underlying0
  a0 := Try.isAgg0
  z0 := Try.sizeOf0
  v0 := Try.zeroValue0
  t3 := Try.underlying3
  a3 := Try.isAgg3
  z3 := Try.sizeOf3
  v3 := Try.zeroValue3
  t4 := Try.underlying4
  a4 := Try.isAgg4
  z4 := Try.sizeOf4
  v4 := Try.zeroValue4
  t22 := Try.underlying65
  a22 := Try.isAgg65
  z22 := Try.sizeOf65
  v22 := Try.zeroValue65
  a23 := Try.isAgg9
  z23 := Try.sizeOf9 }
end Go.Proofs
/- The contracts of slices.SortFunc and slices.Compact at strings. -/
namespace Go.Proofs.Ytfbimhnlcmdcpaa.Pa
open Go.Shelf Go.RowKit Go.Lib Go.Sort Go.Proofs.YtfbimhnlcmdcpaaW.PrintWords Go.Proofs.YtfbimhnlcmdcpaaW.PrintLast Go.Proofs.YtfbimhnlcmdcpaaW.PrintMore
set_option linter.unusedVariables false
set_option linter.unusedSimpArgs false

theorem ltS (x y : ByteArray) : ltOf cfS x y = sLt x y := by
  unfold ltOf cfS sLt
  rw [Bool.eq_iff_iff, decide_eq_true_iff]
  exact cmp_neg _ _
theorem swoS : SWO (ltOf cfS) where
  irrefl x := by rw [ltS]; exact bl_irrefl _
  trans x y z h1 h2 := by rw [ltS] at *; exact bl_trans _ _ _ h1 h2
  ntrans x y z h1 h2 := by
    rw [ltS] at *
    cases h : sLt x z with
    | false => rfl
    | true =>
      exfalso
      cases h3 : sLt y x with
      | false =>
        have := sLt_total h1 h3
        subst this
        rw [h] at h2
        cases h2
      | true =>
        have := bl_trans _ _ _ h3 h
        rw [show sLt y z = true from this] at h2
        cases h2
theorem cmpReadsS (blk off size : Nat) (w : World) : CmpReads Try.prog 56 #[] Value.string cfS blk off size w := fun _ _ _ _ x y => compare_any x y _

/-- a row of strings that may be written -/
def StrRow (w : World) (v : Value) (xs : List ByteArray) : Prop :=
  (v = .slice none 0 0 ∧ xs = []) ∨ ∃ g cap, v = .slice (some ⟨g, 0, none⟩) xs.length cap ∧ xs.length ≤ cap ∧ g < w.heap.size ∧ Holds Value.string w g 0 xs.toArray
theorem StrRow.of_own {w : World} {base n : Nat} {v : Value} {xs : List ByteArray} (h : w.ownsRow base 9 1 v n (xs.map Value.string)) : StrRow w v xs := by
  by_cases hv : v = .slice none 0 0
  · subst hv
    rcases h.2 with ⟨_, hn⟩ | ⟨g, cap, cur, e, _⟩
    · subst hn
      exact .inl ⟨rfl, by have := h.1; simpa using this⟩
    · cases e
  · obtain ⟨g, cap, rfl, hb, hg, hn, _, hl, hH⟩ := holds_of_ownsRow h hv
    subst hl
    exact .inr ⟨g, cap, rfl, hn, hg, hH⟩
theorem grownBy_putRow (w : World) (g off n : Nat) (d : Array ByteArray) (os : Array Obj) : w.grownBy (sortWorld Value.string w g off n d os) (some g) := by
  refine ⟨rfl, rfl, rfl, ?_, fun k hk hne => ?_⟩
  · show w.heap.size ≤ ((w.heap.modify g _) ++ os).size
    simp
  · have hkg : g ≠ k := fun e => hne (by rw [e])
    show ((w.heap.modify g _) ++ os)[k]? = _
    rw [Array.getElem?_append_left (by simpa using hk), Array.getElem?_modify, if_neg hkg]
theorem sort_any (v : Value) (xs : List ByteArray) (w : World) (h : StrRow w v xs) (hl : xs.length ≤ 100) :
    Calls Try.prog 55 #[v, .func (.func 56) #[] #[]] w fun e w' => e = .returned (.tuple #[]) ∧ w.grownBy w' v.ownBlock ∧ StrRow w' v (sortW xs) := by
  rcases h with ⟨rfl, rfl⟩ | ⟨g, cap, rfl, hc, hg, hH⟩
  · have hS := AnyF.slices_SortFunc_none (P := Try.prog) (ρ := Try.sortStr_ren) { Try.sortStr with } none 0 (.func (.func 56) #[] #[]) w
    change Calls Try.prog 55 _ _ _ at hS
    refine hS.mono ?_
    rintro e w' ⟨rfl, rfl⟩
    exact ⟨rfl, World.grownBy.refl _ _, .inl ⟨rfl, by simp [sortW]⟩⟩
  · have eg : ∀ args w, (callFunc 56 args).run Try.prog w = .ok (.enter 56 args) w := enters_of Try.func56 (by kernel_rfl) rfl
    have hS := Any.slices_SortFunc_total Try.sortStr Value.string (fun _ => rfl) cfS swoS 56 #[] g 0 cap xs.toArray w eg (cmpReadsS g 0 xs.toArray.size w).lays hH hg (by simp; omega) (fun x y h1 h2 => by rw [ltS] at h1 h2; exact sLt_total h1 h2)
    have hge : (fun x y : ByteArray => !ltOf cfS y x) = fun x y => !sLt y x := by funext x y; rw [ltS]
    rw [hge] at hS
    change Calls Try.prog 55 _ _ _ at hS
    have hsz : xs.toArray.size = xs.length := by simp
    rw [hsz] at hS
    refine hS.mono ?_
    rintro e w' ⟨rfl, n, os, rfl⟩
    have hlen : (sortW xs).length = xs.length := by unfold sortW; simp
    refine ⟨rfl, grownBy_putRow w g 0 n _ os, .inr ⟨g, cap, by rw [hlen], by rw [hlen]; exact hc, lt_sortWorld Value.string w g 0 n _ os hg, ?_⟩⟩
    have := holds_sortWorld Value.string w g 0 n xs.toArray (sortW xs).toArray os hg hH (by simp [hlen])
    simpa [sortW] using this
theorem eq_dec : (fun x y : ByteArray => x.toList == y.toList) = fun x y => decide (x = y) := by
  funext x y
  rw [toList_data, toList_data, Bool.eq_iff_iff, beq_iff_eq, decide_eq_true_iff]
  exact ⟨fun h => ByteArray.ext (Array.toList_inj.mp h), fun h => by rw [h]⟩
theorem grownBy_putRow0 (w : World) (g q : Nat) (d : Array ByteArray) : w.grownBy (putRow Value.string (Sort.ahead w q) g 0 d) (some g) := by
  have h := grownBy_putRow w g 0 q d #[]
  unfold sortWorld at h
  rw [grow_empty] at h
  exact h
theorem strs_of_holds {w : World} {g n : Nat} {d : Array ByteArray} (h : Holds Value.string w g 0 d) (xs : List ByteArray) (hx : xs.length = n) (hn : n ≤ 100) (hp : ∀ j, j < n → j < d.size ∧ d[j]! = xs.getD j ByteArray.empty) : Kd.string.C w (some ⟨g, 0, none⟩) n xs := by
  refine ⟨hx, by omega, fun _ => ⟨_, rfl, fun j p hj => ?_⟩⟩
  have hjl := (List.getElem?_eq_some_iff.1 hj).1
  obtain ⟨h1, h2⟩ := hp j (by omega)
  refine ⟨[.string p], rfl, rfl, fun i u hu => ?_⟩
  have hi : i = 0 := by
    have := (List.getElem?_eq_some_iff.1 hu).1
    simp at this
    exact this
  subst hi
  obtain rfl : Value.string p = u := by simpa using hu
  have hc := (h j h1).1
  rw [h2, List.getD_eq_getElem?_getD, hj] at hc
  have ha : ((⟨g, 0, none⟩ : Addr).add (j * 1 + 0)) = ⟨g, 0 + j, none⟩ := by
    rw [add_plain]; simp
  show w.cell? ((⟨g, 0, none⟩ : Addr).add (j * 1 + 0)) = _
  rw [ha]
  exact hc
theorem compact_any (v : Value) (xs : List ByteArray) (w : World) (h : StrRow w v xs) (hl : xs.length ≤ 100) :
    Calls Try.prog 57 #[v] w fun e w' => ∃ A c, e = .returned (.slice A (compact xs).length c) ∧ w.grownBy w' v.ownBlock ∧ Kd.string.C w' A (compact xs).length (compact xs) := by
  rcases h with ⟨rfl, rfl⟩ | ⟨g, cap, rfl, hc, hg, hH⟩
  · go_enter Try.func57, Try.ntmps57
    go_wp2
    go_ret
    exact ⟨none, 0, rfl, World.grownBy.refl _ _, rfl, by decide, fun h => absurd h (by decide)⟩
  · have he : EqlAt Try.prog 9 Value.string (fun x y => decide (x = y)) := by
      have := EqlAt.string Try.prog 9
      rwa [eq_dec] at this
    have hn : NeqAt Try.prog 9 Value.string (fun x y => decide (x = y)) := by
      have := NeqAt.string Try.prog 9
      rwa [eq_dec] at this
    have hC := AnyE.slices_Compact Try.compStr Value.string (fun _ => rfl) he hn ByteArray.empty (fun _ => by kernel_rfl) g 0 cap xs.toArray w hH (by simp; omega) (by simpa using hc)
    change Calls Try.prog 57 _ _ _ at hC
    have hsz : xs.toArray.size = xs.length := by simp
    rw [hsz] at hC
    refine hC.mono ?_
    rintro e w' ⟨rfl, q, rfl⟩
    have hcl : compactUpTo xs.toArray xs.length = compact xs := rfl
    rw [hcl]
    have hle : (compact xs).length ≤ xs.length := by
      unfold compact compactUpTo
      rw [List.length_map]
      have := List.length_filter_le (keeps xs.toArray) (List.range xs.length)
      rwa [List.length_range] at this
    refine ⟨_, _, rfl, grownBy_putRow0 w g q _, ?_⟩
    have hH2 := holds_putRow Value.string (Sort.ahead w q) g 0 xs.toArray (compact xs ++ List.replicate (xs.length - (compact xs).length) ByteArray.empty).toArray hH (by simp; omega)
    refine strs_of_holds hH2 (compact xs) rfl (by omega) (fun j hj => ⟨by simp; omega, ?_⟩)
    rw [getElem!_pos _ j (by simp; omega)]
    simp [List.getElem_append_left hj, List.getD_eq_getElem?_getD, List.getElem?_eq_getElem hj]
end Go.Proofs.Ytfbimhnlcmdcpaa.Pa
/- The contract of Compare. -/
namespace Go.Proofs.Ytfbimhnlcmdcpaa.Pa
open Go.RowKit Go.Proofs.YtfbimhnlcmdcpaaW.PrintWords Go.Proofs.YtfbimhnlcmdcpaaW.PrintLast Go.Proofs.YtfbimhnlcmdcpaaW.PrintMore
set_option linter.unusedVariables false
set_option linter.unusedSimpArgs false

abbrev Mv := S47
/-- what became of a word: p: its names before, q: after -/
def moveOf (s : ByteArray) (p q : Option (List ByteArray)) : List Mv :=
  if p.isSome && !q.isSome then [⟨s, 1⟩] else if q.isSome && !p.isSome then [⟨s, 2⟩] else if decide (p.getD [] = q.getD []) = false then [⟨s, 3⟩] else []
def wordsT (hs1 hs2 : List Hd) : List ByteArray := Lib.compact (sortW (hs1.map (fun x => x.f0) ++ hs2.map (fun x => x.f0)))
def movesT (cs1 : List Cl) (hs1 : List Hd) (cs2 : List Cl) (hs2 : List Hd) : List Mv :=
  (wordsT hs1 hs2).flatMap (fun s => moveOf s (namesT cs1 hs1 s) (namesT cs2 hs2 s))
def trade_Compare.f (cs1 : List Cl) (hs1 : List Hd) (cs2 : List Cl) (hs2 : List Hd) : Option (List Mv × Int) :=
  some (if checkT cs1 hs1 ≠ 0 then ([], checkT cs1 hs1) else if checkT cs2 hs2 ≠ 0 then ([], checkT cs2 hs2) else (movesT cs1 hs1 cs2 hs2, 0))

theorem equalL (xs ys : List ByteArray) (hl : xs.length = ys.length) (hb : xs.length ≤ 100) : ∀ (k i : Nat), i ≤ xs.length → xs.length < k + i →
    slices_Equal_string_string.l0 k xs ys (xs.length : Int) i = some (decide (xs.drop i = ys.drop i))
  | 0, i, h1, h2 => by omega
  | k + 1, i, h1, h2 => by
    show (if (i : Int) < (xs.length : Int) then _ else _) = _
    by_cases hi : i < xs.length
    · have hw : wrap64 ((i : Int) + 1) = ((i + 1 : Nat) : Int) := by unfold wrap64; omega
      rw [if_pos (by omega), if_pos (by omega), if_pos (by omega), if_pos (by omega), hw, equalL xs ys hl hb k (i + 1) (by omega) (by omega)]
      have e1 : rdOf ByteArray.empty xs (i : Int) = xs[i] := by simp [rdOf, List.getD_eq_getElem?_getD, List.getElem?_eq_getElem hi]
      have e2 : rdOf ByteArray.empty ys (i : Int) = ys[i] := by simp [rdOf, List.getD_eq_getElem?_getD, List.getElem?_eq_getElem (show i < ys.length by omega)]
      rw [e1, e2, List.drop_eq_getElem_cons hi, List.drop_eq_getElem_cons (show i < ys.length by omega)]
      by_cases he : xs[i] = ys[i]
      · rw [if_pos (by rw [he]), he]
        simp only [List.cons.injEq, true_and]
      · rw [if_neg (fun h => he (by
          rw [toList_data, toList_data] at h
          exact ByteArray.ext (Array.toList_inj.mp h))), decide_eq_false (fun h => he (List.cons.inj h).1)]
    · rw [if_neg (by omega), List.drop_eq_nil_of_le (by omega), List.drop_eq_nil_of_le (by omega)]
      rfl
theorem equal_strs (xs ys : List ByteArray) (hb : xs.length ≤ 100) : slices_Equal_string_string.f 101 xs ys = some (decide (xs = ys)) := by
  unfold slices_Equal_string_string.f
  by_cases hl : xs.length = ys.length
  · rw [if_pos (by omega)]
    exact equalL xs ys hl hb 101 0 (by omega) (by omega)
  · rw [if_neg (by omega), decide_eq_false (fun h => hl (by rw [h]))]

def mvCells (l : List Mv) : List Value := l.flatMap (fun x => [.string x.f0, .int .i64 x.f1])
theorem mvCells_append (a b : List Mv) : mvCells (a ++ b) = mvCells a ++ mvCells b := by simp [mvCells]
theorem mv_reps (w : World) (base : Nat) (ok : Nat → Prop) (l : List Mv) : Reps (k47.M w base ok) 2 l (mvCells l) := by
  induction l with
  | nil => exact Reps.none _ _
  | cons r l ih => exact Kd.reps_append (Reps.snoc (Reps.none _ _) (k47_mkM w base ok r) rfl) ih
theorem infoMv : (Try.prog.info? 47).map (fun i => (i.zero, i.size, i.bytes)) = some (some (.agg #[.string ⟨#[]⟩, .int .i64 0]), 2, 24) := by kernel_rfl

theorem compact_len (xs : List ByteArray) : (Lib.compact xs).length ≤ xs.length := by
  unfold Lib.compact Lib.compactUpTo
  rw [List.length_map]
  have := List.length_filter_le (Lib.keeps xs.toArray) (List.range xs.length)
  rwa [List.length_range] at this
theorem moves_len (U : List ByteArray) (N0 N1 : ByteArray → Option (List ByteArray)) : (U.flatMap (fun s => moveOf s (N0 s) (N1 s))).length ≤ U.length := by
  induction U with
  | nil => simp
  | cons s l ih =>
    rw [List.flatMap_cons, List.length_append, List.length_cons]
    have : (moveOf s (N0 s) (N1 s)).length ≤ 1 := by
      unfold moveOf
      split
      · simp
      · split
        · simp
        · split <;> simp
    omega
theorem namesFrom_len (cs : List Cl) (hs : List Hd) (s : ByteArray) : ∀ k i, ((namesFrom cs hs s k i).getD []).length ≤ cs.length
  | 0, i => by simp [namesFrom]
  | k + 1, i => by
    show ((if _ then _ else _ : Option (List ByteArray)).getD []).length ≤ _
    split
    · show (classNames cs _).length ≤ _
      unfold classNames
      rw [List.length_map]
      exact pathT_len _ _
    · exact namesFrom_len cs hs s k (i + 1)
theorem below_as {q : Nat} {w w3 : World} (hq : q = w.heap.size) (h : Below w.drew.heap.size w.drew w3) : Below q w w3 := by
  subst hq
  exact ⟨h.os, h.tape, h.output, h.size, h.block⟩

set_option maxHeartbeats 8000000 in
set_option maxRecDepth 100000 in
theorem compare_good (A0_0 : Option Addr) (c0_0 : Nat) (l0_0 : List (S51)) (A0_1 : Option Addr) (c0_1 : Nat) (l0_1 : List (S39)) (A1_0 : Option Addr) (c1_0 : Nat) (l1_0 : List (S51)) (A1_1 : Option Addr) (c1_1 : Nat) (l1_1 : List (S39)) (w : World) (hr0_0 : Kd.C k51 w A0_0 l0_0.length l0_0) (hc0_0 : l0_0.length ≤ c0_0) (hr0_1 : Kd.C k39 w A0_1 l0_1.length l0_1) (hc0_1 : l0_1.length ≤ c0_1) (hr1_0 : Kd.C k51 w A1_0 l1_0.length l1_0) (hc1_0 : l1_0.length ≤ c1_0) (hr1_1 : Kd.C k39 w A1_1 l1_1.length l1_1) (hc1_1 : l1_1.length ≤ c1_1) (hv0 : Valid l0_0 l0_1) (hv1 : Valid l1_0 l1_1) :
    Calls Try.prog 21 #[.agg #[.slice A0_0 l0_0.length c0_0, .slice A0_1 l0_1.length c0_1], .agg #[.slice A1_0 l1_0.length c1_0, .slice A1_1 l1_1.length c1_1]] w fun e w' => ∃ v0_ : Value, e = .returned (.tuple #[v0_, .int .i64 0]) ∧ Kd.R k47 47 w' w.heap.size (fun _ => True) v0_ (movesT l0_0 l0_1 l1_0 l1_1) ∧ Below w.heap.size w w' := by
  have hu2 := Try.underlying26
  have hu4 := Try.underlying39
  obtain ⟨m0, m1, -, -⟩ := hv0.split
  obtain ⟨-, m3, -, -⟩ := hv1.split
  obtain ⟨i0, hi, hz0, hz1, hz2⟩ := info_parts infoStr
  obtain ⟨j0, hj, hy0, hy1, hy2⟩ := info_parts infoMv
  have hB0 := ((Below.refl w.heap.size w).alloc (Nat.le_refl _) (.cells #[.slice A0_0 l0_0.length c0_0, .slice A0_1 l0_1.length c0_1] 26)).alloc (by simp) (.cells #[.slice A1_0 l1_0.length c1_0, .slice A1_1 l1_1.length c1_1] 26)
  have hx0 := blk_alloc (heap_alloc_new w (.cells #[.slice A0_0 l0_0.length c0_0, .slice A0_1 l0_1.length c0_1] 26)) (.cells #[.slice A1_0 l1_0.length c1_0, .slice A1_1 l1_1.length c1_1] 26)
  have hx1 := heap_alloc_new (w.alloc (.cells #[.slice A0_0 l0_0.length c0_0, .slice A0_1 l0_1.length c0_1] 26)) (.cells #[.slice A1_0 l1_0.length c1_0, .slice A1_1 l1_1.length c1_1] 26)
  rw [World.size_alloc] at hx1
  have HG0 := fun W (hW : Below w.heap.size w W) => begin_good A0_0 A0_1 c0_0 c0_1 l0_0 l0_1 W (Kd.C_below hr0_0 hW) (Kd.C_below hr0_1 hW) hc0_0 hc0_1 hv0
  have HG1 := fun W (hW : Below w.heap.size w W) => begin_good A1_0 A1_1 c1_0 c1_1 l1_0 l1_1 W (Kd.C_below hr1_0 hW) (Kd.C_below hr1_1 hW) hc1_0 hc1_1 hv1
  have HN0 := fun s W g (hL : IsList W g l0_0 l0_1) => names_any g l0_0 l0_1 s W hL hv0
  have HN1 := fun s W g (hL : IsList W g l1_0 l1_1) => names_any g l1_0 l1_1 s W hL hv1
  have hw0 := hw_of_heads hr0_1
  have hw1 := hw_of_heads hr1_1
  have hln : (l0_1.map (fun x => x.f0)).length = l0_1.length := List.length_map _
  have hln1 : (l1_1.map (fun x => x.f0)).length = l1_1.length := List.length_map _
  have HR : Hid (movesT l0_0 l0_1 l1_0 l1_1 = (wordsT l0_1 l1_1).flatMap (fun s => moveOf s (namesT l0_0 l0_1 s) (namesT l1_0 l1_1 s))) := rfl
  have HW : Hid (wordsT l0_1 l1_1 = Lib.compact (sortW (l0_1.map (fun x => x.f0) ++ l1_1.map (fun x => x.f0)))) := rfl
  obtain ⟨R, hRe⟩ : ∃ R, movesT l0_0 l0_1 l1_0 l1_1 = R := ⟨_, rfl⟩
  obtain ⟨N0, hN0⟩ : ∃ N, namesT l0_0 l0_1 = N := ⟨_, rfl⟩
  obtain ⟨N1, hN1⟩ : ∃ N, namesT l1_0 l1_1 = N := ⟨_, rfl⟩
  obtain ⟨X0, hX0⟩ : ∃ X, l0_1.map (fun x => x.f0) = X := ⟨_, rfl⟩
  obtain ⟨X1, hX1⟩ : ∃ X, l1_1.map (fun x => x.f0) = X := ⟨_, rfl⟩
  obtain ⟨U, hU⟩ : ∃ U, wordsT l0_1 l1_1 = U := ⟨_, rfl⟩
  have hP100 : ∀ s P Pl, N0 s = P → P.getD [] = Pl → Pl.length ≤ 100 := fun s P Pl h1 h2 => by
    have h3 := namesFrom_len l0_0 l0_1 s l0_1.length 0
    have h4 : N0 s = namesFrom l0_0 l0_1 s l0_1.length 0 := by rw [← hN0]; rfl
    rw [← h4, h1, h2] at h3
    omega
  rw [hRe] at HR ⊢
  rw [hN0, hN1, hU] at HR
  simp only [hN0] at HN0
  simp only [hN1] at HN1
  rw [hX0] at hw0 hln
  rw [hX1] at hw1 hln1
  rw [hX0, hX1, hU] at HW
  clear hRe hN0 hN1 hX0 hX1 hU
  go_enter Try.func21, Try.ntmps21
  go_upto_region 1 with (fail)
  obtain ⟨W0, hW0⟩ : ∃ W0, W0 = (w.alloc (.cells #[.slice A0_0 l0_0.length c0_0, .slice A0_1 l0_1.length c0_1] 26)).alloc (.cells #[.slice A1_0 l1_0.length c1_0, .slice A1_1 l1_1.length c1_1] 26) := ⟨_, rfl⟩
  rw [← hW0] at hB0 hx0 hx1 ⊢
  clear hW0
  obtain ⟨a0, a1⟩ := cells2 hx0
  go_upto_region 4 with (go_at_call 42; (with_reducible refine (HG0 _ hB0).mono ?_); rintro e w1 ⟨g, rfl, hL1, hb1⟩)
  have hB1 := below_then hB0 hB0.size hb1
  replace hx0 := blk_below hx0 hb1
  replace hx1 := blk_below hx1 hb1
  obtain ⟨b0, b1⟩ := cells2 hx1
  clear hB0 hb1 a0 a1
  clear W0
  go_upto_region 8 with (go_at_call 42; (with_reducible refine (HG1 _ hB1).mono ?_); rintro e w2 ⟨g2, rfl, hL2, hb2⟩)
  have hB2 := below_then hB1 hB1.size hb2
  replace hL1 := hL1.below hb2
  replace hx0 := blk_below hx0 hb2
  replace hx1 := blk_below hx1 hb2
  clear hB1 hb2 b0 b1
  clear w1
  obtain ⟨a0, a1⟩ := cells2 hx0
  obtain ⟨b0, b1⟩ := cells2 hx1
  have HCl := fun W (hW : Below w.heap.size w W) => clone_any A0_1 c0_1 X0 W (Kd.C_below (by rw [hln]; exact hw0) hW) (by omega)
  simp only [hln] at HCl
  have hC1b := fun W (hW : Below w.heap.size w W) => Kd.C_below hw1 hW
  obtain ⟨q2, hq2⟩ : ∃ q, q = w2.heap.size := ⟨_, rfl⟩
  have hZl : (X0 ++ X1).length = l0_1.length + l1_1.length := by rw [List.length_append, hln, hln1]
  go_cut [40, 41, 42] (fun s40 s41 s42 wx => ∃ Av cv, s40 = .slice Av (l0_1.length + l1_1.length) cv ∧ s41 = .int .i64 ((l0_1.length + l1_1.length : Nat) : Int) ∧ s42 = .int .i64 0 ∧ Below q2 w2 wx ∧ kHw.C wx Av (l0_1.length + l1_1.length) (X0 ++ X1))
  case first =>
    go_region_law (first
      | (refine Kd.R_append_rows_step kHw (w0 := w2) q2 (by rfl) _ _ 24 39 _ 56 (by rfl) Try.underlying24 infoHd (by rfl) (by decide) (by decide) vc X0 X1 A1_1 l1_1.length c1_1 (fun _ => True) (fun k => some k ≠ vc.ownBlock) (by rfl) (by rfl) hRc hC1c (fun _ _ h => h) (fun k hk => ⟨trivial, hk⟩) (fun _ _ => trivial) hb3' hq3 (by omega) ?_; intro v1 w4 hv1 hb4 _ _; obtain ⟨Av, cv, rfl, -, hCv⟩ := Kd.R_reads hv1; clear hv1)
      | (go_simp; go_at_call 54; go_loud ((with_reducible refine (HCl _ hB2.drew).mono ?_); rintro e w3 ⟨vc, rfl, hRc, hb3⟩); have hb3' := below_as hq2 hb3; have hB3 := below_then hB2.drew hB2.drew.size hb3; have hC1c := hC1b _ hB3; have hq3 := hb3'.size; rw [← hq2] at hq3; have b1c := pw_cell_below hb3 b1; have b0c := pw_cell_below hb3 b0; have hRc := Kd.R_lower (base' := q2) hRc (by rw [hq2]; exact Nat.le_refl _)))
    all_goals
      go_wp2
      go_meet
      case rel => exact ⟨Av, _, rfl, rfl, rfl, hb4, by rw [← hZl]; exact hCv⟩
  case rest =>
    obtain ⟨Av, cv, rfl, rfl, rfl, hb4, hCv⟩ := hcut
    have hB4 := below_then hB2 hB2.size (by rw [← hq2]; exact hb4)
    replace hL1 := hL1.below (by rw [← hq2]; exact hb4)
    replace hL2 := hL2.below (by rw [← hq2]; exact hb4)
    obtain ⟨Z, hZ⟩ : ∃ Z, X0 ++ X1 = Z := ⟨_, rfl⟩
    rw [hZ] at hCv hZl HW
    clear hZ hb4 HCl hC1b HG0 HG1 hw0 hw1 hx0 hx1 a0 a1 b0 b1 hB2
    obtain ⟨w4, hw4⟩ : ∃ w4, w4 = wc := ⟨_, rfl⟩
    subst hw4
    obtain ⟨nz, hnz⟩ : ∃ nz, l0_1.length + l1_1.length = nz := ⟨_, rfl⟩
    have hnz12 : nz ≤ 12 := by omega
    rw [hnz] at hZl hCv
    simp only [hnz]
    go_wp2
    go_loopg [9, 42] nz (fun gk v9 v wr => ∃ k : Nat, k + gk = nz ∧ v = .int .i64 k ∧ Below w4.heap.size w4 wr ∧ wr.ownsRow w4.heap.size 9 1 v9 k ((Z.take k).map Value.string))
    case atStart => exact ⟨0, by omega, rfl, Below.refl _ _, own_nil _ _ _ _⟩
    case round =>
      obtain ⟨k, hk, rfl, hb, ho⟩ := hrel
      by_cases hlt : k < nz
      · obtain ⟨ad, fi, fj, fA, fn, fc, e, h0, h1, h2, h3⟩ := hwAt (Kd.C_below hCv hb) k hlt
        cases e
        have hT : Hid ((Z.take (k + 1)).map Value.string = (Z.take k).map Value.string ++ [.string (Z.getD k ByteArray.empty)]) := by
          show _ = _
          rw [List.take_succ_eq_append_getElem (by omega), List.map_append, List.getD_eq_getElem?_getD, List.getElem?_eq_getElem (by omega)]
          rfl
        obtain ⟨y, hy⟩ : ∃ y, Z.getD k ByteArray.empty = y := ⟨_, rfl⟩
        rw [hy] at h0 hT
        clear hy
        have hbd := fun o => hb.alloc hb.size o
        have ho2 := fun o => ho.alloc o
        go_upto_region 11 with (fail)
        replace hbd := hbd (.cells #[.string y, .int .i64 fi, .int .i64 fj, .slice fA fn fc] 39)
        replace ho2 := ho2 (.cells #[.string y, .int .i64 fi, .int .i64 fj, .slice fA fn fc] 39)
        have hxb := cells4 (heap_alloc_new wr (.cells #[.string y, .int .i64 fi, .int .i64 fj, .slice fA fn fc] 39))
        obtain ⟨W1, hW1⟩ : ∃ W1, W1 = wr.alloc (.cells #[.string y, .int .i64 fi, .int .i64 fj, .slice fA fn fc] 39) := ⟨_, rfl⟩
        rw [← hW1] at hbd ho2 hxb ⊢
        clear hW1 hb ho h0 h1 h2 h3
        obtain ⟨z0, -, -, -⟩ := hxb
        go_wp2_with (at_builtin; go_loud (refine wpList_append_own _ rfl _ _ 65 rfl w4.heap.size 9 i0 (.string ⟨#[]⟩) 1 16 Try.underlying65 hi hz0 hz1 hz2 rfl (by decide) _ _ _ rfl (ho2.alloc _) ⟨W1.heap.size, 0, none⟩ 1 1 [.string y] rfl rfl (cell_one_new _ _ _) (by simp [Value.oneCell']) (by unfold maxLen; omega) (by omega) (by have := hbd.size; simp; omega) ?_; intro v' w5 hown5 hgrow5 _; have HB5 := Below.grown (hbd.alloc hbd.size _) hgrow5 (by have := hbd.size; simp; omega) (fun j hj => (ho2.lt j hj).1); have HO := Lib.hid hown5; clear hown5 hgrow5))
        go_roundg (nz - (k + 1))
        case measure => omega
        case rel => exact ⟨k + 1, by omega, by go_num, HB5, by rw [hT.out]; exact HO.out⟩
      · obtain rfl : nz = k := by omega
        rw [← hZl, List.take_length, hZl] at ho
        have HU := HW.out
        have hsl : (sortW Z).length = nz := by unfold sortW; rw [List.length_mergeSort]; exact hZl
        have hul := compact_len (sortW Z)
        rw [← HU, hsl] at hul
        have HS := sort_any _ Z wr (StrRow.of_own ho) (by omega)
        have HC := fun W v (hW : StrRow W v (sortW Z)) => compact_any v (sortW Z) W hW (by rw [hsl]; omega)
        simp only [← HU] at HC
        clear HU
        have hob := fun j hj => own_base ho j hj
        clear HW
        go_upto_region 16 with (first
          | (go_at_call 55; go_loud ((with_reducible refine HS.mono ?_); rintro e w6 ⟨rfl, hg6, hS6⟩); have hb6 := hb.grown hg6 hb.size hob; clear HS)
          | (go_at_call 57; go_loud ((with_reducible refine (HC _ _ hS6).mono ?_); rintro e w7 ⟨Au, cu, rfl, hg7, hCu⟩); have hb7 := hb6.grown hg7 hb6.size hob; clear HC))
        have hBL := below_then hB4 hB4.size hb7
        have hLa7 := hL1.below hb7
        have hLb7 := hL2.below hb7
        clear hb hb6 hg6 hS6 hg7 ho hob hL1 hL2 hB4 hCv hsl
        go_loopg [12, 57] U.length (fun gk v12 v wr => ∃ k : Nat, k + gk = U.length ∧ v = .int .i64 k ∧ Below w7.heap.size w7 wr ∧ wr.ownsRow w7.heap.size 47 2 v12 ((U.take k).flatMap (fun s => moveOf s (N0 s) (N1 s))).length (mvCells ((U.take k).flatMap (fun s => moveOf s (N0 s) (N1 s)))))
        case atStart => exact ⟨0, by omega, rfl, Below.refl _ _, own_nil _ _ _ _⟩
        case round =>
          obtain ⟨k, hk, rfl, hbw, ho⟩ := hrel
          by_cases hlt : k < U.length
          · obtain ⟨au, eu, hcu⟩ := Kd.at_string (Kd.C_below hCu hbw) (k : Int) (by omega) (by omega)
            cases eu
            have hTk : Hid ((U.take (k + 1)).flatMap (fun s => moveOf s (N0 s) (N1 s)) = (U.take k).flatMap (fun s => moveOf s (N0 s) (N1 s)) ++ moveOf (U.getD k ByteArray.empty) (N0 (U.getD k ByteArray.empty)) (N1 (U.getD k ByteArray.empty))) := by
              show _ = _
              rw [List.take_succ_eq_append_getElem hlt, List.flatMap_append, List.getD_eq_getElem?_getD, List.getElem?_eq_getElem hlt]
              simp
            have hrd : rdOf ByteArray.empty U (k : Int) = U.getD k ByteArray.empty := rfl
            rw [hrd, Int.toNat_natCast] at hcu
            obtain ⟨s, hs⟩ : ∃ s, U.getD k ByteArray.empty = s := ⟨_, rfl⟩
            rw [hs] at hcu hTk
            have hLa := hLa7.below hbw
            have hLb := hLb7.below hbw
            have HNa := fun W hL => HN0 s W g hL
            have HNb := fun W hL => HN1 s W g2 hL
            have hml : ((U.take k).flatMap (fun s => moveOf s (N0 s) (N1 s))).length ≤ k := by
              have := moves_len (U.take k) N0 N1
              rw [List.length_take] at this
              omega
            obtain ⟨M, hM⟩ : ∃ M, (U.take k).flatMap (fun s => moveOf s (N0 s) (N1 s)) = M := ⟨_, rfl⟩
            rw [hM] at ho hTk hml
            obtain ⟨P, hP⟩ : ∃ P, N0 s = P := ⟨_, rfl⟩
            obtain ⟨Q, hQ⟩ : ∃ Q, N1 s = Q := ⟨_, rfl⟩
            rw [hP, hQ] at hTk
            simp only [hP] at HNa
            simp only [hQ] at HNb
            obtain ⟨Pl, hPl⟩ : ∃ Pl, P.getD [] = Pl := ⟨_, rfl⟩
            obtain ⟨Ql, hQl⟩ : ∃ Ql, Q.getD [] = Ql := ⟨_, rfl⟩
            obtain ⟨pb, hpb⟩ : ∃ pb, P.isSome = pb := ⟨_, rfl⟩
            obtain ⟨qb, hqb⟩ : ∃ qb, Q.isSome = qb := ⟨_, rfl⟩
            have hMo : Hid (moveOf s P Q = if pb && !qb then [⟨s, 1⟩] else if qb && !pb then [⟨s, 2⟩] else if decide (Pl = Ql) = false then [⟨s, 3⟩] else []) := by
              show _ = _
              unfold moveOf
              rw [hPl, hQl, hpb, hqb]
            have hPn : Pl.length ≤ 100 := hP100 s P Pl hP hPl
            simp only [hPl, hpb] at HNa
            simp only [hQl, hqb] at HNb
            have hlt1 : (k : Int) < U.length := by omega
            have hlt2 : decide ((k : Int) < U.length) = true := decide_eq_true hlt1
            clear hM hs hP hQ hPl hQl hpb hqb
            cases pb with
            | true =>
              cases qb with
              | true =>
                have HEq0 := equal_strs Pl Ql hPn
                cases hed : decide (Pl = Ql) with
                | true =>
                  have HEq := HEq0
                  rw [hed] at HEq
                  have HG : Hid ((U.take (k + 1)).flatMap (fun s => moveOf s (N0 s) (N1 s)) = M) := by show _ = _; rw [hTk.out, hMo.out, hed]; exact List.append_nil _
                  clear hTk hMo HEq0 hed
                  go_wp2_with (first
                    | (go_at_call 58; (with_reducible refine (HNa wr hLa).mono ?_); rintro e w8 ⟨vp, rfl, hRp, hb8⟩; obtain ⟨Ap, cp, rfl, hlp, hCp⟩ := Kd.R_reads hRp; have hbw8 := below_then hbw hbw.size hb8; have ho8 := own_move ho (fun k hk => hb8.block k (own_lt ho k hk)); have hLb8 := hLb.below hb8; clear hRp)
                    | (go_at_call 58; (with_reducible refine (HNb w8 hLb8).mono ?_); rintro e w9 ⟨vq, rfl, hRq, hb9⟩; obtain ⟨Aq, cq, rfl, hlq, hCq⟩ := Kd.R_reads hRq; have hbw9 := below_then hbw8 hbw8.size hb9; have ho9 := own_move ho8 (fun k hk => hb9.block k (own_lt ho8 k hk)); have hCp9 := Kd.C_below hCp hb9; clear hRq)
                    | (go_at_call 59; go_loud ((with_reducible refine (slices_Equal_string_string.calls 101 Ap cp Pl Aq cq Ql true _ hCp9 hlp hCq hlq HEq).mono ?_); rintro e w10 ⟨rfl, ⟨nd, rfl⟩⟩; have ho10 := (show (w9.drewN nd).ownsRow w7.heap.size 47 2 _ _ _ from ho9); have hbw10 := pw_below_drewN hbw9 nd)))
                  go_roundg (U.length - (k + 1))
                  case measure => omega
                  case rel => exact ⟨k + 1, by omega, by go_num, hbw10, by rw [HG.out]; exact ho10⟩
                | false =>
                  have HEq := HEq0
                  rw [hed] at HEq
                  have HG : Hid ((U.take (k + 1)).flatMap (fun s => moveOf s (N0 s) (N1 s)) = M ++ [⟨s, 3⟩]) := by show _ = _; rw [hTk.out, hMo.out, hed]; rfl
                  clear hTk hMo HEq0 hed
                  go_wp2_with (first
                    | (go_at_call 58; (with_reducible refine (HNa wr hLa).mono ?_); rintro e w8 ⟨vp, rfl, hRp, hb8⟩; obtain ⟨Ap, cp, rfl, hlp, hCp⟩ := Kd.R_reads hRp; have hbw8 := below_then hbw hbw.size hb8; have ho8 := own_move ho (fun k hk => hb8.block k (own_lt ho k hk)); have hLb8 := hLb.below hb8; clear hRp)
                    | (go_at_call 58; (with_reducible refine (HNb w8 hLb8).mono ?_); rintro e w9 ⟨vq, rfl, hRq, hb9⟩; obtain ⟨Aq, cq, rfl, hlq, hCq⟩ := Kd.R_reads hRq; have hbw9 := below_then hbw8 hbw8.size hb9; have ho9 := own_move ho8 (fun k hk => hb9.block k (own_lt ho8 k hk)); have hCp9 := Kd.C_below hCp hb9; clear hRq)
                    | (go_at_call 59; go_loud ((with_reducible refine (slices_Equal_string_string.calls 101 Ap cp Pl Aq cq Ql false _ hCp9 hlp hCq hlq HEq).mono ?_); rintro e w10 ⟨rfl, ⟨nd, rfl⟩⟩; have ho10 := (show (w9.drewN nd).ownsRow w7.heap.size 47 2 _ _ _ from ho9); have hbw10 := pw_below_drewN hbw9 nd))
                    | (at_builtin; go_loud (refine wpList_append_own _ rfl _ _ 43 rfl w7.heap.size 47 j0 (.agg #[.string ⟨#[]⟩, .int .i64 0]) 2 24 Try.underlying43 hj hy0 hy1 hy2 rfl (by decide) _ _ _ rfl (ho10.alloc _) ⟨w9.heap.size, 0, none⟩ 1 1 [.string s, .int .i64 3] rfl rfl (World.news_of_block (cs := #[.string s, .int .i64 3]) (t := 47) (fr := (0, 0)) (heap_alloc_new ((w9.drewN nd)) _)) (by simp [Value.oneCell']) (by unfold maxLen; omega) (by omega) (by have := (hbw10).size; simp at this ⊢; omega) ?_; intro v' wa hown hgrow _; have HBa := Below.grown ((hbw10).alloc (hbw10).size _) hgrow (by have := (hbw10).size; simp at this ⊢; omega) (fun j hj => (ho10.lt j hj).1); have HO := Lib.hid hown; clear hown hgrow)))
                  go_roundg (U.length - (k + 1))
                  case measure => omega
                  case rel => exact ⟨k + 1, by omega, by go_num, HBa, by rw [HG.out, mvCells_append, List.length_append]; exact HO.out⟩
              | false =>
                have HG : Hid ((U.take (k + 1)).flatMap (fun s => moveOf s (N0 s) (N1 s)) = M ++ [⟨s, 1⟩]) := by show _ = _; rw [hTk.out, hMo.out]; rfl
                clear hTk hMo
                go_wp2_with (first
                  | (go_at_call 58; (with_reducible refine (HNa wr hLa).mono ?_); rintro e w8 ⟨vp, rfl, hRp, hb8⟩; obtain ⟨Ap, cp, rfl, hlp, hCp⟩ := Kd.R_reads hRp; have hbw8 := below_then hbw hbw.size hb8; have ho8 := own_move ho (fun k hk => hb8.block k (own_lt ho k hk)); have hLb8 := hLb.below hb8; clear hRp)
                  | (go_at_call 58; (with_reducible refine (HNb w8 hLb8).mono ?_); rintro e w9 ⟨vq, rfl, hRq, hb9⟩; obtain ⟨Aq, cq, rfl, hlq, hCq⟩ := Kd.R_reads hRq; have hbw9 := below_then hbw8 hbw8.size hb9; have ho9 := own_move ho8 (fun k hk => hb9.block k (own_lt ho8 k hk)); have hCp9 := Kd.C_below hCp hb9; clear hRq)
                  | (at_builtin; go_loud (refine wpList_append_own _ rfl _ _ 43 rfl w7.heap.size 47 j0 (.agg #[.string ⟨#[]⟩, .int .i64 0]) 2 24 Try.underlying43 hj hy0 hy1 hy2 rfl (by decide) _ _ _ rfl (ho9.alloc _) ⟨w9.heap.size, 0, none⟩ 1 1 [.string s, .int .i64 1] rfl rfl (World.news_of_block (cs := #[.string s, .int .i64 1]) (t := 47) (fr := (0, 0)) (heap_alloc_new (w9) _)) (by simp [Value.oneCell']) (by unfold maxLen; omega) (by omega) (by have := (hbw9).size; simp at this ⊢; omega) ?_; intro v' wa hown hgrow _; have HBa := Below.grown ((hbw9).alloc (hbw9).size _) hgrow (by have := (hbw9).size; simp at this ⊢; omega) (fun j hj => (ho9.lt j hj).1); have HO := Lib.hid hown; clear hown hgrow)))
                go_roundg (U.length - (k + 1))
                case measure => omega
                case rel => exact ⟨k + 1, by omega, by go_num, HBa, by rw [HG.out, mvCells_append, List.length_append]; exact HO.out⟩
            | false =>
              cases qb with
              | true =>
                have HG : Hid ((U.take (k + 1)).flatMap (fun s => moveOf s (N0 s) (N1 s)) = M ++ [⟨s, 2⟩]) := by show _ = _; rw [hTk.out, hMo.out]; rfl
                clear hTk hMo
                go_wp2_with (first
                  | (go_at_call 58; (with_reducible refine (HNa wr hLa).mono ?_); rintro e w8 ⟨vp, rfl, hRp, hb8⟩; obtain ⟨Ap, cp, rfl, hlp, hCp⟩ := Kd.R_reads hRp; have hbw8 := below_then hbw hbw.size hb8; have ho8 := own_move ho (fun k hk => hb8.block k (own_lt ho k hk)); have hLb8 := hLb.below hb8; clear hRp)
                  | (go_at_call 58; (with_reducible refine (HNb w8 hLb8).mono ?_); rintro e w9 ⟨vq, rfl, hRq, hb9⟩; obtain ⟨Aq, cq, rfl, hlq, hCq⟩ := Kd.R_reads hRq; have hbw9 := below_then hbw8 hbw8.size hb9; have ho9 := own_move ho8 (fun k hk => hb9.block k (own_lt ho8 k hk)); have hCp9 := Kd.C_below hCp hb9; clear hRq)
                  | (at_builtin; go_loud (refine wpList_append_own _ rfl _ _ 43 rfl w7.heap.size 47 j0 (.agg #[.string ⟨#[]⟩, .int .i64 0]) 2 24 Try.underlying43 hj hy0 hy1 hy2 rfl (by decide) _ _ _ rfl (ho9.alloc _) ⟨w9.heap.size, 0, none⟩ 1 1 [.string s, .int .i64 2] rfl rfl (World.news_of_block (cs := #[.string s, .int .i64 2]) (t := 47) (fr := (0, 0)) (heap_alloc_new (w9) _)) (by simp [Value.oneCell']) (by unfold maxLen; omega) (by omega) (by have := (hbw9).size; simp at this ⊢; omega) ?_; intro v' wa hown hgrow _; have HBa := Below.grown ((hbw9).alloc (hbw9).size _) hgrow (by have := (hbw9).size; simp at this ⊢; omega) (fun j hj => (ho9.lt j hj).1); have HO := Lib.hid hown; clear hown hgrow)))
                go_roundg (U.length - (k + 1))
                case measure => omega
                case rel => exact ⟨k + 1, by omega, by go_num, HBa, by rw [HG.out, mvCells_append, List.length_append]; exact HO.out⟩
              | false =>
                have HEq0 := equal_strs Pl Ql hPn
                cases hed : decide (Pl = Ql) with
                | true =>
                  have HEq := HEq0
                  rw [hed] at HEq
                  have HG : Hid ((U.take (k + 1)).flatMap (fun s => moveOf s (N0 s) (N1 s)) = M) := by show _ = _; rw [hTk.out, hMo.out, hed]; exact List.append_nil _
                  clear hTk hMo HEq0 hed
                  go_wp2_with (first
                    | (go_at_call 58; (with_reducible refine (HNa wr hLa).mono ?_); rintro e w8 ⟨vp, rfl, hRp, hb8⟩; obtain ⟨Ap, cp, rfl, hlp, hCp⟩ := Kd.R_reads hRp; have hbw8 := below_then hbw hbw.size hb8; have ho8 := own_move ho (fun k hk => hb8.block k (own_lt ho k hk)); have hLb8 := hLb.below hb8; clear hRp)
                    | (go_at_call 58; (with_reducible refine (HNb w8 hLb8).mono ?_); rintro e w9 ⟨vq, rfl, hRq, hb9⟩; obtain ⟨Aq, cq, rfl, hlq, hCq⟩ := Kd.R_reads hRq; have hbw9 := below_then hbw8 hbw8.size hb9; have ho9 := own_move ho8 (fun k hk => hb9.block k (own_lt ho8 k hk)); have hCp9 := Kd.C_below hCp hb9; clear hRq)
                    | (go_at_call 59; go_loud ((with_reducible refine (slices_Equal_string_string.calls 101 Ap cp Pl Aq cq Ql true _ hCp9 hlp hCq hlq HEq).mono ?_); rintro e w10 ⟨rfl, ⟨nd, rfl⟩⟩; have ho10 := (show (w9.drewN nd).ownsRow w7.heap.size 47 2 _ _ _ from ho9); have hbw10 := pw_below_drewN hbw9 nd)))
                  go_roundg (U.length - (k + 1))
                  case measure => omega
                  case rel => exact ⟨k + 1, by omega, by go_num, hbw10, by rw [HG.out]; exact ho10⟩
                | false =>
                  have HEq := HEq0
                  rw [hed] at HEq
                  have HG : Hid ((U.take (k + 1)).flatMap (fun s => moveOf s (N0 s) (N1 s)) = M ++ [⟨s, 3⟩]) := by show _ = _; rw [hTk.out, hMo.out, hed]; rfl
                  clear hTk hMo HEq0 hed
                  go_wp2_with (first
                    | (go_at_call 58; (with_reducible refine (HNa wr hLa).mono ?_); rintro e w8 ⟨vp, rfl, hRp, hb8⟩; obtain ⟨Ap, cp, rfl, hlp, hCp⟩ := Kd.R_reads hRp; have hbw8 := below_then hbw hbw.size hb8; have ho8 := own_move ho (fun k hk => hb8.block k (own_lt ho k hk)); have hLb8 := hLb.below hb8; clear hRp)
                    | (go_at_call 58; (with_reducible refine (HNb w8 hLb8).mono ?_); rintro e w9 ⟨vq, rfl, hRq, hb9⟩; obtain ⟨Aq, cq, rfl, hlq, hCq⟩ := Kd.R_reads hRq; have hbw9 := below_then hbw8 hbw8.size hb9; have ho9 := own_move ho8 (fun k hk => hb9.block k (own_lt ho8 k hk)); have hCp9 := Kd.C_below hCp hb9; clear hRq)
                    | (go_at_call 59; go_loud ((with_reducible refine (slices_Equal_string_string.calls 101 Ap cp Pl Aq cq Ql false _ hCp9 hlp hCq hlq HEq).mono ?_); rintro e w10 ⟨rfl, ⟨nd, rfl⟩⟩; have ho10 := (show (w9.drewN nd).ownsRow w7.heap.size 47 2 _ _ _ from ho9); have hbw10 := pw_below_drewN hbw9 nd))
                    | (at_builtin; go_loud (refine wpList_append_own _ rfl _ _ 43 rfl w7.heap.size 47 j0 (.agg #[.string ⟨#[]⟩, .int .i64 0]) 2 24 Try.underlying43 hj hy0 hy1 hy2 rfl (by decide) _ _ _ rfl (ho10.alloc _) ⟨w9.heap.size, 0, none⟩ 1 1 [.string s, .int .i64 3] rfl rfl (World.news_of_block (cs := #[.string s, .int .i64 3]) (t := 47) (fr := (0, 0)) (heap_alloc_new ((w9.drewN nd)) _)) (by simp [Value.oneCell']) (by unfold maxLen; omega) (by omega) (by have := (hbw10).size; simp at this ⊢; omega) ?_; intro v' wa hown hgrow _; have HBa := Below.grown ((hbw10).alloc (hbw10).size _) hgrow (by have := (hbw10).size; simp at this ⊢; omega) (fun j hj => (ho10.lt j hj).1); have HO := Lib.hid hown; clear hown hgrow)))
                  go_roundg (U.length - (k + 1))
                  case measure => omega
                  case rel => exact ⟨k + 1, by omega, by go_num, HBa, by rw [HG.out, mvCells_append, List.length_append]; exact HO.out⟩
          · obtain rfl : k = U.length := by omega
            rw [List.take_length, ← HR.out] at ho
            have HRv : k47.R 47 wr w7.heap.size (fun _ => True) _ R := ⟨fun _ _ => trivial, _, ho, mv_reps _ _ _ _⟩
            go_wp2
            go_ret2
            exact ⟨_, rfl, Kd.R_lower HRv hBL.size, below_then hBL hBL.size hbw⟩

set_option maxHeartbeats 1000000 in
set_option maxRecDepth 100000 in
theorem trade_Compare.calls (A0_0 : Option Addr) (c0_0 : Nat) (l0_0 : List (S51)) (A0_1 : Option Addr) (c0_1 : Nat) (l0_1 : List (S39)) (A1_0 : Option Addr) (c1_0 : Nat) (l1_0 : List (S51)) (A1_1 : Option Addr) (c1_1 : Nat) (l1_1 : List (S39)) (r1 : List (S47)) (r2 : Int) (w : World) (hr0_0 : Kd.C k51 w A0_0 l0_0.length l0_0) (hc0_0 : l0_0.length ≤ c0_0) (hr0_1 : Kd.C k39 w A0_1 l0_1.length l0_1) (hc0_1 : l0_1.length ≤ c0_1) (hr1_0 : Kd.C k51 w A1_0 l1_0.length l1_0) (hc1_0 : l1_0.length ≤ c1_0) (hr1_1 : Kd.C k39 w A1_1 l1_1.length l1_1) (hc1_1 : l1_1.length ≤ c1_1) (h : trade_Compare.f l0_0 l0_1 l1_0 l1_1 = some (r1, r2)) :
    Calls Try.prog 21 #[.agg #[.slice A0_0 l0_0.length c0_0, .slice A0_1 l0_1.length c0_1], .agg #[.slice A1_0 l1_0.length c1_0, .slice A1_1 l1_1.length c1_1]] w fun e w' => ∃ v0_ : Value, e = .returned (.tuple #[v0_, .int .i64 r2]) ∧ Kd.R k47 47 w' w.heap.size (fun _ => True) v0_ r1 ∧ Below w.heap.size w w' := by
  have hu2 := Try.underlying26
  have h := Option.some.inj h
  have hB0 := ((Below.refl w.heap.size w).alloc (Nat.le_refl _) (.cells #[.slice A0_0 l0_0.length c0_0, .slice A0_1 l0_1.length c0_1] 26)).alloc (by simp) (.cells #[.slice A1_0 l1_0.length c1_0, .slice A1_1 l1_1.length c1_1] 26)
  by_cases hz : checkT l0_0 l0_1 = 0
  · have hv0 : Valid l0_0 l0_1 := ⟨hz⟩
    rw [if_neg (by omega)] at h
    by_cases hz1 : checkT l1_0 l1_1 = 0
    · rw [if_neg (by omega)] at h
      simp only [Prod.mk.injEq] at h
      obtain ⟨rfl, rfl⟩ := h
      exact compare_good A0_0 c0_0 l0_0 A0_1 c0_1 l0_1 A1_0 c1_0 l1_0 A1_1 c1_1 l1_1 w hr0_0 hc0_0 hr0_1 hc0_1 hr1_0 hc1_0 hr1_1 hc1_1 hv0 ⟨hz1⟩
    · rw [if_pos hz1] at h
      simp only [Prod.mk.injEq] at h
      obtain ⟨rfl, rfl⟩ := h
      have hx1 := heap_alloc_new (w.alloc (.cells #[.slice A0_0 l0_0.length c0_0, .slice A0_1 l0_1.length c0_1] 26)) (.cells #[.slice A1_0 l1_0.length c1_0, .slice A1_1 l1_1.length c1_1] 26)
      rw [World.size_alloc] at hx1
      have HG0 := fun W (hW : Below w.heap.size w W) => begin_good A0_0 A0_1 c0_0 c0_1 l0_0 l0_1 W (Kd.C_below hr0_0 hW) (Kd.C_below hr0_1 hW) hc0_0 hc0_1 hv0
      have HG1 := fun W (hW : Below w.heap.size w W) => begin_bad A1_0 A1_1 c1_0 c1_1 l1_0 l1_1 W (Kd.C_below hr1_0 hW) (Kd.C_below hr1_1 hW) hc1_0 hc1_1 hz1
      obtain ⟨z, hze⟩ : ∃ z, checkT l1_0 l1_1 = z := ⟨_, rfl⟩
      simp only [hze] at HG1 hz1 ⊢
      have hzb : (z != 0) = true := bne_iff_ne.mpr hz1
      clear hz hze hz1
      go_enter Try.func21, Try.ntmps21
      go_upto_region 4 with (go_at_call 42; (with_reducible refine (HG0 _ hB0).mono ?_); rintro e w1 ⟨g, rfl, hL1, hb1⟩)
      have hB1 := below_then hB0 hB0.size hb1
      replace hx1 := blk_below hx1 hb1
      obtain ⟨b0, b1⟩ := cells2 hx1
      clear HG0 hb1
      go_wp2_with (go_at_call 42; (with_reducible refine (HG1 _ hB1).mono ?_); rintro e w2 ⟨rfl, hb2⟩)
      go_ret2
      exact ⟨_, rfl, Kd.R_nil _ _ _ _ _, below_then hB1 hB1.size hb2⟩
  · rw [if_pos hz] at h
    simp only [Prod.mk.injEq] at h
    obtain ⟨rfl, rfl⟩ := h
    have hx0 := blk_alloc (heap_alloc_new w (.cells #[.slice A0_0 l0_0.length c0_0, .slice A0_1 l0_1.length c0_1] 26)) (.cells #[.slice A1_0 l1_0.length c1_0, .slice A1_1 l1_1.length c1_1] 26)
    have HG0 := fun W (hW : Below w.heap.size w W) => begin_bad A0_0 A0_1 c0_0 c0_1 l0_0 l0_1 W (Kd.C_below hr0_0 hW) (Kd.C_below hr0_1 hW) hc0_0 hc0_1 hz
    obtain ⟨z, hze⟩ : ∃ z, checkT l0_0 l0_1 = z := ⟨_, rfl⟩
    simp only [hze] at HG0 hz ⊢
    have hzb : (z != 0) = true := bne_iff_ne.mpr hz
    clear hz hze
    go_enter Try.func21, Try.ntmps21
    go_upto_region 1 with (fail)
    obtain ⟨W0, hW0⟩ : ∃ W0, W0 = (w.alloc (.cells #[.slice A0_0 l0_0.length c0_0, .slice A0_1 l0_1.length c0_1] 26)).alloc (.cells #[.slice A1_0 l1_0.length c1_0, .slice A1_1 l1_1.length c1_1] 26) := ⟨_, rfl⟩
    rw [← hW0] at hB0 hx0 ⊢
    clear hW0
    obtain ⟨a0, a1⟩ := cells2 hx0
    go_wp2_with (go_at_call 42; (with_reducible refine (HG0 _ hB0).mono ?_); rintro e w1 ⟨rfl, hb1⟩)
    go_ret2
    exact ⟨_, rfl, Kd.R_nil _ _ _ _ _, below_then hB0 hB0.size hb1⟩
end Go.Proofs.Ytfbimhnlcmdcpaa.Pa
