/- A part of the proof: After Drop the trades are valid and the heading is not there, each other trade remains, no reference is lost whose two headings remain, and a heading to which none refers goes alone: for all lists of numbers. Without conditions of its own. -/
import Derived.Test.YtfbimhnlcmdcpaaMTradeDropped4
import Derived.Lib.SliceRun
import Derived.Lib.Bytealg
import Derived.Lib.Walk
import Derived.Shelf.SlSortCmp.NoneTotal
import Derived.Shelf.SlicesE.Compact
import Derived.Shelf.SlicesE.Equal
import Derived.Ground.SlsfProg
import Derived.Ground.SlgnProg
import Derived.Test.YtfbimhnlcmdcpaaProg
import Derived.Lib.OwnBridge
import Derived.Test.YtfbimhnlcmdcpaaMTradeDropped2
import Derived.Test.YtfbimhnlcmdcpaaMTradeDropped3
/- The contract of names. -/
namespace Go.Proofs.Ytfbimhnlcmdcpaa.Pa
open Go.RowKit Go.Proofs.YtfbimhnlcmdcpaaW.PrintWords Go.Proofs.YtfbimhnlcmdcpaaW.PrintLast Go.Proofs.YtfbimhnlcmdcpaaW.PrintMore
set_option linter.unusedVariables false
set_option linter.unusedSimpArgs false

def classNames (cs : List Cl) (l : List Int) : List ByteArray := l.map (fun c => (cs.getD c.toNat zCl).f0)
/-- the names of the classes of the first trade, from heading i on, with a word -/
def namesFrom (cs : List Cl) (hs : List Hd) (s : ByteArray) : Nat → Nat → Option (List ByteArray)
  | 0, _ => none
  | k + 1, i => if sEq (hs.getD i zHd).f0 s = true ∧ (hs.getD i zHd).f1 ≠ -1 then some (classNames cs (pathT cs (hs.getD i zHd).f1)) else namesFrom cs hs s k (i + 1)
def namesT (cs : List Cl) (hs : List Hd) (s : ByteArray) : Option (List ByteArray) := namesFrom cs hs s hs.length 0
theorem infoStr : (Try.prog.info? 9).map (fun i => (i.zero, i.size, i.bytes)) = some (some (.string ⟨#[]⟩), 1, 16) := by kernel_rfl
theorem strR_of_own {w : World} {base n : Nat} {v : Value} {xs : List ByteArray} (h : w.ownsRow base 9 1 v n (xs.map Value.string)) : Kd.string.R 9 w base (fun _ => True) v xs := by
  have hn : n = xs.length := by have := h.1; simp at this; omega
  subst hn
  exact ⟨fun _ _ => trivial, _, h, Kd.reps_scalar xs⟩
theorem pathT_in (cs : List Cl) (c : Int) (j : Nat) (hj : j < (pathT cs c).length) : ∃ p : Nat, (pathT cs c).getD j 0 = p ∧ p < cs.length := by
  have hm : (pathT cs c)[j] ∈ pathT cs c := List.getElem_mem _
  have hm2 := (List.mem_filter.1 hm).1
  obtain ⟨p, hp, he⟩ := List.mem_map.1 hm2
  exact ⟨p, by rw [List.getD_eq_getElem?_getD, List.getElem?_eq_getElem hj]; exact he.symm, List.mem_range.1 hp⟩
theorem pathT_len (cs : List Cl) (c : Int) : (pathT cs c).length ≤ cs.length := by
  have := List.length_filter_le (fun o => isUp cs c o) (nats cs.length)
  rwa [nats_length] at this

set_option maxHeartbeats 4000000 in
set_option maxRecDepth 100000 in
theorem names_any (g : Nat) (cs : List Cl) (hs : List Hd) (s : ByteArray) (w : World) (hL : IsList w g cs hs) (hv : Valid cs hs) :
    Calls Try.prog 58 #[.pointer (some ⟨g, 0, none⟩), .string s] w fun e w' => ∃ v, e = .returned (.tuple #[v, .bool (namesT cs hs s).isSome]) ∧ Kd.string.R 9 w' w.heap.size (fun _ => True) v ((namesT cs hs s).getD []) ∧ Below w.heap.size w w' := by
  obtain ⟨m0, m1, -, -⟩ := hv.split
  have hu2 := Try.underlying26
  have hu3 := Try.underlying81
  have hu4 := Try.underlying39
  have hu5 := Try.underlying51
  obtain ⟨i0, hi, hz0, hz1, hz2⟩ := info_parts infoStr
  obtain ⟨A0, c0, A1, c1, A2, c2, A3, c3, hg, l0, l1, r0, r1, r2, r3⟩ := hL.ok
  obtain ⟨g0, g1, g2, g3⟩ := cells4 hg
  have HP := fun (n : Nat) (hn : n < cs.length) W (hW : Below w.heap.size w W) => path_any g cs hs n W (hL.below hW) hv hn
  have HR : Hid (namesT cs hs s = namesFrom cs hs s hs.length 0) := rfl
  obtain ⟨R, hR⟩ : ∃ R, namesT cs hs s = R := ⟨_, rfl⟩
  rw [hR] at HR ⊢
  clear hL hR
  go_enter Try.func58, Try.ntmps58
  go_wp2
  go_loopg [17] hs.length (fun gk v wr => ∃ k : Nat, k + gk = hs.length ∧ v = .int .i64 k ∧ Below w.heap.size w wr ∧ Hid (namesFrom cs hs s gk k = R))
  case atStart => exact ⟨0, by omega, rfl, Below.refl _ _, by show _ = _; exact HR.out.symm⟩
  case round =>
    obtain ⟨k, hk, rfl, hb, HK⟩ := hrel
    by_cases hlt : k < hs.length
    · obtain ⟨gk, rfl⟩ : ∃ m, gk = m + 1 := ⟨gk - 1, by omega⟩
      have hgd := (hv.head k hlt).cl
      have HK2 : Hid (R = if sEq (hs.getD k zHd).f0 s = true ∧ (hs.getD k zHd).f1 ≠ -1 then some (classNames cs (pathT cs (hs.getD k zHd).f1)) else namesFrom cs hs s gk (k + 1)) := by show _ = _; rw [← HK.out]; rfl
      clear HK
      obtain ⟨ad, A3', c3', e, h0, h1, h2, h3, h4, h5⟩ := hdAt r1 k hlt
      cases e
      obtain ⟨x, hx⟩ : ∃ x, hs.getD k zHd = x := ⟨_, rfl⟩
      rw [hx] at h0 h1 h2 h3 h4 h5 HK2 hgd
      clear hx
      replace h0 := pw_cell_below hb h0
      replace h1 := pw_cell_below hb h1
      replace h2 := pw_cell_below hb h2
      replace h3 := pw_cell_below hb h3
      have hbd := fun o => hb.alloc hb.size o
      by_cases he : sEq x.f0 s = true
      · have he1 : (x.f0.toList == s.toList) = true := by rw [toList_data, toList_data]; exact he
        by_cases hc : x.f1 = -1
        · have hc1 : (x.f1 == -1) = true := beq_iff_eq.mpr hc
          have HK3 : Hid (namesFrom cs hs s gk (k + 1) = R) := by show _ = _; rw [HK2.out, if_neg (fun h => h.2 hc)]
          clear HK2 he hc
          go_wp2
          go_roundg gk
          case measure => omega
          case rel => exact ⟨k + 1, by omega, by go_num, hbd _, HK3⟩
        · have hc1 : (x.f1 == -1) = false := beq_eq_false_iff_ne.mpr hc
          have HK3 : Hid (R = some (classNames cs (pathT cs x.f1))) := by show _ = _; rw [HK2.out, if_pos ⟨he, hc⟩]
          obtain ⟨p, hp⟩ : ∃ p : Nat, x.f1 = p := ⟨x.f1.toNat, by omega⟩
          have HPp := HP p (by omega)
          have hin := fun j hj => pathT_in cs p j hj
          have hpl := pathT_len cs p
          rw [hp] at HK3 h1 hc1
          obtain ⟨T, hT⟩ : ∃ T, pathT cs p = T := ⟨_, rfl⟩
          rw [hT] at HK3 hin hpl
          simp only [hT] at HPp
          clear HK2 he hc hT hp
          go_wp2_with (go_at_call 61; (with_reducible refine (HPp _ (hbd _)).mono ?_); rintro e w3 ⟨v, rfl, hR3, hb3⟩; obtain ⟨Ar, cr, rfl, -, hC3⟩ := Kd.R_reads hR3; have HB3 := below_then (hbd _) (hbd _).size hb3; clear hR3 hb3)
          have hTl : T.length ≤ 6 := by omega
          go_loopg [8, 35] T.length (fun gj v8 v wr => ∃ j : Nat, j + gj = T.length ∧ v = .int .i64 j ∧ Below w3.heap.size w3 wr ∧ wr.ownsRow w3.heap.size 9 1 v8 (classNames cs (T.take j)).length ((classNames cs (T.take j)).map Value.string))
          case atStart => exact ⟨0, by omega, rfl, Below.refl _ _, own_nil _ _ _ _⟩
          case round =>
            obtain ⟨j, hj, rfl, hbw, ho⟩ := hrel
            by_cases hjl : j < T.length
            · obtain ⟨q, hq, hql⟩ := hin j hjl
              obtain ⟨aj, ej, hcj⟩ := intAt (Kd.C_below hC3 hbw) j hjl
              cases ej
              rw [hq] at hcj
              have HBw := below_then HB3 HB3.size hbw
              have q0 := pw_cell_below HBw g0
              obtain ⟨ac, ec, k0, k1⟩ := clAt (Kd.C_below r0 HBw) q hql
              cases ec
              have HNx : Hid (classNames cs (T.take (j + 1)) = classNames cs (T.take j) ++ [(cs.getD q zCl).f0]) := by
                show _ = _
                have : T[j] = (q : Int) := by rw [← hq, List.getD_eq_getElem?_getD, List.getElem?_eq_getElem hjl]; rfl
                rw [List.take_succ_eq_append_getElem hjl, this]
                simp [classNames]
              have hcl : (classNames cs (T.take j)).length = j := by simp [classNames]; omega
              obtain ⟨F, hF⟩ : ∃ F, classNames cs (T.take j) = F := ⟨_, rfl⟩
              obtain ⟨y, hy⟩ : ∃ y, cs.getD q zCl = y := ⟨_, rfl⟩
              rw [hF] at ho HNx hcl
              rw [hy] at k0 k1 HNx
              clear hF hy hq
              go_wp2_with (at_builtin; refine wpList_append_own _ rfl _ _ 65 rfl w3.heap.size 9 i0 (.string ⟨#[]⟩) 1 16 Try.underlying65 hi hz0 hz1 hz2 rfl (by decide) _ _ _ rfl (ho.alloc _) ⟨wr.heap.size, 0, none⟩ 1 1 [.string y.f0] rfl rfl (cell_one_new _ _ _) (by simp [Value.oneCell']) (by unfold maxLen; omega) (by omega) (by have := hbw.size; simp; omega) ?_; intro v' w4 hown4 hgrow4 _; have HB4 := Below.grown (hbw.alloc hbw.size _) hgrow4 (by have := hbw.size; simp; omega) (fun j hj => (ho.lt j hj).1); have HO := Lib.hid hown4; clear hown4 hgrow4)
              go_roundg (T.length - (j + 1))
              case measure => omega
              case rel => exact ⟨j + 1, by omega, by go_num, HB4, by rw [HNx.out, List.map_append, List.length_append]; exact HO.out⟩
            · obtain rfl : j = T.length := by omega
              rw [List.take_length] at ho
              have HR3 := strR_of_own ho
              go_wp2
              go_ret2
              exact ⟨_, by rw [HK3.out]; rfl, by rw [HK3.out]; exact Kd.R_lower HR3 HB3.size, below_then HB3 HB3.size hbw⟩
      · have he1 : (x.f0.toList == s.toList) = false := by rw [toList_data, toList_data]; simpa [sEq] using he
        have HK3 : Hid (namesFrom cs hs s gk (k + 1) = R) := by show _ = _; rw [HK2.out, if_neg (fun h => he h.1)]
        clear HK2 he
        go_wp2
        go_roundg gk
        case measure => omega
        case rel => exact ⟨k + 1, by omega, by go_num, hbd _, HK3⟩
    · obtain rfl : k = hs.length := by omega
      obtain rfl : gk = 0 := by omega
      have HR2 : Hid (R = none) := by show _ = _; rw [← HK.out]; rfl
      go_wp2
      go_ret2
      exact ⟨_, by rw [HR2.out]; rfl, by rw [HR2.out]; exact Kd.R_nil _ _ _ _ _, hb⟩
end Go.Proofs.Ytfbimhnlcmdcpaa.Pa
/- The contract of slices.Clone at headings: the words of its result. -/
namespace Go.Proofs.Ytfbimhnlcmdcpaa.Pa
open Go.RowKit Go.Proofs.YtfbimhnlcmdcpaaW.PrintWords Go.Proofs.YtfbimhnlcmdcpaaW.PrintLast Go.Proofs.YtfbimhnlcmdcpaaW.PrintMore
set_option linter.unusedVariables false
set_option linter.unusedSimpArgs false

/-- the cells of a heading with a word -/
def hwK (x : ByteArray) (cs : List Value) : Prop := ∃ i j A n c, cs = [.string x, .int .i64 i, .int .i64 j, .slice A n c]
def kHw : Kd ByteArray where
  sz := 4
  E := []
  K := fun _ x cs => hwK x cs
  M := fun _ _ _ x cs => hwK x cs
  K_len := by rintro _ _ _ ⟨i, j, A, n, c, rfl⟩; rfl
  K_one := by
    rintro _ _ _ ⟨i, j, A, n, c, rfl⟩ u hu
    simp only [List.mem_cons, List.not_mem_nil, or_false] at hu
    rcases hu with rfl | rfl | rfl | rfl <;> rfl
  K_below := fun _ h => h
  K_of_M := fun h => h
  M_mono := fun _ h => h
  M_bound := fun h => h
  M_move := fun _ h => h
  M_lower := fun _ h => h
theorem hw_of_heads {w : World} {A : Option Addr} {n : Nat} {hs : List Hd} (h : Kd.C k39 w A n hs) : kHw.C w A n (hs.map (fun x => x.f0)) := by
  refine ⟨by rw [List.length_map]; exact h.1, h.2.1, fun hn => ?_⟩
  obtain ⟨ad, e, hc⟩ := h.2.2 hn
  refine ⟨ad, e, fun j p hp => ?_⟩
  rw [List.getElem?_map] at hp
  obtain ⟨x, hx, rfl⟩ := Option.map_eq_some_iff.1 hp
  obtain ⟨c, hl, hK, hcc⟩ := hc j x hx
  obtain ⟨A3, c3, rfl, -, -⟩ := k39_open hK
  exact ⟨_, rfl, ⟨_, _, _, _, _, rfl⟩, hcc⟩
theorem hwAt {w : World} {A : Option Addr} {n : Nat} {xs : List ByteArray} (h : kHw.C w A n xs) (k : Nat) (hk : k < n) :
    ∃ ad i j A3 n3 c3, A = some ad ∧ w.cell? (ad.add (k * 4)) = some (.string (xs.getD k ByteArray.empty)) ∧ w.cell? ⟨(ad.add (k * 4)).block, (ad.add (k * 4)).off + 1, none⟩ = some (.int .i64 i) ∧ w.cell? ⟨(ad.add (k * 4)).block, (ad.add (k * 4)).off + 2, none⟩ = some (.int .i64 j) ∧ w.cell? ⟨(ad.add (k * 4)).block, (ad.add (k * 4)).off + 3, none⟩ = some (.slice A3 n3 c3) := by
  obtain ⟨ad, c, e, _, hK, hc0⟩ := Kd.C_get h ByteArray.empty (k : Int) (by omega) (by omega)
  rw [Int.toNat_natCast] at hK hc0
  have hc : ∀ j u, c[j]? = some u → w.cell? (ad.add (k * 4 + j)) = some u := hc0
  obtain ⟨i, j, A3, n3, c3, rfl⟩ := hK
  exact ⟨ad, i, j, A3, n3, c3, e, hc 0 _ rfl, by rw [← add_field _ _ 1 (by omega)]; exact hc 1 _ rfl, by rw [← add_field _ _ 2 (by omega)]; exact hc 2 _ rfl, by rw [← add_field _ _ 3 (by omega)]; exact hc 3 _ rfl⟩
theorem infoHd : (Try.prog.info? 39).map (fun i => (i.zero, i.size, i.bytes)) = some (some (.agg #[.string ⟨#[]⟩, .int .i64 0, .int .i64 0, .slice none 0 0]), 4, 56) := by kernel_rfl

set_option maxHeartbeats 1000000 in
set_option maxRecDepth 100000 in
theorem clone_any (A : Option Addr) (c : Nat) (xs : List ByteArray) (w : World) (hC : kHw.C w A xs.length xs) (hl : xs.length ≤ 100) :
    Calls Try.prog 54 #[.slice A xs.length c] w fun e w' => ∃ v, e = .returned v ∧ kHw.R 39 w' w.heap.size (fun _ => True) v xs ∧ Below w.heap.size w w' := by
  cases A with
  | none =>
    have hq := fun W => Lib.run_eql_slice_nil (P := Try.prog) W 24 _ none 0 c 0 0 Try.underlying24
    have hx : xs = [] := by
      rcases Nat.eq_zero_or_pos xs.length with h | h
      · exact List.eq_nil_of_length_eq_zero h
      · obtain ⟨ad, e, _⟩ := hC.2.2 h
        cases e
    subst hx
    clear hC
    go_enter Try.func54, Try.ntmps54
    go_wp2
    go_ret
    exact ⟨_, rfl, Kd.R_nil _ _ _ _ _, Below.refl _ _⟩
  | some ad =>
    have hq := fun W => Lib.run_eql_slice_nil (P := Try.prog) W 24 _ (some ad) xs.length c 0 0 Try.underlying24
    have hB := (Below.refl w.heap.size w).alloc (Nat.le_refl _) (.cells #[] 39)
    have hC1 := Kd.C_below hC hB
    have hR0 : kHw.R 39 (w.alloc (.cells #[] 39)) w.heap.size (fun _ => True) (.slice (some ⟨w.heap.size, 0, none⟩) 0 0) [] :=
      ⟨fun _ _ => trivial, [], ⟨rfl, .inr ⟨w.heap.size, 0, #[], rfl, Nat.le_refl _, heap_alloc_new w _, Nat.le_refl _, by simp [maxLen], rfl, rfl⟩⟩, Reps.none _ _⟩
    clear hC
    go_enter Try.func54, Try.ntmps54
    go_wp2_with (at_builtin; go_loud (refine Kd.R_append_rows kHw (w0 := w) w.heap.size rfl _ _ 24 39 _ 56 rfl Try.underlying24 infoHd rfl (by decide) (by decide) _ [] xs (some ad) xs.length c (fun _ => True) (fun k => some k ≠ some w.heap.size) rfl rfl hR0 hC1 (fun _ _ h => h) (fun k hk => ⟨trivial, hk⟩) (fun _ _ => trivial) hB (by simp) (by simp; omega) ?_; intro v1 w1 hv1 hb1 _ _; have HV := Lib.hid hv1; clear hv1))
    go_ret
    exact ⟨_, rfl, HV.out, hb1⟩
end Go.Proofs.Ytfbimhnlcmdcpaa.Pa
/- The order of strings; the contract of strings.Compare. -/
namespace Go.Proofs.Ytfbimhnlcmdcpaa.Pa
open Go.RowKit Go.Lib Go.Proofs.YtfbimhnlcmdcpaaW.PrintWords Go.Proofs.YtfbimhnlcmdcpaaW.PrintLast Go.Proofs.YtfbimhnlcmdcpaaW.PrintMore
set_option linter.unusedVariables false
set_option linter.unusedSimpArgs false

theorem u8_cases (a b : UInt8) : a < b ∨ a = b ∨ b < a := by
  rcases Nat.lt_trichotomy a.toNat b.toNat with h | h | h
  · exact .inl (UInt8.lt_iff_toNat_lt.mpr h)
  · exact .inr (.inl (UInt8.toNat_inj.mp h))
  · exact .inr (.inr (UInt8.lt_iff_toNat_lt.mpr h))
theorem u8_asymm {a b : UInt8} (h : a < b) : ¬ b < a := by
  have := UInt8.lt_iff_toNat_lt.mp h
  intro h2
  have := UInt8.lt_iff_toNat_lt.mp h2
  omega
theorem u8_irrefl (a : UInt8) : ¬ a < a := fun h => u8_asymm h h
theorem u8_trans {a b c : UInt8} (h : a < b) (h2 : b < c) : a < c := by
  have := UInt8.lt_iff_toNat_lt.mp h
  have := UInt8.lt_iff_toNat_lt.mp h2
  exact UInt8.lt_iff_toNat_lt.mpr (by omega)
/-- the order of strings, as a relation -/
theorem cmp_neg : ∀ (a b : List UInt8), (compareBytes a b < 0) ↔ Op.bytesLess a b = true
  | [], [] => by simp [compareBytes, Op.bytesLess]
  | [], b :: ys => by simp [compareBytes, Op.bytesLess]
  | a :: xs, [] => by simp [compareBytes, Op.bytesLess]
  | a :: xs, b :: ys => by
    have ih := cmp_neg xs ys
    unfold compareBytes Op.bytesLess
    rcases u8_cases a b with h | h | h
    · simp [h]
    · subst h
      simp [u8_irrefl, ih]
    · have h2 := u8_asymm h
      have h3 : ¬ a = b := fun e => u8_irrefl b (e ▸ h)
      simp [h, h2, h3]
theorem bl_irrefl : ∀ a : List UInt8, Op.bytesLess a a = false
  | [] => rfl
  | a :: xs => by simp [Op.bytesLess, u8_irrefl, bl_irrefl xs]
theorem bl_cons (a b : UInt8) (x y : List UInt8) : Op.bytesLess (a :: x) (b :: y) = true ↔ a < b ∨ (a = b ∧ Op.bytesLess x y = true) := by simp [Op.bytesLess]
theorem bl_trans : ∀ a b c : List UInt8, Op.bytesLess a b = true → Op.bytesLess b c = true → Op.bytesLess a c = true
  | _, b, [], _, h2 => by cases b <;> simp [Op.bytesLess] at h2
  | [], b, c :: zs, _, _ => rfl
  | a :: xs, [], c :: zs, h1, _ => by simp [Op.bytesLess] at h1
  | a :: xs, b :: ys, c :: zs, h1, h2 => by
    rw [bl_cons] at h1 h2 ⊢
    rcases h1 with h1 | ⟨rfl, h1⟩
    · rcases h2 with h2 | ⟨rfl, h2⟩
      · exact .inl (u8_trans h1 h2)
      · exact .inl h1
    · rcases h2 with h2 | ⟨rfl, h2⟩
      · exact .inl h2
      · exact .inr ⟨rfl, bl_trans xs ys zs h1 h2⟩
theorem bl_total : ∀ a b : List UInt8, Op.bytesLess a b = false → Op.bytesLess b a = false → a = b
  | [], [], _, _ => rfl
  | [], b :: ys, h, _ => by simp [Op.bytesLess] at h
  | a :: xs, [], _, h => by simp [Op.bytesLess] at h
  | a :: xs, b :: ys, h1, h2 => by
    have k1 : ¬ (a < b ∨ (a = b ∧ Op.bytesLess xs ys = true)) := fun h => by rw [← bl_cons] at h; rw [h] at h1; cases h1
    have k2 : ¬ (b < a ∨ (b = a ∧ Op.bytesLess ys xs = true)) := fun h => by rw [← bl_cons] at h; rw [h] at h2; cases h2
    rcases u8_cases a b with h | h | h
    · exact absurd (.inl h) k1
    · subst h
      rw [bl_total xs ys (by simpa using fun h => k1 (.inr ⟨rfl, h⟩)) (by simpa using fun h => k2 (.inr ⟨rfl, h⟩))]
    · exact absurd (.inl h) k2
def cfS (x y : ByteArray) : Int := compareBytes x.data.toList y.data.toList
theorem sLt_total {x y : ByteArray} (h1 : sLt x y = false) (h2 : sLt y x = false) : x = y := by
  have := bl_total _ _ h1 h2
  exact ByteArray.ext (Array.toList_inj.mp this)
def sortW (l : List ByteArray) : List ByteArray := l.mergeSort (fun x y => !sLt y x)

set_option maxHeartbeats 1000000 in
set_option maxRecDepth 100000 in
theorem bytealg_any (a b : ByteArray) (w : World) :
    Calls Try.prog 78 #[.string a, .string b] w fun e w' => e = .returned (.int .i64 (compareBytes a.data.toList b.data.toList)) ∧ w' = w := by
  go_enter Try.func78, Try.ntmps78
  go_wp2
  rw [run_callFunc_extern Try.func103 (by kernel_rfl) (by kernel_rfl) (by kernel_rfl) (e := Extern.BytealgCompare.compare) (by kernel_rfl), Lib.run_compareString]
  simp only [Result.andThen]
  rw [Oper.upon_value]
  go_wp2
  go_ret
  exact ⟨rfl, rfl⟩
theorem compare_any (a b : ByteArray) (w : World) : Calls Try.prog 56 #[.string a, .string b] w fun e w' => e = .returned (.int .i64 (cfS a b)) ∧ ∃ q, w' = w.drewN q := by
  go_enter Try.func56, Try.ntmps56
  go_wp2_with (go_at_call 78; refine (bytealg_any _ _ _).mono ?_; rintro e w' ⟨rfl, rfl⟩)
  go_ret
  exact ⟨rfl, 0, rfl⟩
end Go.Proofs.Ytfbimhnlcmdcpaa.Pa
/-
  DERIVED: THE SHELF's CONTRACTS AT THIS DUMP, IN PLAIN WORDS (tools/lay-plain.mjs out of 'YtfbimhnlcmdcpaaHShelf.lean', which tools/lay-shelf.mjs wrote): THE SAME DECLARATIONS UNDER THE SAME NAMES: 'import', 'namespace', 'open', 'def', 'theorem' AND NOTHING ELSE: no command of the shelf's: FOR A HAND-IN. Each laying: the table of numbers ('.._ren') and one theorem, a field a fact of the dump's own or the kernel's comparison; each contract: ONE APPLICATION.
-/
namespace Go.Proofs
open Go.Shelf
def Try.sortStr_ren : Go.Shelf.Ren := ⟨fun | 6 => 55 | 15 => 77 | 14 => 76 | 28 => 101 | 29 => 102 | 20 => 93 | 21 => 94 | 22 => 95 | 23 => 96 | 24 => 97 | 25 => 98 | 26 => 99 | 27 => 100 | 46 => 113 | 47 => 114 | 48 => 115 | 49 => 116 | 50 => 117 | 57 => 122 | n => n, fun | 22 => 65 | 24 => 9 | 25 => 94 | 3 => 3 | 39 => 110 | 0 => 0 | 53 => 154 | 55 => 70 | 4 => 4 | 46 => 147 | 45 => 146 | 50 => 151 | 5 => 5 | 9 => 9 | 66 => 167 | 70 => 170 | 76 => 178 | 77 => 179 | n => n, fun | n => n⟩
theorem Try.sortStr : Go.Proofs.SlLaysF.n6 Try.prog Try.sortStr_ren := {
  mixed := by kernel_rfl
  f6 := ⟨Try.f55.name, by decide, Try.func55.trans (congrArg some (by kernel_rfl))⟩
  f14 := ⟨Try.f76.name, by decide, Try.func76.trans (congrArg some (by kernel_rfl))⟩
  f15 := Try.func77.trans (congrArg some (by kernel_rfl))
  f20 := ⟨Try.f93.name, by decide, Try.func93.trans (congrArg some (by kernel_rfl))⟩
  f21 := ⟨Try.f94.name, by decide, Try.func94.trans (congrArg some (by kernel_rfl))⟩
  f22 := ⟨Try.f95.name, by decide, Try.func95.trans (congrArg some (by kernel_rfl))⟩
  f23 := ⟨Try.f96.name, by decide, Try.func96.trans (congrArg some (by kernel_rfl))⟩
  f24 := ⟨Try.f97.name, by decide, Try.func97.trans (congrArg some (by kernel_rfl))⟩
  f25 := ⟨Try.f98.name, by decide, Try.func98.trans (congrArg some (by kernel_rfl))⟩
  f26 := ⟨Try.f99.name, by decide, Try.func99.trans (congrArg some (by kernel_rfl))⟩
  f27 := ⟨Try.f100.name, by decide, Try.func100.trans (congrArg some (by kernel_rfl))⟩
  f28 := Try.func101.trans (congrArg some (by kernel_rfl))
  f29 := Try.func102.trans (congrArg some (by kernel_rfl))
  f46 := ⟨Try.f113.name, by decide, Try.func113.trans (congrArg some (by kernel_rfl))⟩
  f47 := Try.func114.trans (congrArg some (by kernel_rfl))
  f48 := Try.func115.trans (congrArg some (by kernel_rfl))
  f49 := ⟨Try.f116.name, by decide, Try.func116.trans (congrArg some (by kernel_rfl))⟩
  f50 := ⟨Try.f117.name, by decide, Try.func117.trans (congrArg some (by kernel_rfl))⟩
  f57 := ⟨Try.f122.name, by decide, Try.func122.trans (congrArg some (by kernel_rfl))⟩
  t0 := Try.underlying0
  a0 := Try.isAgg0
  z0 := Try.sizeOf0
  v0 := Try.zeroValue0
  t3 := Try.underlying3
  a3 := Try.isAgg3
  z3 := Try.sizeOf3
  v3 := Try.zeroValue3
  t4 := Try.underlying4
  a4 := Try.isAgg4
  z4 := Try.sizeOf4
  v4 := Try.zeroValue4
  t5 := Try.underlying5
  a5 := Try.isAgg5
  z5 := Try.sizeOf5
  v5 := Try.zeroValue5
  t9 := Try.underlying9
  a9 := Try.isAgg9
  z9 := Try.sizeOf9
  v9 := Try.zeroValue9
  t22 := Try.underlying65
  a22 := Try.isAgg65
  z22 := Try.sizeOf65
  v22 := Try.zeroValue65
  a24 := Try.isAgg9
  z24 := Try.sizeOf9
  t25 := Try.underlying94
  a25 := Try.isAgg94
  z25 := Try.sizeOf94
  v25 := Try.zeroValue94
  t39 := Try.underlying110
  a39 := Try.isAgg110
  z39 := Try.sizeOf110
  v39 := Try.zeroValue110
  t45 := Try.underlying146
  a45 := Try.isAgg146
  z45 := Try.sizeOf146
  v45 := Try.zeroValue146
  t46 := Try.underlying147
  a46 := Try.isAgg147
  z46 := Try.sizeOf147
  v46 := Try.zeroValue147
  t50 := Try.underlying151
  a50 := Try.isAgg151
  z50 := Try.sizeOf151
  v50 := Try.zeroValue151
  t53 := Try.underlying154
  a53 := Try.isAgg154
  z53 := Try.sizeOf154
  v53 := Try.zeroValue154
  t55 := Try.underlying70
  a55 := Try.isAgg70
  z55 := Try.sizeOf70
  v55 := Try.zeroValue70
  t66 := Try.underlying167
  a66 := Try.isAgg167
  z66 := Try.sizeOf167
  v66 := Try.zeroValue167
  t70 := Try.underlying170
  a70 := Try.isAgg170
  z70 := Try.sizeOf170
  v70 := Try.zeroValue170
  t76 := Try.underlying178
  a76 := Try.isAgg178
  z76 := Try.sizeOf178
  v76 := Try.zeroValue178
  t77 := Try.underlying179
  a77 := Try.isAgg179
  z77 := Try.sizeOf179
  v77 := Try.zeroValue179 }
def Try.compStr_ren : Go.Shelf.Ren := ⟨fun | 43 => 57 | n => n, fun | 22 => 65 | 23 => 9 | 3 => 3 | 4 => 4 | 0 => 0 | n => n, fun | n => n⟩
theorem Try.compStr : Go.Proofs.SlLaysE.n43 Try.prog Try.compStr_ren := {
  mixed := by kernel_rfl
  f43 := ⟨Try.f57.name, by decide, Try.func57.trans (congrArg some (by kernel_rfl))⟩
  t0 := Try.underlying0
  a0 := Try.isAgg0
  z0 := Try.sizeOf0
  v0 := Try.zeroValue0
  t3 := Try.underlying3
  a3 := Try.isAgg3
  z3 := Try.sizeOf3
  v3 := Try.zeroValue3
  t4 := Try.underlying4
  a4 := Try.isAgg4
  z4 := Try.sizeOf4
  v4 := Try.zeroValue4
  t22 := Try.underlying65
  a22 := Try.isAgg65
  z22 := Try.sizeOf65
  v22 := Try.zeroValue65
  a23 := Try.isAgg9
  z23 := Try.sizeOf9 }
end Go.Proofs
/- The contracts of slices.SortFunc and slices.Compact at strings. -/
namespace Go.Proofs.Ytfbimhnlcmdcpaa.Pa
open Go.Shelf Go.RowKit Go.Lib Go.Sort Go.Proofs.YtfbimhnlcmdcpaaW.PrintWords Go.Proofs.YtfbimhnlcmdcpaaW.PrintLast Go.Proofs.YtfbimhnlcmdcpaaW.PrintMore
set_option linter.unusedVariables false
set_option linter.unusedSimpArgs false

theorem ltS (x y : ByteArray) : ltOf cfS x y = sLt x y := by
  unfold ltOf cfS sLt
  rw [Bool.eq_iff_iff, decide_eq_true_iff]
  exact cmp_neg _ _
theorem swoS : SWO (ltOf cfS) where
  irrefl x := by rw [ltS]; exact bl_irrefl _
  trans x y z h1 h2 := by rw [ltS] at *; exact bl_trans _ _ _ h1 h2
  ntrans x y z h1 h2 := by
    rw [ltS] at *
    cases h : sLt x z with
    | false => rfl
    | true =>
      exfalso
      cases h3 : sLt y x with
      | false =>
        have := sLt_total h1 h3
        subst this
        rw [h] at h2
        cases h2
      | true =>
        have := bl_trans _ _ _ h3 h
        rw [show sLt y z = true from this] at h2
        cases h2
theorem cmpReadsS (blk off size : Nat) (w : World) : CmpReads Try.prog 56 #[] Value.string cfS blk off size w := fun _ _ _ _ x y => compare_any x y _

/-- a row of strings that may be written -/
def StrRow (w : World) (v : Value) (xs : List ByteArray) : Prop :=
  (v = .slice none 0 0 ∧ xs = []) ∨ ∃ g cap, v = .slice (some ⟨g, 0, none⟩) xs.length cap ∧ xs.length ≤ cap ∧ g < w.heap.size ∧ Holds Value.string w g 0 xs.toArray
theorem StrRow.of_own {w : World} {base n : Nat} {v : Value} {xs : List ByteArray} (h : w.ownsRow base 9 1 v n (xs.map Value.string)) : StrRow w v xs := by
  by_cases hv : v = .slice none 0 0
  · subst hv
    rcases h.2 with ⟨_, hn⟩ | ⟨g, cap, cur, e, _⟩
    · subst hn
      exact .inl ⟨rfl, by have := h.1; simpa using this⟩
    · cases e
  · obtain ⟨g, cap, rfl, hb, hg, hn, _, hl, hH⟩ := holds_of_ownsRow h hv
    subst hl
    exact .inr ⟨g, cap, rfl, hn, hg, hH⟩
theorem grownBy_putRow (w : World) (g off n : Nat) (d : Array ByteArray) (os : Array Obj) : w.grownBy (sortWorld Value.string w g off n d os) (some g) := by
  refine ⟨rfl, rfl, rfl, ?_, fun k hk hne => ?_⟩
  · show w.heap.size ≤ ((w.heap.modify g _) ++ os).size
    simp
  · have hkg : g ≠ k := fun e => hne (by rw [e])
    show ((w.heap.modify g _) ++ os)[k]? = _
    rw [Array.getElem?_append_left (by simpa using hk), Array.getElem?_modify, if_neg hkg]
theorem sort_any (v : Value) (xs : List ByteArray) (w : World) (h : StrRow w v xs) (hl : xs.length ≤ 100) :
    Calls Try.prog 55 #[v, .func (.func 56) #[] #[]] w fun e w' => e = .returned (.tuple #[]) ∧ w.grownBy w' v.ownBlock ∧ StrRow w' v (sortW xs) := by
  rcases h with ⟨rfl, rfl⟩ | ⟨g, cap, rfl, hc, hg, hH⟩
  · have hS := AnyF.slices_SortFunc_none (P := Try.prog) (ρ := Try.sortStr_ren) { Try.sortStr with } none 0 (.func (.func 56) #[] #[]) w
    change Calls Try.prog 55 _ _ _ at hS
    refine hS.mono ?_
    rintro e w' ⟨rfl, rfl⟩
    exact ⟨rfl, World.grownBy.refl _ _, .inl ⟨rfl, by simp [sortW]⟩⟩
  · have eg : ∀ args w, (callFunc 56 args).run Try.prog w = .ok (.enter 56 args) w := enters_of Try.func56 (by kernel_rfl) rfl
    have hS := Any.slices_SortFunc_total Try.sortStr Value.string (fun _ => rfl) cfS swoS 56 #[] g 0 cap xs.toArray w eg (cmpReadsS g 0 xs.toArray.size w).lays hH hg (by simp; omega) (fun x y h1 h2 => by rw [ltS] at h1 h2; exact sLt_total h1 h2)
    have hge : (fun x y : ByteArray => !ltOf cfS y x) = fun x y => !sLt y x := by funext x y; rw [ltS]
    rw [hge] at hS
    change Calls Try.prog 55 _ _ _ at hS
    have hsz : xs.toArray.size = xs.length := by simp
    rw [hsz] at hS
    refine hS.mono ?_
    rintro e w' ⟨rfl, n, os, rfl⟩
    have hlen : (sortW xs).length = xs.length := by unfold sortW; simp
    refine ⟨rfl, grownBy_putRow w g 0 n _ os, .inr ⟨g, cap, by rw [hlen], by rw [hlen]; exact hc, lt_sortWorld Value.string w g 0 n _ os hg, ?_⟩⟩
    have := holds_sortWorld Value.string w g 0 n xs.toArray (sortW xs).toArray os hg hH (by simp [hlen])
    simpa [sortW] using this
theorem eq_dec : (fun x y : ByteArray => x.toList == y.toList) = fun x y => decide (x = y) := by
  funext x y
  rw [toList_data, toList_data, Bool.eq_iff_iff, beq_iff_eq, decide_eq_true_iff]
  exact ⟨fun h => ByteArray.ext (Array.toList_inj.mp h), fun h => by rw [h]⟩
theorem grownBy_putRow0 (w : World) (g q : Nat) (d : Array ByteArray) : w.grownBy (putRow Value.string (Sort.ahead w q) g 0 d) (some g) := by
  have h := grownBy_putRow w g 0 q d #[]
  unfold sortWorld at h
  rw [grow_empty] at h
  exact h
theorem strs_of_holds {w : World} {g n : Nat} {d : Array ByteArray} (h : Holds Value.string w g 0 d) (xs : List ByteArray) (hx : xs.length = n) (hn : n ≤ 100) (hp : ∀ j, j < n → j < d.size ∧ d[j]! = xs.getD j ByteArray.empty) : Kd.string.C w (some ⟨g, 0, none⟩) n xs := by
  refine ⟨hx, by omega, fun _ => ⟨_, rfl, fun j p hj => ?_⟩⟩
  have hjl := (List.getElem?_eq_some_iff.1 hj).1
  obtain ⟨h1, h2⟩ := hp j (by omega)
  refine ⟨[.string p], rfl, rfl, fun i u hu => ?_⟩
  have hi : i = 0 := by
    have := (List.getElem?_eq_some_iff.1 hu).1
    simp at this
    exact this
  subst hi
  obtain rfl : Value.string p = u := by simpa using hu
  have hc := (h j h1).1
  rw [h2, List.getD_eq_getElem?_getD, hj] at hc
  have ha : ((⟨g, 0, none⟩ : Addr).add (j * 1 + 0)) = ⟨g, 0 + j, none⟩ := by
    rw [add_plain]; simp
  show w.cell? ((⟨g, 0, none⟩ : Addr).add (j * 1 + 0)) = _
  rw [ha]
  exact hc
theorem compact_any (v : Value) (xs : List ByteArray) (w : World) (h : StrRow w v xs) (hl : xs.length ≤ 100) :
    Calls Try.prog 57 #[v] w fun e w' => ∃ A c, e = .returned (.slice A (compact xs).length c) ∧ w.grownBy w' v.ownBlock ∧ Kd.string.C w' A (compact xs).length (compact xs) := by
  rcases h with ⟨rfl, rfl⟩ | ⟨g, cap, rfl, hc, hg, hH⟩
  · go_enter Try.func57, Try.ntmps57
    go_wp2
    go_ret
    exact ⟨none, 0, rfl, World.grownBy.refl _ _, rfl, by decide, fun h => absurd h (by decide)⟩
  · have he : EqlAt Try.prog 9 Value.string (fun x y => decide (x = y)) := by
      have := EqlAt.string Try.prog 9
      rwa [eq_dec] at this
    have hn : NeqAt Try.prog 9 Value.string (fun x y => decide (x = y)) := by
      have := NeqAt.string Try.prog 9
      rwa [eq_dec] at this
    have hC := AnyE.slices_Compact Try.compStr Value.string (fun _ => rfl) he hn ByteArray.empty (fun _ => by kernel_rfl) g 0 cap xs.toArray w hH (by simp; omega) (by simpa using hc)
    change Calls Try.prog 57 _ _ _ at hC
    have hsz : xs.toArray.size = xs.length := by simp
    rw [hsz] at hC
    refine hC.mono ?_
    rintro e w' ⟨rfl, q, rfl⟩
    have hcl : compactUpTo xs.toArray xs.length = compact xs := rfl
    rw [hcl]
    have hle : (compact xs).length ≤ xs.length := by
      unfold compact compactUpTo
      rw [List.length_map]
      have := List.length_filter_le (keeps xs.toArray) (List.range xs.length)
      rwa [List.length_range] at this
    refine ⟨_, _, rfl, grownBy_putRow0 w g q _, ?_⟩
    have hH2 := holds_putRow Value.string (Sort.ahead w q) g 0 xs.toArray (compact xs ++ List.replicate (xs.length - (compact xs).length) ByteArray.empty).toArray hH (by simp; omega)
    refine strs_of_holds hH2 (compact xs) rfl (by omega) (fun j hj => ⟨by simp; omega, ?_⟩)
    rw [getElem!_pos _ j (by simp; omega)]
    simp [List.getElem_append_left hj, List.getD_eq_getElem?_getD, List.getElem?_eq_getElem hj]
end Go.Proofs.Ytfbimhnlcmdcpaa.Pa
/- The contract of Compare. -/
namespace Go.Proofs.Ytfbimhnlcmdcpaa.Pa
open Go.RowKit Go.Proofs.YtfbimhnlcmdcpaaW.PrintWords Go.Proofs.YtfbimhnlcmdcpaaW.PrintLast Go.Proofs.YtfbimhnlcmdcpaaW.PrintMore
set_option linter.unusedVariables false
set_option linter.unusedSimpArgs false

abbrev Mv := S47
/-- what became of a word: p: its names before, q: after -/
def moveOf (s : ByteArray) (p q : Option (List ByteArray)) : List Mv :=
  if p.isSome && !q.isSome then [⟨s, 1⟩] else if q.isSome && !p.isSome then [⟨s, 2⟩] else if decide (p.getD [] = q.getD []) = false then [⟨s, 3⟩] else []
def wordsT (hs1 hs2 : List Hd) : List ByteArray := Lib.compact (sortW (hs1.map (fun x => x.f0) ++ hs2.map (fun x => x.f0)))
def movesT (cs1 : List Cl) (hs1 : List Hd) (cs2 : List Cl) (hs2 : List Hd) : List Mv :=
  (wordsT hs1 hs2).flatMap (fun s => moveOf s (namesT cs1 hs1 s) (namesT cs2 hs2 s))
def trade_Compare.f (cs1 : List Cl) (hs1 : List Hd) (cs2 : List Cl) (hs2 : List Hd) : Option (List Mv × Int) :=
  some (if checkT cs1 hs1 ≠ 0 then ([], checkT cs1 hs1) else if checkT cs2 hs2 ≠ 0 then ([], checkT cs2 hs2) else (movesT cs1 hs1 cs2 hs2, 0))

theorem equalL (xs ys : List ByteArray) (hl : xs.length = ys.length) (hb : xs.length ≤ 100) : ∀ (k i : Nat), i ≤ xs.length → xs.length < k + i →
    slices_Equal_string_string.l0 k xs ys (xs.length : Int) i = some (decide (xs.drop i = ys.drop i))
  | 0, i, h1, h2 => by omega
  | k + 1, i, h1, h2 => by
    show (if (i : Int) < (xs.length : Int) then _ else _) = _
    by_cases hi : i < xs.length
    · have hw : wrap64 ((i : Int) + 1) = ((i + 1 : Nat) : Int) := by unfold wrap64; omega
      rw [if_pos (by omega), if_pos (by omega), if_pos (by omega), if_pos (by omega), hw, equalL xs ys hl hb k (i + 1) (by omega) (by omega)]
      have e1 : rdOf ByteArray.empty xs (i : Int) = xs[i] := by simp [rdOf, List.getD_eq_getElem?_getD, List.getElem?_eq_getElem hi]
      have e2 : rdOf ByteArray.empty ys (i : Int) = ys[i] := by simp [rdOf, List.getD_eq_getElem?_getD, List.getElem?_eq_getElem (show i < ys.length by omega)]
      rw [e1, e2, List.drop_eq_getElem_cons hi, List.drop_eq_getElem_cons (show i < ys.length by omega)]
      by_cases he : xs[i] = ys[i]
      · rw [if_pos (by rw [he]), he]
        simp only [List.cons.injEq, true_and]
      · rw [if_neg (fun h => he (by
          rw [toList_data, toList_data] at h
          exact ByteArray.ext (Array.toList_inj.mp h))), decide_eq_false (fun h => he (List.cons.inj h).1)]
    · rw [if_neg (by omega), List.drop_eq_nil_of_le (by omega), List.drop_eq_nil_of_le (by omega)]
      rfl
theorem equal_strs (xs ys : List ByteArray) (hb : xs.length ≤ 100) : slices_Equal_string_string.f 101 xs ys = some (decide (xs = ys)) := by
  unfold slices_Equal_string_string.f
  by_cases hl : xs.length = ys.length
  · rw [if_pos (by omega)]
    exact equalL xs ys hl hb 101 0 (by omega) (by omega)
  · rw [if_neg (by omega), decide_eq_false (fun h => hl (by rw [h]))]

def mvCells (l : List Mv) : List Value := l.flatMap (fun x => [.string x.f0, .int .i64 x.f1])
theorem mvCells_append (a b : List Mv) : mvCells (a ++ b) = mvCells a ++ mvCells b := by simp [mvCells]
theorem mv_reps (w : World) (base : Nat) (ok : Nat → Prop) (l : List Mv) : Reps (k47.M w base ok) 2 l (mvCells l) := by
  induction l with
  | nil => exact Reps.none _ _
  | cons r l ih => exact Kd.reps_append (Reps.snoc (Reps.none _ _) (k47_mkM w base ok r) rfl) ih
theorem infoMv : (Try.prog.info? 47).map (fun i => (i.zero, i.size, i.bytes)) = some (some (.agg #[.string ⟨#[]⟩, .int .i64 0]), 2, 24) := by kernel_rfl

theorem compact_len (xs : List ByteArray) : (Lib.compact xs).length ≤ xs.length := by
  unfold Lib.compact Lib.compactUpTo
  rw [List.length_map]
  have := List.length_filter_le (Lib.keeps xs.toArray) (List.range xs.length)
  rwa [List.length_range] at this
theorem moves_len (U : List ByteArray) (N0 N1 : ByteArray → Option (List ByteArray)) : (U.flatMap (fun s => moveOf s (N0 s) (N1 s))).length ≤ U.length := by
  induction U with
  | nil => simp
  | cons s l ih =>
    rw [List.flatMap_cons, List.length_append, List.length_cons]
    have : (moveOf s (N0 s) (N1 s)).length ≤ 1 := by
      unfold moveOf
      split
      · simp
      · split
        · simp
        · split <;> simp
    omega
theorem namesFrom_len (cs : List Cl) (hs : List Hd) (s : ByteArray) : ∀ k i, ((namesFrom cs hs s k i).getD []).length ≤ cs.length
  | 0, i => by simp [namesFrom]
  | k + 1, i => by
    show ((if _ then _ else _ : Option (List ByteArray)).getD []).length ≤ _
    split
    · show (classNames cs _).length ≤ _
      unfold classNames
      rw [List.length_map]
      exact pathT_len _ _
    · exact namesFrom_len cs hs s k (i + 1)
theorem below_as {q : Nat} {w w3 : World} (hq : q = w.heap.size) (h : Below w.drew.heap.size w.drew w3) : Below q w w3 := by
  subst hq
  exact ⟨h.os, h.tape, h.output, h.size, h.block⟩

set_option maxHeartbeats 8000000 in
set_option maxRecDepth 100000 in
theorem compare_good (A0_0 : Option Addr) (c0_0 : Nat) (l0_0 : List (S51)) (A0_1 : Option Addr) (c0_1 : Nat) (l0_1 : List (S39)) (A1_0 : Option Addr) (c1_0 : Nat) (l1_0 : List (S51)) (A1_1 : Option Addr) (c1_1 : Nat) (l1_1 : List (S39)) (w : World) (hr0_0 : Kd.C k51 w A0_0 l0_0.length l0_0) (hc0_0 : l0_0.length ≤ c0_0) (hr0_1 : Kd.C k39 w A0_1 l0_1.length l0_1) (hc0_1 : l0_1.length ≤ c0_1) (hr1_0 : Kd.C k51 w A1_0 l1_0.length l1_0) (hc1_0 : l1_0.length ≤ c1_0) (hr1_1 : Kd.C k39 w A1_1 l1_1.length l1_1) (hc1_1 : l1_1.length ≤ c1_1) (hv0 : Valid l0_0 l0_1) (hv1 : Valid l1_0 l1_1) :
    Calls Try.prog 21 #[.agg #[.slice A0_0 l0_0.length c0_0, .slice A0_1 l0_1.length c0_1], .agg #[.slice A1_0 l1_0.length c1_0, .slice A1_1 l1_1.length c1_1]] w fun e w' => ∃ v0_ : Value, e = .returned (.tuple #[v0_, .int .i64 0]) ∧ Kd.R k47 47 w' w.heap.size (fun _ => True) v0_ (movesT l0_0 l0_1 l1_0 l1_1) ∧ Below w.heap.size w w' := by
  have hu2 := Try.underlying26
  have hu4 := Try.underlying39
  obtain ⟨m0, m1, -, -⟩ := hv0.split
  obtain ⟨-, m3, -, -⟩ := hv1.split
  obtain ⟨i0, hi, hz0, hz1, hz2⟩ := info_parts infoStr
  obtain ⟨j0, hj, hy0, hy1, hy2⟩ := info_parts infoMv
  have hB0 := ((Below.refl w.heap.size w).alloc (Nat.le_refl _) (.cells #[.slice A0_0 l0_0.length c0_0, .slice A0_1 l0_1.length c0_1] 26)).alloc (by simp) (.cells #[.slice A1_0 l1_0.length c1_0, .slice A1_1 l1_1.length c1_1] 26)
  have hx0 := blk_alloc (heap_alloc_new w (.cells #[.slice A0_0 l0_0.length c0_0, .slice A0_1 l0_1.length c0_1] 26)) (.cells #[.slice A1_0 l1_0.length c1_0, .slice A1_1 l1_1.length c1_1] 26)
  have hx1 := heap_alloc_new (w.alloc (.cells #[.slice A0_0 l0_0.length c0_0, .slice A0_1 l0_1.length c0_1] 26)) (.cells #[.slice A1_0 l1_0.length c1_0, .slice A1_1 l1_1.length c1_1] 26)
  rw [World.size_alloc] at hx1
  have HG0 := fun W (hW : Below w.heap.size w W) => begin_good A0_0 A0_1 c0_0 c0_1 l0_0 l0_1 W (Kd.C_below hr0_0 hW) (Kd.C_below hr0_1 hW) hc0_0 hc0_1 hv0
  have HG1 := fun W (hW : Below w.heap.size w W) => begin_good A1_0 A1_1 c1_0 c1_1 l1_0 l1_1 W (Kd.C_below hr1_0 hW) (Kd.C_below hr1_1 hW) hc1_0 hc1_1 hv1
  have HN0 := fun s W g (hL : IsList W g l0_0 l0_1) => names_any g l0_0 l0_1 s W hL hv0
  have HN1 := fun s W g (hL : IsList W g l1_0 l1_1) => names_any g l1_0 l1_1 s W hL hv1
  have hw0 := hw_of_heads hr0_1
  have hw1 := hw_of_heads hr1_1
  have hln : (l0_1.map (fun x => x.f0)).length = l0_1.length := List.length_map _
  have hln1 : (l1_1.map (fun x => x.f0)).length = l1_1.length := List.length_map _
  have HR : Hid (movesT l0_0 l0_1 l1_0 l1_1 = (wordsT l0_1 l1_1).flatMap (fun s => moveOf s (namesT l0_0 l0_1 s) (namesT l1_0 l1_1 s))) := rfl
  have HW : Hid (wordsT l0_1 l1_1 = Lib.compact (sortW (l0_1.map (fun x => x.f0) ++ l1_1.map (fun x => x.f0)))) := rfl
  obtain ⟨R, hRe⟩ : ∃ R, movesT l0_0 l0_1 l1_0 l1_1 = R := ⟨_, rfl⟩
  obtain ⟨N0, hN0⟩ : ∃ N, namesT l0_0 l0_1 = N := ⟨_, rfl⟩
  obtain ⟨N1, hN1⟩ : ∃ N, namesT l1_0 l1_1 = N := ⟨_, rfl⟩
  obtain ⟨X0, hX0⟩ : ∃ X, l0_1.map (fun x => x.f0) = X := ⟨_, rfl⟩
  obtain ⟨X1, hX1⟩ : ∃ X, l1_1.map (fun x => x.f0) = X := ⟨_, rfl⟩
  obtain ⟨U, hU⟩ : ∃ U, wordsT l0_1 l1_1 = U := ⟨_, rfl⟩
  have hP100 : ∀ s P Pl, N0 s = P → P.getD [] = Pl → Pl.length ≤ 100 := fun s P Pl h1 h2 => by
    have h3 := namesFrom_len l0_0 l0_1 s l0_1.length 0
    have h4 : N0 s = namesFrom l0_0 l0_1 s l0_1.length 0 := by rw [← hN0]; rfl
    rw [← h4, h1, h2] at h3
    omega
  rw [hRe] at HR ⊢
  rw [hN0, hN1, hU] at HR
  simp only [hN0] at HN0
  simp only [hN1] at HN1
  rw [hX0] at hw0 hln
  rw [hX1] at hw1 hln1
  rw [hX0, hX1, hU] at HW
  clear hRe hN0 hN1 hX0 hX1 hU
  go_enter Try.func21, Try.ntmps21
  go_upto_region 1 with (fail)
  obtain ⟨W0, hW0⟩ : ∃ W0, W0 = (w.alloc (.cells #[.slice A0_0 l0_0.length c0_0, .slice A0_1 l0_1.length c0_1] 26)).alloc (.cells #[.slice A1_0 l1_0.length c1_0, .slice A1_1 l1_1.length c1_1] 26) := ⟨_, rfl⟩
  rw [← hW0] at hB0 hx0 hx1 ⊢
  clear hW0
  obtain ⟨a0, a1⟩ := cells2 hx0
  go_upto_region 4 with (go_at_call 42; (with_reducible refine (HG0 _ hB0).mono ?_); rintro e w1 ⟨g, rfl, hL1, hb1⟩)
  have hB1 := below_then hB0 hB0.size hb1
  replace hx0 := blk_below hx0 hb1
  replace hx1 := blk_below hx1 hb1
  obtain ⟨b0, b1⟩ := cells2 hx1
  clear hB0 hb1 a0 a1
  clear W0
  go_upto_region 8 with (go_at_call 42; (with_reducible refine (HG1 _ hB1).mono ?_); rintro e w2 ⟨g2, rfl, hL2, hb2⟩)
  have hB2 := below_then hB1 hB1.size hb2
  replace hL1 := hL1.below hb2
  replace hx0 := blk_below hx0 hb2
  replace hx1 := blk_below hx1 hb2
  clear hB1 hb2 b0 b1
  clear w1
  obtain ⟨a0, a1⟩ := cells2 hx0
  obtain ⟨b0, b1⟩ := cells2 hx1
  have HCl := fun W (hW : Below w.heap.size w W) => clone_any A0_1 c0_1 X0 W (Kd.C_below (by rw [hln]; exact hw0) hW) (by omega)
  simp only [hln] at HCl
  have hC1b := fun W (hW : Below w.heap.size w W) => Kd.C_below hw1 hW
  obtain ⟨q2, hq2⟩ : ∃ q, q = w2.heap.size := ⟨_, rfl⟩
  have hZl : (X0 ++ X1).length = l0_1.length + l1_1.length := by rw [List.length_append, hln, hln1]
  go_cut [40, 41, 42] (fun s40 s41 s42 wx => ∃ Av cv, s40 = .slice Av (l0_1.length + l1_1.length) cv ∧ s41 = .int .i64 ((l0_1.length + l1_1.length : Nat) : Int) ∧ s42 = .int .i64 0 ∧ Below q2 w2 wx ∧ kHw.C wx Av (l0_1.length + l1_1.length) (X0 ++ X1))
  case first =>
    go_region_law (first
      | (refine Kd.R_append_rows_step kHw (w0 := w2) q2 (by rfl) _ _ 24 39 _ 56 (by rfl) Try.underlying24 infoHd (by rfl) (by decide) (by decide) vc X0 X1 A1_1 l1_1.length c1_1 (fun _ => True) (fun k => some k ≠ vc.ownBlock) (by rfl) (by rfl) hRc hC1c (fun _ _ h => h) (fun k hk => ⟨trivial, hk⟩) (fun _ _ => trivial) hb3' hq3 (by omega) ?_; intro v1 w4 hv1 hb4 _ _; obtain ⟨Av, cv, rfl, -, hCv⟩ := Kd.R_reads hv1; clear hv1)
      | (go_simp; go_at_call 54; go_loud ((with_reducible refine (HCl _ hB2.drew).mono ?_); rintro e w3 ⟨vc, rfl, hRc, hb3⟩); have hb3' := below_as hq2 hb3; have hB3 := below_then hB2.drew hB2.drew.size hb3; have hC1c := hC1b _ hB3; have hq3 := hb3'.size; rw [← hq2] at hq3; have b1c := pw_cell_below hb3 b1; have b0c := pw_cell_below hb3 b0; have hRc := Kd.R_lower (base' := q2) hRc (by rw [hq2]; exact Nat.le_refl _)))
    all_goals
      go_wp2
      go_meet
      case rel => exact ⟨Av, _, rfl, rfl, rfl, hb4, by rw [← hZl]; exact hCv⟩
  case rest =>
    obtain ⟨Av, cv, rfl, rfl, rfl, hb4, hCv⟩ := hcut
    have hB4 := below_then hB2 hB2.size (by rw [← hq2]; exact hb4)
    replace hL1 := hL1.below (by rw [← hq2]; exact hb4)
    replace hL2 := hL2.below (by rw [← hq2]; exact hb4)
    obtain ⟨Z, hZ⟩ : ∃ Z, X0 ++ X1 = Z := ⟨_, rfl⟩
    rw [hZ] at hCv hZl HW
    clear hZ hb4 HCl hC1b HG0 HG1 hw0 hw1 hx0 hx1 a0 a1 b0 b1 hB2
    obtain ⟨w4, hw4⟩ : ∃ w4, w4 = wc := ⟨_, rfl⟩
    subst hw4
    obtain ⟨nz, hnz⟩ : ∃ nz, l0_1.length + l1_1.length = nz := ⟨_, rfl⟩
    have hnz12 : nz ≤ 12 := by omega
    rw [hnz] at hZl hCv
    simp only [hnz]
    go_wp2
    go_loopg [9, 42] nz (fun gk v9 v wr => ∃ k : Nat, k + gk = nz ∧ v = .int .i64 k ∧ Below w4.heap.size w4 wr ∧ wr.ownsRow w4.heap.size 9 1 v9 k ((Z.take k).map Value.string))
    case atStart => exact ⟨0, by omega, rfl, Below.refl _ _, own_nil _ _ _ _⟩
    case round =>
      obtain ⟨k, hk, rfl, hb, ho⟩ := hrel
      by_cases hlt : k < nz
      · obtain ⟨ad, fi, fj, fA, fn, fc, e, h0, h1, h2, h3⟩ := hwAt (Kd.C_below hCv hb) k hlt
        cases e
        have hT : Hid ((Z.take (k + 1)).map Value.string = (Z.take k).map Value.string ++ [.string (Z.getD k ByteArray.empty)]) := by
          show _ = _
          rw [List.take_succ_eq_append_getElem (by omega), List.map_append, List.getD_eq_getElem?_getD, List.getElem?_eq_getElem (by omega)]
          rfl
        obtain ⟨y, hy⟩ : ∃ y, Z.getD k ByteArray.empty = y := ⟨_, rfl⟩
        rw [hy] at h0 hT
        clear hy
        have hbd := fun o => hb.alloc hb.size o
        have ho2 := fun o => ho.alloc o
        go_upto_region 11 with (fail)
        replace hbd := hbd (.cells #[.string y, .int .i64 fi, .int .i64 fj, .slice fA fn fc] 39)
        replace ho2 := ho2 (.cells #[.string y, .int .i64 fi, .int .i64 fj, .slice fA fn fc] 39)
        have hxb := cells4 (heap_alloc_new wr (.cells #[.string y, .int .i64 fi, .int .i64 fj, .slice fA fn fc] 39))
        obtain ⟨W1, hW1⟩ : ∃ W1, W1 = wr.alloc (.cells #[.string y, .int .i64 fi, .int .i64 fj, .slice fA fn fc] 39) := ⟨_, rfl⟩
        rw [← hW1] at hbd ho2 hxb ⊢
        clear hW1 hb ho h0 h1 h2 h3
        obtain ⟨z0, -, -, -⟩ := hxb
        go_wp2_with (at_builtin; go_loud (refine wpList_append_own _ rfl _ _ 65 rfl w4.heap.size 9 i0 (.string ⟨#[]⟩) 1 16 Try.underlying65 hi hz0 hz1 hz2 rfl (by decide) _ _ _ rfl (ho2.alloc _) ⟨W1.heap.size, 0, none⟩ 1 1 [.string y] rfl rfl (cell_one_new _ _ _) (by simp [Value.oneCell']) (by unfold maxLen; omega) (by omega) (by have := hbd.size; simp; omega) ?_; intro v' w5 hown5 hgrow5 _; have HB5 := Below.grown (hbd.alloc hbd.size _) hgrow5 (by have := hbd.size; simp; omega) (fun j hj => (ho2.lt j hj).1); have HO := Lib.hid hown5; clear hown5 hgrow5))
        go_roundg (nz - (k + 1))
        case measure => omega
        case rel => exact ⟨k + 1, by omega, by go_num, HB5, by rw [hT.out]; exact HO.out⟩
      · obtain rfl : nz = k := by omega
        rw [← hZl, List.take_length, hZl] at ho
        have HU := HW.out
        have hsl : (sortW Z).length = nz := by unfold sortW; rw [List.length_mergeSort]; exact hZl
        have hul := compact_len (sortW Z)
        rw [← HU, hsl] at hul
        have HS := sort_any _ Z wr (StrRow.of_own ho) (by omega)
        have HC := fun W v (hW : StrRow W v (sortW Z)) => compact_any v (sortW Z) W hW (by rw [hsl]; omega)
        simp only [← HU] at HC
        clear HU
        have hob := fun j hj => own_base ho j hj
        clear HW
        go_upto_region 16 with (first
          | (go_at_call 55; go_loud ((with_reducible refine HS.mono ?_); rintro e w6 ⟨rfl, hg6, hS6⟩); have hb6 := hb.grown hg6 hb.size hob; clear HS)
          | (go_at_call 57; go_loud ((with_reducible refine (HC _ _ hS6).mono ?_); rintro e w7 ⟨Au, cu, rfl, hg7, hCu⟩); have hb7 := hb6.grown hg7 hb6.size hob; clear HC))
        have hBL := below_then hB4 hB4.size hb7
        have hLa7 := hL1.below hb7
        have hLb7 := hL2.below hb7
        clear hb hb6 hg6 hS6 hg7 ho hob hL1 hL2 hB4 hCv hsl
        go_loopg [12, 57] U.length (fun gk v12 v wr => ∃ k : Nat, k + gk = U.length ∧ v = .int .i64 k ∧ Below w7.heap.size w7 wr ∧ wr.ownsRow w7.heap.size 47 2 v12 ((U.take k).flatMap (fun s => moveOf s (N0 s) (N1 s))).length (mvCells ((U.take k).flatMap (fun s => moveOf s (N0 s) (N1 s)))))
        case atStart => exact ⟨0, by omega, rfl, Below.refl _ _, own_nil _ _ _ _⟩
        case round =>
          obtain ⟨k, hk, rfl, hbw, ho⟩ := hrel
          by_cases hlt : k < U.length
          · obtain ⟨au, eu, hcu⟩ := Kd.at_string (Kd.C_below hCu hbw) (k : Int) (by omega) (by omega)
            cases eu
            have hTk : Hid ((U.take (k + 1)).flatMap (fun s => moveOf s (N0 s) (N1 s)) = (U.take k).flatMap (fun s => moveOf s (N0 s) (N1 s)) ++ moveOf (U.getD k ByteArray.empty) (N0 (U.getD k ByteArray.empty)) (N1 (U.getD k ByteArray.empty))) := by
              show _ = _
              rw [List.take_succ_eq_append_getElem hlt, List.flatMap_append, List.getD_eq_getElem?_getD, List.getElem?_eq_getElem hlt]
              simp
            have hrd : rdOf ByteArray.empty U (k : Int) = U.getD k ByteArray.empty := rfl
            rw [hrd, Int.toNat_natCast] at hcu
            obtain ⟨s, hs⟩ : ∃ s, U.getD k ByteArray.empty = s := ⟨_, rfl⟩
            rw [hs] at hcu hTk
            have hLa := hLa7.below hbw
            have hLb := hLb7.below hbw
            have HNa := fun W hL => HN0 s W g hL
            have HNb := fun W hL => HN1 s W g2 hL
            have hml : ((U.take k).flatMap (fun s => moveOf s (N0 s) (N1 s))).length ≤ k := by
              have := moves_len (U.take k) N0 N1
              rw [List.length_take] at this
              omega
            obtain ⟨M, hM⟩ : ∃ M, (U.take k).flatMap (fun s => moveOf s (N0 s) (N1 s)) = M := ⟨_, rfl⟩
            rw [hM] at ho hTk hml
            obtain ⟨P, hP⟩ : ∃ P, N0 s = P := ⟨_, rfl⟩
            obtain ⟨Q, hQ⟩ : ∃ Q, N1 s = Q := ⟨_, rfl⟩
            rw [hP, hQ] at hTk
            simp only [hP] at HNa
            simp only [hQ] at HNb
            obtain ⟨Pl, hPl⟩ : ∃ Pl, P.getD [] = Pl := ⟨_, rfl⟩
            obtain ⟨Ql, hQl⟩ : ∃ Ql, Q.getD [] = Ql := ⟨_, rfl⟩
            obtain ⟨pb, hpb⟩ : ∃ pb, P.isSome = pb := ⟨_, rfl⟩
            obtain ⟨qb, hqb⟩ : ∃ qb, Q.isSome = qb := ⟨_, rfl⟩
            have hMo : Hid (moveOf s P Q = if pb && !qb then [⟨s, 1⟩] else if qb && !pb then [⟨s, 2⟩] else if decide (Pl = Ql) = false then [⟨s, 3⟩] else []) := by
              show _ = _
              unfold moveOf
              rw [hPl, hQl, hpb, hqb]
            have hPn : Pl.length ≤ 100 := hP100 s P Pl hP hPl
            simp only [hPl, hpb] at HNa
            simp only [hQl, hqb] at HNb
            have hlt1 : (k : Int) < U.length := by omega
            have hlt2 : decide ((k : Int) < U.length) = true := decide_eq_true hlt1
            clear hM hs hP hQ hPl hQl hpb hqb
            cases pb with
            | true =>
              cases qb with
              | true =>
                have HEq0 := equal_strs Pl Ql hPn
                cases hed : decide (Pl = Ql) with
                | true =>
                  have HEq := HEq0
                  rw [hed] at HEq
                  have HG : Hid ((U.take (k + 1)).flatMap (fun s => moveOf s (N0 s) (N1 s)) = M) := by show _ = _; rw [hTk.out, hMo.out, hed]; exact List.append_nil _
                  clear hTk hMo HEq0 hed
                  go_wp2_with (first
                    | (go_at_call 58; (with_reducible refine (HNa wr hLa).mono ?_); rintro e w8 ⟨vp, rfl, hRp, hb8⟩; obtain ⟨Ap, cp, rfl, hlp, hCp⟩ := Kd.R_reads hRp; have hbw8 := below_then hbw hbw.size hb8; have ho8 := own_move ho (fun k hk => hb8.block k (own_lt ho k hk)); have hLb8 := hLb.below hb8; clear hRp)
                    | (go_at_call 58; (with_reducible refine (HNb w8 hLb8).mono ?_); rintro e w9 ⟨vq, rfl, hRq, hb9⟩; obtain ⟨Aq, cq, rfl, hlq, hCq⟩ := Kd.R_reads hRq; have hbw9 := below_then hbw8 hbw8.size hb9; have ho9 := own_move ho8 (fun k hk => hb9.block k (own_lt ho8 k hk)); have hCp9 := Kd.C_below hCp hb9; clear hRq)
                    | (go_at_call 59; go_loud ((with_reducible refine (slices_Equal_string_string.calls 101 Ap cp Pl Aq cq Ql true _ hCp9 hlp hCq hlq HEq).mono ?_); rintro e w10 ⟨rfl, ⟨nd, rfl⟩⟩; have ho10 := (show (w9.drewN nd).ownsRow w7.heap.size 47 2 _ _ _ from ho9); have hbw10 := pw_below_drewN hbw9 nd)))
                  go_roundg (U.length - (k + 1))
                  case measure => omega
                  case rel => exact ⟨k + 1, by omega, by go_num, hbw10, by rw [HG.out]; exact ho10⟩
                | false =>
                  have HEq := HEq0
                  rw [hed] at HEq
                  have HG : Hid ((U.take (k + 1)).flatMap (fun s => moveOf s (N0 s) (N1 s)) = M ++ [⟨s, 3⟩]) := by show _ = _; rw [hTk.out, hMo.out, hed]; rfl
                  clear hTk hMo HEq0 hed
                  go_wp2_with (first
                    | (go_at_call 58; (with_reducible refine (HNa wr hLa).mono ?_); rintro e w8 ⟨vp, rfl, hRp, hb8⟩; obtain ⟨Ap, cp, rfl, hlp, hCp⟩ := Kd.R_reads hRp; have hbw8 := below_then hbw hbw.size hb8; have ho8 := own_move ho (fun k hk => hb8.block k (own_lt ho k hk)); have hLb8 := hLb.below hb8; clear hRp)
                    | (go_at_call 58; (with_reducible refine (HNb w8 hLb8).mono ?_); rintro e w9 ⟨vq, rfl, hRq, hb9⟩; obtain ⟨Aq, cq, rfl, hlq, hCq⟩ := Kd.R_reads hRq; have hbw9 := below_then hbw8 hbw8.size hb9; have ho9 := own_move ho8 (fun k hk => hb9.block k (own_lt ho8 k hk)); have hCp9 := Kd.C_below hCp hb9; clear hRq)
                    | (go_at_call 59; go_loud ((with_reducible refine (slices_Equal_string_string.calls 101 Ap cp Pl Aq cq Ql false _ hCp9 hlp hCq hlq HEq).mono ?_); rintro e w10 ⟨rfl, ⟨nd, rfl⟩⟩; have ho10 := (show (w9.drewN nd).ownsRow w7.heap.size 47 2 _ _ _ from ho9); have hbw10 := pw_below_drewN hbw9 nd))
                    | (at_builtin; go_loud (refine wpList_append_own _ rfl _ _ 43 rfl w7.heap.size 47 j0 (.agg #[.string ⟨#[]⟩, .int .i64 0]) 2 24 Try.underlying43 hj hy0 hy1 hy2 rfl (by decide) _ _ _ rfl (ho10.alloc _) ⟨w9.heap.size, 0, none⟩ 1 1 [.string s, .int .i64 3] rfl rfl (World.news_of_block (cs := #[.string s, .int .i64 3]) (t := 47) (fr := (0, 0)) (heap_alloc_new ((w9.drewN nd)) _)) (by simp [Value.oneCell']) (by unfold maxLen; omega) (by omega) (by have := (hbw10).size; simp at this ⊢; omega) ?_; intro v' wa hown hgrow _; have HBa := Below.grown ((hbw10).alloc (hbw10).size _) hgrow (by have := (hbw10).size; simp at this ⊢; omega) (fun j hj => (ho10.lt j hj).1); have HO := Lib.hid hown; clear hown hgrow)))
                  go_roundg (U.length - (k + 1))
                  case measure => omega
                  case rel => exact ⟨k + 1, by omega, by go_num, HBa, by rw [HG.out, mvCells_append, List.length_append]; exact HO.out⟩
              | false =>
                have HG : Hid ((U.take (k + 1)).flatMap (fun s => moveOf s (N0 s) (N1 s)) = M ++ [⟨s, 1⟩]) := by show _ = _; rw [hTk.out, hMo.out]; rfl
                clear hTk hMo
                go_wp2_with (first
                  | (go_at_call 58; (with_reducible refine (HNa wr hLa).mono ?_); rintro e w8 ⟨vp, rfl, hRp, hb8⟩; obtain ⟨Ap, cp, rfl, hlp, hCp⟩ := Kd.R_reads hRp; have hbw8 := below_then hbw hbw.size hb8; have ho8 := own_move ho (fun k hk => hb8.block k (own_lt ho k hk)); have hLb8 := hLb.below hb8; clear hRp)
                  | (go_at_call 58; (with_reducible refine (HNb w8 hLb8).mono ?_); rintro e w9 ⟨vq, rfl, hRq, hb9⟩; obtain ⟨Aq, cq, rfl, hlq, hCq⟩ := Kd.R_reads hRq; have hbw9 := below_then hbw8 hbw8.size hb9; have ho9 := own_move ho8 (fun k hk => hb9.block k (own_lt ho8 k hk)); have hCp9 := Kd.C_below hCp hb9; clear hRq)
                  | (at_builtin; go_loud (refine wpList_append_own _ rfl _ _ 43 rfl w7.heap.size 47 j0 (.agg #[.string ⟨#[]⟩, .int .i64 0]) 2 24 Try.underlying43 hj hy0 hy1 hy2 rfl (by decide) _ _ _ rfl (ho9.alloc _) ⟨w9.heap.size, 0, none⟩ 1 1 [.string s, .int .i64 1] rfl rfl (World.news_of_block (cs := #[.string s, .int .i64 1]) (t := 47) (fr := (0, 0)) (heap_alloc_new (w9) _)) (by simp [Value.oneCell']) (by unfold maxLen; omega) (by omega) (by have := (hbw9).size; simp at this ⊢; omega) ?_; intro v' wa hown hgrow _; have HBa := Below.grown ((hbw9).alloc (hbw9).size _) hgrow (by have := (hbw9).size; simp at this ⊢; omega) (fun j hj => (ho9.lt j hj).1); have HO := Lib.hid hown; clear hown hgrow)))
                go_roundg (U.length - (k + 1))
                case measure => omega
                case rel => exact ⟨k + 1, by omega, by go_num, HBa, by rw [HG.out, mvCells_append, List.length_append]; exact HO.out⟩
            | false =>
              cases qb with
              | true =>
                have HG : Hid ((U.take (k + 1)).flatMap (fun s => moveOf s (N0 s) (N1 s)) = M ++ [⟨s, 2⟩]) := by show _ = _; rw [hTk.out, hMo.out]; rfl
                clear hTk hMo
                go_wp2_with (first
                  | (go_at_call 58; (with_reducible refine (HNa wr hLa).mono ?_); rintro e w8 ⟨vp, rfl, hRp, hb8⟩; obtain ⟨Ap, cp, rfl, hlp, hCp⟩ := Kd.R_reads hRp; have hbw8 := below_then hbw hbw.size hb8; have ho8 := own_move ho (fun k hk => hb8.block k (own_lt ho k hk)); have hLb8 := hLb.below hb8; clear hRp)
                  | (go_at_call 58; (with_reducible refine (HNb w8 hLb8).mono ?_); rintro e w9 ⟨vq, rfl, hRq, hb9⟩; obtain ⟨Aq, cq, rfl, hlq, hCq⟩ := Kd.R_reads hRq; have hbw9 := below_then hbw8 hbw8.size hb9; have ho9 := own_move ho8 (fun k hk => hb9.block k (own_lt ho8 k hk)); have hCp9 := Kd.C_below hCp hb9; clear hRq)
                  | (at_builtin; go_loud (refine wpList_append_own _ rfl _ _ 43 rfl w7.heap.size 47 j0 (.agg #[.string ⟨#[]⟩, .int .i64 0]) 2 24 Try.underlying43 hj hy0 hy1 hy2 rfl (by decide) _ _ _ rfl (ho9.alloc _) ⟨w9.heap.size, 0, none⟩ 1 1 [.string s, .int .i64 2] rfl rfl (World.news_of_block (cs := #[.string s, .int .i64 2]) (t := 47) (fr := (0, 0)) (heap_alloc_new (w9) _)) (by simp [Value.oneCell']) (by unfold maxLen; omega) (by omega) (by have := (hbw9).size; simp at this ⊢; omega) ?_; intro v' wa hown hgrow _; have HBa := Below.grown ((hbw9).alloc (hbw9).size _) hgrow (by have := (hbw9).size; simp at this ⊢; omega) (fun j hj => (ho9.lt j hj).1); have HO := Lib.hid hown; clear hown hgrow)))
                go_roundg (U.length - (k + 1))
                case measure => omega
                case rel => exact ⟨k + 1, by omega, by go_num, HBa, by rw [HG.out, mvCells_append, List.length_append]; exact HO.out⟩
              | false =>
                have HEq0 := equal_strs Pl Ql hPn
                cases hed : decide (Pl = Ql) with
                | true =>
                  have HEq := HEq0
                  rw [hed] at HEq
                  have HG : Hid ((U.take (k + 1)).flatMap (fun s => moveOf s (N0 s) (N1 s)) = M) := by show _ = _; rw [hTk.out, hMo.out, hed]; exact List.append_nil _
                  clear hTk hMo HEq0 hed
                  go_wp2_with (first
                    | (go_at_call 58; (with_reducible refine (HNa wr hLa).mono ?_); rintro e w8 ⟨vp, rfl, hRp, hb8⟩; obtain ⟨Ap, cp, rfl, hlp, hCp⟩ := Kd.R_reads hRp; have hbw8 := below_then hbw hbw.size hb8; have ho8 := own_move ho (fun k hk => hb8.block k (own_lt ho k hk)); have hLb8 := hLb.below hb8; clear hRp)
                    | (go_at_call 58; (with_reducible refine (HNb w8 hLb8).mono ?_); rintro e w9 ⟨vq, rfl, hRq, hb9⟩; obtain ⟨Aq, cq, rfl, hlq, hCq⟩ := Kd.R_reads hRq; have hbw9 := below_then hbw8 hbw8.size hb9; have ho9 := own_move ho8 (fun k hk => hb9.block k (own_lt ho8 k hk)); have hCp9 := Kd.C_below hCp hb9; clear hRq)
                    | (go_at_call 59; go_loud ((with_reducible refine (slices_Equal_string_string.calls 101 Ap cp Pl Aq cq Ql true _ hCp9 hlp hCq hlq HEq).mono ?_); rintro e w10 ⟨rfl, ⟨nd, rfl⟩⟩; have ho10 := (show (w9.drewN nd).ownsRow w7.heap.size 47 2 _ _ _ from ho9); have hbw10 := pw_below_drewN hbw9 nd)))
                  go_roundg (U.length - (k + 1))
                  case measure => omega
                  case rel => exact ⟨k + 1, by omega, by go_num, hbw10, by rw [HG.out]; exact ho10⟩
                | false =>
                  have HEq := HEq0
                  rw [hed] at HEq
                  have HG : Hid ((U.take (k + 1)).flatMap (fun s => moveOf s (N0 s) (N1 s)) = M ++ [⟨s, 3⟩]) := by show _ = _; rw [hTk.out, hMo.out, hed]; rfl
                  clear hTk hMo HEq0 hed
                  go_wp2_with (first
                    | (go_at_call 58; (with_reducible refine (HNa wr hLa).mono ?_); rintro e w8 ⟨vp, rfl, hRp, hb8⟩; obtain ⟨Ap, cp, rfl, hlp, hCp⟩ := Kd.R_reads hRp; have hbw8 := below_then hbw hbw.size hb8; have ho8 := own_move ho (fun k hk => hb8.block k (own_lt ho k hk)); have hLb8 := hLb.below hb8; clear hRp)
                    | (go_at_call 58; (with_reducible refine (HNb w8 hLb8).mono ?_); rintro e w9 ⟨vq, rfl, hRq, hb9⟩; obtain ⟨Aq, cq, rfl, hlq, hCq⟩ := Kd.R_reads hRq; have hbw9 := below_then hbw8 hbw8.size hb9; have ho9 := own_move ho8 (fun k hk => hb9.block k (own_lt ho8 k hk)); have hCp9 := Kd.C_below hCp hb9; clear hRq)
                    | (go_at_call 59; go_loud ((with_reducible refine (slices_Equal_string_string.calls 101 Ap cp Pl Aq cq Ql false _ hCp9 hlp hCq hlq HEq).mono ?_); rintro e w10 ⟨rfl, ⟨nd, rfl⟩⟩; have ho10 := (show (w9.drewN nd).ownsRow w7.heap.size 47 2 _ _ _ from ho9); have hbw10 := pw_below_drewN hbw9 nd))
                    | (at_builtin; go_loud (refine wpList_append_own _ rfl _ _ 43 rfl w7.heap.size 47 j0 (.agg #[.string ⟨#[]⟩, .int .i64 0]) 2 24 Try.underlying43 hj hy0 hy1 hy2 rfl (by decide) _ _ _ rfl (ho10.alloc _) ⟨w9.heap.size, 0, none⟩ 1 1 [.string s, .int .i64 3] rfl rfl (World.news_of_block (cs := #[.string s, .int .i64 3]) (t := 47) (fr := (0, 0)) (heap_alloc_new ((w9.drewN nd)) _)) (by simp [Value.oneCell']) (by unfold maxLen; omega) (by omega) (by have := (hbw10).size; simp at this ⊢; omega) ?_; intro v' wa hown hgrow _; have HBa := Below.grown ((hbw10).alloc (hbw10).size _) hgrow (by have := (hbw10).size; simp at this ⊢; omega) (fun j hj => (ho10.lt j hj).1); have HO := Lib.hid hown; clear hown hgrow)))
                  go_roundg (U.length - (k + 1))
                  case measure => omega
                  case rel => exact ⟨k + 1, by omega, by go_num, HBa, by rw [HG.out, mvCells_append, List.length_append]; exact HO.out⟩
          · obtain rfl : k = U.length := by omega
            rw [List.take_length, ← HR.out] at ho
            have HRv : k47.R 47 wr w7.heap.size (fun _ => True) _ R := ⟨fun _ _ => trivial, _, ho, mv_reps _ _ _ _⟩
            go_wp2
            go_ret2
            exact ⟨_, rfl, Kd.R_lower HRv hBL.size, below_then hBL hBL.size hbw⟩

set_option maxHeartbeats 1000000 in
set_option maxRecDepth 100000 in
theorem trade_Compare.calls (A0_0 : Option Addr) (c0_0 : Nat) (l0_0 : List (S51)) (A0_1 : Option Addr) (c0_1 : Nat) (l0_1 : List (S39)) (A1_0 : Option Addr) (c1_0 : Nat) (l1_0 : List (S51)) (A1_1 : Option Addr) (c1_1 : Nat) (l1_1 : List (S39)) (r1 : List (S47)) (r2 : Int) (w : World) (hr0_0 : Kd.C k51 w A0_0 l0_0.length l0_0) (hc0_0 : l0_0.length ≤ c0_0) (hr0_1 : Kd.C k39 w A0_1 l0_1.length l0_1) (hc0_1 : l0_1.length ≤ c0_1) (hr1_0 : Kd.C k51 w A1_0 l1_0.length l1_0) (hc1_0 : l1_0.length ≤ c1_0) (hr1_1 : Kd.C k39 w A1_1 l1_1.length l1_1) (hc1_1 : l1_1.length ≤ c1_1) (h : trade_Compare.f l0_0 l0_1 l1_0 l1_1 = some (r1, r2)) :
    Calls Try.prog 21 #[.agg #[.slice A0_0 l0_0.length c0_0, .slice A0_1 l0_1.length c0_1], .agg #[.slice A1_0 l1_0.length c1_0, .slice A1_1 l1_1.length c1_1]] w fun e w' => ∃ v0_ : Value, e = .returned (.tuple #[v0_, .int .i64 r2]) ∧ Kd.R k47 47 w' w.heap.size (fun _ => True) v0_ r1 ∧ Below w.heap.size w w' := by
  have hu2 := Try.underlying26
  have h := Option.some.inj h
  have hB0 := ((Below.refl w.heap.size w).alloc (Nat.le_refl _) (.cells #[.slice A0_0 l0_0.length c0_0, .slice A0_1 l0_1.length c0_1] 26)).alloc (by simp) (.cells #[.slice A1_0 l1_0.length c1_0, .slice A1_1 l1_1.length c1_1] 26)
  by_cases hz : checkT l0_0 l0_1 = 0
  · have hv0 : Valid l0_0 l0_1 := ⟨hz⟩
    rw [if_neg (by omega)] at h
    by_cases hz1 : checkT l1_0 l1_1 = 0
    · rw [if_neg (by omega)] at h
      simp only [Prod.mk.injEq] at h
      obtain ⟨rfl, rfl⟩ := h
      exact compare_good A0_0 c0_0 l0_0 A0_1 c0_1 l0_1 A1_0 c1_0 l1_0 A1_1 c1_1 l1_1 w hr0_0 hc0_0 hr0_1 hc0_1 hr1_0 hc1_0 hr1_1 hc1_1 hv0 ⟨hz1⟩
    · rw [if_pos hz1] at h
      simp only [Prod.mk.injEq] at h
      obtain ⟨rfl, rfl⟩ := h
      have hx1 := heap_alloc_new (w.alloc (.cells #[.slice A0_0 l0_0.length c0_0, .slice A0_1 l0_1.length c0_1] 26)) (.cells #[.slice A1_0 l1_0.length c1_0, .slice A1_1 l1_1.length c1_1] 26)
      rw [World.size_alloc] at hx1
      have HG0 := fun W (hW : Below w.heap.size w W) => begin_good A0_0 A0_1 c0_0 c0_1 l0_0 l0_1 W (Kd.C_below hr0_0 hW) (Kd.C_below hr0_1 hW) hc0_0 hc0_1 hv0
      have HG1 := fun W (hW : Below w.heap.size w W) => begin_bad A1_0 A1_1 c1_0 c1_1 l1_0 l1_1 W (Kd.C_below hr1_0 hW) (Kd.C_below hr1_1 hW) hc1_0 hc1_1 hz1
      obtain ⟨z, hze⟩ : ∃ z, checkT l1_0 l1_1 = z := ⟨_, rfl⟩
      simp only [hze] at HG1 hz1 ⊢
      have hzb : (z != 0) = true := bne_iff_ne.mpr hz1
      clear hz hze hz1
      go_enter Try.func21, Try.ntmps21
      go_upto_region 4 with (go_at_call 42; (with_reducible refine (HG0 _ hB0).mono ?_); rintro e w1 ⟨g, rfl, hL1, hb1⟩)
      have hB1 := below_then hB0 hB0.size hb1
      replace hx1 := blk_below hx1 hb1
      obtain ⟨b0, b1⟩ := cells2 hx1
      clear HG0 hb1
      go_wp2_with (go_at_call 42; (with_reducible refine (HG1 _ hB1).mono ?_); rintro e w2 ⟨rfl, hb2⟩)
      go_ret2
      exact ⟨_, rfl, Kd.R_nil _ _ _ _ _, below_then hB1 hB1.size hb2⟩
  · rw [if_pos hz] at h
    simp only [Prod.mk.injEq] at h
    obtain ⟨rfl, rfl⟩ := h
    have hx0 := blk_alloc (heap_alloc_new w (.cells #[.slice A0_0 l0_0.length c0_0, .slice A0_1 l0_1.length c0_1] 26)) (.cells #[.slice A1_0 l1_0.length c1_0, .slice A1_1 l1_1.length c1_1] 26)
    have HG0 := fun W (hW : Below w.heap.size w W) => begin_bad A0_0 A0_1 c0_0 c0_1 l0_0 l0_1 W (Kd.C_below hr0_0 hW) (Kd.C_below hr0_1 hW) hc0_0 hc0_1 hz
    obtain ⟨z, hze⟩ : ∃ z, checkT l0_0 l0_1 = z := ⟨_, rfl⟩
    simp only [hze] at HG0 hz ⊢
    have hzb : (z != 0) = true := bne_iff_ne.mpr hz
    clear hz hze
    go_enter Try.func21, Try.ntmps21
    go_upto_region 1 with (fail)
    obtain ⟨W0, hW0⟩ : ∃ W0, W0 = (w.alloc (.cells #[.slice A0_0 l0_0.length c0_0, .slice A0_1 l0_1.length c0_1] 26)).alloc (.cells #[.slice A1_0 l1_0.length c1_0, .slice A1_1 l1_1.length c1_1] 26) := ⟨_, rfl⟩
    rw [← hW0] at hB0 hx0 ⊢
    clear hW0
    obtain ⟨a0, a1⟩ := cells2 hx0
    go_wp2_with (go_at_call 42; (with_reducible refine (HG0 _ hB0).mono ?_); rintro e w1 ⟨rfl, hb1⟩)
    go_ret2
    exact ⟨_, rfl, Kd.R_nil _ _ _ _ _, below_then hB0 hB0.size hb1⟩
end Go.Proofs.Ytfbimhnlcmdcpaa.Pa
namespace Go.Proofs.Ytfbimhnlcmdcpaa.Pa
open Go.RowKit Go.Proofs.YtfbimhnlcmdcpaaW.PrintWords Go.Proofs.YtfbimhnlcmdcpaaW.PrintLast Go.Proofs.YtfbimhnlcmdcpaaW.PrintMore
attribute [local go_sem] max2_int min2_int max_two min_two max_three min_three max_four min_four   -- for this text's walks alone
set_option linter.unusedVariables false
set_option linter.unusedSimpArgs false

/-! ### trade_between: function 43 -/
/-! ### wayzgooselaw04_is: function 70 -/
def wayzgooselaw04_is.f (a0 : ByteArray) (a1 : Int) (l2 : List Int) : Option (ByteArray × Int × Int × List Int) := some (a0, a1, (-1), l2)
/-! ### wayzgooselaw04_see: function 71 -/
def wayzgooselaw04_see.f (a0 : ByteArray) (a1 : Int) : Option (ByteArray × Int × Int × List Int) := some (a0, (-1), a1, ([] : List Int))
/-! ### wayzgooselaw04_shops: function 45 -/
def wayzgooselaw04_shops.f  : Option ((List (S51)) × (List (S39))) := (wayzgooselaw04_is.f (⟨#[98, 97, 107, 101, 114]⟩ : ByteArray) 1 ([] : List Int)).bind fun bt219 => ((wayzgooselaw04_see.f (⟨#[98, 111, 110, 110, 101, 116, 115]⟩ : ByteArray) 3).bind fun bt225 => ((wayzgooselaw04_is.f (⟨#[99, 111, 110, 102, 101, 99, 116, 105, 111, 110, 101, 114]⟩ : ByteArray) 0 (([0] : List Int))).bind fun bt234 => ((wayzgooselaw04_is.f (⟨#[104, 97, 116, 116, 101, 114]⟩ : ByteArray) 3 ([] : List Int)).bind fun bt240 => ((wayzgooselaw04_is.f (⟨#[109, 101, 114, 99, 101, 114]⟩ : ByteArray) 2 (([3] : List Int))).bind fun bt249 => ((wayzgooselaw04_see.f (⟨#[109, 105, 108, 108, 105, 110, 101, 114]⟩ : ByteArray) 1).bind fun bt255 => (some ((([(⟨(⟨#[102, 111, 111, 100]⟩ : ByteArray), (-1)⟩ : S51), (⟨(⟨#[98, 114, 101, 97, 100]⟩ : ByteArray), 0⟩ : S51), (⟨(⟨#[99, 108, 111, 116, 104]⟩ : ByteArray), (-1)⟩ : S51), (⟨(⟨#[104, 97, 116, 115]⟩ : ByteArray), 2⟩ : S51)] : List (S51))), (([(⟨bt219.1, bt219.2.1, bt219.2.2.1, bt219.2.2.2⟩ : S39), (⟨bt225.1, bt225.2.1, bt225.2.2.1, bt225.2.2.2⟩ : S39), (⟨bt234.1, bt234.2.1, bt234.2.2.1, bt234.2.2.2⟩ : S39), (⟨bt240.1, bt240.2.1, bt240.2.2.1, bt240.2.2.2⟩ : S39), (⟨bt249.1, bt249.2.1, bt249.2.2.1, bt249.2.2.2⟩ : S39), (⟨bt255.1, bt255.2.1, bt255.2.2.1, bt255.2.2.2⟩ : S39)] : List (S39))))))))))
/-! ### wayzgooselaw04_later: function 47 -/
def wayzgooselaw04_later.f  : Option ((List (S51)) × (List (S39))) := (wayzgooselaw04_shops.f).bind fun bt265 => ((wayzgooselaw04_is.f (⟨#[98, 97, 107, 101, 114]⟩ : ByteArray) 1 ([] : List Int)).bind fun bt272 => ((wayzgooselaw04_see.f (⟨#[98, 111, 110, 110, 101, 116, 115]⟩ : ByteArray) 2).bind fun bt278 => ((wayzgooselaw04_is.f (⟨#[104, 97, 116, 116, 101, 114]⟩ : ByteArray) 2 ([] : List Int)).bind fun bt284 => ((wayzgooselaw04_is.f (⟨#[105, 114, 111, 110, 109, 111, 110, 103, 101, 114]⟩ : ByteArray) 0 ([] : List Int)).bind fun bt290 => ((wayzgooselaw04_is.f (⟨#[109, 101, 114, 99, 101, 114]⟩ : ByteArray) 2 (([2] : List Int))).bind fun bt299 => ((wayzgooselaw04_see.f (⟨#[109, 105, 108, 108, 105, 110, 101, 114]⟩ : ByteArray) 1).bind fun bt305 => (some (bt265.1, (([(⟨bt272.1, bt272.2.1, bt272.2.2.1, bt272.2.2.2⟩ : S39), (⟨bt278.1, bt278.2.1, bt278.2.2.1, bt278.2.2.2⟩ : S39), (⟨bt284.1, bt284.2.1, bt284.2.2.1, bt284.2.2.2⟩ : S39), (⟨bt290.1, bt290.2.1, bt290.2.2.1, bt290.2.2.2⟩ : S39), (⟨bt299.1, bt299.2.1, bt299.2.2.1, bt299.2.2.2⟩ : S39), (⟨bt305.1, bt305.2.1, bt305.2.2.1, bt305.2.2.2⟩ : S39)] : List (S39)))))))))))
/-! ### wayzgoosekit_EqInts: function 49 -/
def wayzgoosekit_EqInts.l0 : Nat → List Int → List Int → Int → Option (Bool)
  | 0, _, _, _ => none
  | k + 1, x0, x1, x5 => if x5 < (x0.length : Int) then (if 0 ≤ x5 then (if x5 < (x1.length : Int) then (if (rd x0 x5) = (rd x1 x5) then (wayzgoosekit_EqInts.l0 k x0 x1 (wrap64 (x5 + 1))) else (some false)) else (none)) else (none)) else (some true)
def wayzgoosekit_EqInts.f (k : Nat) (l0 : List Int) (l1 : List Int) : Option (Bool) := if (l0.length : Int) = (l1.length : Int) then (wayzgoosekit_EqInts.l0 k l0 l1 0) else (some false)
set_option maxHeartbeats 8000000 in
set_option maxRecDepth 100000 in
theorem wayzgoosekit_EqInts.calls (k : Nat) (A0 : Option Addr) (c0 : Nat) (l0 : List Int) (A1 : Option Addr) (c1 : Nat) (l1 : List Int) (r : Bool) (w : World) (hr0 : Kd.C (Kd.int .i64) w A0 l0.length l0) (hc0 : l0.length ≤ c0) (hr1 : Kd.C (Kd.int .i64) w A1 l1.length l1) (hc1 : l1.length ≤ c1) (h : wayzgoosekit_EqInts.f k l0 l1 = some r) :
    Calls Try.prog 49 #[.slice A0 l0.length c0, .slice A1 l1.length c1] w fun e w' => e = .returned (.bool r) ∧ Drawn0 w w' := by
  have HR0 := Aside0.mk hr0
  have HC0 := Aside0.mk hc0
  clear hr0 hc0
  have HR1 := Aside0.mk hr1
  have HC1 := Aside0.mk hc1
  clear hr1 hc1
  have H : (if (l0.length : Int) = (l1.length : Int) then (wayzgoosekit_EqInts.l0 k l0 l1 0) else (some false)) = some r := h
  clear h
  by_cases c3 : (l0.length : Int) = (l1.length : Int)
  · rw [if_pos c3] at H
    have c3b0 : ((l0.length : Int) == (l1.length : Int)) = true := beq_iff_eq.mpr c3
    have c3b1 : ((l0.length : Int) != (l1.length : Int)) = false := bne_eq_false_iff_eq.mpr c3
    have c3b2 : (l0.length == l1.length) = true := by first | simpa using c3 | (simp at c3 ⊢; omega)
    clear c3
    have H' := Aside0.mk H
    clear H
    go_enter Try.func49, Try.ntmps49
    go_wp2
    repeat (go_quiet (fail); try go_wp2)
    go_loopg [5] k (fun kq v5 w' => ∃ (x5_1 : Int), v5 = .int .i64 x5_1 ∧ Aside0 (wayzgoosekit_EqInts.l0 kq l0 l1 x5_1 = some r) ∧ Aside0 (kq ≤ k) ∧ Drawn0 w w')
    case atStart => exact ⟨(0), (by first | rfl | (simp; done) | (simp [*]; done)), H', ⟨Nat.le_refl _⟩, by repeat (first | exact Drawn0.refl _ | apply Drawn0.step)⟩
    case round =>
      clear H'
      try clear c1
      try clear p2
      try clear c3
      try clear c3b0
      try clear c3b1
      try clear c3b2
      obtain ⟨x5_1, rfl, HA, HK1, ⟨m1, rfl⟩⟩ := hrel
      cases gk with
      | zero => exact absurd HA.out (by simp [wayzgoosekit_EqInts.l0])
      | succ k1 =>
        have H := HA.out
        clear HA
        simp only [wayzgoosekit_EqInts.l0] at H
        by_cases c4 : x5_1 < (l0.length : Int)
        · rw [if_pos c4] at H
          have c4b0 : decide (x5_1 < (l0.length : Int)) = true := decide_eq_true c4
          clear c4
          by_cases c5 : 0 ≤ x5_1
          · rw [if_pos c5] at H
            have c5b0 : decide (0 ≤ x5_1) = true := decide_eq_true c5
            clear c5
            by_cases c6 : x5_1 < (l1.length : Int)
            · rw [if_pos c6] at H
              have c6b0 : decide (x5_1 < (l1.length : Int)) = true := decide_eq_true c6
              clear c6
              by_cases c7 : (rd l0 x5_1) = (rd l1 x5_1)
              · rw [if_pos c7] at H
                have c7b0 : ((rd l0 x5_1) == (rd l1 x5_1)) = true := beq_iff_eq.mpr c7
                have c7b1 : ((rd l0 x5_1) != (rd l1 x5_1)) = false := bne_eq_false_iff_eq.mpr c7
                clear c7
                have H' := Aside0.mk H
                clear H
                have p314 : 0 ≤ (x5_1 : Int) := of_decide_eq_true (by first | (with_reducible assumption) | assumption)
                have q314 : x5_1 < (l0.length : Int) := of_decide_eq_true (by first | (with_reducible assumption) | assumption)
                obtain ⟨ad314, e314, hx314_0⟩ := Kd.at_int HR0.out x5_1 p314 q314
                cases e314
                replace p314 := eq_true p314
                replace q314 := eq_true q314
                have p315 : 0 ≤ (x5_1 : Int) := of_decide_eq_true (by first | (with_reducible assumption) | assumption)
                have q315 : x5_1 < (l1.length : Int) := of_decide_eq_true (by first | (with_reducible assumption) | assumption)
                obtain ⟨ad315, e315, hx315_0⟩ := Kd.at_int HR1.out x5_1 p315 q315
                cases e315
                replace p315 := eq_true p315
                replace q315 := eq_true q315
                go_wp2
                repeat (go_quiet (fail); try go_wp2)
                go_roundg k1
                case measure => have := HK1.out; omega
                case rel => exact ⟨(wrap64 (x5_1 + 1)), (by first | rfl | (simp; done) | (simp [*]; done)), H', ⟨by have := HK1.out; omega⟩, by repeat (first | exact Drawn0.refl _ | apply Drawn0.step)⟩
              · rw [if_neg c7] at H
                have c7b0 : ((rd l0 x5_1) == (rd l1 x5_1)) = false := beq_eq_false_iff_ne.mpr c7
                have c7b1 : ((rd l0 x5_1) != (rd l1 x5_1)) = true := bne_iff_ne.mpr c7
                obtain rfl := Option.some.inj H
                have p314 : 0 ≤ (x5_1 : Int) := of_decide_eq_true (by first | (with_reducible assumption) | assumption)
                have q314 : x5_1 < (l0.length : Int) := of_decide_eq_true (by first | (with_reducible assumption) | assumption)
                obtain ⟨ad314, e314, hx314_0⟩ := Kd.at_int HR0.out x5_1 p314 q314
                cases e314
                replace p314 := eq_true p314
                replace q314 := eq_true q314
                have p315 : 0 ≤ (x5_1 : Int) := of_decide_eq_true (by first | (with_reducible assumption) | assumption)
                have q315 : x5_1 < (l1.length : Int) := of_decide_eq_true (by first | (with_reducible assumption) | assumption)
                obtain ⟨ad315, e315, hx315_0⟩ := Kd.at_int HR1.out x5_1 p315 q315
                cases e315
                replace p315 := eq_true p315
                replace q315 := eq_true q315
                go_wp2
                repeat (go_quiet (fail); try go_wp2)
                go_ret
                exact ⟨by first | rfl | (simp; done) | (simp [*]; done), by repeat (first | exact Drawn0.refl _ | apply Drawn0.step)⟩
            · rw [if_neg c6] at H
              exact absurd H (by simp)
          · rw [if_neg c5] at H
            exact absurd H (by simp)
        · rw [if_neg c4] at H
          have c4b0 : decide (x5_1 < (l0.length : Int)) = false := decide_eq_false c4
          clear c4
          obtain rfl := Option.some.inj H
          go_wp2
          repeat (go_quiet (fail); try go_wp2)
          go_ret
          exact ⟨by first | rfl | (simp; done) | (simp [*]; done), by repeat (first | exact Drawn0.refl _ | apply Drawn0.step)⟩
  · rw [if_neg c3] at H
    have c3b0 : ((l0.length : Int) == (l1.length : Int)) = false := beq_eq_false_iff_ne.mpr c3
    have c3b1 : ((l0.length : Int) != (l1.length : Int)) = true := bne_iff_ne.mpr c3
    have c3b2 : (l0.length == l1.length) = false := by first | simpa using c3 | (simp at c3 ⊢; omega)
    obtain rfl := Option.some.inj H
    go_enter Try.func49, Try.ntmps49
    go_wp2
    repeat (go_quiet (fail); try go_wp2)
    go_ret
    exact ⟨by first | rfl | (simp; done) | (simp [*]; done), by repeat (first | exact Drawn0.refl _ | apply Drawn0.step)⟩

/-! ### wayzgoosekit_EqLists: function 48 -/
def wayzgoosekit_EqLists.l0 : Nat → List (List Int) → List (List Int) → Int → Option (Bool)
  | 0, _, _, _ => none
  | k + 1, x0, x1, x5 => if x5 < (x0.length : Int) then (if 0 ≤ x5 then (if x5 < (x1.length : Int) then ((wayzgoosekit_EqInts.f k (rd_L3 x0 x5) (rd_L3 x1 x5)).bind fun t318 => (if t318 = true then (wayzgoosekit_EqLists.l0 k x0 x1 (wrap64 (x5 + 1))) else (some false))) else (none)) else (none)) else (some true)
def wayzgoosekit_EqLists.f (k : Nat) (l0 : List (List Int)) (l1 : List (List Int)) : Option (Bool) := if (l0.length : Int) = (l1.length : Int) then (wayzgoosekit_EqLists.l0 k l0 l1 0) else (some false)
set_option maxHeartbeats 8000000 in
set_option maxRecDepth 100000 in
theorem wayzgoosekit_EqLists.calls (k : Nat) (A0 : Option Addr) (c0 : Nat) (l0 : List (List Int)) (A1 : Option Addr) (c1 : Nat) (l1 : List (List Int)) (r : Bool) (w : World) (hr0 : Kd.C (Kd.slice 3 (Kd.int .i64)) w A0 l0.length l0) (hc0 : l0.length ≤ c0) (hr1 : Kd.C (Kd.slice 3 (Kd.int .i64)) w A1 l1.length l1) (hc1 : l1.length ≤ c1) (h : wayzgoosekit_EqLists.f k l0 l1 = some r) :
    Calls Try.prog 48 #[.slice A0 l0.length c0, .slice A1 l1.length c1] w fun e w' => e = .returned (.bool r) ∧ Drawn0 w w' := by
  have HR0 := Aside0.mk hr0
  have HC0 := Aside0.mk hc0
  clear hr0 hc0
  have HR1 := Aside0.mk hr1
  have HC1 := Aside0.mk hc1
  clear hr1 hc1
  have H : (if (l0.length : Int) = (l1.length : Int) then (wayzgoosekit_EqLists.l0 k l0 l1 0) else (some false)) = some r := h
  clear h
  by_cases c3 : (l0.length : Int) = (l1.length : Int)
  · rw [if_pos c3] at H
    have c3b0 : ((l0.length : Int) == (l1.length : Int)) = true := beq_iff_eq.mpr c3
    have c3b1 : ((l0.length : Int) != (l1.length : Int)) = false := bne_eq_false_iff_eq.mpr c3
    have c3b2 : (l0.length == l1.length) = true := by first | simpa using c3 | (simp at c3 ⊢; omega)
    clear c3
    have H' := Aside0.mk H
    clear H
    go_enter Try.func48, Try.ntmps48
    go_wp2
    repeat (go_quiet (fail); try go_wp2)
    go_loopg [5] k (fun kq v5 w' => ∃ (x5_1 : Int), v5 = .int .i64 x5_1 ∧ Aside0 (wayzgoosekit_EqLists.l0 kq l0 l1 x5_1 = some r) ∧ Aside0 (kq ≤ k) ∧ Drawn0 w w')
    case atStart => exact ⟨(0), (by first | rfl | (simp; done) | (simp [*]; done)), H', ⟨Nat.le_refl _⟩, by repeat (first | exact Drawn0.refl _ | apply Drawn0.step)⟩
    case round =>
      clear H'
      try clear c1
      try clear p2
      try clear c3
      try clear c3b0
      try clear c3b1
      try clear c3b2
      obtain ⟨x5_1, rfl, HA, HK1, ⟨m1, rfl⟩⟩ := hrel
      cases gk with
      | zero => exact absurd HA.out (by simp [wayzgoosekit_EqLists.l0])
      | succ k1 =>
        have H := HA.out
        clear HA
        simp only [wayzgoosekit_EqLists.l0] at H
        by_cases c4 : x5_1 < (l0.length : Int)
        · rw [if_pos c4] at H
          have c4b0 : decide (x5_1 < (l0.length : Int)) = true := decide_eq_true c4
          clear c4
          by_cases c5 : 0 ≤ x5_1
          · rw [if_pos c5] at H
            have c5b0 : decide (0 ≤ x5_1) = true := decide_eq_true c5
            clear c5
            by_cases c6 : x5_1 < (l1.length : Int)
            · rw [if_pos c6] at H
              have c6b0 : decide (x5_1 < (l1.length : Int)) = true := decide_eq_true c6
              clear c6
              replace H := Option.bind_eq_some_iff.mp H
              obtain ⟨t318, A70, H⟩ := H
              replace H : (if t318 = true then (wayzgoosekit_EqLists.l0 k1 l0 l1 (wrap64 (x5_1 + 1))) else (some false)) = some r := H
              have A7 := Aside0.mk A70
              clear A70
              by_cases c8 : t318 = true
              · subst c8
                have H1 : (wayzgoosekit_EqLists.l0 k1 l0 l1 (wrap64 (x5_1 + 1))) = some r := by rw [if_pos rfl] at H; exact H
                clear H
                have H := H1
                clear H1
                have H' := Aside0.mk H
                clear H
                have p316 : 0 ≤ (x5_1 : Int) := of_decide_eq_true (by first | (with_reducible assumption) | assumption)
                have q316 : x5_1 < (l0.length : Int) := of_decide_eq_true (by first | (with_reducible assumption) | assumption)
                obtain ⟨ad316, A316_0, c316_0, e316, hx316_0, hl316_0, hi316_0⟩ := at_L3 HR0.out x5_1 p316 q316
                cases e316
                have HR316_0 := Aside0.mk hi316_0
                have HC316_0 := Aside0.mk hl316_0
                clear hi316_0 hl316_0
                replace p316 := eq_true p316
                replace q316 := eq_true q316
                have p317 : 0 ≤ (x5_1 : Int) := of_decide_eq_true (by first | (with_reducible assumption) | assumption)
                have q317 : x5_1 < (l1.length : Int) := of_decide_eq_true (by first | (with_reducible assumption) | assumption)
                obtain ⟨ad317, A317_0, c317_0, e317, hx317_0, hl317_0, hi317_0⟩ := at_L3 HR1.out x5_1 p317 q317
                cases e317
                have HR317_0 := Aside0.mk hi317_0
                have HC317_0 := Aside0.mk hl317_0
                clear hi317_0 hl317_0
                replace p317 := eq_true p317
                replace q317 := eq_true q317
                go_wp2_with (first | (go_at_call 49; (with_reducible refine (wayzgoosekit_EqInts.calls k1 _ _ (rd_L3 l0 x5_1) _ _ (rd_L3 l1 x5_1) true _ ?side1 ?side2 ?side3 ?side4 A7.out).mono ?_); (case side1 => repeat (first | exact HR316_0.out | (with_reducible refine Kd.C_alloc ?_ _) | (with_reducible refine Kd.C_drewN ?_ _) | (with_reducible refine Kd.C_drew ?_))); (case side2 => exact HC316_0.out); (case side3 => repeat (first | exact HR317_0.out | (with_reducible refine Kd.C_alloc ?_ _) | (with_reducible refine Kd.C_drewN ?_ _) | (with_reducible refine Kd.C_drew ?_))); (case side4 => exact HC317_0.out); rintro e w' ⟨rfl, ⟨nd, rfl⟩⟩; (try first | exact ⟨rfl, _, World.drewN_drewN _ _ _⟩ | exact ⟨rfl, _, Eq.trans (World.drewN_drewN _ _ _) (congrArg (World.drewN _) (Nat.add_assoc _ _ _))⟩)))
                repeat (go_quiet (first | (go_at_call 49; (with_reducible refine (wayzgoosekit_EqInts.calls k1 _ _ (rd_L3 l0 x5_1) _ _ (rd_L3 l1 x5_1) true _ ?side1 ?side2 ?side3 ?side4 A7.out).mono ?_); (case side1 => repeat (first | exact HR316_0.out | (with_reducible refine Kd.C_alloc ?_ _) | (with_reducible refine Kd.C_drewN ?_ _) | (with_reducible refine Kd.C_drew ?_))); (case side2 => exact HC316_0.out); (case side3 => repeat (first | exact HR317_0.out | (with_reducible refine Kd.C_alloc ?_ _) | (with_reducible refine Kd.C_drewN ?_ _) | (with_reducible refine Kd.C_drew ?_))); (case side4 => exact HC317_0.out); rintro e w' ⟨rfl, ⟨nd, rfl⟩⟩; (try first | exact ⟨rfl, _, World.drewN_drewN _ _ _⟩ | exact ⟨rfl, _, Eq.trans (World.drewN_drewN _ _ _) (congrArg (World.drewN _) (Nat.add_assoc _ _ _))⟩))); try go_wp2_with (first | (go_at_call 49; (with_reducible refine (wayzgoosekit_EqInts.calls k1 _ _ (rd_L3 l0 x5_1) _ _ (rd_L3 l1 x5_1) true _ ?side1 ?side2 ?side3 ?side4 A7.out).mono ?_); (case side1 => repeat (first | exact HR316_0.out | (with_reducible refine Kd.C_alloc ?_ _) | (with_reducible refine Kd.C_drewN ?_ _) | (with_reducible refine Kd.C_drew ?_))); (case side2 => exact HC316_0.out); (case side3 => repeat (first | exact HR317_0.out | (with_reducible refine Kd.C_alloc ?_ _) | (with_reducible refine Kd.C_drewN ?_ _) | (with_reducible refine Kd.C_drew ?_))); (case side4 => exact HC317_0.out); rintro e w' ⟨rfl, ⟨nd, rfl⟩⟩; (try first | exact ⟨rfl, _, World.drewN_drewN _ _ _⟩ | exact ⟨rfl, _, Eq.trans (World.drewN_drewN _ _ _) (congrArg (World.drewN _) (Nat.add_assoc _ _ _))⟩))))
                go_roundg k1
                case measure => have := HK1.out; omega
                case rel => exact ⟨(wrap64 (x5_1 + 1)), (by first | rfl | (simp; done) | (simp [*]; done)), H', ⟨by have := HK1.out; omega⟩, by repeat (first | exact Drawn0.refl _ | apply Drawn0.step)⟩
              · replace c8 := Bool.eq_false_iff.mpr c8
                subst c8
                have H1 : (some false) = some r := by rw [if_neg (show ¬ (false = true) by decide)] at H; exact H
                clear H
                have H := H1
                clear H1
                obtain rfl := Option.some.inj H
                have p316 : 0 ≤ (x5_1 : Int) := of_decide_eq_true (by first | (with_reducible assumption) | assumption)
                have q316 : x5_1 < (l0.length : Int) := of_decide_eq_true (by first | (with_reducible assumption) | assumption)
                obtain ⟨ad316, A316_0, c316_0, e316, hx316_0, hl316_0, hi316_0⟩ := at_L3 HR0.out x5_1 p316 q316
                cases e316
                have HR316_0 := Aside0.mk hi316_0
                have HC316_0 := Aside0.mk hl316_0
                clear hi316_0 hl316_0
                replace p316 := eq_true p316
                replace q316 := eq_true q316
                have p317 : 0 ≤ (x5_1 : Int) := of_decide_eq_true (by first | (with_reducible assumption) | assumption)
                have q317 : x5_1 < (l1.length : Int) := of_decide_eq_true (by first | (with_reducible assumption) | assumption)
                obtain ⟨ad317, A317_0, c317_0, e317, hx317_0, hl317_0, hi317_0⟩ := at_L3 HR1.out x5_1 p317 q317
                cases e317
                have HR317_0 := Aside0.mk hi317_0
                have HC317_0 := Aside0.mk hl317_0
                clear hi317_0 hl317_0
                replace p317 := eq_true p317
                replace q317 := eq_true q317
                go_wp2_with (first | (go_at_call 49; (with_reducible refine (wayzgoosekit_EqInts.calls k1 _ _ (rd_L3 l0 x5_1) _ _ (rd_L3 l1 x5_1) false _ ?side1 ?side2 ?side3 ?side4 A7.out).mono ?_); (case side1 => repeat (first | exact HR316_0.out | (with_reducible refine Kd.C_alloc ?_ _) | (with_reducible refine Kd.C_drewN ?_ _) | (with_reducible refine Kd.C_drew ?_))); (case side2 => exact HC316_0.out); (case side3 => repeat (first | exact HR317_0.out | (with_reducible refine Kd.C_alloc ?_ _) | (with_reducible refine Kd.C_drewN ?_ _) | (with_reducible refine Kd.C_drew ?_))); (case side4 => exact HC317_0.out); rintro e w' ⟨rfl, ⟨nd, rfl⟩⟩; (try first | exact ⟨rfl, _, World.drewN_drewN _ _ _⟩ | exact ⟨rfl, _, Eq.trans (World.drewN_drewN _ _ _) (congrArg (World.drewN _) (Nat.add_assoc _ _ _))⟩)))
                repeat (go_quiet (first | (go_at_call 49; (with_reducible refine (wayzgoosekit_EqInts.calls k1 _ _ (rd_L3 l0 x5_1) _ _ (rd_L3 l1 x5_1) false _ ?side1 ?side2 ?side3 ?side4 A7.out).mono ?_); (case side1 => repeat (first | exact HR316_0.out | (with_reducible refine Kd.C_alloc ?_ _) | (with_reducible refine Kd.C_drewN ?_ _) | (with_reducible refine Kd.C_drew ?_))); (case side2 => exact HC316_0.out); (case side3 => repeat (first | exact HR317_0.out | (with_reducible refine Kd.C_alloc ?_ _) | (with_reducible refine Kd.C_drewN ?_ _) | (with_reducible refine Kd.C_drew ?_))); (case side4 => exact HC317_0.out); rintro e w' ⟨rfl, ⟨nd, rfl⟩⟩; (try first | exact ⟨rfl, _, World.drewN_drewN _ _ _⟩ | exact ⟨rfl, _, Eq.trans (World.drewN_drewN _ _ _) (congrArg (World.drewN _) (Nat.add_assoc _ _ _))⟩))); try go_wp2_with (first | (go_at_call 49; (with_reducible refine (wayzgoosekit_EqInts.calls k1 _ _ (rd_L3 l0 x5_1) _ _ (rd_L3 l1 x5_1) false _ ?side1 ?side2 ?side3 ?side4 A7.out).mono ?_); (case side1 => repeat (first | exact HR316_0.out | (with_reducible refine Kd.C_alloc ?_ _) | (with_reducible refine Kd.C_drewN ?_ _) | (with_reducible refine Kd.C_drew ?_))); (case side2 => exact HC316_0.out); (case side3 => repeat (first | exact HR317_0.out | (with_reducible refine Kd.C_alloc ?_ _) | (with_reducible refine Kd.C_drewN ?_ _) | (with_reducible refine Kd.C_drew ?_))); (case side4 => exact HC317_0.out); rintro e w' ⟨rfl, ⟨nd, rfl⟩⟩; (try first | exact ⟨rfl, _, World.drewN_drewN _ _ _⟩ | exact ⟨rfl, _, Eq.trans (World.drewN_drewN _ _ _) (congrArg (World.drewN _) (Nat.add_assoc _ _ _))⟩))))
                go_ret
                exact ⟨by first | rfl | (simp; done) | (simp [*]; done), by repeat (first | exact Drawn0.refl _ | apply Drawn0.step)⟩
            · rw [if_neg c6] at H
              exact absurd H (by simp)
          · rw [if_neg c5] at H
            exact absurd H (by simp)
        · rw [if_neg c4] at H
          have c4b0 : decide (x5_1 < (l0.length : Int)) = false := decide_eq_false c4
          clear c4
          obtain rfl := Option.some.inj H
          go_wp2
          repeat (go_quiet (fail); try go_wp2)
          go_ret
          exact ⟨by first | rfl | (simp; done) | (simp [*]; done), by repeat (first | exact Drawn0.refl _ | apply Drawn0.step)⟩
  · rw [if_neg c3] at H
    have c3b0 : ((l0.length : Int) == (l1.length : Int)) = false := beq_eq_false_iff_ne.mpr c3
    have c3b1 : ((l0.length : Int) != (l1.length : Int)) = true := bne_iff_ne.mpr c3
    have c3b2 : (l0.length == l1.length) = false := by first | simpa using c3 | (simp at c3 ⊢; omega)
    obtain rfl := Option.some.inj H
    go_enter Try.func48, Try.ntmps48
    go_wp2
    repeat (go_quiet (fail); try go_wp2)
    go_ret
    exact ⟨by first | rfl | (simp; done) | (simp [*]; done), by repeat (first | exact Drawn0.refl _ | apply Drawn0.step)⟩

end Go.Proofs.Ytfbimhnlcmdcpaa.Pa
/- What the chapter's examples compute. -/
namespace Go.Proofs.Ytfbimhnlcmdcpaa.Pa
open Go.RowKit
def shops2 : List Cl × List Hd := (wayzgooselaw04_shops.f).getD ([], [])
def later2 : List Cl × List Hd := (wayzgooselaw04_later.f).getD ([], [])
theorem idx1 : trade_Least.f shops2.1 shops2.2 1 0 = some (0, 0) := by kernel_rfl
theorem idx2 : trade_Follow.f shops2.1 shops2.2 5 = some (3, 2, 0) := by kernel_rfl
theorem idx4 : trade_May.f shops2.1 shops2.2 ⟨#[109]⟩ = some ([3, 4], 0) := by kernel_rfl
theorem idx5 : trade_Short.f shops2.1 shops2.2 1 = some (⟨#[98, 111]⟩, 0) := by kernel_rfl
theorem idx3 : trade_Join.f shops2.1 shops2.2 3 2 = some ([[2, 4], [3, 2]], 0) := by kernel_rfl

/-! ### the sorted list, by insertion: it reduces -/
def insS (x : ByteArray) : List ByteArray → List ByteArray
  | [] => [x]
  | y :: l => if sLt y x = true then y :: insS x l else x :: y :: l
def sortI : List ByteArray → List ByteArray
  | [] => []
  | x :: l => insS x (sortI l)
theorem insS_perm (x : ByteArray) : ∀ l, (insS x l).Perm (x :: l)
  | [] => List.Perm.refl _
  | y :: l => by
    unfold insS
    split
    · exact ((insS_perm x l).cons y).trans (List.Perm.swap x y l)
    · exact List.Perm.refl _
theorem sortI_perm : ∀ l, (sortI l).Perm l
  | [] => List.Perm.refl _
  | x :: l => (insS_perm x (sortI l)).trans ((sortI_perm l).cons x)
theorem sLt_trans {x y z : ByteArray} (h : sLt x y = true) (h2 : sLt y z = true) : sLt x z = true := bl_trans _ _ _ h h2
theorem sLt_asymm {x y : ByteArray} (h : sLt x y = true) : sLt y x = false := by
  cases h2 : sLt y x with
  | false => rfl
  | true =>
    have := sLt_trans h h2
    rw [show sLt x x = false from bl_irrefl _] at this
    cases this
theorem le_trans' {x y z : ByteArray} (h : sLt y x = false) (h2 : sLt z y = false) : sLt z x = false := by
  cases h3 : sLt z x with
  | false => rfl
  | true =>
    cases h4 : sLt x y with
    | true => rw [sLt_trans h3 h4] at h2; cases h2
    | false =>
      have := sLt_total h4 h
      subst this
      rw [h3] at h2; cases h2
theorem insS_sorted (x : ByteArray) : ∀ l : List ByteArray, l.Pairwise (fun a b => (!sLt b a) = true) → (insS x l).Pairwise (fun a b => (!sLt b a) = true)
  | [], _ => by simp [insS]
  | y :: l, h => by
    obtain ⟨h1, h2⟩ := List.pairwise_cons.1 h
    unfold insS
    split
    · rename_i hy
      refine List.pairwise_cons.2 ⟨fun b hb => ?_, insS_sorted x l h2⟩
      rcases List.mem_cons.1 ((insS_perm x l).mem_iff.1 hb) with rfl | hb
      · rw [sLt_asymm hy]; rfl
      · exact h1 b hb
    · rename_i hy
      have hy2 : sLt y x = false := by simpa using hy
      refine List.pairwise_cons.2 ⟨fun b hb => ?_, h⟩
      rcases List.mem_cons.1 hb with rfl | hb
      · rw [hy2]; rfl
      · have := h1 b hb
        rw [le_trans' hy2 (by simpa using this)]; rfl
theorem sortI_sorted : ∀ l : List ByteArray, (sortI l).Pairwise (fun a b => (!sLt b a) = true)
  | [] => List.Pairwise.nil
  | x :: l => insS_sorted x _ (sortI_sorted l)
theorem sortW_eq (l : List ByteArray) : sortW l = sortI l := by
  refine List.Perm.eq_of_pairwise (le := fun x y => (!sLt y x) = true) ?_ ?_ (sortI_sorted l) ((List.mergeSort_perm _ _).trans (sortI_perm l).symm)
  · intro a b _ _ h1 h2
    simp only [Bool.not_eq_true'] at h1 h2
    exact sLt_total h2 h1
  · refine List.pairwise_mergeSort ?_ ?_ l
    · intro a b c h1 h2
      simp only [Bool.not_eq_true'] at *
      exact le_trans' h1 h2
    · intro a b
      cases h : sLt b a with
      | false => rfl
      | true => rw [sLt_asymm h]; rfl
theorem idx6 : trade_Compare.f shops2.1 shops2.2 later2.1 later2.2 = some ([⟨⟨#[99, 111, 110, 102, 101, 99, 116, 105, 111, 110, 101, 114]⟩, 1⟩, ⟨⟨#[104, 97, 116, 116, 101, 114]⟩, 3⟩, ⟨⟨#[105, 114, 111, 110, 109, 111, 110, 103, 101, 114]⟩, 2⟩], 0) := by
  unfold trade_Compare.f movesT wordsT
  rw [sortW_eq]
  kernel_rfl
end Go.Proofs.Ytfbimhnlcmdcpaa.Pa
/- The contracts of the statements' own trades of the chapter (shops, later). -/
namespace Go.Proofs.Ytfbimhnlcmdcpaa.Pa
open Go.RowKit Go.Proofs.YtfbimhnlcmdcpaaW.PrintWords Go.Proofs.YtfbimhnlcmdcpaaW.PrintLast Go.Proofs.YtfbimhnlcmdcpaaW.PrintMore
set_option linter.unusedVariables false
set_option linter.unusedSimpArgs false

/-- What a call that gives the trades of the chapter leaves. -/
def Shop (W : World) (w' : World) (e : Ending) (C : List Cl) (H : List Hd) : Prop := ∃ A0 c0 A1 c1, e = .returned (.agg #[.slice A0 C.length c0, .slice A1 H.length c1]) ∧ C.length ≤ c0 ∧ H.length ≤ c1 ∧ Kd.C k51 w' A0 C.length C ∧ Kd.C k39 w' A1 H.length H ∧ Below W.heap.size W w'
def ShopR (W : World) (w' : World) (e : Ending) (C : List Cl) (H : List Hd) : Prop := ∃ v0 v1, e = .returned (.agg #[v0, v1]) ∧ Kd.R k51 51 w' W.heap.size (fun _ => True) v0 C ∧ Kd.R k39 39 w' W.heap.size (fun _ => True) v1 H ∧ Below W.heap.size W w'
theorem ShopR.shop {W w' : World} {e : Ending} {C : List Cl} {H : List Hd} (h : ShopR W w' e C H) : Shop W w' e C H := by
  obtain ⟨v0, v1, rfl, h0, h1, hb⟩ := h
  obtain ⟨A0, c0, rfl, hl0, hC0⟩ := Kd.R_reads h0
  obtain ⟨A1, c1, rfl, hl1, hC1⟩ := Kd.R_reads h1
  exact ⟨A0, c0, A1, c1, rfl, hl0, hl1, hC0, hC1, hb⟩
theorem is_any (a : ByteArray) (c : Int) (A : Option Addr) (n k : Nat) (W : World) :
    Calls Try.prog 70 #[.string a, .int .i64 c, .slice A n k] W fun e w' => e = .returned (.agg #[.string a, .int .i64 c, .int .i64 (-1), .slice A n k]) ∧ Below W.heap.size W w' := by
  have hu := Try.underlying39
  go_enter Try.func70, Try.ntmps70
  go_wp2
  refine bodyPost_ret (v := .agg #[.string a, .int .i64 c, .int .i64 (-1), .slice A n k]) (by simp [results, Try.results70, go_sem, hu]) rfl ⟨rfl, ?_⟩
  exact (Below.refl _ _).alloc (Nat.le_refl _) _
theorem see_any (a : ByteArray) (c : Int) (W : World) :
    Calls Try.prog 71 #[.string a, .int .i64 c] W fun e w' => e = .returned (.agg #[.string a, .int .i64 (-1), .int .i64 c, .slice none 0 0]) ∧ Below W.heap.size W w' := by
  have hu := Try.underlying39
  go_enter Try.func71, Try.ntmps71
  go_wp2
  refine bodyPost_ret (v := .agg #[.string a, .int .i64 (-1), .int .i64 c, .slice none 0 0]) (by simp [results, Try.results71, go_sem, hu]) rfl ⟨rfl, ?_⟩
  exact (Below.refl _ _).alloc (Nat.le_refl _) _
theorem shops_C : shops2.1 = [⟨⟨#[102, 111, 111, 100]⟩, -1⟩, ⟨⟨#[98, 114, 101, 97, 100]⟩, 0⟩, ⟨⟨#[99, 108, 111, 116, 104]⟩, -1⟩, ⟨⟨#[104, 97, 116, 115]⟩, 2⟩] := by kernel_rfl
theorem shops_H : shops2.2 = [⟨⟨#[98, 97, 107, 101, 114]⟩, 1, -1, []⟩, ⟨⟨#[98, 111, 110, 110, 101, 116, 115]⟩, -1, 3, []⟩, ⟨⟨#[99, 111, 110, 102, 101, 99, 116, 105, 111, 110, 101, 114]⟩, 0, -1, [0]⟩, ⟨⟨#[104, 97, 116, 116, 101, 114]⟩, 3, -1, []⟩, ⟨⟨#[109, 101, 114, 99, 101, 114]⟩, 2, -1, [3]⟩, ⟨⟨#[109, 105, 108, 108, 105, 110, 101, 114]⟩, -1, 1, []⟩] := by kernel_rfl
theorem later_C : later2.1 = [⟨⟨#[102, 111, 111, 100]⟩, -1⟩, ⟨⟨#[98, 114, 101, 97, 100]⟩, 0⟩, ⟨⟨#[99, 108, 111, 116, 104]⟩, -1⟩, ⟨⟨#[104, 97, 116, 115]⟩, 2⟩] := by kernel_rfl
theorem later_H : later2.2 = [⟨⟨#[98, 97, 107, 101, 114]⟩, 1, -1, []⟩, ⟨⟨#[98, 111, 110, 110, 101, 116, 115]⟩, -1, 2, []⟩, ⟨⟨#[104, 97, 116, 116, 101, 114]⟩, 2, -1, []⟩, ⟨⟨#[105, 114, 111, 110, 109, 111, 110, 103, 101, 114]⟩, 0, -1, []⟩, ⟨⟨#[109, 101, 114, 99, 101, 114]⟩, 2, -1, [2]⟩, ⟨⟨#[109, 105, 108, 108, 105, 110, 101, 114]⟩, -1, 1, []⟩] := by kernel_rfl
/-- A row just made is a row of the call's own. -/
theorem R_made' {α : Type} (d : Kd α) (base e : Nat) (W : World) {xs : List α} {inner : List Value} {okp : Nat → Prop} (hrep : Reps (d.M W base okp) d.sz xs inner) (hbase : base ≤ W.heap.size) (hm : xs.length ≤ 9223372036854775807) :
    d.R e (W.alloc (.cells inner.toArray e)) base (fun _ => True) (.slice (some ⟨W.heap.size, 0, none⟩) xs.length xs.length) xs := by
  refine ⟨fun _ _ => trivial, inner, ?_, ?_⟩
  · have h2 := World.ownsRow_lit (base := base) (e := e) (size := d.sz) W inner.toArray xs.length hbase (by simpa [maxLen] using hm) (by simpa using hrep.1)
    simpa using h2
  · refine hrep.imp_ (fun p c hp => d.M_mono (fun k hk => ⟨trivial, fun he => ?_⟩) (Kd.M_below (d.M_bound hp) (below_alloc (Below.refl _ _) _)))
    have h3 : k = W.heap.size := by simpa [Value.ownBlock] using he
    have := hk.2.1
    omega
theorem made_one' (W : World) (base : Nat) (hb : base ≤ W.heap.size) (x : Int) : (Kd.int .i64).R 3 (W.alloc (.cells #[.int .i64 x] 3)) base (fun _ => True) (.slice (some ⟨W.heap.size, 0, none⟩) 1 1) [x] :=
  R_made' (Kd.int .i64) base 3 W (okp := fun _ => True) (xs := [x]) (inner := [.int .i64 x]) (Kd.reps_scalar [x]) hb (by simp)
theorem trades_store {W : World} {r base : Nat} {x0 x1 v0 v1 : Value} {cs : List Cl} {out : List Hd} (hr : W.heap[r]? = some (.cells #[x0, x1] 26 (0, 0))) (h0 : Kd.R k51 51 W base (fun _ => True) v0 cs) (h1 : Kd.R k39 39 W base (fun _ => True) v1 out) :
    ((W.setCell ⟨r, 0, none⟩ v0).setCell ⟨r, 1, none⟩ v1).heap[r]? = some (.cells #[v0, v1] 26 (0, 0)) ∧ Kd.R k51 51 ((W.setCell ⟨r, 0, none⟩ v0).setCell ⟨r, 1, none⟩ v1) base (fun _ => True) v0 cs ∧ Kd.R k39 39 ((W.setCell ⟨r, 0, none⟩ v0).setCell ⟨r, 1, none⟩ v1) base (fun _ => True) v1 out := by
  have hb1 := blk_put hr 0 v0 (cs' := #[v0, x1]) rfl
  have g0 := Kd.R_far (p := ⟨r, 0, none⟩) (Kd.R_types h0 hr (by decide)) (fun k hk => hk.2) v0
  have g1 := Kd.R_far (p := ⟨r, 0, none⟩) (Kd.R_types h1 hr (by decide)) (fun k hk => hk.2) v0
  exact ⟨blk_put hb1 1 v1 rfl, Kd.R_mono (Kd.R_far (p := ⟨r, 1, none⟩) g0 (fun k hk => hk.2) v1) (fun _ _ => trivial), Kd.R_mono (Kd.R_far (p := ⟨r, 1, none⟩) g1 (fun k hk => hk.2) v1) (fun _ _ => trivial)⟩
set_option maxHeartbeats 8000000 in
set_option maxRecDepth 100000 in
theorem shops_R (W : World) : Calls Try.prog 45 #[] W fun e w' => ShopR W w' e shops2.1 shops2.2 := by
  have hu := Try.underlying26
  rw [shops_C, shops_H]
  go_enter Try.func45, Try.ntmps45
  go_wp2_with (first
    | (go_at_call 70; (with_reducible refine (is_any ⟨#[98, 97, 107, 101, 114]⟩ _ _ _ _ _).mono ?_); rintro e wa ⟨rfl, hwa⟩)
    | (go_at_call 71; (with_reducible refine (see_any ⟨#[98, 111, 110, 110, 101, 116, 115]⟩ _ _).mono ?_); rintro e wb ⟨rfl, hwb⟩)
    | (go_at_call 70; (with_reducible refine (is_any ⟨#[99, 111, 110, 102, 101, 99, 116, 105, 111, 110, 101, 114]⟩ _ _ _ _ _).mono ?_); rintro e wc ⟨rfl, hwc⟩)
    | (go_at_call 70; (with_reducible refine (is_any ⟨#[104, 97, 116, 116, 101, 114]⟩ _ _ _ _ _).mono ?_); rintro e wd ⟨rfl, hwd⟩)
    | (go_at_call 70; (with_reducible refine (is_any ⟨#[109, 101, 114, 99, 101, 114]⟩ _ _ _ _ _).mono ?_); rintro e we ⟨rfl, hwe⟩)
    | (go_at_call 71; (with_reducible refine (see_any ⟨#[109, 105, 108, 108, 105, 110, 101, 114]⟩ _ _).mono ?_); rintro e wf ⟨rfl, hwf⟩; have hr := blk_below (blk_below (blk_alloc (blk_below (blk_below (blk_alloc (blk_below (blk_below (blk_alloc (heap_alloc_new W (.cells #[.slice none 0 0, .slice none 0 0] 26)) _) hwa) hwb) (.cells #[.int .i64 0] 3)) hwc) hwd) (.cells #[.int .i64 3] 3)) hwe) hwf; have c0 := fun o => (blk_cell (blk_alloc hr o) 0).trans rfl; have c1 := fun o => (blk_cell (blk_alloc hr o) 1).trans rfl; have f0 := fun o => blk_frozen (blk_alloc hr o) 0; have f1 := fun o => blk_frozen (blk_alloc hr o) 1)
    )
  have b0 : Below W.heap.size W (W.alloc (.cells #[.slice none 0 0, .slice none 0 0] 26)) := below_alloc (Below.refl _ _) _
  have b1 := below_step b0 (below_alloc (Below.refl _ _) (.cells #[.string ⟨#[102, 111, 111, 100]⟩, .int .i64 (-1), .string ⟨#[98, 114, 101, 97, 100]⟩, .int .i64 (0), .string ⟨#[99, 108, 111, 116, 104]⟩, .int .i64 (-1), .string ⟨#[104, 97, 116, 115]⟩, .int .i64 (2)] 51))
  have b2 := below_step (below_step b1 hwa) hwb
  have b3 := below_step b2 (below_alloc (Below.refl _ _) (.cells #[.int .i64 0] 3))
  have b4 := below_step (below_step b3 hwc) hwd
  have b5 := below_step b4 (below_alloc (Below.refl _ _) (.cells #[.int .i64 3] 3))
  have b6 := below_step (below_step b5 hwe) hwf
  have i1 := Kd.R_below (Kd.R_below (made_one' wd W.heap.size b4.size 3) hwe) hwf
  have i0 := Kd.R_below (Kd.R_below (Kd.R_below (Kd.R_below (Kd.R_below (made_one' wb W.heap.size b2.size 0) hwc) hwd) (below_alloc (Below.refl _ _) (.cells #[.int .i64 3] 3))) hwe) hwf
  have hC := Kd.R_below (Kd.R_below (Kd.R_below (Kd.R_below (Kd.R_below (Kd.R_below (Kd.R_below (Kd.R_below (Kd.R_below (R_made' k51 W.heap.size 51 _ (okp := fun _ => True) (xs := [⟨⟨#[102, 111, 111, 100]⟩, -1⟩, ⟨⟨#[98, 114, 101, 97, 100]⟩, 0⟩, ⟨⟨#[99, 108, 111, 116, 104]⟩, -1⟩, ⟨⟨#[104, 97, 116, 115]⟩, 2⟩]) (inner := [.string ⟨#[102, 111, 111, 100]⟩, .int .i64 (-1), .string ⟨#[98, 114, 101, 97, 100]⟩, .int .i64 (0), .string ⟨#[99, 108, 111, 116, 104]⟩, .int .i64 (-1), .string ⟨#[104, 97, 116, 115]⟩, .int .i64 (2)]) (Reps.c2 (k51_mkM _ _ _ _) (Reps.c2 (k51_mkM _ _ _ _) (Reps.c2 (k51_mkM _ _ _ _) (Reps.c2 (k51_mkM _ _ _ _) (Reps.none _ _))))) b0.size (by simp)) hwa) hwb) (below_alloc (Below.refl _ _) (.cells #[.int .i64 0] 3))) hwc) hwd) (below_alloc (Below.refl _ _) (.cells #[.int .i64 3] 3))) hwe) hwf) (below_alloc (Below.refl _ _) (.cells #[.string ⟨#[98, 97, 107, 101, 114]⟩, .int .i64 (1), .int .i64 (-1), .slice none 0 0, .string ⟨#[98, 111, 110, 110, 101, 116, 115]⟩, .int .i64 (-1), .int .i64 (3), .slice none 0 0, .string ⟨#[99, 111, 110, 102, 101, 99, 116, 105, 111, 110, 101, 114]⟩, .int .i64 (0), .int .i64 (-1), .slice (some ⟨wb.heap.size, 0, none⟩) 1 1, .string ⟨#[104, 97, 116, 116, 101, 114]⟩, .int .i64 (3), .int .i64 (-1), .slice none 0 0, .string ⟨#[109, 101, 114, 99, 101, 114]⟩, .int .i64 (2), .int .i64 (-1), .slice (some ⟨wd.heap.size, 0, none⟩) 1 1, .string ⟨#[109, 105, 108, 108, 105, 110, 101, 114]⟩, .int .i64 (-1), .int .i64 (1), .slice none 0 0] 39))
  have hH := R_made' k39 W.heap.size 39 wf (okp := fun _ => True) (xs := [⟨⟨#[98, 97, 107, 101, 114]⟩, 1, -1, []⟩, ⟨⟨#[98, 111, 110, 110, 101, 116, 115]⟩, -1, 3, []⟩, ⟨⟨#[99, 111, 110, 102, 101, 99, 116, 105, 111, 110, 101, 114]⟩, 0, -1, [0]⟩, ⟨⟨#[104, 97, 116, 116, 101, 114]⟩, 3, -1, []⟩, ⟨⟨#[109, 101, 114, 99, 101, 114]⟩, 2, -1, [3]⟩, ⟨⟨#[109, 105, 108, 108, 105, 110, 101, 114]⟩, -1, 1, []⟩]) (inner := [.string ⟨#[98, 97, 107, 101, 114]⟩, .int .i64 (1), .int .i64 (-1), .slice none 0 0, .string ⟨#[98, 111, 110, 110, 101, 116, 115]⟩, .int .i64 (-1), .int .i64 (3), .slice none 0 0, .string ⟨#[99, 111, 110, 102, 101, 99, 116, 105, 111, 110, 101, 114]⟩, .int .i64 (0), .int .i64 (-1), .slice (some ⟨wb.heap.size, 0, none⟩) 1 1, .string ⟨#[104, 97, 116, 116, 101, 114]⟩, .int .i64 (3), .int .i64 (-1), .slice none 0 0, .string ⟨#[109, 101, 114, 99, 101, 114]⟩, .int .i64 (2), .int .i64 (-1), .slice (some ⟨wd.heap.size, 0, none⟩) 1 1, .string ⟨#[109, 105, 108, 108, 105, 110, 101, 114]⟩, .int .i64 (-1), .int .i64 (1), .slice none 0 0]) (Reps.c4 (k39_mkM _ _ _ _ (Kd.R_nil _ _ _ _ _)) (Reps.c4 (k39_mkM _ _ _ _ (Kd.R_nil _ _ _ _ _)) (Reps.c4 (k39_mkM _ _ _ _ (i0)) (Reps.c4 (k39_mkM _ _ _ _ (Kd.R_nil _ _ _ _ _)) (Reps.c4 (k39_mkM _ _ _ _ (i1)) (Reps.c4 (k39_mkM _ _ _ _ (Kd.R_nil _ _ _ _ _)) (Reps.none _ _))))))) b6.size (by simp)
  simp only [List.length_cons, List.length_nil, Nat.zero_add, Nat.reduceAdd, World.size_alloc] at hC hH
  obtain ⟨hq, hR, hS⟩ := trades_store (blk_alloc hr _) hC hH
  refine bodyPost_ret (results_cell_row rfl _ _ W.heap.size 26 _ (0, 0) _ rfl hq hu rfl (by kernel_rfl)) rfl ?_
  refine ⟨_, _, rfl, hR, hS, ?_⟩
  exact below_set (below_set (below_step b6 (below_alloc (Below.refl _ _) _)) (Nat.le_refl _)) (Nat.le_refl _)
theorem shops_any (W : World) : Calls Try.prog 45 #[] W fun e w' => Shop W w' e shops2.1 shops2.2 := (shops_R W).mono fun _ _ h => h.shop
set_option maxHeartbeats 8000000 in
set_option maxRecDepth 100000 in
theorem later_any (W : World) : Calls Try.prog 47 #[] W fun e w' => Shop W w' e later2.1 later2.2 := by
  have hu := Try.underlying26
  rw [later_C, later_H, ← shops_C]
  obtain ⟨C, hCe⟩ : ∃ C, shops2.1 = C := ⟨_, rfl⟩
  have HS := shops_R
  rw [hCe]
  simp only [hCe] at HS
  clear hCe
  go_enter Try.func47, Try.ntmps47
  go_upto_region 2 with (go_at_call 45; (with_reducible refine (HS _).mono ?_); rintro e ws ⟨v0, v1, rfl, hC, hH0, hbs⟩; obtain ⟨A0, c0, rfl⟩ := Kd.R_slice hC; obtain ⟨A1, c1, rfl⟩ := Kd.R_slice hH0)
  have b0 : Below W.heap.size W (W.alloc (.cells #[.slice none 0 0, .slice none 0 0] 26)) := below_alloc (Below.refl _ _) _
  have hrs := blk_below (heap_alloc_new W (.cells #[.slice none 0 0, .slice none 0 0] 26)) hbs
  have b1 := below_step b0 hbs
  have b2 := below_step b1 (below_alloc (Below.refl _ _) (.cells #[.slice A0 C.length c0, .slice A1 shops2.2.length c1] 26))
  have hx := heap_alloc_new ws (.cells #[.slice A0 C.length c0, .slice A1 shops2.2.length c1] 26)
  have hr2 := blk_alloc hrs (.cells #[.slice A0 C.length c0, .slice A1 shops2.2.length c1] 26)
  have hC2 := Kd.R_below (Kd.R_lower hC b0.size) (below_alloc (Below.refl _ _) (.cells #[.slice A0 C.length c0, .slice A1 shops2.2.length c1] 26))
  have hrx : W.heap.size ≠ ws.heap.size := by have := b1.size; have := hbs.size; simp only [World.size_alloc] at this; omega
  have hxs := b1.size
  obtain ⟨xb, hxb⟩ : ∃ b, ws.heap.size = b := ⟨_, rfl⟩
  obtain ⟨w2, hw2⟩ : ∃ w2, w2 = ws.alloc (.cells #[.slice A0 C.length c0, .slice A1 shops2.2.length c1] 26) := ⟨_, rfl⟩
  rw [← hw2] at hC2 b2
  rw [← hw2, hxb] at hx
  rw [← hw2] at hr2
  rw [hxb] at hrx hxs
  rw [← hw2, hxb]
  clear hw2 hxb hC hH0 hbs hrs b1
  go_wp2_with (first
    | (go_at_call 70; (with_reducible refine (is_any ⟨#[98, 97, 107, 101, 114]⟩ _ _ _ _ _).mono ?_); rintro e wa ⟨rfl, hwa⟩)
    | (go_at_call 71; (with_reducible refine (see_any ⟨#[98, 111, 110, 110, 101, 116, 115]⟩ _ _).mono ?_); rintro e wb ⟨rfl, hwb⟩)
    | (go_at_call 70; (with_reducible refine (is_any ⟨#[104, 97, 116, 116, 101, 114]⟩ _ _ _ _ _).mono ?_); rintro e wc ⟨rfl, hwc⟩)
    | (go_at_call 70; (with_reducible refine (is_any ⟨#[105, 114, 111, 110, 109, 111, 110, 103, 101, 114]⟩ _ _ _ _ _).mono ?_); rintro e wd ⟨rfl, hwd⟩)
    | (go_at_call 70; (with_reducible refine (is_any ⟨#[109, 101, 114, 99, 101, 114]⟩ _ _ _ _ _).mono ?_); rintro e we ⟨rfl, hwe⟩)
    | (go_at_call 71; (with_reducible refine (see_any ⟨#[109, 105, 108, 108, 105, 110, 101, 114]⟩ _ _).mono ?_); rintro e wf ⟨rfl, hwf⟩; have hr := blk_below (blk_below (blk_alloc (blk_below (blk_below (blk_below (blk_below hr2 hwa) hwb) hwc) hwd) (.cells #[.int .i64 2] 3)) hwe) hwf; have hq := blk_below (blk_below (blk_alloc (blk_below (blk_below (blk_below (blk_below hx hwa) hwb) hwc) hwd) (.cells #[.int .i64 2] 3)) hwe) hwf; have p0 := fun o => (blk_cell (blk_alloc hq o) 0).trans rfl; have p1 := fun o => (blk_cell (blk_alloc hq o) 1).trans rfl; have f0 := fun o => blk_frozen (blk_alloc hq o) 1; have q0 := fun o v => (blk_cell (blk_far (blk_alloc hr o) (p := ⟨xb, 1, none⟩) hrx v) 0).trans rfl; have q1 := fun o v => (blk_cell (blk_far (blk_alloc hr o) (p := ⟨xb, 1, none⟩) hrx v) 1).trans rfl; have g0 := fun o v => blk_frozen (blk_far (blk_alloc hr o) (p := ⟨xb, 1, none⟩) hrx v) 0; have g1 := fun o v => blk_frozen (blk_far (blk_alloc hr o) (p := ⟨xb, 1, none⟩) hrx v) 1; have m0 := fun o v => (blk_cell (blk_put (blk_alloc hq o) 1 v (cs' := #[.slice A0 C.length c0, v]) rfl) 0).trans rfl; have m1 := fun o v => (blk_cell (blk_put (blk_alloc hq o) 1 v (cs' := #[.slice A0 C.length c0, v]) rfl) 1).trans rfl)
    )
  have b4 := below_step (below_step (below_step (below_step b2 hwa) hwb) hwc) hwd
  have b6 := below_step (below_step (below_step b4 (below_alloc (Below.refl _ _) (.cells #[.int .i64 2] 3))) hwe) hwf
  have i1 := Kd.R_below (Kd.R_below (made_one' wd W.heap.size b4.size 2) hwe) hwf
  have hC := Kd.R_below (Kd.R_below (Kd.R_below (Kd.R_below (Kd.R_below (Kd.R_below (Kd.R_below (Kd.R_below hC2 hwa) hwb) hwc) hwd) (below_alloc (Below.refl _ _) (.cells #[.int .i64 2] 3))) hwe) hwf) (below_alloc (Below.refl _ _) (.cells #[.string ⟨#[98, 97, 107, 101, 114]⟩, .int .i64 (1), .int .i64 (-1), .slice none 0 0, .string ⟨#[98, 111, 110, 110, 101, 116, 115]⟩, .int .i64 (-1), .int .i64 (2), .slice none 0 0, .string ⟨#[104, 97, 116, 116, 101, 114]⟩, .int .i64 (2), .int .i64 (-1), .slice none 0 0, .string ⟨#[105, 114, 111, 110, 109, 111, 110, 103, 101, 114]⟩, .int .i64 (0), .int .i64 (-1), .slice none 0 0, .string ⟨#[109, 101, 114, 99, 101, 114]⟩, .int .i64 (2), .int .i64 (-1), .slice (some ⟨wd.heap.size, 0, none⟩) 1 1, .string ⟨#[109, 105, 108, 108, 105, 110, 101, 114]⟩, .int .i64 (-1), .int .i64 (1), .slice none 0 0] 39))
  have hH := R_made' k39 W.heap.size 39 wf (okp := fun _ => True) (xs := [⟨⟨#[98, 97, 107, 101, 114]⟩, 1, -1, []⟩, ⟨⟨#[98, 111, 110, 110, 101, 116, 115]⟩, -1, 2, []⟩, ⟨⟨#[104, 97, 116, 116, 101, 114]⟩, 2, -1, []⟩, ⟨⟨#[105, 114, 111, 110, 109, 111, 110, 103, 101, 114]⟩, 0, -1, []⟩, ⟨⟨#[109, 101, 114, 99, 101, 114]⟩, 2, -1, [2]⟩, ⟨⟨#[109, 105, 108, 108, 105, 110, 101, 114]⟩, -1, 1, []⟩]) (inner := [.string ⟨#[98, 97, 107, 101, 114]⟩, .int .i64 (1), .int .i64 (-1), .slice none 0 0, .string ⟨#[98, 111, 110, 110, 101, 116, 115]⟩, .int .i64 (-1), .int .i64 (2), .slice none 0 0, .string ⟨#[104, 97, 116, 116, 101, 114]⟩, .int .i64 (2), .int .i64 (-1), .slice none 0 0, .string ⟨#[105, 114, 111, 110, 109, 111, 110, 103, 101, 114]⟩, .int .i64 (0), .int .i64 (-1), .slice none 0 0, .string ⟨#[109, 101, 114, 99, 101, 114]⟩, .int .i64 (2), .int .i64 (-1), .slice (some ⟨wd.heap.size, 0, none⟩) 1 1, .string ⟨#[109, 105, 108, 108, 105, 110, 101, 114]⟩, .int .i64 (-1), .int .i64 (1), .slice none 0 0]) (Reps.c4 (k39_mkM _ _ _ _ (Kd.R_nil _ _ _ _ _)) (Reps.c4 (k39_mkM _ _ _ _ (Kd.R_nil _ _ _ _ _)) (Reps.c4 (k39_mkM _ _ _ _ (Kd.R_nil _ _ _ _ _)) (Reps.c4 (k39_mkM _ _ _ _ (Kd.R_nil _ _ _ _ _)) (Reps.c4 (k39_mkM _ _ _ _ (i1)) (Reps.c4 (k39_mkM _ _ _ _ (Kd.R_nil _ _ _ _ _)) (Reps.none _ _))))))) b6.size (by simp)
  simp only [List.length_cons, List.length_nil, Nat.zero_add, Nat.reduceAdd, World.size_alloc] at hH
  have hC' := Kd.R_mono (Kd.R_far (p := ⟨xb, 1, none⟩) (Kd.R_types hC (blk_alloc hq _) (by decide)) (fun k hk => hk.2) (.slice (some ⟨wf.heap.size, 0, none⟩) 6 6)) (fun _ _ => trivial)
  have hH' := Kd.R_mono (Kd.R_far (p := ⟨xb, 1, none⟩) (Kd.R_types hH (blk_alloc hq _) (by decide)) (fun k hk => hk.2) (.slice (some ⟨wf.heap.size, 0, none⟩) 6 6)) (fun _ _ => trivial)
  obtain ⟨hqq, hR, hS⟩ := trades_store (blk_far (blk_alloc hr _) (p := ⟨xb, 1, none⟩) hrx _) hC' hH'
  refine bodyPost_ret (results_cell_row rfl _ _ W.heap.size 26 _ (0, 0) _ rfl hqq hu rfl (by kernel_rfl)) rfl ?_
  refine ShopR.shop ⟨_, _, rfl, hR, hS, ?_⟩
  exact below_set (below_set (below_set (below_step b6 (below_alloc (Below.refl _ _) _)) hxs) (Nat.le_refl _)) (Nat.le_refl _)
end Go.Proofs.Ytfbimhnlcmdcpaa.Pa
/- The chapter's examples have their results. -/
namespace Go.Proofs.Ytfbimhnlcmdcpaa.Pa
open Go.RowKit Go.Proofs.YtfbimhnlcmdcpaaW.PrintWords Go.Proofs.YtfbimhnlcmdcpaaW.PrintLast Go.Proofs.YtfbimhnlcmdcpaaW.PrintMore
set_option linter.unusedVariables false
set_option linter.unusedSimpArgs false

/-- A row just made is a row of the call's own. -/
theorem R_made {α : Type} (d : Kd α) (base e : Nat) (W : World) {xs : List α} {inner : List Value} {okp : Nat → Prop} (hrep : Reps (d.M W base okp) d.sz xs inner) (hbase : base ≤ W.heap.size) (hm : xs.length ≤ 9223372036854775807) :
    d.R e (W.alloc (.cells inner.toArray e)) base (fun _ => True) (.slice (some ⟨W.heap.size, 0, none⟩) xs.length xs.length) xs := by
  refine ⟨fun _ _ => trivial, inner, ?_, ?_⟩
  · have h2 := World.ownsRow_lit (base := base) (e := e) (size := d.sz) W inner.toArray xs.length hbase (by simpa [maxLen] using hm) (by simpa using hrep.1)
    simpa using h2
  · refine hrep.imp_ (fun p c hp => d.M_mono (fun k hk => ⟨trivial, fun he => ?_⟩) (Kd.M_below (d.M_bound hp) (below_alloc (Below.refl _ _) _)))
    have h3 : k = W.heap.size := by simpa [Value.ownBlock] using he
    have := hk.2.1
    omega
theorem C_made {α : Type} {d : Kd α} {base e : Nat} {W : World} {xs : List α} {A : Option Addr} {n c : Nat} (h : d.R e W base (fun _ => True) (.slice A n c) xs) : d.C W A xs.length xs := (Kd.R_reads' h).2.2
theorem reps_ints (W : World) (base : Nat) (okp : Nat → Prop) (l : List Int) : Reps ((Kd.int .i64).M W base okp) 1 l (nums .i64 l) := Kd.reps_scalar l
theorem made_ints (W : World) (base : Nat) (hb : base ≤ W.heap.size) (l : List Int) (hm : l.length ≤ 9223372036854775807) :
    (Kd.int .i64).R 3 (W.alloc (.cells (nums .i64 l).toArray 3)) base (fun _ => True) (.slice (some ⟨W.heap.size, 0, none⟩) l.length l.length) l :=
  R_made (Kd.int .i64) base 3 W (okp := fun _ => True) (reps_ints W base _ l) hb hm
theorem row_ints (W : World) (l : List Int) (hm : l.length ≤ 9223372036854775807) : (Kd.int .i64).C (W.alloc (.cells (nums .i64 l).toArray 3)) (some ⟨W.heap.size, 0, none⟩) l.length l := C_made (made_ints W W.heap.size (Nat.le_refl _) l hm)
theorem row_ints2 (W : World) (a b : List Int) (ha : a.length ≤ 9223372036854775807) (hb : b.length ≤ 9223372036854775807) :
    (Kd.slice 3 (Kd.int .i64)).C (((W.alloc (.cells (nums .i64 a).toArray 3)).alloc (.cells (nums .i64 b).toArray 3)).alloc (.cells #[.slice (some ⟨W.heap.size, 0, none⟩) a.length a.length, .slice (some ⟨W.heap.size + 1, 0, none⟩) b.length b.length] 22)) (some ⟨W.heap.size + 1 + 1, 0, none⟩) 2 [a, b] := by
  have h0 := made_ints W W.heap.size (Nat.le_refl _) a ha
  have h1 := made_ints (W.alloc (.cells (nums .i64 a).toArray 3)) W.heap.size (by simp) b hb
  have h0' := Kd.R_below h0 ((Below.refl _ _).alloc (Nat.le_refl _) (.cells (nums .i64 b).toArray 3))
  rw [World.size_alloc] at h1
  have hR := R_made (Kd.slice 3 (Kd.int .i64)) W.heap.size 22 _ (okp := fun _ => True) (xs := [a, b]) (inner := [_, _]) (Reps.one ⟨_, rfl, h0'⟩ (Reps.one ⟨_, rfl, h1⟩ (Reps.none _ _))) (by simp only [World.size_alloc]; omega) (by simp)
  have hC := C_made hR
  simpa using hC
theorem row_moves (W : World) (l : List (S47)) (hm : l.length ≤ 9223372036854775807) : k47.C (W.alloc (.cells (mvCells l).toArray 47)) (some ⟨W.heap.size, 0, none⟩) l.length l :=
  C_made (R_made k47 W.heap.size 47 W (okp := fun _ => True) (mv_reps W W.heap.size _ l) (Nat.le_refl _) hm)
theorem eqJ : wayzgoosekit_EqLists.f 10 [[2, 4], [3, 2]] [[2, 4], [3, 2]] = some true := by kernel_rfl
theorem eqM : wayzgoosekit_EqInts.f 10 [3, 4] [3, 4] = some true := by kernel_rfl
theorem eqP : wayzgoosekit_EqMoves.f 10 [⟨⟨#[99, 111, 110, 102, 101, 99, 116, 105, 111, 110, 101, 114]⟩, 1⟩, ⟨⟨#[104, 97, 116, 116, 101, 114]⟩, 3⟩, ⟨⟨#[105, 114, 111, 110, 109, 111, 110, 103, 101, 114]⟩, 2⟩] [⟨⟨#[99, 111, 110, 102, 101, 99, 116, 105, 111, 110, 101, 114]⟩, 1⟩, ⟨⟨#[104, 97, 116, 116, 101, 114]⟩, 3⟩, ⟨⟨#[105, 114, 111, 110, 109, 111, 110, 103, 101, 114]⟩, 2⟩] = some true := by kernel_rfl
theorem callJ (A B : Option Addr) (c : Nat) (W : World) (h0 : Kd.C (Kd.slice 3 (Kd.int .i64)) W A 2 [[2, 4], [3, 2]]) (h1 : 2 ≤ c) (h2 : Kd.C (Kd.slice 3 (Kd.int .i64)) W B 2 [[2, 4], [3, 2]]) : Calls Try.prog 48 #[.slice A 2 c, .slice B 2 2] W fun e w' => e = .returned (.bool true) ∧ Drawn0 W w' :=
  wayzgoosekit_EqLists.calls 10 A c [[2, 4], [3, 2]] B 2 [[2, 4], [3, 2]] true W h0 h1 h2 (Nat.le_refl _) eqJ
theorem callM (A B : Option Addr) (c : Nat) (W : World) (h0 : Kd.C (Kd.int .i64) W A 2 [3, 4]) (h1 : 2 ≤ c) (h2 : Kd.C (Kd.int .i64) W B 2 [3, 4]) : Calls Try.prog 49 #[.slice A 2 c, .slice B 2 2] W fun e w' => e = .returned (.bool true) ∧ Drawn0 W w' :=
  wayzgoosekit_EqInts.calls 10 A c [3, 4] B 2 [3, 4] true W h0 h1 h2 (Nat.le_refl _) eqM
theorem callP (A B : Option Addr) (c : Nat) (W : World) (h0 : Kd.C k47 W A 3 [⟨⟨#[99, 111, 110, 102, 101, 99, 116, 105, 111, 110, 101, 114]⟩, 1⟩, ⟨⟨#[104, 97, 116, 116, 101, 114]⟩, 3⟩, ⟨⟨#[105, 114, 111, 110, 109, 111, 110, 103, 101, 114]⟩, 2⟩]) (h1 : 3 ≤ c) (h2 : Kd.C k47 W B 3 [⟨⟨#[99, 111, 110, 102, 101, 99, 116, 105, 111, 110, 101, 114]⟩, 1⟩, ⟨⟨#[104, 97, 116, 116, 101, 114]⟩, 3⟩, ⟨⟨#[105, 114, 111, 110, 109, 111, 110, 103, 101, 114]⟩, 2⟩]) : Calls Try.prog 50 #[.slice A 3 c, .slice B 3 3] W fun e w' => e = .returned (.bool true) ∧ Drawn0 W w' :=
  wayzgoosekit_EqMoves.calls 10 A c [⟨⟨#[99, 111, 110, 102, 101, 99, 116, 105, 111, 110, 101, 114]⟩, 1⟩, ⟨⟨#[104, 97, 116, 116, 101, 114]⟩, 3⟩, ⟨⟨#[105, 114, 111, 110, 109, 111, 110, 103, 101, 114]⟩, 2⟩] B 3 [⟨⟨#[99, 111, 110, 102, 101, 99, 116, 105, 111, 110, 101, 114]⟩, 1⟩, ⟨⟨#[104, 97, 116, 116, 101, 114]⟩, 3⟩, ⟨⟨#[105, 114, 111, 110, 109, 111, 110, 103, 101, 114]⟩, 2⟩] true W h0 h1 h2 (Nat.le_refl _) eqP
def wayzgooselaw04_indexed.f : Option Bool := some true

set_option maxHeartbeats 4000000 in
set_option maxRecDepth 100000 in
theorem wayzgooselaw04_indexed.calls (r : Bool) (w : World) (h : wayzgooselaw04_indexed.f = some r) :
    Calls Try.prog 17 #[] w fun e w' => e = .returned (.bool r) ∧ Below w.heap.size w w' := by
  obtain rfl := Option.some.inj h
  clear h
  have HS := shops_any
  have HL := later_any
  have i1 := idx1
  have i2 := idx2
  have i3 := idx3
  have i4 := idx4
  have i5 := idx5
  have i6 := idx6
  generalize shops2.1 = C at *
  generalize shops2.2 = H at *
  generalize later2.1 = D at *
  generalize later2.2 = G at *
  have e1 := fun W (A0 : Option Addr) c0 A1 c1 h0 h1 h2 h3 => trade_Least.calls A0 c0 C A1 c1 H 1 0 0 0 W h0 h1 h2 h3 i1
  have e2 := fun W (A0 : Option Addr) c0 A1 c1 h0 h1 h2 h3 => trade_Follow.calls A0 c0 C A1 c1 H 5 3 2 0 W h0 h1 h2 h3 i2
  have e3 := fun W (A0 : Option Addr) c0 A1 c1 h0 h1 h2 h3 => trade_Join.calls A0 c0 C A1 c1 H 3 2 [[2, 4], [3, 2]] 0 W h0 h1 h2 h3 i3
  have e4 := fun W (A0 : Option Addr) c0 A1 c1 h0 h1 h2 h3 => trade_May.calls A0 c0 C A1 c1 H ⟨#[109]⟩ [3, 4] 0 W h0 h1 h2 h3 i4
  have e5 := fun W (A0 : Option Addr) c0 A1 c1 h0 h1 h2 h3 => trade_Short.calls A0 c0 C A1 c1 H 1 ⟨#[98, 111]⟩ 0 W h0 h1 h2 h3 i5
  have e6 := fun W (A0 : Option Addr) c0 A1 c1 (B0 : Option Addr) d0 B1 d1 h0 h1 h2 h3 h4 h5 h6 h7 => trade_Compare.calls A0 c0 C A1 c1 H B0 d0 D B1 d1 G [⟨⟨#[99, 111, 110, 102, 101, 99, 116, 105, 111, 110, 101, 114]⟩, 1⟩, ⟨⟨#[104, 97, 116, 116, 101, 114]⟩, 3⟩, ⟨⟨#[105, 114, 111, 110, 109, 111, 110, 103, 101, 114]⟩, 2⟩] 0 W h0 h1 h2 h3 h4 h5 h6 h7 i6
  clear i1 i2 i3 i4 i5 i6
  have hB0 := Below.refl w.heap.size w
  go_enter Try.func17, Try.ntmps17
  go_upto_region 2 with (first
    | (go_at_call 45; go_loud ((with_reducible refine (HS _).mono ?_); rintro e w1 ⟨A0, c0, A1, c1, rfl, h0, h1, h2, h3, hb1⟩; have hB1 := below_then hB0 hB0.size hb1))
    | (go_at_call 15; go_loud ((with_reducible refine (e1 _ _ _ _ _ h2 h0 h3 h1).mono ?_); rintro e w2 ⟨rfl, hb2⟩; have hB2 := below_then hB1 hB1.size hb2)))
  clear hB0 hB1 hb1 hb2 h0 h1 h2 h3 e1
  have hB0 := hB2; clear hB2
  go_upto_region 3 with (first
    | (go_at_call 45; go_loud ((with_reducible refine (HS _).mono ?_); rintro e w3 ⟨A0, c0, A1, c1, rfl, h0, h1, h2, h3, hb1⟩; have hB1 := below_then hB0 hB0.size hb1))
    | (go_at_call 18; go_loud ((with_reducible refine (e2 _ _ _ _ _ h2 h0 h3 h1).mono ?_); rintro e w4 ⟨rfl, hb2⟩; have hB2 := below_then hB1 hB1.size hb2)))
  clear hB0 hB1 hb1 hb2 h0 h1 h2 h3 e2
  have hB0 := hB2; clear hB2
  go_upto_region 4 with (first
    | (go_at_call 45; go_loud ((with_reducible refine (HS _).mono ?_); rintro e w5 ⟨A0, c0, A1, c1, rfl, h0, h1, h2, h3, hb1⟩; have hB1 := below_then hB0 hB0.size hb1))
    | (go_at_call 46; go_loud ((with_reducible refine (e3 _ _ _ _ _ h2 h0 h3 h1).mono ?_); rintro e w6 ⟨vJ, rfl, hRJ, hb2⟩; have hB2 := below_then hB1 hB1.size hb2)))
  obtain ⟨Ja, Jc, rfl, hlJ, hCJ⟩ := Kd.R_reads hRJ
  clear hRJ
  clear hB0 hB1 hb1 hb2 h0 h1 h2 h3 e3
  have hB0 := hB2; clear hB2
  go_upto_region 5 with (first
    | (go_at_call 45; go_loud ((with_reducible refine (HS _).mono ?_); rintro e w7 ⟨A0, c0, A1, c1, rfl, h0, h1, h2, h3, hb1⟩; have hB1 := below_then hB0 hB0.size hb1))
    | (go_at_call 19; go_loud ((with_reducible refine (e4 _ _ _ _ _ h2 h0 h3 h1).mono ?_); rintro e w8 ⟨vM, rfl, hRM, hb2⟩; have hB2 := below_then hB1 hB1.size hb2)))
  obtain ⟨Ma, Mc, rfl, hlM, hCM⟩ := Kd.R_reads hRM
  clear hRM
  replace hCJ := Kd.C_below (Kd.C_below hCJ hb1) hb2
  clear hB0 hB1 hb1 hb2 h0 h1 h2 h3 e4
  have hB0 := hB2; clear hB2
  go_upto_region 6 with (first
    | (go_at_call 45; go_loud ((with_reducible refine (HS _).mono ?_); rintro e w9 ⟨A0, c0, A1, c1, rfl, h0, h1, h2, h3, hb1⟩; have hB1 := below_then hB0 hB0.size hb1))
    | (go_at_call 27; go_loud ((with_reducible refine (e5 _ _ _ _ _ h2 h0 h3 h1).mono ?_); rintro e w10 ⟨rfl, hb2⟩; have hB2 := below_then hB1 hB1.size hb2)))
  replace hCJ := Kd.C_below (Kd.C_below hCJ hb1) hb2
  replace hCM := Kd.C_below (Kd.C_below hCM hb1) hb2
  clear hB0 hB1 hb1 hb2 h0 h1 h2 h3 e5
  have hB0 := hB2; clear hB2
  go_upto_region 7 with (first
    | (go_at_call 45; go_loud ((with_reducible refine (HS _).mono ?_); rintro e w11 ⟨A0, c0, A1, c1, rfl, h0, h1, h2, h3, hb1⟩; have hB1 := below_then hB0 hB0.size hb1))
    | (go_at_call 47; go_loud ((with_reducible refine (HL _).mono ?_); rintro e w12 ⟨B0, d0, B1, d1, rfl, h4, h5, h6, h7, hb2⟩; have hB2 := below_then hB1 hB1.size hb2; replace h2 := Kd.C_below h2 hb2; replace h3 := Kd.C_below h3 hb2))
    | (go_at_call 21; go_loud ((with_reducible refine (e6 _ _ _ _ _ _ _ _ _ h2 h0 h3 h1 h6 h4 h7 h5).mono ?_); rintro e w13 ⟨vP, rfl, hRP, hb3⟩; have hB3 := below_then hB2 hB2.size hb3)))
  obtain ⟨Pa, Pc, rfl, hlP, hCP⟩ := Kd.R_reads hRP
  clear hRP
  replace hCJ := Kd.C_below (Kd.C_below (Kd.C_below hCJ hb1) hb2) hb3
  replace hCM := Kd.C_below (Kd.C_below (Kd.C_below hCM hb1) hb2) hb3
  clear hB0 hB1 hb1 hb2 hb3 hB2 h0 h1 h2 h3 h4 h5 h6 h7 e6 HS HL
  change 2 ≤ Jc at hlJ
  change 2 ≤ Mc at hlM
  change 3 ≤ Pc at hlP
  change Kd.C _ w13 Ja 2 [[2, 4], [3, 2]] at hCJ
  change Kd.C _ w13 Ma 2 [3, 4] at hCM
  replace hCP : Kd.C k47 w13 Pa 3 [⟨⟨#[99, 111, 110, 102, 101, 99, 116, 105, 111, 110, 101, 114]⟩, 1⟩, ⟨⟨#[104, 97, 116, 116, 101, 114]⟩, 3⟩, ⟨⟨#[105, 114, 111, 110, 109, 111, 110, 103, 101, 114]⟩, 2⟩] := hCP
  have hJ : (Kd.slice 3 (Kd.int .i64)).C (((w13.alloc (.cells #[.int .i64 2, .int .i64 4] 3)).alloc (.cells #[.int .i64 3, .int .i64 2] 3)).alloc (.cells #[.slice (some ⟨w13.heap.size, 0, none⟩) 2 2, .slice (some ⟨w13.heap.size + 1, 0, none⟩) 2 2] 22)) (some ⟨w13.heap.size + 1 + 1, 0, none⟩) 2 [[2, 4], [3, 2]] := row_ints2 w13 [2, 4] [3, 2] (by decide) (by decide)
  have hbJ := ((((Below.refl w13.heap.size w13).alloc (Nat.le_refl _) (.cells #[.int .i64 2, .int .i64 4] 3)).alloc (by simp only [World.size_alloc]; omega) (.cells #[.int .i64 3, .int .i64 2] 3)).alloc (by simp only [World.size_alloc]; omega) (.cells #[.slice (some ⟨w13.heap.size, 0, none⟩) 2 2, .slice (some ⟨w13.heap.size + 1, 0, none⟩) 2 2] 22))
  have hM : ∀ W : World, (Kd.int .i64).C (W.alloc (.cells #[.int .i64 3, .int .i64 4] 3)) (some ⟨W.heap.size, 0, none⟩) 2 [3, 4] := fun W => row_ints W [3, 4] (by decide)
  have hP : ∀ W : World, k47.C (W.alloc (.cells #[.string ⟨#[99, 111, 110, 102, 101, 99, 116, 105, 111, 110, 101, 114]⟩, .int .i64 1, .string ⟨#[104, 97, 116, 116, 101, 114]⟩, .int .i64 3, .string ⟨#[105, 114, 111, 110, 109, 111, 110, 103, 101, 114]⟩, .int .i64 2] 47)) (some ⟨W.heap.size, 0, none⟩) 3 [⟨⟨#[99, 111, 110, 102, 101, 99, 116, 105, 111, 110, 101, 114]⟩, 1⟩, ⟨⟨#[104, 97, 116, 116, 101, 114]⟩, 3⟩, ⟨⟨#[105, 114, 111, 110, 109, 111, 110, 103, 101, 114]⟩, 2⟩] := fun W => row_moves W [⟨⟨#[99, 111, 110, 102, 101, 99, 116, 105, 111, 110, 101, 114]⟩, 1⟩, ⟨⟨#[104, 97, 116, 116, 101, 114]⟩, 3⟩, ⟨⟨#[105, 114, 111, 110, 109, 111, 110, 103, 101, 114]⟩, 2⟩] (by simp)
  go_wp2_with (first
    | (go_at_call 48; go_loud ((with_reducible refine (callJ _ _ _ _ (Kd.C_below hCJ hbJ) hlJ hJ).mono ?_); rintro e w14 ⟨rfl, hd14⟩; have hb14 := below_then hbJ hbJ.size hd14.below; have hbM := hb14.alloc hb14.size (.cells #[.int .i64 3, .int .i64 4] 3); have hM := hM w14))
    | (go_at_call 49; go_loud ((with_reducible refine (callM _ _ _ _ (Kd.C_below hCM hbM) hlM hM).mono ?_); rintro e w15 ⟨rfl, hd15⟩; have hb15 := below_then hbM hbM.size hd15.below; have hbP := hb15.alloc hb15.size (.cells #[.string ⟨#[99, 111, 110, 102, 101, 99, 116, 105, 111, 110, 101, 114]⟩, .int .i64 1, .string ⟨#[104, 97, 116, 116, 101, 114]⟩, .int .i64 3, .string ⟨#[105, 114, 111, 110, 109, 111, 110, 103, 101, 114]⟩, .int .i64 2] 47); have hP := hP w15))
    | (go_at_call 50; go_loud ((with_reducible refine (callP _ _ _ _ (Kd.C_below hCP hbP) hlP hP).mono ?_); rintro e w16 ⟨rfl, hd16⟩; have hb16 := below_then hbP hbP.size hd16.below)))
  go_ret
  exact ⟨rfl, below_then hB3 hB3.size hb16⟩
end Go.Proofs.Ytfbimhnlcmdcpaa.Pa
namespace Go.Proofs.Ytfbimhnlcmdcpaa.Pa
open Go.RowKit Go.Proofs.YtfbimhnlcmdcpaaW.PrintWords Go.Proofs.YtfbimhnlcmdcpaaW.PrintLast Go.Proofs.YtfbimhnlcmdcpaaW.PrintMore
attribute [local go_sem] max2_int min2_int max_two min_two max_three min_three max_four min_four   -- for this text's walks alone
set_option linter.unusedVariables false
set_option linter.unusedSimpArgs false

/-! ### wayzgooselaw04_leads: function 31 -/
def wayzgooselaw04_leads.f (k : Nat) (l0_0 : List (S51)) (l0_1 : List (S39)) (a1 : Int) (a2 : Int) : Option (Bool) := if 0 ≤ a1 then (if a1 < (l0_1.length : Int) then (if ((rd_T39 l0_1 a1).f2) = a2 then (some true) else ((wayzgoosekit_Index.f k ((rd_T39 l0_1 a1).f3) a2).bind fun t651 => (some (decide (t651 ≥ 0))))) else (none)) else (none)
set_option maxHeartbeats 8000000 in
set_option maxRecDepth 100000 in
theorem wayzgooselaw04_leads.calls (k : Nat) (A0_0 : Option Addr) (c0_0 : Nat) (l0_0 : List (S51)) (A0_1 : Option Addr) (c0_1 : Nat) (l0_1 : List (S39)) (a1 : Int) (a2 : Int) (r : Bool) (w : World) (hr0_0 : Kd.C k51 w A0_0 l0_0.length l0_0) (hc0_0 : l0_0.length ≤ c0_0) (hr0_1 : Kd.C k39 w A0_1 l0_1.length l0_1) (hc0_1 : l0_1.length ≤ c0_1) (h : wayzgooselaw04_leads.f k l0_0 l0_1 a1 a2 = some r) :
    Calls Try.prog 31 #[.agg #[.slice A0_0 l0_0.length c0_0, .slice A0_1 l0_1.length c0_1], .int .i64 a1, .int .i64 a2] w fun e w' => e = .returned (.bool r) ∧ Below w.heap.size w w' := by
  have hu26 := Try.underlying26
  have HR0_0 := Aside0.mk hr0_0
  have HC0_0 := Aside0.mk hc0_0
  clear hr0_0 hc0_0
  have HR0_1 := Aside0.mk hr0_1
  have HC0_1 := Aside0.mk hc0_1
  clear hr0_1 hc0_1
  have HB := Aside0.mk (Below.refl w.heap.size w)
  have H : (if 0 ≤ a1 then (if a1 < (l0_1.length : Int) then (if ((rd_T39 l0_1 a1).f2) = a2 then (some true) else ((wayzgoosekit_Index.f k ((rd_T39 l0_1 a1).f3) a2).bind fun t651 => (some (decide (t651 ≥ 0))))) else (none)) else (none)) = some r := h
  clear h
  by_cases c4 : 0 ≤ a1
  · rw [if_pos c4] at H
    have c4b0 : decide (0 ≤ a1) = true := decide_eq_true c4
    clear c4
    by_cases c5 : a1 < (l0_1.length : Int)
    · rw [if_pos c5] at H
      have c5b0 : decide (a1 < (l0_1.length : Int)) = true := decide_eq_true c5
      clear c5
      by_cases c6 : ((rd_T39 l0_1 a1).f2) = a2
      · rw [if_pos c6] at H
        have c6b0 : (((rd_T39 l0_1 a1).f2) == a2) = true := beq_iff_eq.mpr c6
        have c6b1 : (((rd_T39 l0_1 a1).f2) != a2) = false := bne_eq_false_iff_eq.mpr c6
        clear c6
        obtain rfl := Option.some.inj H
        go_enter Try.func31, Try.ntmps31
        go_wp2_with (first | ((with_reducible refine gate_dst (N := 3) rfl ?_); refine box_event ?hg (N := 3) ?hd (cs := #[.slice A0_0 l0_0.length c0_0, .slice A0_1 l0_1.length c0_1]) (t := 26) ?hr ?_; (case hd => rfl); (case hg => rfl); (case hr => first | (go_simp; done) | (go_simp; rfl)); intro gb648 hg w7 hbox hb; have n0_ := Aside0.mk (below_step (by repeat (first | (with_reducible first | exact HB.out | apply below_alloc | apply pw_below_drewN | apply below_drew1) | exact HB.out)) hb); have n1_ := Aside0.mk (hbox); have n2_ := Aside0.mk ((by rw [hg]; exact (below_size (by repeat (first | (with_reducible first | exact HB.out | apply below_alloc | apply pw_below_drewN | apply below_drew1) | exact HB.out))) : w.heap.size ≤ gb648)); have n3_ := Aside0.mk ((by rw [hg]; exact (below_size (by repeat (first | (with_reducible first | exact HB.out | apply below_alloc | apply pw_below_drewN | apply below_drew1) | exact HB.out))) : w.heap.size ≤ gb648)); clear HB; have HB := n0_; have BK648 := n1_; have GW648 := n2_; have GE648 := n3_; clear n0_ n1_ n2_ n3_; clear hb hbox hg; have hcz8_0 : w7.cell? ⟨gb648, 0, none⟩ = some (.slice A0_0 l0_0.length c0_0) := (blk_cell BK648.out 0).trans rfl; have hcz8_1 : w7.cell? ⟨gb648, 1, none⟩ = some (.slice A0_1 l0_1.length c0_1) := (blk_cell BK648.out 1).trans rfl; have hfz8_0 := blk_frozen BK648.out 0; have hfz8_1 := blk_frozen BK648.out 1; have p649 : 0 ≤ (a1 : Int) := of_decide_eq_true (by first | (with_reducible assumption) | assumption); have q649 : a1 < (l0_1.length : Int) := of_decide_eq_true (by first | (with_reducible assumption) | assumption); obtain ⟨ad649, A649_3, c649_3, e649, hx649_0, hx649_1, hx649_2, hx649_3, hl649_3, hi649_3⟩ := at_T39 HR0_1.out a1 p649 q649; cases e649; replace hx649_0 := (HB.out.cell (World.block_lt_of_cell? w _ hx649_0)).trans hx649_0; replace hx649_1 := (HB.out.cell (World.block_lt_of_cell? w _ hx649_1)).trans hx649_1; replace hx649_2 := (HB.out.cell (World.block_lt_of_cell? w _ hx649_2)).trans hx649_2; replace hx649_3 := (HB.out.cell (World.block_lt_of_cell? w _ hx649_3)).trans hx649_3; have HR649_3 := Aside0.mk hi649_3; have HC649_3 := Aside0.mk hl649_3; clear hi649_3 hl649_3; replace p649 := eq_true p649; replace q649 := eq_true q649))
        go_ret
        exact ⟨by first | rfl | (simp [errW_none, errW_some] <;> rfl) | (simp [*, errW_none, errW_some] <;> rfl), by repeat (first | (with_reducible first | exact HB.out | apply below_alloc | apply pw_below_drewN | apply below_drew1 | refine below_set ?_ GE648.out) | exact HB.out)⟩
      · rw [if_neg c6] at H
        have c6b0 : (((rd_T39 l0_1 a1).f2) == a2) = false := beq_eq_false_iff_ne.mpr c6
        have c6b1 : (((rd_T39 l0_1 a1).f2) != a2) = true := bne_iff_ne.mpr c6
        replace H := Option.bind_eq_some_iff.mp H
        obtain ⟨t651, A90, H⟩ := H
        replace H : (some (decide (t651 ≥ 0))) = some r := H
        have A9 := Aside0.mk A90
        clear A90
        obtain rfl := Option.some.inj H
        go_enter Try.func31, Try.ntmps31
        go_wp2_with (first | ((with_reducible refine gate_dst (N := 3) rfl ?_); refine box_event ?hg (N := 3) ?hd (cs := #[.slice A0_0 l0_0.length c0_0, .slice A0_1 l0_1.length c0_1]) (t := 26) ?hr ?_; (case hd => rfl); (case hg => rfl); (case hr => first | (go_simp; done) | (go_simp; rfl)); intro gb648 hg w10 hbox hb; have n0_ := Aside0.mk (below_step (by repeat (first | (with_reducible first | exact HB.out | apply below_alloc | apply pw_below_drewN | apply below_drew1) | exact HB.out)) hb); have n1_ := Aside0.mk (hbox); have n2_ := Aside0.mk ((by rw [hg]; exact (below_size (by repeat (first | (with_reducible first | exact HB.out | apply below_alloc | apply pw_below_drewN | apply below_drew1) | exact HB.out))) : w.heap.size ≤ gb648)); have n3_ := Aside0.mk ((by rw [hg]; exact (below_size (by repeat (first | (with_reducible first | exact HB.out | apply below_alloc | apply pw_below_drewN | apply below_drew1) | exact HB.out))) : w.heap.size ≤ gb648)); clear HB; have HB := n0_; have BK648 := n1_; have GW648 := n2_; have GE648 := n3_; clear n0_ n1_ n2_ n3_; clear hb hbox hg; have hcz11_0 : w10.cell? ⟨gb648, 0, none⟩ = some (.slice A0_0 l0_0.length c0_0) := (blk_cell BK648.out 0).trans rfl; have hcz11_1 : w10.cell? ⟨gb648, 1, none⟩ = some (.slice A0_1 l0_1.length c0_1) := (blk_cell BK648.out 1).trans rfl; have hfz11_0 := blk_frozen BK648.out 0; have hfz11_1 := blk_frozen BK648.out 1; have p649 : 0 ≤ (a1 : Int) := of_decide_eq_true (by first | (with_reducible assumption) | assumption); have q649 : a1 < (l0_1.length : Int) := of_decide_eq_true (by first | (with_reducible assumption) | assumption); obtain ⟨ad649, A649_3, c649_3, e649, hx649_0, hx649_1, hx649_2, hx649_3, hl649_3, hi649_3⟩ := at_T39 HR0_1.out a1 p649 q649; cases e649; replace hx649_0 := (HB.out.cell (World.block_lt_of_cell? w _ hx649_0)).trans hx649_0; replace hx649_1 := (HB.out.cell (World.block_lt_of_cell? w _ hx649_1)).trans hx649_1; replace hx649_2 := (HB.out.cell (World.block_lt_of_cell? w _ hx649_2)).trans hx649_2; replace hx649_3 := (HB.out.cell (World.block_lt_of_cell? w _ hx649_3)).trans hx649_3; have HR649_3 := Aside0.mk hi649_3; have HC649_3 := Aside0.mk hl649_3; clear hi649_3 hl649_3; replace p649 := eq_true p649; replace q649 := eq_true q649; have p650 : 0 ≤ (a1 : Int) := of_decide_eq_true (by first | (with_reducible assumption) | assumption); have q650 : a1 < (l0_1.length : Int) := of_decide_eq_true (by first | (with_reducible assumption) | assumption); obtain ⟨ad650, A650_3, c650_3, e650, hx650_0, hx650_1, hx650_2, hx650_3, hl650_3, hi650_3⟩ := at_T39 HR0_1.out a1 p650 q650; obtain rfl : ad649 = ad650 := (by injection e650); replace hx650_0 := (HB.out.cell (World.block_lt_of_cell? w _ hx650_0)).trans hx650_0; replace hx650_1 := (HB.out.cell (World.block_lt_of_cell? w _ hx650_1)).trans hx650_1; replace hx650_2 := (HB.out.cell (World.block_lt_of_cell? w _ hx650_2)).trans hx650_2; replace hx650_3 := (HB.out.cell (World.block_lt_of_cell? w _ hx650_3)).trans hx650_3; have HR650_3 := Aside0.mk hi650_3; have HC650_3 := Aside0.mk hl650_3; clear hi650_3 hl650_3; replace p650 := eq_true p650; replace q650 := eq_true q650; have ea_ := Option.some.inj (hx649_3.symm.trans hx650_3); injection ea_ with ea_ en_ ec_; subst ea_; subst ec_; clear en_) | (go_at_call 20; (with_reducible refine (wayzgoosekit_Index.calls k _ _ ((rd_T39 l0_1 a1).f3) a2 t651 _ ?side1 ?side2 A9.out).mono ?_); (case side1 => repeat (first | exact (Kd.C_below HR650_3.out HB.out) | (with_reducible refine Kd.C_alloc ?_ _) | (with_reducible refine Kd.C_drewN ?_ _) | (with_reducible refine Kd.C_drew ?_))); (case side2 => exact HC650_3.out); rintro e w' ⟨rfl, ⟨nd, rfl⟩⟩))
        go_ret
        exact ⟨by first | rfl | (simp [errW_none, errW_some] <;> rfl) | (simp [*, errW_none, errW_some] <;> rfl), by repeat (first | (with_reducible first | exact HB.out | apply below_alloc | apply pw_below_drewN | apply below_drew1 | refine below_set ?_ GE648.out) | exact HB.out)⟩
    · rw [if_neg c5] at H
      exact absurd H (by simp)
  · rw [if_neg c4] at H
    exact absurd H (by simp)

end Go.Proofs.Ytfbimhnlcmdcpaa.Pa
namespace Go.Proofs.Ytfbimhnlcmdcpaa.Pa
open Go.RowKit Go.Proofs.YtfbimhnlcmdcpaaW.PrintWords Go.Proofs.YtfbimhnlcmdcpaaW.PrintLast Go.Proofs.YtfbimhnlcmdcpaaW.PrintMore
attribute [local go_sem] max2_int min2_int max_two min_two max_three min_three max_four min_four   -- for this text's walks alone
set_option linter.unusedVariables false
set_option linter.unusedSimpArgs false


/-! ### wayzgoosekit_NewDice: function 14 -/
def wayzgoosekit_NewDice.f (l0 : List Int) : Option (List Int × Int × Int) := some (l0, 0, 11400714819323198485)
set_option maxHeartbeats 8000000 in
set_option maxRecDepth 100000 in
theorem wayzgoosekit_NewDice.calls (A0 : Option Addr) (c0 : Nat) (l0 : List Int) (r1 : List Int) (r2 : Int) (r3 : Int) (w0 w : World) (hB : Below w0.heap.size w0 w) (hr0 : Kd.C (Kd.int .i64) w0 A0 l0.length l0) (hc0 : l0.length ≤ c0) (h : wayzgoosekit_NewDice.f l0 = some (r1, r2, r3)) :
    Calls Try.prog 14 #[.slice A0 l0.length c0] w fun e w' => ∃ g_ : Nat, e = .returned (.pointer (some ⟨g_, 0, none⟩)) ∧ IsS72 w0 w' g_ r1 r2 r3 ∧ Below w0.heap.size w0 w' ∧ Below w.heap.size w w' := by
  have hu72 := Try.underlying72
  have HR0 := Aside0.mk hr0
  have HC0 := Aside0.mk hc0
  clear hr0 hc0
  have HBW := Aside0.mk (Below.refl w.heap.size w)
  have HW0 := Aside0.mk hB.size
  have HB := Aside0.mk hB
  clear hB
  have H : (some (l0, 0, 11400714819323198485)) = some (r1, r2, r3) := h
  clear h
  simp only [Option.some.injEq, Prod.mk.injEq] at H
  obtain ⟨rfl, rfl, rfl⟩ := H
  go_enter Try.func14, Try.ntmps14
  go_wp2_with (first | ((with_reducible refine gate_dst (N := 5) rfl ?_); refine box_event ?hg (N := 5) ?hd (cs := #[.slice A0 l0.length c0, .int .i64 0, .int .u64 11400714819323198485]) (t := 72) ?hr ?_; (case hd => rfl); (case hg => rfl); (case hr => first | (go_simp; done) | (go_simp; rfl)); intro gb208 hg w2 hbox hb; have n0_ := Aside0.mk (below_step HBW.out hb); have n1_ := Aside0.mk (below_step (by repeat (first | (with_reducible first | exact HB.out | apply below_alloc | apply pw_below_drewN | apply below_drew1) | exact HB.out)) hb); have n2_ := Aside0.mk (hbox); have n3_ := Aside0.mk ((by rw [hg]; exact (below_size (by repeat (first | (with_reducible first | exact HBW.out | apply below_alloc | apply pw_below_drewN | apply below_drew1) | exact HBW.out))) : w.heap.size ≤ gb208)); have n4_ := Aside0.mk ((Nat.le_trans HW0.out (by rw [hg]; exact (below_size (by repeat (first | (with_reducible first | exact HBW.out | apply below_alloc | apply pw_below_drewN | apply below_drew1) | exact HBW.out))) : w.heap.size ≤ gb208) : w0.heap.size ≤ gb208)); clear HBW; clear HB; have HBW := n0_; have HB := n1_; have BK208 := n2_; have GW208 := n3_; have GE208 := n4_; clear n0_ n1_ n2_ n3_ n4_; clear hb hbox hg))
  go_ret
  exact ⟨_, rfl, (show IsS72 w0 _ gb208 l0 0 11400714819323198485 from ⟨_, _, by (with_reducible repeat (first | refine blk_drewN ?_ _ | refine blk_drew ?_ | refine blk_alloc ?_ _)); exact BK208.out, GE208.out, HR0.out⟩), by repeat (first | (with_reducible first | exact HB.out | apply below_alloc | apply pw_below_drewN | apply below_drew1 | refine below_set ?_ GE208.out) | exact HB.out), by repeat (first | (with_reducible first | exact HBW.out | apply below_alloc | apply pw_below_drewN | apply below_drew1 | refine below_set ?_ GW208.out) | exact HBW.out)⟩

/-! ### trade_classes_has: function 44 -/
end Go.Proofs.Ytfbimhnlcmdcpaa.Pa
namespace Go.Proofs.Ytfbimhnlcmdcpaa.Pa
open Go.RowKit Go.Proofs.YtfbimhnlcmdcpaaW.PrintWords Go.Proofs.YtfbimhnlcmdcpaaW.PrintLast Go.Proofs.YtfbimhnlcmdcpaaW.PrintMore
attribute [local go_sem] max2_int min2_int max_two min_two max_three min_three max_four min_four   -- for this text's walks alone
set_option linter.unusedVariables false
set_option linter.unusedSimpArgs false

/-! ### wayzgooselaw04_word: function 22 -/
def wayzgooselaw04_word.l0 : Nat → ByteArray → Int → List (S51) → List (S39) → Option (Int)
  | 0, _, _, _, _ => none
  | k + 1, x1, x5, x403000, x403001 => if x5 < (x403001.length : Int) then (if 0 ≤ x5 then (if ((rd_T39 x403001 x5).f0).toList = x1.toList then (some x5) else (wayzgooselaw04_word.l0 k x1 (wrap64 (x5 + 1)) x403000 x403001)) else (none)) else (some (-1))
def wayzgooselaw04_word.f (k : Nat) (l0_0 : List (S51)) (l0_1 : List (S39)) (a1 : ByteArray) : Option (Int) := wayzgooselaw04_word.l0 k a1 0 l0_0 l0_1
set_option maxHeartbeats 8000000 in
set_option maxRecDepth 100000 in
theorem wayzgooselaw04_word.calls (k : Nat) (A0_0 : Option Addr) (c0_0 : Nat) (l0_0 : List (S51)) (A0_1 : Option Addr) (c0_1 : Nat) (l0_1 : List (S39)) (a1 : ByteArray) (r : Int) (w : World) (hr0_0 : Kd.C k51 w A0_0 l0_0.length l0_0) (hc0_0 : l0_0.length ≤ c0_0) (hr0_1 : Kd.C k39 w A0_1 l0_1.length l0_1) (hc0_1 : l0_1.length ≤ c0_1) (h : wayzgooselaw04_word.f k l0_0 l0_1 a1 = some r) :
    Calls Try.prog 22 #[.agg #[.slice A0_0 l0_0.length c0_0, .slice A0_1 l0_1.length c0_1], .string a1] w fun e w' => e = .returned (.int .i64 r) ∧ Below w.heap.size w w' := by
  have hu26 := Try.underlying26
  have HR0_0 := Aside0.mk hr0_0
  have HC0_0 := Aside0.mk hc0_0
  clear hr0_0 hc0_0
  have HR0_1 := Aside0.mk hr0_1
  have HC0_1 := Aside0.mk hc0_1
  clear hr0_1 hc0_1
  have HB := Aside0.mk (Below.refl w.heap.size w)
  have H : (wayzgooselaw04_word.l0 k a1 0 l0_0 l0_1) = some r := h
  clear h
  have H' := Aside0.mk H
  clear H
  go_enter Try.func22, Try.ntmps22
  go_wp2_with (first | ((with_reducible refine gate_dst (N := 2) rfl ?_); refine box_event ?hg (N := 2) ?hd (cs := #[.slice A0_0 l0_0.length c0_0, .slice A0_1 l0_1.length c0_1]) (t := 26) ?hr ?_; (case hd => rfl); (case hg => rfl); (case hr => first | (go_simp; done) | (go_simp; rfl)); intro gb402 hg w3 hbox hb; have n0_ := Aside0.mk (below_step (by repeat (first | (with_reducible first | exact HB.out | apply below_alloc | apply pw_below_drewN | apply below_drew1) | exact HB.out)) hb); have n1_ := Aside0.mk (hbox); have n2_ := Aside0.mk ((by rw [hg]; exact (below_size (by repeat (first | (with_reducible first | exact HB.out | apply below_alloc | apply pw_below_drewN | apply below_drew1) | exact HB.out))) : w.heap.size ≤ gb402)); have n3_ := Aside0.mk ((by rw [hg]; exact (below_size (by repeat (first | (with_reducible first | exact HB.out | apply below_alloc | apply pw_below_drewN | apply below_drew1) | exact HB.out))) : w.heap.size ≤ gb402)); clear HB; have HB := n0_; have BK402 := n1_; have GW402 := n2_; have GE402 := n3_; clear n0_ n1_ n2_ n3_; clear hb hbox hg))
  go_loopg [5] k (fun kq v5 w' => ∃ (x5_1 : Int), v5 = .int .i64 x5_1 ∧ Aside0 (wayzgooselaw04_word.l0 kq a1 x5_1 l0_0 l0_1 = some r) ∧ Aside0 (kq ≤ k) ∧ Aside0 (w'.heap[gb402]? = some (.cells #[(.slice A0_0 l0_0.length c0_0), (.slice A0_1 l0_1.length c0_1)] 26 (0, 0))) ∧ Aside0 (Below w.heap.size w w'))
  case atStart => exact ⟨(0), (by first | rfl | (simp; done) | (simp [*]; done)), H', ⟨Nat.le_refl _⟩, ⟨by (with_reducible repeat (first | refine blk_drewN ?_ _ | refine blk_drew ?_ | refine blk_alloc ?_ _)); exact BK402.out⟩, ⟨by repeat (first | (with_reducible first | exact HB.out | apply below_alloc | apply pw_below_drewN | apply below_drew1 | refine below_set ?_ GE402.out) | exact HB.out)⟩⟩
  case round =>
    clear H'
    try clear c2
    try clear p2
    obtain ⟨x5_1, rfl, HA, HK1, BK402, HB⟩ := hrel
    cases gk with
    | zero => exact absurd HA.out (by simp [wayzgooselaw04_word.l0])
    | succ k1 =>
      have H := HA.out
      clear HA
      simp only [wayzgooselaw04_word.l0] at H
      by_cases c4 : x5_1 < (l0_1.length : Int)
      · rw [if_pos c4] at H
        have c4b0 : decide (x5_1 < (l0_1.length : Int)) = true := decide_eq_true c4
        clear c4
        by_cases c5 : 0 ≤ x5_1
        · rw [if_pos c5] at H
          have c5b0 : decide (0 ≤ x5_1) = true := decide_eq_true c5
          clear c5
          by_cases c6 : ((rd_T39 l0_1 x5_1).f0).toList = a1.toList
          · rw [if_pos c6] at H
            have c6b0 : (((rd_T39 l0_1 x5_1).f0).toList == a1.toList) = true := beq_iff_eq.mpr c6
            have c6b1 : (((rd_T39 l0_1 x5_1).f0).toList != a1.toList) = false := bne_eq_false_iff_eq.mpr c6
            clear c6
            obtain rfl := Option.some.inj H
            have hcz7_0 : wr.cell? ⟨gb402, 0, none⟩ = some (.slice A0_0 l0_0.length c0_0) := (blk_cell BK402.out 0).trans rfl
            have hcz7_1 : wr.cell? ⟨gb402, 1, none⟩ = some (.slice A0_1 l0_1.length c0_1) := (blk_cell BK402.out 1).trans rfl
            have hfz7_0 := blk_frozen BK402.out 0
            have hfz7_1 := blk_frozen BK402.out 1
            have p403 : 0 ≤ (x5_1 : Int) := of_decide_eq_true (by first | (with_reducible assumption) | assumption)
            have q403 : x5_1 < (l0_1.length : Int) := of_decide_eq_true (by first | (with_reducible assumption) | assumption)
            obtain ⟨ad403, A403_3, c403_3, e403, hx403_0, hx403_1, hx403_2, hx403_3, hl403_3, hi403_3⟩ := at_T39 HR0_1.out x5_1 p403 q403
            cases e403
            replace hx403_0 := (HB.out.cell (World.block_lt_of_cell? w _ hx403_0)).trans hx403_0
            replace hx403_1 := (HB.out.cell (World.block_lt_of_cell? w _ hx403_1)).trans hx403_1
            replace hx403_2 := (HB.out.cell (World.block_lt_of_cell? w _ hx403_2)).trans hx403_2
            replace hx403_3 := (HB.out.cell (World.block_lt_of_cell? w _ hx403_3)).trans hx403_3
            have HR403_3 := Aside0.mk hi403_3
            have HC403_3 := Aside0.mk hl403_3
            clear hi403_3 hl403_3
            replace p403 := eq_true p403
            replace q403 := eq_true q403
            go_wp2
            go_ret
            exact ⟨by first | rfl | (simp [errW_none, errW_some] <;> rfl) | (simp [*, errW_none, errW_some] <;> rfl), by repeat (first | (with_reducible first | exact HB.out | apply below_alloc | apply pw_below_drewN | apply below_drew1 | refine below_set ?_ GE402.out) | exact HB.out)⟩
          · rw [if_neg c6] at H
            have c6b0 : (((rd_T39 l0_1 x5_1).f0).toList == a1.toList) = false := beq_eq_false_iff_ne.mpr c6
            have c6b1 : (((rd_T39 l0_1 x5_1).f0).toList != a1.toList) = true := bne_iff_ne.mpr c6
            have H' := Aside0.mk H
            clear H
            have hcz8_0 : wr.cell? ⟨gb402, 0, none⟩ = some (.slice A0_0 l0_0.length c0_0) := (blk_cell BK402.out 0).trans rfl
            have hcz8_1 : wr.cell? ⟨gb402, 1, none⟩ = some (.slice A0_1 l0_1.length c0_1) := (blk_cell BK402.out 1).trans rfl
            have hfz8_0 := blk_frozen BK402.out 0
            have hfz8_1 := blk_frozen BK402.out 1
            have p403 : 0 ≤ (x5_1 : Int) := of_decide_eq_true (by first | (with_reducible assumption) | assumption)
            have q403 : x5_1 < (l0_1.length : Int) := of_decide_eq_true (by first | (with_reducible assumption) | assumption)
            obtain ⟨ad403, A403_3, c403_3, e403, hx403_0, hx403_1, hx403_2, hx403_3, hl403_3, hi403_3⟩ := at_T39 HR0_1.out x5_1 p403 q403
            cases e403
            replace hx403_0 := (HB.out.cell (World.block_lt_of_cell? w _ hx403_0)).trans hx403_0
            replace hx403_1 := (HB.out.cell (World.block_lt_of_cell? w _ hx403_1)).trans hx403_1
            replace hx403_2 := (HB.out.cell (World.block_lt_of_cell? w _ hx403_2)).trans hx403_2
            replace hx403_3 := (HB.out.cell (World.block_lt_of_cell? w _ hx403_3)).trans hx403_3
            have HR403_3 := Aside0.mk hi403_3
            have HC403_3 := Aside0.mk hl403_3
            clear hi403_3 hl403_3
            replace p403 := eq_true p403
            replace q403 := eq_true q403
            go_wp2
            go_roundg k1
            case measure => have := HK1.out; omega
            case rel => exact ⟨(wrap64 (x5_1 + 1)), (by first | rfl | (simp; done) | (simp [*]; done)), H', ⟨by have := HK1.out; omega⟩, ⟨by (with_reducible repeat (first | refine blk_drewN ?_ _ | refine blk_drew ?_ | refine blk_alloc ?_ _)); exact BK402.out⟩, ⟨by repeat (first | (with_reducible first | exact HB.out | apply below_alloc | apply pw_below_drewN | apply below_drew1 | refine below_set ?_ GE402.out) | exact HB.out)⟩⟩
        · rw [if_neg c5] at H
          exact absurd H (by simp)
      · rw [if_neg c4] at H
        have c4b0 : decide (x5_1 < (l0_1.length : Int)) = false := decide_eq_false c4
        clear c4
        obtain rfl := Option.some.inj H
        have hcz9_0 : wr.cell? ⟨gb402, 0, none⟩ = some (.slice A0_0 l0_0.length c0_0) := (blk_cell BK402.out 0).trans rfl
        have hcz9_1 : wr.cell? ⟨gb402, 1, none⟩ = some (.slice A0_1 l0_1.length c0_1) := (blk_cell BK402.out 1).trans rfl
        have hfz9_0 := blk_frozen BK402.out 0
        have hfz9_1 := blk_frozen BK402.out 1
        go_wp2
        go_ret
        exact ⟨by first | rfl | (simp [errW_none, errW_some] <;> rfl) | (simp [*, errW_none, errW_some] <;> rfl), by repeat (first | (with_reducible first | exact HB.out | apply below_alloc | apply pw_below_drewN | apply below_drew1 | refine below_set ?_ GE402.out) | exact HB.out)⟩

-- NOT PRINTED: function 6 (wayzgooselaw04_TradeCompared)

/-! ### wayzgoosekit_DupInts: function 60 -/
def wayzgoosekit_DupInts.f (l0 : List Int) : Option (List Int) := (some (([] : List Int) : List Int)).bind fun y495 => (if y495.length + l0.length < 17592186044416 then (some (y495 ++ l0)) else (none))
end Go.Proofs.Ytfbimhnlcmdcpaa.Pa
namespace Go.Proofs.Ytfbimhnlcmdcpaa.Pa
open Go.RowKit Go.Proofs.YtfbimhnlcmdcpaaW.PrintWords Go.Proofs.YtfbimhnlcmdcpaaW.PrintLast Go.Proofs.YtfbimhnlcmdcpaaW.PrintMore
attribute [local go_sem] max2_int min2_int max_two min_two max_three min_three max_four min_four   -- for this text's walks alone
set_option linter.unusedVariables false
set_option linter.unusedSimpArgs false


/-! ### wayzgooselaw04_TradeDropped: function 10 -/
mutual
def wayzgooselaw04_TradeDropped.l0 : Nat → Int → List (S51) → List (S39) → Option (Bool)
 | 0, _, _, _ => none
 | k + 1, x4, x665000, x665001 => if x4 < (x665001.length : Int) then ((trade_Drop.f x665000 x665001 x4).bind fun bt666 => (if bt666.2.2 = 0 then ((trade_Check.f bt666.1 bt666.2.1).bind fun t674 => (if t674 = 0 then (if 0 ≤ x4 then ((wayzgooselaw04_word.f k bt666.1 bt666.2.1 ((rd_T39 x665001 x4).f0)).bind fun t676 => (if t676 ≥ 0 then (wayzgooselaw04_TradeDropped.j1 k x4 true x665000 x665001 bt666.1 bt666.2.1) else (wayzgooselaw04_TradeDropped.j1 k x4 (decide ((bt666.2.1.length : Int) ≥ (x665001.length : Int))) x665000 x665001 bt666.1 bt666.2.1))) else (none)) else (wayzgooselaw04_TradeDropped.j1 k x4 true x665000 x665001 bt666.1 bt666.2.1))) else (wayzgooselaw04_TradeDropped.j1 k x4 true x665000 x665001 bt666.1 bt666.2.1))) else ((wayzgooselaw04_indexed.f).bind fun t665 => (some t665))
def wayzgooselaw04_TradeDropped.j1 : Nat → Int → Bool → List (S51) → List (S39) → List (S51) → List (S39) → Option (Bool)
 | 0, _, _, _, _, _, _ => none
 | k + 1, x4, x54, x665000, x665001, x674000, x674001 => if x54 = true then (some false) else (wayzgooselaw04_TradeDropped.l1 k x4 true 0 x665000 x665001 x674000 x674001)
def wayzgooselaw04_TradeDropped.l1 : Nat → Int → Bool → Int → List (S51) → List (S39) → List (S51) → List (S39) → Option (Bool)
 | 0, _, _, _, _, _, _, _ => none
 | k + 1, x4, x7, x8, x665000, x665001, x674000, x674001 => if x8 < (x665001.length : Int) then (if x7 = true then ((wayzgooselaw04_leads.f k x665000 x665001 x8 x4).bind fun t677 => (wayzgooselaw04_TradeDropped.j3 k x4 (!t677) x8 x665000 x665001 x674000 x674001)) else (wayzgooselaw04_TradeDropped.j3 k x4 false x8 x665000 x665001 x674000 x674001)) else (if x7 = true then (if (x674001.length : Int) = (wrap64 ((x665001.length : Int) - 1)) then (wayzgooselaw04_TradeDropped.l0 k (wrap64 (x4 + 1)) x665000 x665001) else (some false)) else (wayzgooselaw04_TradeDropped.l0 k (wrap64 (x4 + 1)) x665000 x665001))
def wayzgooselaw04_TradeDropped.j3 : Nat → Int → Bool → Int → List (S51) → List (S39) → List (S51) → List (S39) → Option (Bool)
 | 0, _, _, _, _, _, _, _ => none
 | k + 1, x4, x7, x8, x665000, x665001, x674000, x674001 => if 0 ≤ x8 then (if x8 < (x665001.length : Int) then ((wayzgooselaw04_word.f k x674000 x674001 ((rd_T39 x665001 x8).f0)).bind fun t679 => (if x8 = x4 then (wayzgooselaw04_TradeDropped.j4 k x4 x7 x8 t679 false x665000 x665001 x674000 x674001) else (if ((rd_T39 x665001 x8).f1) ≥ 0 then (wayzgooselaw04_TradeDropped.j4 k x4 x7 x8 t679 (decide (t679 < 0)) x665000 x665001 x674000 x674001) else (wayzgooselaw04_TradeDropped.j4 k x4 x7 x8 t679 false x665000 x665001 x674000 x674001)))) else (none)) else (none)
def wayzgooselaw04_TradeDropped.j4 : Nat → Int → Bool → Int → Int → Bool → List (S51) → List (S39) → List (S51) → List (S39) → Option (Bool)
 | 0, _, _, _, _, _, _, _, _, _ => none
 | k + 1, x4, x7, x8, x9, x93, x665000, x665001, x674000, x674001 => if x93 = true then (some false) else (if x9 < 0 then (wayzgooselaw04_TradeDropped.l1 k x4 x7 (wrap64 (x8 + 1)) x665000 x665001 x674000 x674001) else (if 0 ≤ x9 then (if x9 < (x674001.length : Int) then (if 0 ≤ x8 then (if x8 < (x665001.length : Int) then (if ((rd_T39 x674001 x9).f1) = ((rd_T39 x665001 x8).f1) then (wayzgooselaw04_TradeDropped.l2 k x4 x7 x8 x9 0 x665000 x665001 x674000 x674001) else (some false)) else (none)) else (none)) else (none)) else (none)))
def wayzgooselaw04_TradeDropped.l2 : Nat → Int → Bool → Int → Int → Int → List (S51) → List (S39) → List (S51) → List (S39) → Option (Bool)
 | 0, _, _, _, _, _, _, _, _, _ => none
 | k + 1, x4, x7, x8, x9, x10, x665000, x665001, x674000, x674001 => if x10 < (x665001.length : Int) then (if 0 ≤ x10 then ((wayzgooselaw04_word.f k x674000 x674001 ((rd_T39 x665001 x10).f0)).bind fun t684 => (if t684 ≥ 0 then ((wayzgooselaw04_leads.f k x665000 x665001 x8 x10).bind fun t685 => ((wayzgooselaw04_leads.f k x674000 x674001 x9 t684).bind fun t686 => (if (t685 != t686) = true then (some false) else (wayzgooselaw04_TradeDropped.l2 k x4 x7 x8 x9 (wrap64 (x10 + 1)) x665000 x665001 x674000 x674001)))) else (wayzgooselaw04_TradeDropped.l2 k x4 x7 x8 x9 (wrap64 (x10 + 1)) x665000 x665001 x674000 x674001))) else (none)) else (wayzgooselaw04_TradeDropped.l1 k x4 x7 (wrap64 (x8 + 1)) x665000 x665001 x674000 x674001)
end
def wayzgooselaw04_TradeDropped.f (k : Nat) (l0 : List Int) : Option (Bool) := (wayzgoosekit_NewDice.f l0).bind fun bt652 => ((wayzgoosekit_TradesOf.f k bt652.1 bt652.2.1 bt652.2.2 2 6).bind fun bt656 => (wayzgooselaw04_TradeDropped.l0 k 0 bt656.1 bt656.2.1))
def wayzgooselaw04_TradeDropped.T6 : Bool × List (List Nat × List Nat) := (true, [([], []), ([0], [0]), ([1], [1]), ([2], [2]), ([3, 2, 2], [2, 3]), ([4, 2], [2, 4]), ([2, 5], [2, 5]), ([6, 4], [6]), ([7], [7]), ([7], [7]), ([9, 7], [7, 9]), ([7], [7]), ([10, 11, 7], [7, 10, 11]), ([12, 7], [7, 12]), ([13, 7], [7, 13]), ([8, 14, 7, 7], [7, 8, 14]), ([15, 7], [7, 15]), ([7, 16], [7, 16]), ([17, 15], [17]), ([18], [18]), ([19, 18], [18, 19]), ([20, 18], [18, 20]), ([18], [18]), ([22, 18], [18, 22]), ([23, 18], [18, 23]), ([21, 24, 18], [18, 21, 24]), ([18, 25], [18, 25])])
def wayzgooselaw04_TradeDropped.B6 : List Nat := [0, 1, 3, 7, 15, 31, 63, 127, 255, 255, 767, 255, 3839, 7935, 16127, 32767, 65535, 131071, 262143, 524287, 1048575, 2097151, 524287, 4718591, 13107199, 33554431, 67108863]
theorem wayzgooselaw04_TradeDropped.tab6 : rtab .any (opsOf Try.f10 6) = wayzgooselaw04_TradeDropped.T6 := by kernel_rfl
theorem wayzgooselaw04_TradeDropped.bits6 : waitsOk wayzgooselaw04_TradeDropped.T6.2 wayzgooselaw04_TradeDropped.B6 = true := by kernel_rfl
def wayzgooselaw04_TradeDropped.T13 : Bool × List (List Nat × List Nat) := (true, [([], []), ([], []), ([1], [1]), ([], []), ([2, 3], [2, 3]), ([4], [4]), ([5], [5]), ([0, 6], [0, 6]), ([7, 7, 0, 1, 2, 3, 4, 5, 6, 7], [7])])
def wayzgooselaw04_TradeDropped.B13 : List Nat := [0, 0, 2, 0, 14, 30, 62, 127, 255]
theorem wayzgooselaw04_TradeDropped.tab13 : rtab .any (opsOf Try.f10 13) = wayzgooselaw04_TradeDropped.T13 := by kernel_rfl
theorem wayzgooselaw04_TradeDropped.bits13 : waitsOk wayzgooselaw04_TradeDropped.T13.2 wayzgooselaw04_TradeDropped.B13 = true := by kernel_rfl
def wayzgooselaw04_TradeDropped.T17 : Bool × List (List Nat × List Nat) := (true, [([], []), ([0], [0]), ([], []), ([1, 2], [1, 2]), ([3], [3]), ([4], [4]), ([], []), ([6], [6]), ([], []), ([7, 8], [7, 8]), ([9], [9]), ([10], [10]), ([5, 11], [5, 11])])
def wayzgooselaw04_TradeDropped.B17 : List Nat := [0, 1, 0, 7, 15, 31, 0, 64, 0, 448, 960, 1984, 4095]
theorem wayzgooselaw04_TradeDropped.tab17 : rtab .any (opsOf Try.f10 17) = wayzgooselaw04_TradeDropped.T17 := by kernel_rfl
theorem wayzgooselaw04_TradeDropped.bits17 : waitsOk wayzgooselaw04_TradeDropped.T17.2 wayzgooselaw04_TradeDropped.B17 = true := by kernel_rfl
def wayzgooselaw04_TradeDropped.T22 : Bool × List (List Nat × List Nat) := (true, [([], []), ([], []), ([1], [1]), ([], []), ([2, 3], [2, 3]), ([4], [4]), ([5], [5]), ([0, 6], [0, 6]), ([7, 7, 0, 1, 2, 3, 4, 5, 6, 7], [7])])
def wayzgooselaw04_TradeDropped.B22 : List Nat := [0, 0, 2, 0, 14, 30, 62, 127, 255]
theorem wayzgooselaw04_TradeDropped.tab22 : rtab .any (opsOf Try.f10 22) = wayzgooselaw04_TradeDropped.T22 := by kernel_rfl
theorem wayzgooselaw04_TradeDropped.bits22 : waitsOk wayzgooselaw04_TradeDropped.T22.2 wayzgooselaw04_TradeDropped.B22 = true := by kernel_rfl
def wayzgooselaw04_TradeDropped.T23 : Bool × List (List Nat × List Nat) := (true, [([], []), ([0], [0]), ([1], [1]), ([2], [2]), ([2], [2]), ([2], [2]), ([3, 4, 5, 2, 2], [2, 3, 4, 5]), ([2], [2]), ([2], [2]), ([2], [2]), ([7, 8, 9, 6, 2], [2, 7, 8, 9]), ([6, 10, 2], [2, 6, 10]), ([2, 11], [2, 11])])
def wayzgooselaw04_TradeDropped.B23 : List Nat := [0, 1, 3, 7, 7, 7, 63, 7, 7, 7, 1023, 2047, 4095]
theorem wayzgooselaw04_TradeDropped.tab23 : rtab .any (opsOf Try.f10 23) = wayzgooselaw04_TradeDropped.T23 := by kernel_rfl
theorem wayzgooselaw04_TradeDropped.bits23 : waitsOk wayzgooselaw04_TradeDropped.T23.2 wayzgooselaw04_TradeDropped.B23 = true := by kernel_rfl
end Go.Proofs.Ytfbimhnlcmdcpaa.Pa
