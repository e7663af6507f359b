/- A part of the proof: The beginning of Short means just one trade, and that to which the heading leads, if it leads to one; no shorter one means just one: for all lists of numbers. Without conditions of its own. -/
import Derived.Test.YtfbimhnlcmdcpaaMTradeShort2
import Derived.BigRegion
import Derived.Deep.RegionHeld
/- The contracts of may and May. -/
namespace Go.Proofs.Ytfbimhnlcmdcpaa.Pa
open Go.RowKit Go.Proofs.YtfbimhnlcmdcpaaW.PrintWords Go.Proofs.YtfbimhnlcmdcpaaW.PrintLast Go.Proofs.YtfbimhnlcmdcpaaW.PrintMore
set_option linter.unusedVariables false
set_option linter.unusedSimpArgs false

theorem hasPrefix_begins (s b : ByteArray) : strings_HasPrefix.f s b = some (begins s b) := by
  unfold strings_HasPrefix.f stringslite_HasPrefix.f
  have hs : s.size = s.data.toList.length := rfl
  have hb : b.size = b.data.toList.length := rfl
  by_cases h : (s.size : Int) ≥ (b.size : Int)
  · rw [if_pos h, if_pos (by omega), if_pos h]
    show some _ = some _
    congr 1
    rw [toList_data, toList_data]
    unfold begins
    have : (s.extract 0 ((b.size : Int)).toNat).data.toList = s.data.toList.take b.data.toList.length := by
      rw [Int.toNat_natCast, hb]
      simp
    rw [this, Bool.eq_iff_iff, beq_iff_eq, List.isPrefixOf_iff_prefix, List.prefix_iff_eq_take]
    exact eq_comm
  · rw [if_neg h]
    show some false = some _
    congr 1
    unfold begins
    symm
    rw [Bool.eq_false_iff, ne_eq, List.isPrefixOf_iff_prefix]
    intro hp
    have := hp.length_le
    omega

theorem followGo_in {cs : List Cl} {hs : List Hd} (hv : Valid cs hs) {a t : Int} : ∀ (m : Nat) (k : Nat) (s : Int), k < hs.length → followGo hs m k s = some (a, t) → ∃ p : Nat, a = p ∧ p < hs.length
  | 0, k, s, hk, h => by simp [followGo_zero] at h
  | m + 1, k, s, hk, h => by
    by_cases hp : (hs.getD k zHd).f2 = -1
    · rw [followGo_end rfl hp] at h
      simp only [Option.some.injEq, Prod.mk.injEq] at h
      exact ⟨k, h.1.symm, hk⟩
    · rw [followGo_ptr rfl hp] at h
      have hg := (hv.head k hk).see
      obtain ⟨p, hpe⟩ : ∃ p : Nat, (hs.getD k zHd).f2 = p := ⟨(hs.getD k zHd).f2.toNat, by omega⟩
      rw [hpe] at h hg
      exact followGo_in hv m p (s + 1) (by omega) h
theorem followT_in {cs : List Cl} {hs : List Hd} (hv : Valid cs hs) {k : Nat} (hk : k < hs.length) {a t : Int} (h : followT hs k = some (a, t)) : ∃ p : Nat, a = p ∧ p < hs.length := followGo_in hv _ k 0 hk h

/-- the trades that the first k headings lead to, as bits -/
def mayStep (hs : List Hd) (b : ByteArray) (k : Nat) (S : Nat) : Nat :=
  if begins (hs.getD k zHd).f0 b = true then (match followT hs k with | none => S | some (e, _) => if isTradeT hs e = true then S ||| 2 ^ e.toNat else S) else S
def mayS (hs : List Hd) (b : ByteArray) : Nat → Nat
  | 0 => 0
  | k + 1 => mayStep hs b k (mayS hs b k)
theorem mayS_lt {cs : List Cl} {hs : List Hd} (hv : Valid cs hs) (b : ByteArray) : ∀ k, k ≤ hs.length → mayS hs b k < 256
  | 0, _ => by show 0 < 256; omega
  | k + 1, hk => by
    have ih := mayS_lt hv b k (by omega)
    have m1 := hv.split.2.1
    show mayStep hs b k (mayS hs b k) < 256
    unfold mayStep
    split
    · split
      · exact ih
      · rename_i e s hf
        obtain ⟨p, rfl, hp⟩ := followT_in hv (by omega) hf
        split
        · rw [Int.toNat_natCast]; exact or_lt _ _ ih (by omega)
        · exact ih
    · exact ih
theorem mayS_bit {cs : List Cl} {hs : List Hd} (hv : Valid cs hs) (b : ByteArray) (e : Nat) : ∀ k, k ≤ hs.length → (mayS hs b k).testBit e = (nats k).any (fun h => leadsTo hs b h e)
  | 0, _ => by show (0 : Nat).testBit e = false; simp
  | k + 1, hk => by
    have ih := mayS_bit hv b e k (by omega)
    rw [nats_succ, List.any_append, ← ih]
    show (mayStep hs b k (mayS hs b k)).testBit e = _
    simp only [List.any_cons, List.any_nil, Bool.or_false]
    unfold mayStep leadsTo
    rw [Int.toNat_natCast]
    cases hb : begins (hs.getD k zHd).f0 b
    · simp
    · cases hf : followT hs k with
      | none => simp
      | some pr =>
        obtain ⟨a, s⟩ := pr
        obtain ⟨p, rfl, hp⟩ := followT_in hv (by omega) hf
        simp only [if_true]
        by_cases hpe : p = e
        · subst hpe
          cases ht : isTradeT hs p
          · simp
          · simp [Nat.testBit_or, Nat.testBit_two_pow]
        · have : ¬ ((p : Int) = (e : Int)) := by omega
          split
          · simp [Nat.testBit_or, Nat.testBit_two_pow, hpe, this]
          · simp [this]
theorem mayT_bits {cs : List Cl} {hs : List Hd} (hv : Valid cs hs) (b : ByteArray) : mayT hs b = (nats hs.length).filter (fun e => (mayS hs b hs.length).testBit e.toNat) := by
  unfold mayT
  apply List.filter_congr
  intro e he
  obtain ⟨n, _, rfl⟩ := List.mem_map.mp he
  show _ = (mayS hs b hs.length).testBit (Int.ofNat n).toNat
  rw [show (Int.ofNat n).toNat = n from rfl, mayS_bit hv b n _ (Nat.le_refl _)]
  rfl

set_option maxHeartbeats 4000000 in
set_option maxRecDepth 100000 in
theorem may_any (g : Nat) (cs : List Cl) (hs : List Hd) (b : ByteArray) (w : World) (hL : IsList w g cs hs) (hv : Valid cs hs) :
    Calls Try.prog 53 #[.pointer (some ⟨g, 0, none⟩), .string b] w fun e w' => ∃ v, e = .returned v ∧ (Kd.int .i64).R 3 w' w.heap.size (fun _ => True) v (mayT hs b) ∧ Below w.heap.size w w' := by
  obtain ⟨m0, m1, -, -⟩ := hv.split
  have hu2 := Try.underlying26
  have hu3 := Try.underlying81
  have hu4 := Try.underlying39
  obtain ⟨i0, hi, hz0, hz1, hz2⟩ := info_parts info3'
  have HM := Lib.hid (mayT_bits hv b)
  obtain ⟨A0, c0, A1, c1, A2, c2, A3, c3, hg, l0, l1, r0, r1, r2, r3⟩ := hL.ok
  obtain ⟨g0, g1, g2, g3⟩ := cells4 hg
  have hLb := fun W (hW : Below w.heap.size w W) => hL.below hW
  have HF := fun (n : Nat) (hn : n < hs.length) W (hW : Below w.heap.size w W) => follow_any g cs hs n W (hL.below hW) hv hn
  have HT := fun (n : Nat) (hn : n < hs.length) W (hW : Below w.heap.size w W) => isTrade_any g cs hs n W (hL.below hW) hn
  obtain ⟨R, hR⟩ : ∃ R, mayT hs b = R := ⟨_, rfl⟩
  rw [hR] at HM ⊢
  clear hL hR
  go_enter Try.func53, Try.ntmps53
  go_wp2
  go_loopg [5, 19] hs.length (fun gk v5 v wr => ∃ k : Nat, k + gk = hs.length ∧ v = .int .i64 k ∧ v5 = .int .u8 (mayS hs b k : Int) ∧ Below w.heap.size w wr)
  case atStart => exact ⟨0, by omega, rfl, rfl, Below.refl _ _⟩
  case round =>
    obtain ⟨k, hk, rfl, rfl, hb⟩ := hrel
    by_cases hlt : k < hs.length
    · have hSl := mayS_lt hv b k (by omega)
      have HS : Hid (mayS hs b (k + 1) = mayStep hs b k (mayS hs b k)) := rfl
      obtain ⟨S, hS⟩ : ∃ S, mayS hs b k = S := ⟨_, rfl⟩
      rw [hS] at HS hSl ⊢
      clear hS
      obtain ⟨ad, A3', c3', e, h0, h1, h2, h3, h4, h5⟩ := hdAt r1 k hlt
      cases e
      obtain ⟨x, hx⟩ : ∃ x, hs.getD k zHd = x := ⟨_, rfl⟩
      rw [hx] at h0 h1 h2 h3 h4 h5
      replace h0 := pw_cell_below hb h0
      replace h1 := pw_cell_below hb h1
      replace h2 := pw_cell_below hb h2
      replace h3 := pw_cell_below hb h3
      have HP := fun W => strings_HasPrefix.calls x.f0 b _ W (hasPrefix_begins x.f0 b)
      have HS2 : Hid (mayS hs b (k + 1) = if begins x.f0 b = true then (match followT hs k with | none => S | some (e, _) => if isTradeT hs e = true then S ||| 2 ^ e.toNat else S) else S) := by
        show _ = _
        rw [HS.out]; unfold mayStep; rw [hx]
      clear HS hx
      obtain ⟨bb, hbb⟩ : ∃ bb, begins x.f0 b = bb := ⟨_, rfl⟩
      rw [hbb] at HS2
      simp only [hbb] at HP
      clear hbb
      cases bb with
      | false =>
        have HS3 : Hid (mayS hs b (k + 1) = S) := by show _ = _; rw [HS2.out]; rfl
        go_wp2_with (go_at_call 73; (with_reducible refine (HP _).mono ?_); rintro e w2 ⟨rfl, ⟨nd, rfl⟩⟩)
        go_roundg (hs.length - (k + 1))
        case measure => omega
        case rel => exact ⟨k + 1, by omega, by go_num, by rw [HS3.out], pw_below_drewN (hb.alloc hb.size _) _⟩
      | true =>
        have HF := fun W (hW : Below w.heap.size w W) => HF k hlt W hW
        have hbd := fun n o => pw_below_drewN (hb.alloc hb.size o) n
        cases hfe : followT hs k with
        | none =>
          have HS3 : Hid (mayS hs b (k + 1) = S) := by show _ = _; rw [HS2.out, hfe]; rfl
          rw [hfe] at HF
          simp only [followV] at HF
          clear HS2 hfe
          go_wp2_with (first
            | (go_at_call 73; (with_reducible refine (HP _).mono ?_); rintro e w2 ⟨rfl, ⟨nd, rfl⟩⟩)
            | (go_at_call 52; (with_reducible refine (HF _ (hbd _ _)).mono ?_); rintro e w3 ⟨rfl, hb3⟩; have HB3 := below_then (hbd _ _) (hbd _ _).size hb3; clear hb3))
          go_roundg (hs.length - (k + 1))
          case measure => omega
          case rel => exact ⟨k + 1, by omega, by go_num, by rw [HS3.out], HB3⟩
        | some pr =>
          obtain ⟨a, s⟩ := pr
          obtain ⟨p, rfl, hp⟩ := followT_in hv hlt hfe
          have HS3 : Hid (mayS hs b (k + 1) = if artB (hs.getD p zHd) = true then S ||| 2 ^ p else S) := by show _ = _; rw [HS2.out, hfe]; rfl
          have HT := fun W (hW : Below w.heap.size w W) => HT p hp W hW
          have HW := fun W => heads_with S p hSl (by omega) W
          rw [hfe] at HF
          simp only [followV] at HF
          obtain ⟨q, hq⟩ : ∃ q, artB (hs.getD p zHd) = q := ⟨_, rfl⟩
          rw [hq] at HS3
          simp only [hq] at HT
          clear HS2 hfe hq
          cases q with
          | true =>
            have HS4 : Hid (mayS hs b (k + 1) = S ||| 2 ^ p) := by show _ = _; rw [HS3.out]; rfl
            go_wp2_with (first
              | (go_at_call 73; (with_reducible refine (HP _).mono ?_); rintro e w2 ⟨rfl, ⟨nd, rfl⟩⟩)
              | (go_at_call 52; (with_reducible refine (HF _ (hbd _ _)).mono ?_); rintro e w3 ⟨rfl, hb3⟩; have HB3 := below_then (hbd _ _) (hbd _ _).size hb3; clear hb3)
              | (go_at_call 63; (with_reducible refine (HT _ HB3).mono ?_); rintro e w4 ⟨rfl, hb4⟩; have HB4 := below_then HB3 HB3.size hb4; clear hb4)
              | (go_at_call 74; (with_reducible refine (HW _).mono ?_); rintro e w5 ⟨rfl, rfl⟩))
            go_roundg (hs.length - (k + 1))
            case measure => omega
            case rel => exact ⟨k + 1, by omega, by go_num, by rw [HS4.out], HB4⟩
          | false =>
            have HS4 : Hid (mayS hs b (k + 1) = S) := by show _ = _; rw [HS3.out]; rfl
            go_wp2_with (first
              | (go_at_call 73; (with_reducible refine (HP _).mono ?_); rintro e w2 ⟨rfl, ⟨nd, rfl⟩⟩)
              | (go_at_call 52; (with_reducible refine (HF _ (hbd _ _)).mono ?_); rintro e w3 ⟨rfl, hb3⟩; have HB3 := below_then (hbd _ _) (hbd _ _).size hb3; clear hb3)
              | (go_at_call 63; (with_reducible refine (HT _ HB3).mono ?_); rintro e w4 ⟨rfl, hb4⟩; have HB4 := below_then HB3 HB3.size hb4; clear hb4))
            go_roundg (hs.length - (k + 1))
            case measure => omega
            case rel => exact ⟨k + 1, by omega, by go_num, by rw [HS4.out], HB4⟩
    · obtain rfl : k = hs.length := by omega
      have hSl := mayS_lt hv b hs.length (Nat.le_refl _)
      obtain ⟨S, hS⟩ : ∃ S, mayS hs b hs.length = S := ⟨_, rfl⟩
      rw [hS] at HM hSl ⊢
      clear hS HF HT hLb
      replace g1 := pw_cell_below hb g1
      obtain ⟨W2, hW2⟩ : ∃ W2, W2 = wr := ⟨_, rfl⟩
      subst hW2
      go_wp2
      go_loopg [11, 52] hs.length (fun gk v5 v wr => ∃ k : Nat, k + gk = hs.length ∧ v = .int .i64 k ∧ Below W2.heap.size W2 wr ∧ wr.ownsRow W2.heap.size 3 1 v5 ((nats k).filter (fun e => S.testBit e.toNat)).length (nums .i64 ((nats k).filter (fun e => S.testBit e.toNat))))
      case atStart => exact ⟨0, by omega, rfl, Below.refl _ _, own_nil _ _ _ _⟩
      case round =>
        obtain ⟨k, hk, rfl, hbq, ho⟩ := hrel
        by_cases hlt : k < hs.length
        · have HH := fun W => heads_has S k hSl (by omega) W
          have hfl := filter_len (fun e => S.testBit e.toNat) k
          obtain ⟨F, hF⟩ : ∃ F, (nats k).filter (fun e => S.testBit e.toNat) = F := ⟨_, rfl⟩
          have HF : Hid ((nats (k + 1)).filter (fun e => S.testBit e.toNat) = F ++ (if S.testBit k = true then [(k : Int)] else [])) := by
            show _ = _
            rw [nats_succ, filter_snoc, hF]; rfl
          rw [hF] at ho hfl
          clear hF
          obtain ⟨bt, hbq'⟩ : ∃ b, S.testBit k = b := ⟨_, rfl⟩
          rw [hbq'] at HF
          simp only [hbq'] at HH
          clear hbq'
          cases bt with
          | true =>
            have HG : Hid ((nats (k + 1)).filter (fun e => S.testBit e.toNat) = F ++ [(k : Int)]) := by show _ = _; rw [HF.out]; rfl
            clear HF
            go_wp2_with (first
              | (go_at_call 75; (with_reducible refine (HH _).mono ?_); rintro e w2 ⟨rfl, rfl⟩)
              | (at_builtin; refine wpList_append_own _ rfl _ _ 22 rfl W2.heap.size 3 i0 (.int .i64 0) 1 8 Try.underlying22 hi hz0 hz1 hz2 rfl (by decide) _ _ _ rfl (ho.alloc _) ⟨wr.heap.size, 0, none⟩ 1 1 [.int .i64 (k : Int)] rfl rfl (cell_one_new _ _ _) (by simp [Value.oneCell']) (by unfold maxLen; omega) (by omega) (by have := hbq.size; simp; omega) ?_; intro v' w3 hown3 hgrow3 _; have HB3 := Below.grown (hbq.alloc hbq.size _) hgrow3 (by have := hbq.size; simp; omega) (fun j hj => (ho.lt j hj).1); have HO := Lib.hid hown3; clear hown3 hgrow3))
            go_roundg (hs.length - (k + 1))
            case measure => omega
            case rel => exact ⟨k + 1, by omega, by go_num, HB3, by rw [HG.out, nums_append, List.length_append]; exact HO.out⟩
          | false =>
            have HG : Hid ((nats (k + 1)).filter (fun e => S.testBit e.toNat) = F) := by show _ = _; rw [HF.out]; exact List.append_nil _
            clear HF
            go_wp2_with (go_at_call 75; (with_reducible refine (HH _).mono ?_); rintro e w2 ⟨rfl, rfl⟩)
            go_roundg (hs.length - (k + 1))
            case measure => omega
            case rel => exact ⟨k + 1, by omega, by go_num, hbq, by rw [HG.out]; exact ho⟩
        · obtain rfl : k = hs.length := by omega
          rw [← HM.out] at ho
          have HR : Hid ((Kd.int .i64).R 3 wr W2.heap.size (fun _ => True) _ R) := Kd.R_of_own ho (fun _ _ => trivial)
          clear ho
          go_wp2
          go_ret
          exact ⟨_, rfl, Kd.R_lower HR.out hb.size, below_then hb hb.size hbq⟩

set_option maxHeartbeats 1000000 in
set_option maxRecDepth 100000 in
theorem trade_May.calls (A0_0 : Option Addr) (c0_0 : Nat) (l0_0 : List (S51)) (A0_1 : Option Addr) (c0_1 : Nat) (l0_1 : List (S39)) (a1 : ByteArray) (r1 : List Int) (r2 : Int) (w : World) (hr0_0 : Kd.C k51 w A0_0 l0_0.length l0_0) (hc0_0 : l0_0.length ≤ c0_0) (hr0_1 : Kd.C k39 w A0_1 l0_1.length l0_1) (hc0_1 : l0_1.length ≤ c0_1) (h : trade_May.f l0_0 l0_1 a1 = some (r1, r2)) :
    Calls Try.prog 19 #[.agg #[.slice A0_0 l0_0.length c0_0, .slice A0_1 l0_1.length c0_1], .string a1] w fun e w' => ∃ v0_ : Value, e = .returned (.tuple #[v0_, .int .i64 r2]) ∧ Kd.R (Kd.int .i64) 3 w' w.heap.size (fun _ => True) v0_ r1 ∧ Below w.heap.size w w' := by
  have hu2 := Try.underlying26
  have hB0 := (Below.refl w.heap.size w).alloc (Nat.le_refl _) (.cells #[.slice A0_0 l0_0.length c0_0, .slice A0_1 l0_1.length c0_1] 26)
  have h := Option.some.inj h
  by_cases hz : checkT l0_0 l0_1 = 0
  · have hv : Valid l0_0 l0_1 := ⟨hz⟩
    have HG := fun W (hW : Below w.heap.size w W) => begin_good A0_0 A0_1 c0_0 c0_1 l0_0 l0_1 W (Kd.C_below hr0_0 hW) (Kd.C_below hr0_1 hW) hc0_0 hc0_1 hv
    rw [if_neg (by omega)] at h
    simp only [Prod.mk.injEq] at h
    obtain ⟨rfl, rfl⟩ := h
    have HP := fun W g (hL : IsList W g l0_0 l0_1) => may_any g l0_0 l0_1 a1 W hL hv
    obtain ⟨R, hR⟩ : ∃ R, mayT l0_1 a1 = R := ⟨_, rfl⟩
    simp only [hR] at HP ⊢
    clear hz hR
    go_enter Try.func19, Try.ntmps19
    go_wp2_with (first
      | (go_at_call 42; (with_reducible refine (HG _ hB0).mono ?_); rintro e w1 ⟨g, rfl, hL1, hb1⟩; obtain ⟨HB1, hT1⟩ := one_box hb1; clear hb1)
      | (go_at_call 53; (with_reducible refine (HP _ _ hL1).mono ?_); rintro e w3 ⟨v, rfl, hR3, hb3⟩))
    go_ret2
    exact ⟨_, rfl, Kd.R_lower hR3 HB1.size, below_then HB1 HB1.size hb3⟩
  · rw [if_pos hz] at h
    simp only [Prod.mk.injEq] at h
    obtain ⟨rfl, rfl⟩ := h
    have HG := fun W (hW : Below w.heap.size w W) => begin_bad A0_0 A0_1 c0_0 c0_1 l0_0 l0_1 W (Kd.C_below hr0_0 hW) (Kd.C_below hr0_1 hW) hc0_0 hc0_1 hz
    obtain ⟨z, hze⟩ : ∃ z, checkT l0_0 l0_1 = z := ⟨_, rfl⟩
    simp only [hze] at HG hz ⊢
    have hz1 : (z != 0) = true := bne_iff_ne.mpr hz
    clear hz hze
    go_enter Try.func19, Try.ntmps19
    go_wp2_with (go_at_call 42; (with_reducible refine (HG _ hB0).mono ?_); rintro e w1 ⟨rfl, hb1⟩; obtain ⟨HB1, hT1⟩ := one_box hb1; clear hb1)
    go_ret2
    exact ⟨_, rfl, Kd.R_nil _ _ _ _ _, HB1⟩
end Go.Proofs.Ytfbimhnlcmdcpaa.Pa
/- The contracts of short and Short. -/
namespace Go.Proofs.Ytfbimhnlcmdcpaa.Pa
open Go.RowKit Go.Proofs.YtfbimhnlcmdcpaaW.PrintWords Go.Proofs.YtfbimhnlcmdcpaaW.PrintLast Go.Proofs.YtfbimhnlcmdcpaaW.PrintMore
set_option linter.unusedVariables false
set_option linter.unusedSimpArgs false

/-- the shortest beginning, of i bytes or more, that means just one trade -/
def shortGo (hs : List Hd) (s : ByteArray) : Nat → Nat → Option ByteArray
  | 0, _ => if (mayT hs s).length = 1 then some s else none
  | m + 1, i => if (mayT hs (s.extract 0 i)).length = 1 then some (s.extract 0 i) else shortGo hs s m (i + 1)
def shortT (hs : List Hd) (h : Int) : Option ByteArray := shortGo hs (hs.getD h.toNat zHd).f0 (hs.getD h.toNat zHd).f0.size 0
def shortR (r : Option ByteArray) : ByteArray × Int := match r with
  | none => (.empty, 11)
  | some s => (s, 0)
def trade_Short.f (cs : List Cl) (hs : List Hd) (h : Int) : Option (ByteArray × Int) :=
  some (if askT cs hs h ≠ 0 then (.empty, askT cs hs h) else shortR (shortT hs h))
theorem shortGo_zero (hs : List Hd) (s : ByteArray) (i : Nat) : shortGo hs s 0 i = if (mayT hs s).length = 1 then some s else none := rfl
theorem shortGo_succ (hs : List Hd) (s : ByteArray) (m i : Nat) : shortGo hs s (m + 1) i = if (mayT hs (s.extract 0 i)).length = 1 then some (s.extract 0 i) else shortGo hs s m (i + 1) := rfl
def shortV (s : ByteArray) (r : Option ByteArray) : Value := match r with
  | none => .tuple #[.string s, .bool false]
  | some x => .tuple #[.string x, .bool true]

theorem word_ascii {s : ByteArray} (h : wordOk s = true) (pos : Nat) (hp : pos < s.size) : Utf8.decode s pos = (((s[pos]'hp).toNat), 1) := by
  have ha : (s[pos]'hp).toNat < 128 := by
    unfold wordOk at h
    simp only [Bool.and_eq_true, List.all_eq_true] at h
    have := h.2 (s[pos]'hp) (by
      have hd := drop_data s pos hp
      have : s[pos]'hp ∈ s.data.toList.drop pos := by rw [hd]; simp
      exact List.mem_of_mem_drop this)
    unfold lowB at this
    simp only [Bool.and_eq_true, decide_eq_true_eq] at this
    omega
  rw [decode_ascii s pos hp ha]

set_option maxHeartbeats 4000000 in
set_option maxRecDepth 100000 in
theorem short_any (g : Nat) (cs : List Cl) (hs : List Hd) (h : Nat) (w : World) (hL : IsList w g cs hs) (hv : Valid cs hs) (hh : h < hs.length) :
    Calls Try.prog 62 #[.pointer (some ⟨g, 0, none⟩), .int .i64 h] w fun e w' => e = .returned (shortV (hs.getD h zHd).f0 (shortT hs h)) ∧ Below w.heap.size w w' := by
  have hu2 := Try.underlying26
  have hu3 := Try.underlying81
  have hu4 := Try.underlying39
  have hgd := hv.head h hh
  have HM := fun b W (hW : Below w.heap.size w W) => may_any g cs hs b W (hL.below hW) hv
  have HR : Hid (shortT hs h = shortGo hs (hs.getD h zHd).f0 (hs.getD h zHd).f0.size 0) := rfl
  obtain ⟨R, hR⟩ : ∃ R, shortT hs h = R := ⟨_, rfl⟩
  rw [hR] at HR ⊢
  obtain ⟨A0, c0, A1, c1, A2, c2, A3, c3, hg, l0, l1, r0, r1, r2, r3⟩ := hL.ok
  obtain ⟨g0, g1, g2, g3⟩ := cells4 hg
  obtain ⟨ad, A3', c3', e, h0, h1, h2, h3, h4, h5⟩ := hdAt r1 h hh
  cases e
  obtain ⟨x, hx⟩ : ∃ x, hs.getD h zHd = x := ⟨_, rfl⟩
  rw [hx] at h0 h1 h2 h3 h4 h5 hgd HR ⊢
  have hw := hgd.word
  obtain ⟨s, hse⟩ : ∃ s, x.f0 = s := ⟨_, rfl⟩
  rw [hse] at h0 hw HR ⊢
  have HD := fun pos hp => Lib.hid (word_ascii hw pos hp)
  have hsz : s.size ≤ 12 := by
    unfold wordOk at hw
    simp only [Bool.and_eq_true, decide_eq_true_eq] at hw
    omega
  clear hL hR hgd hx hse hw
  go_enter Try.func62, Try.ntmps62
  go_wp2
  go_loopg [5] s.size (fun gk v wr => ∃ i : Nat, v = .bool false ∧ i + gk = s.size ∧ wr.heap[w.heap.size]? = some (.stringIter s i) ∧ Below w.heap.size w wr ∧ Hid (shortGo hs s gk i = R))
  case atStart => exact ⟨0, rfl, by omega, World.iter_heap w s 0, (Below.refl _ _).alloc (Nat.le_refl _) _, by show _ = _; exact HR.out.symm⟩
  case round =>
    obtain ⟨i, rfl, hi, hit, hbw, HK⟩ := hrel
    by_cases hp : i < s.size
    · obtain ⟨m, rfl⟩ : ∃ m, gk = m + 1 := ⟨gk - 1, by omega⟩
      rw [shortGo_succ] at HK
      have hnx : ∀ ty, (Instr.next (.pointer (some ⟨w.heap.size, 0, none⟩)) true ty).run Try.prog wr = _ := fun ty => Lib.run_next_any_at wr w.heap.size s i ty hit hp
      have hde := (HD i hp).out
      rw [hde] at hnx
      have hit2 := Lib.iterAt_heap wr w.heap.size s i (i + 1) hit
      have hbw2 := Lib.below_iterAt hbw (k := w.heap.size) (Nat.le_refl _) s (i + 1)
      obtain ⟨W1, hW1⟩ : ∃ W1, W1 = wr.iterAt w.heap.size s (i + 1) := ⟨_, rfl⟩
      rw [← hW1] at hnx hit2 hbw2
      have HM := HM (s.extract 0 i) W1 hbw2
      have hile : (i : Int) ≤ s.size := by omega
      have hi0 : (0 : Int) ≤ i := by omega
      clear hW1 hit hbw hde
      obtain ⟨T, hT⟩ : ∃ T, mayT hs (s.extract 0 i) = T := ⟨_, rfl⟩
      rw [hT] at HM HK
      clear hT
      by_cases h1 : T.length = 1
      · rw [if_pos h1] at HK
        have h1a : ((T.length : Int) == 1) = true := beq_iff_eq.mpr (by omega)
        have HV : Hid (shortV s R = .tuple #[.string (s.extract 0 i), .bool true]) := by show _ = _; rw [← HK.out]; rfl
        clear h1 HK
        go_wp2_with (go_at_call 53; (with_reducible refine HM.mono ?_); rintro e w3 ⟨v, rfl, hR3, hb3⟩; obtain ⟨Ar, cr, rfl, -, -⟩ := Kd.R_reads hR3; have HB3 := below_then hbw2 hbw2.size hb3; clear hR3)
        go_ret2
        exact ⟨by rw [HV.out]; rfl, HB3⟩
      · rw [if_neg h1] at HK
        have h1a : ((T.length : Int) == 1) = false := beq_eq_false_iff_ne.mpr (by omega)
        clear h1
        go_wp2_with (go_at_call 53; (with_reducible refine HM.mono ?_); rintro e w3 ⟨v, rfl, hR3, hb3⟩; obtain ⟨Ar, cr, rfl, -, -⟩ := Kd.R_reads hR3; have HB3 := below_then hbw2 hbw2.size hb3; have hit3 := blk_below hit2 hb3; clear hR3)
        go_roundg m
        case measure => omega
        case rel => exact ⟨i + 1, rfl, by omega, hit3, HB3, HK⟩
    · obtain rfl : i = s.size := by omega
      obtain rfl : gk = 0 := by omega
      rw [shortGo_zero] at HK
      have hnx : ∀ ty, (Instr.next (.pointer (some ⟨w.heap.size, 0, none⟩)) true ty).run Try.prog wr = _ := fun ty => Lib.run_next_end_at wr w.heap.size s s.size ty hit hp
      have HM := HM s wr hbw
      obtain ⟨T, hT⟩ : ∃ T, mayT hs s = T := ⟨_, rfl⟩
      rw [hT] at HM HK
      have HV : Hid (shortV s R = .tuple #[.string s, .bool ((T.length : Int) == 1)]) := by
        show _ = _
        rw [← HK.out]
        by_cases h1 : T.length = 1
        · rw [if_pos h1, h1]; rfl
        · have h1a : ((T.length : Int) == 1) = false := beq_eq_false_iff_ne.mpr (by omega)
          rw [if_neg h1, h1a]; rfl
      clear hT HK
      go_wp2_with (go_at_call 53; (with_reducible refine HM.mono ?_); rintro e w3 ⟨v, rfl, hR3, hb3⟩; obtain ⟨Ar, cr, rfl, -, -⟩ := Kd.R_reads hR3; have HB3 := below_then hbw hbw.size hb3; clear hR3)
      go_ret2
      exact ⟨by rw [HV.out]; rfl, HB3⟩

set_option maxHeartbeats 1000000 in
set_option maxRecDepth 100000 in
theorem trade_Short.calls (A0_0 : Option Addr) (c0_0 : Nat) (l0_0 : List (S51)) (A0_1 : Option Addr) (c0_1 : Nat) (l0_1 : List (S39)) (a1 : Int) (r1 : ByteArray) (r2 : Int) (w : World) (hr0_0 : Kd.C k51 w A0_0 l0_0.length l0_0) (hc0_0 : l0_0.length ≤ c0_0) (hr0_1 : Kd.C k39 w A0_1 l0_1.length l0_1) (hc0_1 : l0_1.length ≤ c0_1) (h : trade_Short.f l0_0 l0_1 a1 = some (r1, r2)) :
    Calls Try.prog 27 #[.agg #[.slice A0_0 l0_0.length c0_0, .slice A0_1 l0_1.length c0_1], .int .i64 a1] w fun e w' => e = .returned (.tuple #[.string r1, .int .i64 r2]) ∧ Below w.heap.size w w' := by
  have hu2 := Try.underlying26
  have hB0 := (Below.refl w.heap.size w).alloc (Nat.le_refl _) (.cells #[.slice A0_0 l0_0.length c0_0, .slice A0_1 l0_1.length c0_1] 26)
  have hB1 := hB0.alloc hB0.size (.cells #[.int .i64 a1] 3)
  have hcq := second_cell w (.cells #[.slice A0_0 l0_0.length c0_0, .slice A0_1 l0_1.length c0_1] 26) (.int .i64 a1)
  have h := Option.some.inj h
  by_cases hz : askT l0_0 l0_1 a1 = 0
  · obtain ⟨hv, n, rfl, hn⟩ := askT_zero hz
    have HG := fun W q (hW : Below w.heap.size w W) hq => ask_good A0_0 A0_1 c0_0 c0_1 l0_0 l0_1 q n W (Kd.C_below hr0_0 hW) (Kd.C_below hr0_1 hW) hc0_0 hc0_1 hq hv hn
    have HF := fun W g (hL : IsList W g l0_0 l0_1) => short_any g l0_0 l0_1 n W hL hv hn
    rw [if_neg (by omega)] at h
    obtain ⟨R, hRe⟩ : ∃ R, shortT l0_1 n = R := ⟨_, rfl⟩
    rw [hRe] at h
    simp only [hRe] at HF
    clear hz hRe
    match R, h with
    | none, hR =>
      simp only [shortR, Prod.mk.injEq] at hR
      obtain ⟨rfl, rfl⟩ := hR
      simp only [shortV] at HF
      go_enter Try.func27, Try.ntmps27
      go_wp2_with (first
        | (go_at_call 51; (with_reducible refine (HG _ _ hB1 hcq).mono ?_); rintro e w1 ⟨g, rfl, hL1, hb1⟩; obtain HB1 := below_then hB1 hB1.size hb1; clear hb1)
        | (go_at_call 62; (with_reducible refine (HF _ _ hL1).mono ?_); rintro e w3 ⟨rfl, hb3⟩))
      go_ret2
      exact ⟨rfl, below_then HB1 HB1.size hb3⟩
    | some s, hR =>
      simp only [shortR, Prod.mk.injEq] at hR
      obtain ⟨rfl, rfl⟩ := hR
      simp only [shortV] at HF
      go_enter Try.func27, Try.ntmps27
      go_wp2_with (first
        | (go_at_call 51; (with_reducible refine (HG _ _ hB1 hcq).mono ?_); rintro e w1 ⟨g, rfl, hL1, hb1⟩; obtain HB1 := below_then hB1 hB1.size hb1; clear hb1)
        | (go_at_call 62; (with_reducible refine (HF _ _ hL1).mono ?_); rintro e w3 ⟨rfl, hb3⟩))
      go_ret2
      exact ⟨rfl, below_then HB1 HB1.size hb3⟩
  · have HG := fun W q (hW : Below w.heap.size w W) hq => ask_bad A0_0 A0_1 c0_0 c0_1 l0_0 l0_1 q a1 W (Kd.C_below hr0_0 hW) (Kd.C_below hr0_1 hW) hc0_0 hc0_1 hq hz
    rw [if_pos hz] at h
    obtain ⟨z, hze⟩ : ∃ z, askT l0_0 l0_1 a1 = z := ⟨_, rfl⟩
    rw [hze] at h hz
    simp only [Prod.mk.injEq] at h
    obtain ⟨rfl, rfl⟩ := h
    simp only [hze] at HG
    have hz1 : (z != 0) = true := bne_iff_ne.mpr hz
    clear hz hze
    go_enter Try.func27, Try.ntmps27
    go_wp2_with (go_at_call 51; (with_reducible refine (HG _ _ hB1 hcq).mono ?_); rintro e w1 ⟨rfl, hb1⟩; obtain HB1 := below_then hB1 hB1.size hb1; clear hb1)
    go_ret2
    exact ⟨rfl, HB1⟩
end Go.Proofs.Ytfbimhnlcmdcpaa.Pa
/- The contract of Means. -/
namespace Go.Proofs.Ytfbimhnlcmdcpaa.Pa
open Go.RowKit Go.Proofs.YtfbimhnlcmdcpaaW.PrintWords Go.Proofs.YtfbimhnlcmdcpaaW.PrintLast Go.Proofs.YtfbimhnlcmdcpaaW.PrintMore
set_option linter.unusedVariables false
set_option linter.unusedSimpArgs false

theorem contains_go (l : List Int) (x : Int) (hb : l.length ≤ 100) : ∀ (d i : Nat), i + d = l.length → ∃ r, slices_Index_int_int.l0 (d + 1) l x l.length i = some r ∧ (r ≥ 0 ↔ x ∈ l.drop i)
  | 0, i, hi => ⟨-1, by simp only [slices_Index_int_int.l0]; rw [if_neg (by omega)], by rw [List.drop_of_length_le (by omega)]; simp⟩
  | d + 1, i, hi => by
    have hil : i < l.length := by omega
    obtain ⟨r, h1, h2⟩ := contains_go l x hb d (i + 1) (by omega)
    have hrd : rd l (i : Int) = l[i] := by simp [rd, List.getD_eq_getElem?_getD, hil]
    rw [List.drop_eq_getElem_cons hil]
    by_cases c : x = l[i]
    · refine ⟨i, ?_, ⟨fun _ => by rw [c]; exact List.mem_cons_self, fun _ => by omega⟩⟩
      simp only [slices_Index_int_int.l0]
      rw [if_pos (by omega), if_pos (by omega), if_pos (by omega), hrd, if_pos c]
    · refine ⟨r, ?_, by rw [h2, List.mem_cons]; exact ⟨.inr, fun h => h.resolve_left c⟩⟩
      have hw : wrap64 ((i : Int) + 1) = ((i + 1 : Nat) : Int) := by unfold wrap64; omega
      rw [slices_Index_int_int.l0]
      rw [if_pos (by omega), if_pos (by omega), if_pos (by omega), hrd, if_neg c, hw]
      exact h1
theorem contains_f (l : List Int) (x : Int) (hb : l.length ≤ 100) : slices_Contains_int_int.f (l.length + 1) l x = some (l.contains x) := by
  obtain ⟨r, h1, h2⟩ := contains_go l x hb l.length 0 (by omega)
  unfold slices_Contains_int_int.f slices_Index_int_int.f
  have h1 : slices_Index_int_int.l0 (l.length + 1) l x l.length 0 = some r := h1
  rw [h1]
  simp only [Option.bind_some]
  congr 1
  rw [Bool.eq_iff_iff, decide_eq_true_iff, h2]
  simp

theorem mayT_len (hs : List Hd) (b : ByteArray) : (mayT hs b).length ≤ hs.length := by
  have := List.length_filter_le (fun e => (nats hs.length).any (fun h => leadsTo hs b h e)) (nats hs.length)
  have h : (nats hs.length).length = hs.length := by simp [nats]
  rw [h] at this
  exact this

set_option maxHeartbeats 2000000 in
set_option maxRecDepth 100000 in
theorem trade_Means.calls (A0_0 : Option Addr) (c0_0 : Nat) (l0_0 : List (S51)) (A0_1 : Option Addr) (c0_1 : Nat) (l0_1 : List (S39)) (a1 : ByteArray) (a2 : Int) (r1 : Int) (r2 : Int) (w : World) (hr0_0 : Kd.C k51 w A0_0 l0_0.length l0_0) (hc0_0 : l0_0.length ≤ c0_0) (hr0_1 : Kd.C k39 w A0_1 l0_1.length l0_1) (hc0_1 : l0_1.length ≤ c0_1) (h : trade_Means.f l0_0 l0_1 a1 a2 = some (r1, r2)) :
    Calls Try.prog 28 #[.agg #[.slice A0_0 l0_0.length c0_0, .slice A0_1 l0_1.length c0_1], .string a1, .int .i64 a2] w fun e w' => e = .returned (.tuple #[.int .i64 r1, .int .i64 r2]) ∧ Below w.heap.size w w' := by
  have hu2 := Try.underlying26
  have hB0 := (Below.refl w.heap.size w).alloc (Nat.le_refl _) (.cells #[.slice A0_0 l0_0.length c0_0, .slice A0_1 l0_1.length c0_1] 26)
  have hB1 := hB0.alloc hB0.size (.cells #[.int .i64 a2] 3)
  have hcq := second_cell w (.cells #[.slice A0_0 l0_0.length c0_0, .slice A0_1 l0_1.length c0_1] 26) (.int .i64 a2)
  have h := Option.some.inj h
  by_cases hz : askT l0_0 l0_1 a2 = 0
  · obtain ⟨hv, n, rfl, hn⟩ := askT_zero hz
    have HG := fun W q (hW : Below w.heap.size w W) hq => ask_good A0_0 A0_1 c0_0 c0_1 l0_0 l0_1 q n W (Kd.C_below hr0_0 hW) (Kd.C_below hr0_1 hW) hc0_0 hc0_1 hq hv hn
    have HA := fun W g (hL : IsList W g l0_0 l0_1) => isTrade_any g l0_0 l0_1 n W hL hn
    have HM := fun W g (hL : IsList W g l0_0 l0_1) => may_any g l0_0 l0_1 a1 W hL hv
    have hl6 := mayT_len l0_1 a1
    have h6 := hv.split.2.1
    have hart : isTradeT l0_1 (n : Int) = artB (l0_1.getD n zHd) := by unfold isTradeT artB; rw [Int.toNat_natCast]
    unfold askT at hz
    split at hz
    · rename_i h1; exact absurd hz h1
    rename_i h1
    split at hz
    · omega
    rename_i h2
    rw [if_neg h1, if_neg h2, hart] at h
    clear hz h1 h2 hart
    obtain ⟨T, hT⟩ : ∃ T, artB (l0_1.getD n zHd) = T := ⟨_, rfl⟩
    rw [hT] at h
    simp only [hT] at HA
    clear hT
    cases T with
    | false =>
      rw [if_pos rfl] at h
      simp only [Prod.mk.injEq] at h
      obtain ⟨rfl, rfl⟩ := h
      clear HM
      go_enter Try.func28, Try.ntmps28
      go_wp2_with (first
        | (go_at_call 51; (with_reducible refine (HG _ _ hB1 hcq).mono ?_); rintro e w1 ⟨g, rfl, hL1, hb1⟩; obtain HB1 := below_then hB1 hB1.size hb1; clear hb1)
        | (go_at_call 63; (with_reducible refine (HA _ _ hL1).mono ?_); rintro e w3 ⟨rfl, hb3⟩))
      go_ret2
      exact ⟨rfl, below_then HB1 HB1.size hb3⟩
    | true =>
      rw [if_neg (by simp)] at h
      unfold meansT at h
      obtain ⟨M, hM⟩ : ∃ M, mayT l0_1 a1 = M := ⟨_, rfl⟩
      rw [hM] at h hl6
      simp only [hM] at HM
      clear hM
      have HC := fun A c W (hC : Kd.C (Kd.int .i64) W A M.length M) (hc : M.length ≤ c) => slices_Contains_int_int.calls (M.length + 1) A c M n (M.contains (n : Int)) W hC hc (contains_f M n (by omega))
      obtain ⟨C, hC⟩ : ∃ C, M.contains (n : Int) = C := ⟨_, rfl⟩
      rw [hC] at h
      simp only [hC] at HC
      clear hC
      cases C with
      | false =>
        rw [if_pos rfl] at h
        simp only [Prod.mk.injEq] at h
        obtain ⟨rfl, rfl⟩ := h
        go_enter Try.func28, Try.ntmps28
        go_wp2_with (first
          | (go_at_call 51; (with_reducible refine (HG _ _ hB1 hcq).mono ?_); rintro e w1 ⟨g, rfl, hL1, hb1⟩; obtain HB1 := below_then hB1 hB1.size hb1; clear hb1)
          | (go_at_call 63; (with_reducible refine (HA _ _ hL1).mono ?_); rintro e w3 ⟨rfl, hb3⟩; have HB3 := below_then HB1 HB1.size hb3; have hL3 := hL1.below hb3; clear hL1 hb3)
          | (go_at_call 53; (with_reducible refine (HM _ _ hL3).mono ?_); rintro e w4 ⟨v, rfl, hR4, hb4⟩; obtain ⟨Am, cm, rfl, hlm, hCm⟩ := Kd.R_reads hR4; have HB4 := below_then HB3 HB3.size hb4; clear hb4 hR4)
          | (go_at_call 64; (with_reducible refine (HC _ _ _ hCm hlm).mono ?_); rintro e w5 ⟨rfl, hd5⟩; have HB5 := below_then HB4 HB4.size hd5.below))
        go_ret2
        exact ⟨rfl, HB5⟩
      | true =>
        rw [if_neg (by simp)] at h
        by_cases hm : M.length = 1
        · rw [if_pos hm] at h
          simp only [Prod.mk.injEq] at h
          obtain ⟨rfl, rfl⟩ := h
          have hm1 : ((M.length : Int) == 1) = true := by rw [hm]; rfl
          clear hm
          go_enter Try.func28, Try.ntmps28
          go_wp2_with (first
            | (go_at_call 51; (with_reducible refine (HG _ _ hB1 hcq).mono ?_); rintro e w1 ⟨g, rfl, hL1, hb1⟩; obtain HB1 := below_then hB1 hB1.size hb1; clear hb1)
            | (go_at_call 63; (with_reducible refine (HA _ _ hL1).mono ?_); rintro e w3 ⟨rfl, hb3⟩; have HB3 := below_then HB1 HB1.size hb3; have hL3 := hL1.below hb3; clear hL1 hb3)
            | (go_at_call 53; (with_reducible refine (HM _ _ hL3).mono ?_); rintro e w4 ⟨v, rfl, hR4, hb4⟩; obtain ⟨Am, cm, rfl, hlm, hCm⟩ := Kd.R_reads hR4; have HB4 := below_then HB3 HB3.size hb4; clear hb4 hR4)
            | (go_at_call 64; (with_reducible refine (HC _ _ _ hCm hlm).mono ?_); rintro e w5 ⟨rfl, hd5⟩; have HB5 := below_then HB4 HB4.size hd5.below))
          go_ret2
          exact ⟨rfl, HB5⟩
        · rw [if_neg hm] at h
          simp only [Prod.mk.injEq] at h
          obtain ⟨rfl, rfl⟩ := h
          have hm1 : ((M.length : Int) == 1) = false := beq_eq_false_iff_ne.mpr (by omega)
          clear hm
          go_enter Try.func28, Try.ntmps28
          go_wp2_with (first
            | (go_at_call 51; (with_reducible refine (HG _ _ hB1 hcq).mono ?_); rintro e w1 ⟨g, rfl, hL1, hb1⟩; obtain HB1 := below_then hB1 hB1.size hb1; clear hb1)
            | (go_at_call 63; (with_reducible refine (HA _ _ hL1).mono ?_); rintro e w3 ⟨rfl, hb3⟩; have HB3 := below_then HB1 HB1.size hb3; have hL3 := hL1.below hb3; clear hL1 hb3)
            | (go_at_call 53; (with_reducible refine (HM _ _ hL3).mono ?_); rintro e w4 ⟨v, rfl, hR4, hb4⟩; obtain ⟨Am, cm, rfl, hlm, hCm⟩ := Kd.R_reads hR4; have HB4 := below_then HB3 HB3.size hb4; clear hb4 hR4)
            | (go_at_call 64; (with_reducible refine (HC _ _ _ hCm hlm).mono ?_); rintro e w5 ⟨rfl, hd5⟩; have HB5 := below_then HB4 HB4.size hd5.below))
          go_ret2
          exact ⟨rfl, HB5⟩
  · have HG := fun W q (hW : Below w.heap.size w W) hq => ask_bad A0_0 A0_1 c0_0 c0_1 l0_0 l0_1 q a2 W (Kd.C_below hr0_0 hW) (Kd.C_below hr0_1 hW) hc0_0 hc0_1 hq hz
    have hh : (0, askT l0_0 l0_1 a2) = (r1, r2) := by
      rw [← h]
      unfold askT at hz ⊢
      split
      · rfl
      · rename_i h1
        rw [if_neg h1] at hz
        split
        · rfl
        · rename_i h2; rw [if_neg h2] at hz; exact absurd rfl hz
    clear h
    obtain ⟨z, hze⟩ : ∃ z, askT l0_0 l0_1 a2 = z := ⟨_, rfl⟩
    rw [hze] at hh hz
    simp only [Prod.mk.injEq] at hh
    obtain ⟨rfl, rfl⟩ := hh
    simp only [hze] at HG
    have hz1 : (z != 0) = true := bne_iff_ne.mpr hz
    clear hz hze
    go_enter Try.func28, Try.ntmps28
    go_wp2_with (go_at_call 51; (with_reducible refine (HG _ _ hB1 hcq).mono ?_); rintro e w1 ⟨rfl, hb1⟩; obtain HB1 := below_then hB1 hB1.size hb1; clear hb1)
    go_ret2
    exact ⟨rfl, HB1⟩
end Go.Proofs.Ytfbimhnlcmdcpaa.Pa
namespace Go.Proofs.Ytfbimhnlcmdcpaa.Pa
open Go.RowKit Go.Proofs.YtfbimhnlcmdcpaaW.PrintWords Go.Proofs.YtfbimhnlcmdcpaaW.PrintLast Go.Proofs.YtfbimhnlcmdcpaaW.PrintMore
attribute [local go_sem] max2_int min2_int max_two min_two max_three min_three max_four min_four   -- for this text's walks alone
set_option linter.unusedVariables false
set_option linter.unusedSimpArgs false


/-- A state of type 72 at block g of W; what its slices lead to came in by w0. -/
def IsS72 (w0 W : World) (g : Nat) (f0 : List Int) (f1 : Int) (f2 : Int) : Prop := ∃ A0 c0, W.heap[g]? = some (.cells #[.slice A0 f0.length c0, .int .i64 f1, .int .u64 f2] 72 (0, 0)) ∧ w0.heap.size ≤ g ∧ Kd.C (Kd.int .i64) w0 A0 f0.length f0
theorem IsS72.grown {w0 W : World} {g : Nat} {f0 : List Int} {f1 : Int} {f2 : Int} {W1 : World} {row : Option Nat} (h : IsS72 w0 W g f0 f1 f2) (hw : W.grownBy W1 row) (hne : some g ≠ row) : IsS72 w0 W1 g f0 f1 f2 := by
  obtain ⟨A0, c0, hb, hg, hr0⟩ := h
  exact ⟨A0, c0, blk_grown hb hw hne, hg, hr0⟩
theorem IsS72.fresh {w0 W : World} {g : Nat} {f0 : List Int} {f1 : Int} {f2 : Int} (h : IsS72 w0 W g f0 f1 f2) : ∀ k, W.heap.size ≤ k → k ≠ g := by
  obtain ⟨A0, c0, hb, hg, hr0⟩ := h
  exact Kd.freshB hb
theorem IsS72.kept {w0 W : World} {g : Nat} {f0 : List Int} {f1 : Int} {f2 : Int} {W1 : World} {S : Nat → Prop} (h : IsS72 w0 W g f0 f1 f2) (hk : Kept W W1 S) (hne : ¬ S g) : IsS72 w0 W1 g f0 f1 f2 := by
  obtain ⟨A0, c0, hb, hg, hr0⟩ := h
  exact ⟨A0, c0, blk_kept hb hk hne, hg, hr0⟩
theorem IsS72.below {w0 W : World} {g : Nat} {f0 : List Int} {f1 : Int} {f2 : Int} {W1 : World} (h : IsS72 w0 W g f0 f1 f2) (hw : Below W.heap.size W W1) : IsS72 w0 W1 g f0 f1 f2 := h.grown (grown_of_below hw none) (by simp)
theorem IsS72.alloc {w0 W : World} {g : Nat} {f0 : List Int} {f1 : Int} {f2 : Int} (h : IsS72 w0 W g f0 f1 f2) (o : Obj) : IsS72 w0 (W.alloc o) g f0 f1 f2 := h.below (below_alloc (Below.refl _ _) o)
theorem IsS72.drewN {w0 W : World} {g : Nat} {f0 : List Int} {f1 : Int} {f2 : Int} (h : IsS72 w0 W g f0 f1 f2) (m : Nat) : IsS72 w0 (W.drewN m) g f0 f1 f2 := h
theorem IsS72.drew {w0 W : World} {g : Nat} {f0 : List Int} {f1 : Int} {f2 : Int} (h : IsS72 w0 W g f0 f1 f2) : IsS72 w0 W.drew g f0 f1 f2 := h
theorem IsS72.apart {w0 W : World} {g : Nat} {f0 : List Int} {f1 : Int} {f2 : Int} {α : Type} {d : Kd α} {e : Nat} {base : Nat} {ok : Nat → Prop} {v : Value} {xs : List α} (h : IsS72 w0 W g f0 f1 f2) (ho : d.R e W base ok v xs) (ht : ∀ q, q ∈ e :: d.E → q ≠ 72) : d.R e W base (fun k => ok k ∧ k ≠ g) v xs := by
  obtain ⟨A0, c0, hb, hg, hr0⟩ := h
  exact Kd.R_types ho hb ht
theorem IsS72.own_ne {w0 W : World} {g : Nat} {f0 : List Int} {f1 : Int} {f2 : Int} {α : Type} {d : Kd α} {e : Nat} {base : Nat} {ok : Nat → Prop} {v : Value} {xs : List α} (h : IsS72 w0 W g f0 f1 f2) (ho : d.R e W base ok v xs) (ht : e ≠ 72) : some g ≠ v.ownBlock := by
  obtain ⟨A0, c0, hb, hg, hr0⟩ := h
  exact Kd.R_ne ho hb ht
theorem IsS72.apartS {w0 W : World} {g : Nat} {f0 : List Int} {f1 : Int} {f2 : Int} {α : Type} {d : Kd α} {e : Nat} {base : Nat} {ok : Nat → Prop} {v : Value} {xs : List α} (h : IsS72 w0 W g f0 f1 f2) (ho : d.S e W base ok v xs) (ht : ∀ q, q ∈ e :: d.E → q ≠ 72) : d.S e W base (fun k => ok k ∧ k ≠ g) v xs := by
  obtain ⟨A0, c0, hb, hg, hr0⟩ := h
  exact Kd.S_types ho hb ht
theorem IsS72.own_neS {w0 W : World} {g : Nat} {f0 : List Int} {f1 : Int} {f2 : Int} {α : Type} {d : Kd α} {e : Nat} {base : Nat} {ok : Nat → Prop} {v : Value} {xs : List α} (h : IsS72 w0 W g f0 f1 f2) (ho : d.S e W base ok v xs) (ht : e ≠ 72) : some g ≠ v.ownBlock := by
  obtain ⟨A0, c0, hb, hg, hr0⟩ := h
  exact Kd.S_ne ho hb ht
theorem IsS72.lt {w0 W : World} {g : Nat} {f0 : List Int} {f1 : Int} {f2 : Int} (h : IsS72 w0 W g f0 f1 f2) : g < W.heap.size := by
  obtain ⟨A0, c0, hb, hg, hr0⟩ := h
  exact blk_lt hb
theorem IsS72.ge {w0 W : World} {g : Nat} {f0 : List Int} {f1 : Int} {f2 : Int} (h : IsS72 w0 W g f0 f1 f2) : w0.heap.size ≤ g := by
  obtain ⟨A0, c0, hb, hg, hr0⟩ := h
  exact hg
theorem IsS72.far {w0 W : World} {g : Nat} {f0 : List Int} {f1 : Int} {f2 : Int} {p : Addr} (h : IsS72 w0 W g f0 f1 f2) (hne : g ≠ p.block) (u : Value) : IsS72 w0 (W.setCell p u) g f0 f1 f2 := by
  obtain ⟨A0, c0, hb, hg, hr0⟩ := h
  exact ⟨A0, c0, blk_far hb hne u, hg, hr0⟩
theorem cellS72_0 {W : World} {g : Nat} {A0 : Option Addr} {c0 : Nat} {f0 : List Int} {f1 : Int} {f2 : Int} (h : W.heap[g]? = some (.cells #[.slice A0 f0.length c0, .int .i64 f1, .int .u64 f2] 72 (0, 0))) : W.cell? ⟨g, 0, none⟩ = some (.slice A0 f0.length c0) := (blk_cell h 0).trans rfl
theorem cellS72_1 {W : World} {g : Nat} {A0 : Option Addr} {c0 : Nat} {f0 : List Int} {f1 : Int} {f2 : Int} (h : W.heap[g]? = some (.cells #[.slice A0 f0.length c0, .int .i64 f1, .int .u64 f2] 72 (0, 0))) : W.cell? ⟨g, 1, none⟩ = some (.int .i64 f1) := (blk_cell h 1).trans rfl
theorem IsS72.set_1 {w0 W : World} {g : Nat} {f0 : List Int} {f1 : Int} {f2 : Int} (h : IsS72 w0 W g f0 f1 f2) (x : Int) : IsS72 w0 (W.setCell ⟨g, 1, none⟩ (.int .i64 x)) g f0 x f2 := by
  obtain ⟨A0, c0, hb, hg, hr0⟩ := h
  exact ⟨A0, c0, by simpa using blk_set hb 1 (.int .i64 x), hg, hr0⟩
theorem cellS72_2 {W : World} {g : Nat} {A0 : Option Addr} {c0 : Nat} {f0 : List Int} {f1 : Int} {f2 : Int} (h : W.heap[g]? = some (.cells #[.slice A0 f0.length c0, .int .i64 f1, .int .u64 f2] 72 (0, 0))) : W.cell? ⟨g, 2, none⟩ = some (.int .u64 f2) := (blk_cell h 2).trans rfl
theorem IsS72.set_2 {w0 W : World} {g : Nat} {f0 : List Int} {f1 : Int} {f2 : Int} (h : IsS72 w0 W g f0 f1 f2) (x : Int) : IsS72 w0 (W.setCell ⟨g, 2, none⟩ (.int .u64 x)) g f0 f1 x := by
  obtain ⟨A0, c0, hb, hg, hr0⟩ := h
  exact ⟨A0, c0, by simpa using blk_set hb 2 (.int .u64 x), hg, hr0⟩
theorem IsS72.new (w0 W : World) (A0 : Option Addr) (c0 : Nat) (f0 : List Int) (f1 : Int) (f2 : Int) (hB : Below w0.heap.size w0 W) (hr0 : Kd.C (Kd.int .i64) w0 A0 f0.length f0) : IsS72 w0 (W.alloc (.cells #[.slice A0 f0.length c0, .int .i64 f1, .int .u64 f2] 72)) W.heap.size f0 f1 f2 := ⟨A0, c0, by simpa using heap_alloc_new W _, hB.size, hr0⟩

/-! ### wayzgoosekit_Dice_raw: function 67 -/
def wayzgoosekit_Dice_raw.f (s0_0 : List Int) (s0_1 : Int) (s0_2 : Int) : Option (Int × Int × Int) := if s0_1 < (s0_0.length : Int) then (if 0 ≤ s0_1 then (some (Go.bits .xor .u64 (IntKind.u64.wrap ((Go.bits .xor .u64 (IntKind.u64.wrap ((Go.bits .xor .u64 (Go.bits .xor .u64 (Go.bits .xor .u64 s0_2 (IntKind.u64.wrap (s0_2 * 8192))) ((Go.bits .xor .u64 s0_2 (IntKind.u64.wrap (s0_2 * 8192))) / 128)) (IntKind.u64.wrap ((Go.bits .xor .u64 (Go.bits .xor .u64 s0_2 (IntKind.u64.wrap (s0_2 * 8192))) ((Go.bits .xor .u64 s0_2 (IntKind.u64.wrap (s0_2 * 8192))) / 128)) * 131072))) + (IntKind.u64.wrap ((IntKind.u64.wrap (rd s0_0 s0_1)) * 13787848793156543929)))) ((IntKind.u64.wrap ((Go.bits .xor .u64 (Go.bits .xor .u64 (Go.bits .xor .u64 s0_2 (IntKind.u64.wrap (s0_2 * 8192))) ((Go.bits .xor .u64 s0_2 (IntKind.u64.wrap (s0_2 * 8192))) / 128)) (IntKind.u64.wrap ((Go.bits .xor .u64 (Go.bits .xor .u64 s0_2 (IntKind.u64.wrap (s0_2 * 8192))) ((Go.bits .xor .u64 s0_2 (IntKind.u64.wrap (s0_2 * 8192))) / 128)) * 131072))) + (IntKind.u64.wrap ((IntKind.u64.wrap (rd s0_0 s0_1)) * 13787848793156543929)))) / 1073741824)) * 10723151780598845931)) ((IntKind.u64.wrap ((Go.bits .xor .u64 (IntKind.u64.wrap ((Go.bits .xor .u64 (Go.bits .xor .u64 (Go.bits .xor .u64 s0_2 (IntKind.u64.wrap (s0_2 * 8192))) ((Go.bits .xor .u64 s0_2 (IntKind.u64.wrap (s0_2 * 8192))) / 128)) (IntKind.u64.wrap ((Go.bits .xor .u64 (Go.bits .xor .u64 s0_2 (IntKind.u64.wrap (s0_2 * 8192))) ((Go.bits .xor .u64 s0_2 (IntKind.u64.wrap (s0_2 * 8192))) / 128)) * 131072))) + (IntKind.u64.wrap ((IntKind.u64.wrap (rd s0_0 s0_1)) * 13787848793156543929)))) ((IntKind.u64.wrap ((Go.bits .xor .u64 (Go.bits .xor .u64 (Go.bits .xor .u64 s0_2 (IntKind.u64.wrap (s0_2 * 8192))) ((Go.bits .xor .u64 s0_2 (IntKind.u64.wrap (s0_2 * 8192))) / 128)) (IntKind.u64.wrap ((Go.bits .xor .u64 (Go.bits .xor .u64 s0_2 (IntKind.u64.wrap (s0_2 * 8192))) ((Go.bits .xor .u64 s0_2 (IntKind.u64.wrap (s0_2 * 8192))) / 128)) * 131072))) + (IntKind.u64.wrap ((IntKind.u64.wrap (rd s0_0 s0_1)) * 13787848793156543929)))) / 1073741824)) * 10723151780598845931)) / 2147483648), wrap64 (s0_1 + 1), IntKind.u64.wrap ((Go.bits .xor .u64 (Go.bits .xor .u64 (Go.bits .xor .u64 s0_2 (IntKind.u64.wrap (s0_2 * 8192))) ((Go.bits .xor .u64 s0_2 (IntKind.u64.wrap (s0_2 * 8192))) / 128)) (IntKind.u64.wrap ((Go.bits .xor .u64 (Go.bits .xor .u64 s0_2 (IntKind.u64.wrap (s0_2 * 8192))) ((Go.bits .xor .u64 s0_2 (IntKind.u64.wrap (s0_2 * 8192))) / 128)) * 131072))) + (IntKind.u64.wrap ((IntKind.u64.wrap (rd s0_0 s0_1)) * 13787848793156543929))))) else (none)) else (some (Go.bits .xor .u64 (IntKind.u64.wrap ((Go.bits .xor .u64 (Go.bits .xor .u64 (Go.bits .xor .u64 (Go.bits .xor .u64 s0_2 (IntKind.u64.wrap (s0_2 * 8192))) ((Go.bits .xor .u64 s0_2 (IntKind.u64.wrap (s0_2 * 8192))) / 128)) (IntKind.u64.wrap ((Go.bits .xor .u64 (Go.bits .xor .u64 s0_2 (IntKind.u64.wrap (s0_2 * 8192))) ((Go.bits .xor .u64 s0_2 (IntKind.u64.wrap (s0_2 * 8192))) / 128)) * 131072))) ((Go.bits .xor .u64 (Go.bits .xor .u64 (Go.bits .xor .u64 s0_2 (IntKind.u64.wrap (s0_2 * 8192))) ((Go.bits .xor .u64 s0_2 (IntKind.u64.wrap (s0_2 * 8192))) / 128)) (IntKind.u64.wrap ((Go.bits .xor .u64 (Go.bits .xor .u64 s0_2 (IntKind.u64.wrap (s0_2 * 8192))) ((Go.bits .xor .u64 s0_2 (IntKind.u64.wrap (s0_2 * 8192))) / 128)) * 131072))) / 1073741824)) * 10723151780598845931)) ((IntKind.u64.wrap ((Go.bits .xor .u64 (Go.bits .xor .u64 (Go.bits .xor .u64 (Go.bits .xor .u64 s0_2 (IntKind.u64.wrap (s0_2 * 8192))) ((Go.bits .xor .u64 s0_2 (IntKind.u64.wrap (s0_2 * 8192))) / 128)) (IntKind.u64.wrap ((Go.bits .xor .u64 (Go.bits .xor .u64 s0_2 (IntKind.u64.wrap (s0_2 * 8192))) ((Go.bits .xor .u64 s0_2 (IntKind.u64.wrap (s0_2 * 8192))) / 128)) * 131072))) ((Go.bits .xor .u64 (Go.bits .xor .u64 (Go.bits .xor .u64 s0_2 (IntKind.u64.wrap (s0_2 * 8192))) ((Go.bits .xor .u64 s0_2 (IntKind.u64.wrap (s0_2 * 8192))) / 128)) (IntKind.u64.wrap ((Go.bits .xor .u64 (Go.bits .xor .u64 s0_2 (IntKind.u64.wrap (s0_2 * 8192))) ((Go.bits .xor .u64 s0_2 (IntKind.u64.wrap (s0_2 * 8192))) / 128)) * 131072))) / 1073741824)) * 10723151780598845931)) / 2147483648), s0_1, Go.bits .xor .u64 (Go.bits .xor .u64 (Go.bits .xor .u64 s0_2 (IntKind.u64.wrap (s0_2 * 8192))) ((Go.bits .xor .u64 s0_2 (IntKind.u64.wrap (s0_2 * 8192))) / 128)) (IntKind.u64.wrap ((Go.bits .xor .u64 (Go.bits .xor .u64 s0_2 (IntKind.u64.wrap (s0_2 * 8192))) ((Go.bits .xor .u64 s0_2 (IntKind.u64.wrap (s0_2 * 8192))) / 128)) * 131072))))
end Go.Proofs.Ytfbimhnlcmdcpaa.Pa
/- The contract of Dice.raw: the next number. -/
namespace Go.Proofs.Ytfbimhnlcmdcpaa.Pa
open Go.RowKit Go.Proofs.YtfbimhnlcmdcpaaW.PrintWords Go.Proofs.YtfbimhnlcmdcpaaW.PrintLast Go.Proofs.YtfbimhnlcmdcpaaW.PrintMore
attribute [local go_sem] max2_int min2_int max_two min_two max_three min_three max_four min_four
set_option linter.unusedVariables false
set_option linter.unusedSimpArgs false

set_option maxHeartbeats 8000000 in
set_option maxRecDepth 100000 in
theorem wayzgoosekit_Dice_raw.calls (g : Nat) (s0_0 : List Int) (s0_1 : Int) (s0_2 : Int) (r1 : Int) (r2 : Int) (r3 : Int) (w0 w : World) (hI : IsS72 w0 w g s0_0 s0_1 s0_2) (hB : Below w0.heap.size w0 w) (h : wayzgoosekit_Dice_raw.f s0_0 s0_1 s0_2 = some (r1, r2, r3)) :
    Calls Try.prog 67 #[.pointer (some ⟨g, 0, none⟩)] w fun e w' => e = .returned (.int .u64 r1) ∧ IsS72 w0 w' g s0_0 r2 r3 ∧ Below w0.heap.size w0 w' ∧ KeepBut w w' g none := by
  have hK := KeepBut.refl w g none
  have hge := hI.ge
  unfold wayzgoosekit_Dice_raw.f at h
  obtain ⟨v1, hv1⟩ : ∃ v, Go.bits .xor .u64 s0_2 (IntKind.u64.wrap (s0_2 * 8192)) = v := ⟨_, rfl⟩
  rw [hv1] at h
  obtain ⟨v2, hv2⟩ : ∃ v, Go.bits .xor .u64 v1 (v1 / 128) = v := ⟨_, rfl⟩
  rw [hv2] at h
  obtain ⟨v3, hv3⟩ : ∃ v, Go.bits .xor .u64 v2 (IntKind.u64.wrap (v2 * 131072)) = v := ⟨_, rfl⟩
  rw [hv3] at h
  have hI0 := hI
  obtain ⟨A0, c0, HG, -, HS⟩ := hI
  have hc0 := cellS72_0 HG
  have hc1 := cellS72_1 HG
  have hc2 := cellS72_2 HG
  have hf1 := blk_frozen HG 1
  have hf2 := blk_frozen HG 2
  go_enter Try.func67, Try.ntmps67
  go_upto_region 1 with (fail)
  go_region
  obtain ⟨w1, hw1⟩ : ∃ W, W = (w.setCell ⟨g, 2, none⟩ (.int .u64 v1)).drew := ⟨_, rfl⟩
  have hI : IsS72 w0 w1 g s0_0 s0_1 v1 := by rw [hw1]; exact (IsS72.set_2 ⟨A0, c0, HG, hge, HS⟩ v1).drew
  replace hB : Below w0.heap.size w0 w1 := by rw [hw1]; exact below_drew1 (below_set hB hge)
  replace hK : KeepBut w w1 g none := by rw [hw1]; exact keep_drew (KeepBut.set_ hK _ _)
  rw [← hw1]
  clear hw1 hc0 hc1 hc2 hf1 hf2 HG HS hv1
  clear A0 c0 hI0
  have hI0 := hI
  obtain ⟨A0, c0, HG, -, HS⟩ := hI
  have hc0 := cellS72_0 HG
  have hc1 := cellS72_1 HG
  have hc2 := cellS72_2 HG
  have hf1 := blk_frozen HG 1
  have hf2 := blk_frozen HG 2
  go_upto_region 2 with (fail)
  go_region
  obtain ⟨w2, hw2⟩ : ∃ W, W = (w1.setCell ⟨g, 2, none⟩ (.int .u64 v2)).drew := ⟨_, rfl⟩
  have hI : IsS72 w0 w2 g s0_0 s0_1 v2 := by rw [hw2]; exact (IsS72.set_2 ⟨A0, c0, HG, hge, HS⟩ v2).drew
  replace hB : Below w0.heap.size w0 w2 := by rw [hw2]; exact below_drew1 (below_set hB hge)
  replace hK : KeepBut w w2 g none := by rw [hw2]; exact keep_drew (KeepBut.set_ hK _ _)
  rw [← hw2]
  clear hw2 hc0 hc1 hc2 hf1 hf2 HG HS hv2
  clear A0 c0 hI0
  have hI0 := hI
  obtain ⟨A0, c0, HG, -, HS⟩ := hI
  have hc0 := cellS72_0 HG
  have hc1 := cellS72_1 HG
  have hc2 := cellS72_2 HG
  have hf1 := blk_frozen HG 1
  have hf2 := blk_frozen HG 2
  go_upto_region 3 with (fail)
  go_region
  obtain ⟨w3, hw3⟩ : ∃ W, W = (w2.setCell ⟨g, 2, none⟩ (.int .u64 v3)).drew := ⟨_, rfl⟩
  have hI : IsS72 w0 w3 g s0_0 s0_1 v3 := by rw [hw3]; exact (IsS72.set_2 ⟨A0, c0, HG, hge, HS⟩ v3).drew
  replace hB : Below w0.heap.size w0 w3 := by rw [hw3]; exact below_drew1 (below_set hB hge)
  replace hK : KeepBut w w3 g none := by rw [hw3]; exact keep_drew (KeepBut.set_ hK _ _)
  rw [← hw3]
  clear hw3 hc0 hc1 hc2 hf1 hf2 HG HS hv3
  clear A0 c0 hI0
  have hI0 := hI
  obtain ⟨A0, c0, HG, -, HS⟩ := hI
  have hc0 := cellS72_0 HG
  have hc1 := cellS72_1 HG
  have hc2 := cellS72_2 HG
  have hf1 := blk_frozen HG 1
  have hf2 := blk_frozen HG 2
  go_upto_region 4 with (fail)
  by_cases c2 : s0_1 < (s0_0.length : Int)
  · rw [if_pos c2] at h
    by_cases c3 : 0 ≤ s0_1
    · rw [if_pos c3] at h
      obtain ⟨v4, hv4⟩ : ∃ v, IntKind.u64.wrap (v3 + (IntKind.u64.wrap ((IntKind.u64.wrap (rd s0_0 s0_1)) * 13787848793156543929))) = v := ⟨_, rfl⟩
      rw [hv4] at h
      obtain ⟨rfl, rfl, rfl⟩ : _ = r1 ∧ _ = r2 ∧ _ = r3 := by simpa only [Option.some.injEq, Prod.mk.injEq] using h
      clear h
      obtain ⟨ad, rfl, hx⟩ := Kd.at_int HS s0_1 c3 c2
      have hx3 := pw_cell_below hB hx
      have p1 := eq_true c3
      have q1 := eq_true c2
      have c2b : decide (s0_1 < (s0_0.length : Int)) = true := decide_eq_true c2
      clear c2 c3
      go_region
      go_upto_region 5 with (fail)
      go_region
      go_wp2
      go_ret
      exact ⟨rfl, ((hI0.set_2 v4).set_1 (wrap64 (s0_1 + 1))).drew.drew, below_drew1 (below_drew1 (below_set (below_set hB hge) hge)), keep_drew (keep_drew (KeepBut.set_ (KeepBut.set_ hK _ _) _ _))⟩
    · rw [if_neg c3] at h
      cases h
  · rw [if_neg c2] at h
    have c2b : decide (s0_1 < (s0_0.length : Int)) = false := decide_eq_false c2
    obtain ⟨rfl, rfl, rfl⟩ : _ = r1 ∧ _ = r2 ∧ _ = r3 := by simpa only [Option.some.injEq, Prod.mk.injEq] using h
    clear h
    go_region
    go_wp2
    go_ret
    exact ⟨rfl, hI0.drewN _, pw_below_drewN hB _, keep_drewN hK _⟩
end Go.Proofs.Ytfbimhnlcmdcpaa.Pa
namespace Go.Proofs.Ytfbimhnlcmdcpaa.Pa
open Go.RowKit Go.Proofs.YtfbimhnlcmdcpaaW.PrintWords Go.Proofs.YtfbimhnlcmdcpaaW.PrintLast Go.Proofs.YtfbimhnlcmdcpaaW.PrintMore
attribute [local go_sem] max2_int min2_int max_two min_two max_three min_three max_four min_four   -- for this text's walks alone
set_option linter.unusedVariables false
set_option linter.unusedSimpArgs false

/-! ### wayzgoosekit_Dice_To: function 32 -/
def wayzgoosekit_Dice_To.f (s0_0 : List Int) (s0_1 : Int) (s0_2 : Int) (a1 : Int) : Option (Int × Int × Int) := if a1 < 1 then (some (0, s0_1, s0_2)) else ((wayzgoosekit_Dice_raw.f s0_0 s0_1 s0_2).bind fun bt102 => (if (IntKind.u64.wrap (wrap64 (a1 + 1))) = 0 then (none) else (some (wrap64 (Int.tmod (bt102.1 / 65536) (IntKind.u64.wrap (wrap64 (a1 + 1)))), bt102.2.1, bt102.2.2))))
set_option maxHeartbeats 8000000 in
set_option maxRecDepth 100000 in
theorem wayzgoosekit_Dice_To.calls (g : Nat) (s0_0 : List Int) (s0_1 : Int) (s0_2 : Int) (a1 : Int) (r1 : Int) (r2 : Int) (r3 : Int) (w0 w : World) (hI : IsS72 w0 w g s0_0 s0_1 s0_2) (hB : Below w0.heap.size w0 w) (h : wayzgoosekit_Dice_To.f s0_0 s0_1 s0_2 a1 = some (r1, r2, r3)) :
    Calls Try.prog 32 #[.pointer (some ⟨g, 0, none⟩), .int .i64 a1] w fun e w' => e = .returned (.int .i64 r1) ∧ IsS72 w0 w' g s0_0 r2 r3 ∧ Below w0.heap.size w0 w' ∧ KeepBut w w' g none := by
  have HI0 := Aside0.mk hI
  have HK := Aside0.mk (KeepBut.refl w g none)
  have HL := Aside0.mk hB.size
  clear hI
  have HW0 := Aside0.mk hB.size
  have HB := Aside0.mk hB
  clear hB
  have H : (if a1 < 1 then (some (0, s0_1, s0_2)) else ((wayzgoosekit_Dice_raw.f s0_0 s0_1 s0_2).bind fun bt102 => (if (IntKind.u64.wrap (wrap64 (a1 + 1))) = 0 then (none) else (some (wrap64 (Int.tmod (bt102.1 / 65536) (IntKind.u64.wrap (wrap64 (a1 + 1)))), bt102.2.1, bt102.2.2))))) = some (r1, r2, r3) := h
  clear h
  by_cases c3 : a1 < 1
  · rw [if_pos c3] at H
    have c3b0 : decide (a1 < 1) = true := decide_eq_true c3
    clear c3
    simp only [Option.some.injEq, Prod.mk.injEq] at H
    obtain ⟨rfl, rfl, rfl⟩ := H
    go_enter Try.func32, Try.ntmps32
    go_wp2
    go_ret
    exact ⟨by first | rfl | (simp [errW_none, errW_some] <;> rfl) | (simp [*, errW_none, errW_some] <;> rfl), by repeat (first | (with_reducible first | exact HI0.out | apply IsS72.alloc | apply IsS72.drewN | apply IsS72.drew | apply IsS72.set_1 | apply IsS72.set_2) | exact HI0.out), by repeat (first | (with_reducible first | exact HB.out | apply below_alloc | apply pw_below_drewN | apply below_drew1 | refine below_set ?_ (IsS72.ge HI0.out)) | exact HB.out), by repeat (first | (with_reducible first | exact HK.out | apply KeepBut.set_ | apply keep_drewN | apply keep_drew | apply keep_alloc) | exact HK.out)⟩
  · rw [if_neg c3] at H
    have c3b0 : decide (a1 < 1) = false := decide_eq_false c3
    clear c3
    replace H := Option.bind_eq_some_iff.mp H
    obtain ⟨⟨t102, t103, t104⟩, A40, H⟩ := H
    replace H : (if (IntKind.u64.wrap (wrap64 (a1 + 1))) = 0 then (none) else (some (wrap64 (Int.tmod (t102 / 65536) (IntKind.u64.wrap (wrap64 (a1 + 1)))), t103, t104))) = some (r1, r2, r3) := H
    have A4 := Aside0.mk A40
    clear A40
    by_cases c5 : (IntKind.u64.wrap (wrap64 (a1 + 1))) = 0
    · rw [if_pos c5] at H
      exact absurd H (by simp)
    · rw [if_neg c5] at H
      have c5b0 : ((IntKind.u64.wrap (wrap64 (a1 + 1))) == 0) = false := beq_eq_false_iff_ne.mpr c5
      have c5b1 : ((IntKind.u64.wrap (wrap64 (a1 + 1))) != 0) = true := bne_iff_ne.mpr c5
      simp only [Option.some.injEq, Prod.mk.injEq] at H
      obtain ⟨rfl, rfl, rfl⟩ := H
      go_enter Try.func32, Try.ntmps32
      go_wp2_with (first | ((with_reducible refine gate_callee (f := 67) rfl ?_); refine goesL_ (some 8) rfl rfl Try.func67 (by kernel_rfl) rfl #[.pointer (some ⟨g, 0, none⟩)] rfl (by (try simp only [List.map_toArray, List.map_cons, List.map_nil]); first | done | rfl | (simp only [List.length_drop, List.length_take]; rfl)) ?_; (with_reducible refine (wayzgoosekit_Dice_raw.calls g s0_0 s0_1 s0_2 t102 t103 t104 w0 _ ?side1 ?side2 A4.out).mono ?_); (case side1 => repeat (first | (with_reducible first | exact HI0.out | apply IsS72.alloc | apply IsS72.drewN | apply IsS72.drew | apply IsS72.set_1 | apply IsS72.set_2) | exact HI0.out)); (case side2 => repeat (first | (with_reducible first | exact HB.out | apply below_alloc | apply pw_below_drewN | apply below_drew1 | refine below_set ?_ (IsS72.ge HI0.out)) | exact HB.out)); rintro e w6 ⟨rfl, hi, hb, hk⟩; refine ⟨_, rfl, ?_⟩; have n0_ := Aside0.mk (KeepBut.trans (by repeat (first | (with_reducible first | exact HK.out | apply KeepBut.set_ | apply keep_drewN | apply keep_drew | apply keep_alloc) | exact HK.out)) hk (.inl rfl)); have n1_ := Aside0.mk (hb); have n2_ := Aside0.mk (hi); clear HK; clear HB; clear HI0; have HK := n0_; have HB := n1_; have HI0 := n2_; clear n0_ n1_ n2_; (try clear hb); (try clear hb2); (try clear hk); (try clear hi)))
      go_ret
      exact ⟨by first | rfl | (simp [errW_none, errW_some] <;> rfl) | (simp [*, errW_none, errW_some] <;> rfl), by repeat (first | (with_reducible first | exact HI0.out | apply IsS72.alloc | apply IsS72.drewN | apply IsS72.drew | apply IsS72.set_1 | apply IsS72.set_2) | exact HI0.out), by repeat (first | (with_reducible first | exact HB.out | apply below_alloc | apply pw_below_drewN | apply below_drew1 | refine below_set ?_ (IsS72.ge HI0.out)) | exact HB.out), by repeat (first | (with_reducible first | exact HK.out | apply KeepBut.set_ | apply keep_drewN | apply keep_drew | apply keep_alloc) | exact HK.out)⟩

/-! ### wayzgoosekit_Dice_Order: function 23 -/
mutual
def wayzgoosekit_Dice_Order.l0 : Nat → Int → List Int → Int → List Int → Int → Int → Option (List Int × Int × Int)
  | 0, _, _, _, _, _, _ => none
  | k + 1, x1, x5, x6, x1000, x1001, x1002 => if x6 < x1 then (if x5.length < 17592186044416 then (wayzgoosekit_Dice_Order.l0 k x1 (x5 ++ [x6]) (wrap64 (x6 + 1)) x1000 x1001 x1002) else (none)) else (wayzgoosekit_Dice_Order.l1 k x5 (wrap64 (x1 - 1)) x1000 x1001 x1002)
def wayzgoosekit_Dice_Order.l1 : Nat → List Int → Int → List Int → Int → Int → Option (List Int × Int × Int)
  | 0, _, _, _, _, _ => none
  | k + 1, x5, x7, x1000, x1001, x1002 => if x7 > 0 then ((wayzgoosekit_Dice_To.f x1000 x1001 x1002 x7).bind fun bt108 => (if 0 ≤ x7 then (if x7 < (x5.length : Int) then (if 0 ≤ bt108.1 then (if bt108.1 < (x5.length : Int) then (wayzgoosekit_Dice_Order.l1 k ((x5.set (x7 : Int).toNat (rd x5 bt108.1)).set (bt108.1 : Int).toNat (rd x5 x7)) (wrap64 (x7 - 1)) x1000 bt108.2.1 bt108.2.2) else (none)) else (none)) else (none)) else (none))) else (some (x5, x1001, x1002))
end
def wayzgoosekit_Dice_Order.f (k : Nat) (s0_0 : List Int) (s0_1 : Int) (s0_2 : Int) (a1 : Int) : Option (List Int × Int × Int) := wayzgoosekit_Dice_Order.l0 k a1 ([] : List Int) 0 s0_0 s0_1 s0_2
theorem wayzgoosekit_Dice_Order.mono_l : ∀ k, (∀ y0 y1 y2 y3 y4 y5, LeO (wayzgoosekit_Dice_Order.l0 k y0 y1 y2 y3 y4 y5) (wayzgoosekit_Dice_Order.l0 (k + 1) y0 y1 y2 y3 y4 y5)) ∧ (∀ y0 y1 y2 y3 y4, LeO (wayzgoosekit_Dice_Order.l1 k y0 y1 y2 y3 y4) (wayzgoosekit_Dice_Order.l1 (k + 1) y0 y1 y2 y3 y4))
  | 0 => ⟨fun _ _ _ _ _ _ r h => by simp [wayzgoosekit_Dice_Order.l0] at h, fun _ _ _ _ _ r h => by simp [wayzgoosekit_Dice_Order.l1] at h⟩
  | k + 1 => by
    obtain ⟨ih0, ih1⟩ := wayzgoosekit_Dice_Order.mono_l k
    refine ⟨?_, ?_⟩
    · intro y0 y1 y2 y3 y4 y5
      unfold wayzgoosekit_Dice_Order.l0
      repeat' first
      | (with_reducible exact ih0 _ _ _ _ _ _)
      | (with_reducible exact ih1 _ _ _ _ _)
      | (with_reducible exact LeO.refl _)
      | (with_reducible exact LeO.none _)
      | (with_reducible refine LeO.ite ?_ ?_)
      | (with_reducible refine LeO.bind ?_ (fun _ => ?_))
      | exact ih0 _ _ _ _ _ _
      | exact ih1 _ _ _ _ _
      | exact LeO.none _
      | refine LeO.ite ?_ ?_
      | refine LeO.bind ?_ (fun _ => ?_)
    · intro y0 y1 y2 y3 y4
      unfold wayzgoosekit_Dice_Order.l1
      repeat' first
      | (with_reducible exact ih0 _ _ _ _ _ _)
      | (with_reducible exact ih1 _ _ _ _ _)
      | (with_reducible exact LeO.refl _)
      | (with_reducible exact LeO.none _)
      | (with_reducible refine LeO.ite ?_ ?_)
      | (with_reducible refine LeO.bind ?_ (fun _ => ?_))
      | exact ih0 _ _ _ _ _ _
      | exact ih1 _ _ _ _ _
      | exact LeO.none _
      | refine LeO.ite ?_ ?_
      | refine LeO.bind ?_ (fun _ => ?_)
theorem wayzgoosekit_Dice_Order.mono : ∀ a0 a1 a2 a3 k, LeO (wayzgoosekit_Dice_Order.f k a0 a1 a2 a3) (wayzgoosekit_Dice_Order.f (k + 1) a0 a1 a2 a3) := by
  intro a0 a1 a2 a3 k
  obtain ⟨ih0, ih1⟩ := wayzgoosekit_Dice_Order.mono_l k
  unfold wayzgoosekit_Dice_Order.f
  repeat' first
      | (with_reducible exact ih0 _ _ _ _ _ _)
      | (with_reducible exact ih1 _ _ _ _ _)
      | (with_reducible exact LeO.refl _)
      | (with_reducible exact LeO.none _)
      | (with_reducible refine LeO.ite ?_ ?_)
      | (with_reducible refine LeO.bind ?_ (fun _ => ?_))
      | exact ih0 _ _ _ _ _ _
      | exact ih1 _ _ _ _ _
      | exact LeO.none _
      | refine LeO.ite ?_ ?_
      | refine LeO.bind ?_ (fun _ => ?_)
set_option maxHeartbeats 8000000 in
set_option maxRecDepth 100000 in
theorem wayzgoosekit_Dice_Order.calls (k : Nat) (g : Nat) (s0_0 : List Int) (s0_1 : Int) (s0_2 : Int) (a1 : Int) (r1 : List Int) (r2 : Int) (r3 : Int) (w0 w : World) (hI : IsS72 w0 w g s0_0 s0_1 s0_2) (hB : Below w0.heap.size w0 w) (h : wayzgoosekit_Dice_Order.f k s0_0 s0_1 s0_2 a1 = some (r1, r2, r3)) :
    Calls Try.prog 23 #[.pointer (some ⟨g, 0, none⟩), .int .i64 a1] w fun e w' => ∃ v0_ : Value, e = .returned (v0_) ∧ Kd.R (Kd.int .i64) 3 w' w.heap.size (fun _ => True) v0_ r1 ∧ IsS72 w0 w' g s0_0 r2 r3 ∧ Below w0.heap.size w0 w' ∧ KeepBut w w' g none := by
  have HI0 := Aside0.mk hI
  have HK := Aside0.mk (KeepBut.refl w g none)
  have HL := Aside0.mk hB.size
  clear hI
  have HW0 := Aside0.mk hB.size
  have HB := Aside0.mk hB
  clear hB
  have H : (wayzgoosekit_Dice_Order.l0 k a1 ([] : List Int) 0 s0_0 s0_1 s0_2) = some (r1, r2, r3) := h
  clear h
  have H' := Aside0.mk H
  clear H
  go_enter Try.func23, Try.ntmps23
  go_wp2
  go_loopg [5, 6] k (fun kq v5 v6 w' => ∃ (x5_1 : List Int) (x6_1 : Int), v6 = .int .i64 x6_1 ∧ Aside0 (wayzgoosekit_Dice_Order.l0 kq a1 x5_1 x6_1 s0_0 s0_1 s0_2 = some (r1, r2, r3)) ∧ Aside0 (kq ≤ k) ∧ Aside0 (Kd.R (Kd.int .i64) 3 w' w.heap.size (fun _ => True) v5 x5_1) ∧ Aside0 (IsS72 w0 w' g s0_0 s0_1 s0_2) ∧ Aside0 (KeepBut w w' g none) ∧ Aside0 (Below w0.heap.size w0 w'))
  case atStart => exact ⟨(([] : List Int)), (0), (by first | rfl | (simp; done) | (simp [*]; done)), H', ⟨Nat.le_refl _⟩, ⟨by first | exact Kd.R_nil _ _ _ _ _ | exact Kd.N_nil _ _ _ _ _ | exact Kd.V_nil _ _ _ _ _ | exact Kd.Q_nil _ _ _ _ _ | exact Kd.S_nil _ _ _ _ _⟩, ⟨by repeat (first | (with_reducible first | exact HI0.out | apply IsS72.alloc | apply IsS72.drewN | apply IsS72.drew | apply IsS72.set_1 | apply IsS72.set_2) | exact HI0.out)⟩, ⟨by repeat (first | (with_reducible first | exact HK.out | apply KeepBut.set_ | apply keep_drewN | apply keep_drew | apply keep_alloc) | exact HK.out)⟩, ⟨by repeat (first | (with_reducible first | exact HB.out | apply below_alloc | apply pw_below_drewN | apply below_drew1 | refine below_set ?_ (IsS72.ge HI0.out)) | exact HB.out)⟩⟩
  case round =>
    clear H'
    try clear c2
    try clear p2
    obtain ⟨x5_1, x6_1, rfl, HA, HK1, HO_5, HI0, HK, HB⟩ := hrel
    cases gk with
    | zero => exact absurd HA.out (by simp [wayzgoosekit_Dice_Order.l0])
    | succ k1 =>
      have H := HA.out
      clear HA
      simp only [wayzgoosekit_Dice_Order.l0] at H
      by_cases c3 : x6_1 < a1
      · rw [if_pos c3] at H
        have c3b0 : decide (x6_1 < a1) = true := decide_eq_true c3
        clear c3
        by_cases c4 : x5_1.length < 17592186044416
        · rw [if_pos c4] at H
          have LMc4 := Aside0.mk c4
          clear c4
          obtain ⟨y105, hy105⟩ : ∃ y_ : List Int, y_ = (x5_1 ++ [x6_1]) := ⟨_, rfl⟩
          replace H : (wayzgoosekit_Dice_Order.l0 k1 a1 y105 (wrap64 (x6_1 + 1)) s0_0 s0_1 s0_2) = some (r1, r2, r3) := by first | (rw [hy105]; with_reducible exact H) | (have H2_ := (Option.bind_some _ _).symm.trans H; rw [hy105]; with_reducible exact H2_) | (have H2_ := (Option.bind_some _ _).symm.trans H; with_reducible exact H2_) | with_reducible exact H | (rw [hy105]; exact H) | exact H
          have Ny105 := Aside0.mk hy105
          clear hy105
          have H' := Aside0.mk H
          clear H
          go_wp2_with (first | ((with_reducible refine gate_builtin (b := .append) (xs := #[.tmp 15, .tmp 17]) rfl ?_); at_builtin; refine Kd.R_append (Kd.int .i64) w.heap.size rfl (.tmp 15) (.tmp 17) 22 3 (.int .i64 0) 8 rfl Try.underlying22 info3 rfl (by decide) (by omega) u5 x5_1 x6_1 [.int .i64 x6_1] (fun _ => True) (fun _ => False) rfl rfl ?aP (fun _ hk => hk.elim) ?aF ?aO (Below.refl _ _) ?aS ?aL ?_; (case aP => exact rfl); (case aF => exact (fun _ _ => trivial)); (case aO => exact (by (with_reducible repeat (first | apply Kd.R_alloc | apply Kd.R_drewN | apply Kd.R_drew)); exact HO_5.out)); (case aS => exact (keep_size (w := w) (g := g) (row := none) (by repeat (first | (with_reducible first | exact HK.out | apply KeepBut.set_ | apply keep_drewN | apply keep_drew | apply keep_alloc) | exact HK.out)))); (case aL => have := LMc4.out; omega); intro v106 w5 ho hb hg hat; rw [← Ny105.out] at ho; have n0_ := Aside0.mk (IsS72.grown (by repeat (first | (with_reducible first | exact HI0.out | apply IsS72.alloc | apply IsS72.drewN | apply IsS72.drew | apply IsS72.set_1 | apply IsS72.set_2) | exact HI0.out)) hg (IsS72.own_ne HI0.out HO_5.out (by decide))); have n1_ := Aside0.mk (below_weaken (by repeat (first | (with_reducible first | exact HB.out | apply below_alloc | apply pw_below_drewN | apply below_drew1 | refine below_set ?_ (IsS72.ge HI0.out)) | exact HB.out)) HL.out hb); have n2_ := Aside0.mk (KeepBut.trans (by repeat (first | (with_reducible first | exact HK.out | apply KeepBut.set_ | apply keep_drewN | apply keep_drew | apply keep_alloc) | exact HK.out)) (KeepBut.of_grown hg g) (Kd.R_base2 HO_5.out)); have n3_ := Aside0.mk (ho); clear HI0; clear HB; clear HK; clear HO_5; have HI0 := n0_; have HB := n1_; have HK := n2_; have HO107 := n3_; clear n0_ n1_ n2_ n3_; clear ho hb hg hat))
          go_roundg k1
          case measure => have := HK1.out; omega
          case rel => exact ⟨(y105), (wrap64 (x6_1 + 1)), (by first | rfl | (simp; done) | (simp [*]; done)), H', ⟨by have := HK1.out; omega⟩, ⟨by (with_reducible repeat (first | apply Kd.R_alloc | apply Kd.R_drewN | apply Kd.R_drew)); exact HO107.out⟩, ⟨by repeat (first | (with_reducible first | exact HI0.out | apply IsS72.alloc | apply IsS72.drewN | apply IsS72.drew | apply IsS72.set_1 | apply IsS72.set_2) | exact HI0.out)⟩, ⟨by repeat (first | (with_reducible first | exact HK.out | apply KeepBut.set_ | apply keep_drewN | apply keep_drew | apply keep_alloc) | exact HK.out)⟩, ⟨by repeat (first | (with_reducible first | exact HB.out | apply below_alloc | apply pw_below_drewN | apply below_drew1 | refine below_set ?_ (IsS72.ge HI0.out)) | exact HB.out)⟩⟩
        · rw [if_neg c4] at H
          exact absurd H (by simp)
      · rw [if_neg c3] at H
        have c3b0 : decide (x6_1 < a1) = false := decide_eq_false c3
        clear c3
        have H' := Aside0.mk H
        clear H
        go_wp2
        go_loopg [7] k1 (fun kq v7 w' => ∃ (x5_2 : List Int) (x7_2 : Int) (x1001_2 : Int) (x1002_2 : Int), v7 = .int .i64 x7_2 ∧ Aside0 (wayzgoosekit_Dice_Order.l1 kq x5_2 x7_2 s0_0 x1001_2 x1002_2 = some (r1, r2, r3)) ∧ Aside0 (kq ≤ k1) ∧ Aside0 (Kd.R (Kd.int .i64) 3 w' w.heap.size (fun _ => True) u5 x5_2) ∧ Aside0 (IsS72 w0 w' g s0_0 x1001_2 x1002_2) ∧ Aside0 (KeepBut w w' g none) ∧ Aside0 (Below w0.heap.size w0 w'))
        case atStart => exact ⟨(x5_1), (wrap64 (a1 - 1)), (s0_1), (s0_2), (by first | rfl | (simp; done) | (simp [*]; done)), H', ⟨Nat.le_refl _⟩, ⟨by (with_reducible repeat (first | apply Kd.R_alloc | apply Kd.R_drewN | apply Kd.R_drew)); exact HO_5.out⟩, ⟨by repeat (first | (with_reducible first | exact HI0.out | apply IsS72.alloc | apply IsS72.drewN | apply IsS72.drew | apply IsS72.set_1 | apply IsS72.set_2) | exact HI0.out)⟩, ⟨by repeat (first | (with_reducible first | exact HK.out | apply KeepBut.set_ | apply keep_drewN | apply keep_drew | apply keep_alloc) | exact HK.out)⟩, ⟨by repeat (first | (with_reducible first | exact HB.out | apply below_alloc | apply pw_below_drewN | apply below_drew1 | refine below_set ?_ (IsS72.ge HI0.out)) | exact HB.out)⟩⟩
        case round =>
          clear H'
          try clear c2
          try clear p2
          try clear c3
          try clear c3b0
          try clear c4
          try clear p2
          obtain ⟨x5_2, x7_2, x1001_2, x1002_2, rfl, HA, HK2, HO_5, HI0, HK, HB⟩ := hrel
          cases gk with
          | zero => exact absurd HA.out (by simp [wayzgoosekit_Dice_Order.l1])
          | succ k2 =>
            have H := HA.out
            clear HA
            simp only [wayzgoosekit_Dice_Order.l1] at H
            by_cases c6 : x7_2 > 0
            · rw [if_pos c6] at H
              have c6b0 : decide (0 < x7_2) = true := decide_eq_true c6
              clear c6
              replace H := Option.bind_eq_some_iff.mp H
              obtain ⟨⟨t108, t109, t110⟩, A70, H⟩ := H
              replace H : (if 0 ≤ x7_2 then (if x7_2 < (x5_2.length : Int) then (if 0 ≤ t108 then (if t108 < (x5_2.length : Int) then (wayzgoosekit_Dice_Order.l1 k2 ((x5_2.set (x7_2 : Int).toNat (rd x5_2 t108)).set (t108 : Int).toNat (rd x5_2 x7_2)) (wrap64 (x7_2 - 1)) s0_0 t109 t110) else (none)) else (none)) else (none)) else (none)) = some (r1, r2, r3) := H
              have A7 := Aside0.mk A70
              clear A70
              by_cases c8 : 0 ≤ x7_2
              · rw [if_pos c8] at H
                have c8b0 : decide (0 ≤ x7_2) = true := decide_eq_true c8
                clear c8
                by_cases c9 : x7_2 < (x5_2.length : Int)
                · rw [if_pos c9] at H
                  have c9b0 : decide (x7_2 < (x5_2.length : Int)) = true := decide_eq_true c9
                  clear c9
                  by_cases c10 : 0 ≤ t108
                  · rw [if_pos c10] at H
                    have c10b0 : decide (0 ≤ t108) = true := decide_eq_true c10
                    clear c10
                    by_cases c11 : t108 < (x5_2.length : Int)
                    · rw [if_pos c11] at H
                      have c11b0 : decide (t108 < (x5_2.length : Int)) = true := decide_eq_true c11
                      clear c11
                      obtain ⟨y113, hy113⟩ : ∃ y_ : List Int, y_ = (x5_2.set (x7_2 : Int).toNat (rd x5_2 t108)) := ⟨_, rfl⟩
                      replace H : (wayzgoosekit_Dice_Order.l1 k2 (y113.set (t108 : Int).toNat (rd x5_2 x7_2)) (wrap64 (x7_2 - 1)) s0_0 t109 t110) = some (r1, r2, r3) := by first | (rw [hy113]; with_reducible exact H) | (have H2_ := (Option.bind_some _ _).symm.trans H; rw [hy113]; with_reducible exact H2_) | (have H2_ := (Option.bind_some _ _).symm.trans H; with_reducible exact H2_) | with_reducible exact H | (rw [hy113]; exact H) | exact H
                      have Ny113 := Aside0.mk hy113
                      clear hy113
                      obtain ⟨y114, hy114⟩ : ∃ y_ : List Int, y_ = (y113.set (t108 : Int).toNat (rd x5_2 x7_2)) := ⟨_, rfl⟩
                      replace H : (wayzgoosekit_Dice_Order.l1 k2 y114 (wrap64 (x7_2 - 1)) s0_0 t109 t110) = some (r1, r2, r3) := by first | (rw [hy114]; with_reducible exact H) | (have H2_ := (Option.bind_some _ _).symm.trans H; rw [hy114]; with_reducible exact H2_) | (have H2_ := (Option.bind_some _ _).symm.trans H; with_reducible exact H2_) | with_reducible exact H | (rw [hy114]; exact H) | exact H
                      have Ny114 := Aside0.mk hy114
                      clear hy114
                      have H' := Aside0.mk H
                      clear H
                      go_wp2_with (first | ((with_reducible refine gate_callee (f := 32) rfl ?_); refine goesL_ (some 27) rfl rfl Try.func32 (by kernel_rfl) rfl #[.pointer (some ⟨g, 0, none⟩), .int .i64 x7_2] rfl (by (try simp only [List.map_toArray, List.map_cons, List.map_nil]); first | done | rfl | (simp only [List.length_drop, List.length_take]; rfl)) ?_; (with_reducible refine (wayzgoosekit_Dice_To.calls g s0_0 x1001_2 x1002_2 x7_2 t108 t109 t110 w0 _ ?side1 ?side2 A7.out).mono ?_); (case side1 => repeat (first | (with_reducible first | exact HI0.out | apply IsS72.alloc | apply IsS72.drewN | apply IsS72.drew | apply IsS72.set_1 | apply IsS72.set_2) | exact HI0.out)); (case side2 => repeat (first | (with_reducible first | exact HB.out | apply below_alloc | apply pw_below_drewN | apply below_drew1 | refine below_set ?_ (IsS72.ge HI0.out)) | exact HB.out)); rintro e w14 ⟨rfl, hi, hb, hk⟩; refine ⟨_, rfl, ?_⟩; have n0_ := Aside0.mk (Kd.R_mono (Kd.R_keep (IsS72.apart (show IsS72 w0 _ g s0_0 x1001_2 x1002_2 from by repeat (first | (with_reducible first | exact HI0.out | apply IsS72.alloc | apply IsS72.drewN | apply IsS72.drew | apply IsS72.set_1 | apply IsS72.set_2) | exact HI0.out)) (by (with_reducible repeat (first | apply Kd.R_alloc | apply Kd.R_drewN | apply Kd.R_drew)); exact HO_5.out) (by decide)) hk (fun _ h => h.2)) (fun _ h => h.1)); have n1_ := Aside0.mk (KeepBut.trans (by repeat (first | (with_reducible first | exact HK.out | apply KeepBut.set_ | apply keep_drewN | apply keep_drew | apply keep_alloc) | exact HK.out)) hk (.inl rfl)); have n2_ := Aside0.mk (hb); have n3_ := Aside0.mk (hi); clear HO_5; clear HK; clear HB; clear HI0; have HO_5 := n0_; have HK := n1_; have HB := n2_; have HI0 := n3_; clear n0_ n1_ n2_ n3_; (try clear hb); (try clear hb2); (try clear hk); (try clear hi); obtain ⟨Ao15, co15, eo15⟩ := Kd.R_slice HO_5.out; subst eo15; have p111 : 0 ≤ (x7_2 : Int) := of_decide_eq_true (by first | (with_reducible assumption) | assumption); have q111 : x7_2 < (x5_2.length : Int) := of_decide_eq_true (by first | (with_reducible assumption) | assumption); obtain ⟨ad111, e111, hx111_0⟩ := Kd.at_int (Kd.R_reads' HO_5.out).2.2 x7_2 p111 q111; cases e111; replace p111 := eq_true p111; replace q111 := eq_true q111; have p112 : 0 ≤ (t108 : Int) := of_decide_eq_true (by first | (with_reducible assumption) | assumption); have q112 : t108 < (x5_2.length : Int) := of_decide_eq_true (by first | (with_reducible assumption) | assumption); obtain ⟨ad112, e112, hx112_0⟩ := Kd.at_int (Kd.R_reads' HO_5.out).2.2 t108 p112 q112; obtain rfl : ad111 = ad112 := (by injection e112); replace p112 := eq_true p112; replace q112 := eq_true q112; have p12 : 0 ≤ (x7_2 : Int) := of_decide_eq_true (by first | (with_reducible assumption) | assumption); have q12 : (x7_2 : Int) < ((x5_2.length : Int) : Int) := of_decide_eq_true (by first | (with_reducible assumption) | assumption); obtain ⟨go12, co12, eo12, gb12, gl12, cl12, HG12⟩ := Kd.R_form HO_5.out (by omega); (first | cases eo12 | (injection eo12 with ea_ en_ ec_; (first | subst ea_ | (injection ea_ with ea_; subst ea_)); subst ec_; clear en_)); have GB12 := Aside0.mk gb12; have GG12 := Aside0.mk HG12; clear gb12 gl12 HG12; (first | simp only [add_plain] at hx111_0 | skip); (first | simp only [add_plain] at hx112_0 | skip); obtain ⟨hx12_0, hf12_0⟩ := Kd.R_celln 0 HO_5.out (x7_2 : Int) p12 q12; replace p12 := eq_true p12; replace q12 := eq_true q12; obtain ⟨hy16_, hz16_⟩ := Kd.R_celln 0 HO_5.out (x7_2 : Int) (of_decide_eq_true (by first | (with_reducible assumption) | assumption)) (of_decide_eq_true (by first | (with_reducible assumption) | assumption)); have HP16 := Kd.R_putg HO_5.out (x7_2 : Int) (rd x5_2 t108)) | ((with_reducible refine gate_store (t := 3) (p := 38) rfl ?_); refine store_event (t := 3) (p := 38) (v := ?vo_w17) (w1 := (w14.setCell ⟨go12, (x7_2 : Int).toNat, none⟩ (.int .i64 (rd x5_2 t108)))) ?hg ?ho ?hn ?hr ?_; (case ho => rfl); (case hg => rfl); (case hn => rfl); (case hr => first | (go_simp; done) | (go_simp; rfl)); intro w17 hw; have hg : w14.grownBy w17 (some go12) := (by rw [hw]; exact HP16.2); have hp_ : Kd.R (Kd.int .i64) 3 w17 w.heap.size (fun _ => True) (.slice (some ⟨go12, 0, none⟩) x5_2.length co15) y113 := (by rw [hw, Ny113.out]; exact HP16.1); clear HP16; have n0_ := Aside0.mk (hp_); have n1_ := Aside0.mk (IsS72.grown (by repeat (first | (with_reducible first | exact HI0.out | apply IsS72.alloc | apply IsS72.drewN | apply IsS72.drew | apply IsS72.set_1 | apply IsS72.set_2) | exact HI0.out)) hg (IsS72.own_ne HI0.out HO_5.out (by decide))); have n2_ := Aside0.mk ((by rw [hw]; exact below_set (HB.out) (Nat.le_trans HL.out GB12.out) : Below w0.heap.size w0 w17)); have n3_ := Aside0.mk (KeepBut.trans (by repeat (first | (with_reducible first | exact HK.out | apply KeepBut.set_ | apply keep_drewN | apply keep_drew | apply keep_alloc) | exact HK.out)) (KeepBut.of_grown hg g) (Kd.R_base2 HO_5.out)); clear HO_5; clear HI0; clear HB; clear HK; have HO_5 := n0_; have HI0 := n1_; have HB := n2_; have HK := n3_; clear n0_ n1_ n2_ n3_; clear hg hw hp_; have p13 : 0 ≤ (t108 : Int) := of_decide_eq_true (by first | (with_reducible assumption) | assumption); have q13 : (t108 : Int) < ((x5_2.length : Int) : Int) := of_decide_eq_true (by first | (with_reducible assumption) | assumption); obtain ⟨hx13_0, hf13_0⟩ := Kd.R_celln 0 HO_5.out (t108 : Int) p13 q13; replace p13 := eq_true p13; replace q13 := eq_true q13; obtain ⟨hy18_, hz18_⟩ := Kd.R_celln 0 HO_5.out (t108 : Int) (of_decide_eq_true (by first | (with_reducible assumption) | assumption)) (of_decide_eq_true (by first | (with_reducible assumption) | assumption)); have HP18 := Kd.R_putg HO_5.out (t108 : Int) (rd x5_2 x7_2)) | ((with_reducible refine gate_store (t := 3) (p := 42) rfl ?_); refine store_event (t := 3) (p := 42) (v := ?vo_w19) (w1 := (w17.setCell ⟨go12, (t108 : Int).toNat, none⟩ (.int .i64 (rd x5_2 x7_2)))) ?hg ?ho ?hn ?hr ?_; (case ho => rfl); (case hg => rfl); (case hn => rfl); (case hr => first | (go_simp; done) | (go_simp; rfl)); intro w19 hw; have hg : w17.grownBy w19 (some go12) := (by rw [hw]; exact HP18.2); have hp_ : Kd.R (Kd.int .i64) 3 w19 w.heap.size (fun _ => True) (.slice (some ⟨go12, 0, none⟩) x5_2.length co15) y114 := (by rw [hw, Ny114.out]; exact HP18.1); clear HP18; have n0_ := Aside0.mk (hp_); have n1_ := Aside0.mk (IsS72.grown (by repeat (first | (with_reducible first | exact HI0.out | apply IsS72.alloc | apply IsS72.drewN | apply IsS72.drew | apply IsS72.set_1 | apply IsS72.set_2) | exact HI0.out)) hg (IsS72.own_ne HI0.out HO_5.out (by decide))); have n2_ := Aside0.mk ((by rw [hw]; exact below_set (HB.out) (Nat.le_trans HL.out GB12.out) : Below w0.heap.size w0 w19)); have n3_ := Aside0.mk (KeepBut.trans (by repeat (first | (with_reducible first | exact HK.out | apply KeepBut.set_ | apply keep_drewN | apply keep_drew | apply keep_alloc) | exact HK.out)) (KeepBut.of_grown hg g) (Kd.R_base2 HO_5.out)); clear HO_5; clear HI0; clear HB; clear HK; have HO_5 := n0_; have HI0 := n1_; have HB := n2_; have HK := n3_; clear n0_ n1_ n2_ n3_; clear hg hw hp_))
                      go_roundg k2
                      case measure => have := HK1.out; have := HK2.out; omega
                      case rel => exact ⟨(y114), (wrap64 (x7_2 - 1)), (t109), (t110), (by first | rfl | (simp; done) | (simp [*]; done)), H', ⟨by have := HK1.out; have := HK2.out; omega⟩, ⟨by (with_reducible repeat (first | apply Kd.R_alloc | apply Kd.R_drewN | apply Kd.R_drew)); exact HO_5.out⟩, ⟨by repeat (first | (with_reducible first | exact HI0.out | apply IsS72.alloc | apply IsS72.drewN | apply IsS72.drew | apply IsS72.set_1 | apply IsS72.set_2) | exact HI0.out)⟩, ⟨by repeat (first | (with_reducible first | exact HK.out | apply KeepBut.set_ | apply keep_drewN | apply keep_drew | apply keep_alloc) | exact HK.out)⟩, ⟨by repeat (first | (with_reducible first | exact HB.out | apply below_alloc | apply pw_below_drewN | apply below_drew1 | refine below_set ?_ (IsS72.ge HI0.out)) | exact HB.out)⟩⟩
                    · rw [if_neg c11] at H
                      exact absurd H (by simp)
                  · rw [if_neg c10] at H
                    exact absurd H (by simp)
                · rw [if_neg c9] at H
                  exact absurd H (by simp)
              · rw [if_neg c8] at H
                exact absurd H (by simp)
            · rw [if_neg c6] at H
              have c6b0 : decide (0 < x7_2) = false := decide_eq_false c6
              clear c6
              simp only [Option.some.injEq, Prod.mk.injEq] at H
              obtain ⟨rfl, rfl, rfl⟩ := H
              go_wp2
              go_ret
              exact ⟨_, by first | rfl | (simp [errW_none, errW_some] <;> rfl) | (simp [*, errW_none, errW_some] <;> rfl), by (with_reducible repeat (first | apply Kd.R_alloc | apply Kd.R_drewN | apply Kd.R_drew)); exact HO_5.out, by repeat (first | (with_reducible first | exact HI0.out | apply IsS72.alloc | apply IsS72.drewN | apply IsS72.drew | apply IsS72.set_1 | apply IsS72.set_2) | exact HI0.out), by repeat (first | (with_reducible first | exact HB.out | apply below_alloc | apply pw_below_drewN | apply below_drew1 | refine below_set ?_ (IsS72.ge HI0.out)) | exact HB.out), by repeat (first | (with_reducible first | exact HK.out | apply KeepBut.set_ | apply keep_drewN | apply keep_drew | apply keep_alloc) | exact HK.out)⟩

/-! ### wayzgoosekit_sorts: function 37 -/
def wayzgoosekit_sorts.f  : Option (List ByteArray) := some (([(⟨#[102, 111, 111, 100]⟩ : ByteArray), (⟨#[98, 114, 101, 97, 100]⟩ : ByteArray), (⟨#[99, 108, 111, 116, 104]⟩ : ByteArray), (⟨#[104, 97, 116, 115]⟩ : ByteArray), (⟨#[119, 111, 111, 100]⟩ : ByteArray), (⟨#[105, 114, 111, 110]⟩ : ByteArray), (⟨#[98, 101, 101, 114]⟩ : ByteArray), (⟨#[105, 110]⟩ : ByteArray), (⟨#[115, 101, 101]⟩ : ByteArray)] : List ByteArray))
set_option maxHeartbeats 8000000 in
set_option maxRecDepth 100000 in
theorem wayzgoosekit_sorts.calls  (r : List ByteArray) (w : World) (h : wayzgoosekit_sorts.f  = some r) :
    Calls Try.prog 37 #[] w fun e w' => ∃ v0_ : Value, e = .returned (v0_) ∧ Kd.R Kd.string 9 w' w.heap.size (fun _ => True) v0_ r ∧ Below w.heap.size w w' := by
  have HB := Aside0.mk (Below.refl w.heap.size w)
  have H : (some (([(⟨#[102, 111, 111, 100]⟩ : ByteArray), (⟨#[98, 114, 101, 97, 100]⟩ : ByteArray), (⟨#[99, 108, 111, 116, 104]⟩ : ByteArray), (⟨#[104, 97, 116, 115]⟩ : ByteArray), (⟨#[119, 111, 111, 100]⟩ : ByteArray), (⟨#[105, 114, 111, 110]⟩ : ByteArray), (⟨#[98, 101, 101, 114]⟩ : ByteArray), (⟨#[105, 110]⟩ : ByteArray), (⟨#[115, 101, 101]⟩ : ByteArray)] : List ByteArray))) = some r := h
  clear h
  obtain ⟨y115, hy115⟩ : ∃ y_ : List ByteArray, y_ = (([(⟨#[102, 111, 111, 100]⟩ : ByteArray), (⟨#[98, 114, 101, 97, 100]⟩ : ByteArray), (⟨#[99, 108, 111, 116, 104]⟩ : ByteArray), (⟨#[104, 97, 116, 115]⟩ : ByteArray), (⟨#[119, 111, 111, 100]⟩ : ByteArray), (⟨#[105, 114, 111, 110]⟩ : ByteArray), (⟨#[98, 101, 101, 114]⟩ : ByteArray), (⟨#[105, 110]⟩ : ByteArray), (⟨#[115, 101, 101]⟩ : ByteArray)] : List ByteArray)) := ⟨_, rfl⟩
  replace H : (some y115) = some r := by first | (rw [hy115]; with_reducible exact H) | (have H2_ := (Option.bind_some _ _).symm.trans H; rw [hy115]; with_reducible exact H2_) | (have H2_ := (Option.bind_some _ _).symm.trans H; with_reducible exact H2_) | with_reducible exact H | (rw [hy115]; exact H) | exact H
  have Ny115 := Aside0.mk hy115
  clear hy115
  obtain rfl := Option.some.inj H
  go_enter Try.func37, Try.ntmps37
  go_wp2_with (first | ((with_reducible refine gate_dst (N := 1) rfl ?_); refine Kd.R_lit Kd.string _ 9 ?hg (N := 1) ?hd (xs := ([(⟨#[102, 111, 111, 100]⟩ : ByteArray), (⟨#[98, 114, 101, 97, 100]⟩ : ByteArray), (⟨#[99, 108, 111, 116, 104]⟩ : ByteArray), (⟨#[104, 97, 116, 115]⟩ : ByteArray), (⟨#[119, 111, 111, 100]⟩ : ByteArray), (⟨#[105, 114, 111, 110]⟩ : ByteArray), (⟨#[98, 101, 101, 114]⟩ : ByteArray), (⟨#[105, 110]⟩ : ByteArray), (⟨#[115, 101, 101]⟩ : ByteArray)] : List ByteArray)) (inner := [.string (⟨#[102, 111, 111, 100]⟩ : ByteArray), .string (⟨#[98, 114, 101, 97, 100]⟩ : ByteArray), .string (⟨#[99, 108, 111, 116, 104]⟩ : ByteArray), .string (⟨#[104, 97, 116, 115]⟩ : ByteArray), .string (⟨#[119, 111, 111, 100]⟩ : ByteArray), .string (⟨#[105, 114, 111, 110]⟩ : ByteArray), .string (⟨#[98, 101, 101, 114]⟩ : ByteArray), .string (⟨#[105, 110]⟩ : ByteArray), .string (⟨#[115, 101, 101]⟩ : ByteArray)]) (ok := fun _ => True) (okp := fun _ => True) ?hr ?hp (fun _ hk => hk) trivial (Below.refl _ _) (Nat.le_refl _) (by simp) ?_; (case hd => rfl); (case hg => rfl); (case hr => first | (go_simp; done) | (go_simp; rfl)); (case hp => exact (Reps.one (show Kd.M Kd.string _ _ _ (⟨#[102, 111, 111, 100]⟩ : ByteArray) [.string (⟨#[102, 111, 111, 100]⟩ : ByteArray)] from rfl) (Reps.one (show Kd.M Kd.string _ _ _ (⟨#[98, 114, 101, 97, 100]⟩ : ByteArray) [.string (⟨#[98, 114, 101, 97, 100]⟩ : ByteArray)] from rfl) (Reps.one (show Kd.M Kd.string _ _ _ (⟨#[99, 108, 111, 116, 104]⟩ : ByteArray) [.string (⟨#[99, 108, 111, 116, 104]⟩ : ByteArray)] from rfl) (Reps.one (show Kd.M Kd.string _ _ _ (⟨#[104, 97, 116, 115]⟩ : ByteArray) [.string (⟨#[104, 97, 116, 115]⟩ : ByteArray)] from rfl) (Reps.one (show Kd.M Kd.string _ _ _ (⟨#[119, 111, 111, 100]⟩ : ByteArray) [.string (⟨#[119, 111, 111, 100]⟩ : ByteArray)] from rfl) (Reps.one (show Kd.M Kd.string _ _ _ (⟨#[105, 114, 111, 110]⟩ : ByteArray) [.string (⟨#[105, 114, 111, 110]⟩ : ByteArray)] from rfl) (Reps.one (show Kd.M Kd.string _ _ _ (⟨#[98, 101, 101, 114]⟩ : ByteArray) [.string (⟨#[98, 101, 101, 114]⟩ : ByteArray)] from rfl) (Reps.one (show Kd.M Kd.string _ _ _ (⟨#[105, 110]⟩ : ByteArray) [.string (⟨#[105, 110]⟩ : ByteArray)] from rfl) (Reps.one (show Kd.M Kd.string _ _ _ (⟨#[115, 101, 101]⟩ : ByteArray) [.string (⟨#[115, 101, 101]⟩ : ByteArray)] from rfl) (Reps.none _ _))))))))))); intro v116 w1 ho2 hb hg_ hnew_; clear hg_ hnew_; (first | rw [← Ny115.out] at ho2 | (simp only [Int.reduceToNat] at ho2; rw [← Ny115.out] at ho2)); have n0_ := Aside0.mk (Kd.R_lower ho2 (below_size (by repeat (first | (with_reducible first | exact HB.out | apply below_alloc | apply pw_below_drewN | apply below_drew1) | exact HB.out)))); have n1_ := Aside0.mk (below_step (by repeat (first | (with_reducible first | exact HB.out | apply below_alloc | apply pw_below_drewN | apply below_drew1) | exact HB.out)) hb); clear HB; have HO117 := n0_; have HB := n1_; clear n0_ n1_; clear hb ho2))
  go_ret
  exact ⟨_, by first | rfl | (simp [errW_none, errW_some] <;> rfl) | (simp [*, errW_none, errW_some] <;> rfl), by (with_reducible repeat (first | apply Kd.R_alloc | apply Kd.R_drewN | apply Kd.R_drew)); exact HO117.out, by repeat (first | (with_reducible first | exact HB.out | apply below_alloc | apply pw_below_drewN | apply below_drew1) | exact HB.out)⟩

/-! ### wayzgoosekit_Dice_From: function 38 -/
def wayzgoosekit_Dice_From.f (s0_0 : List Int) (s0_1 : Int) (s0_2 : Int) (a1 : Int) (a2 : Int) : Option (Int × Int × Int) := (wayzgoosekit_Dice_To.f s0_0 s0_1 s0_2 (wrap64 (a2 - a1))).bind fun bt118 => (some (wrap64 (a1 + bt118.1), bt118.2.1, bt118.2.2))
set_option maxHeartbeats 8000000 in
set_option maxRecDepth 100000 in
theorem wayzgoosekit_Dice_From.calls (g : Nat) (s0_0 : List Int) (s0_1 : Int) (s0_2 : Int) (a1 : Int) (a2 : Int) (r1 : Int) (r2 : Int) (r3 : Int) (w0 w : World) (hI : IsS72 w0 w g s0_0 s0_1 s0_2) (hB : Below w0.heap.size w0 w) (h : wayzgoosekit_Dice_From.f s0_0 s0_1 s0_2 a1 a2 = some (r1, r2, r3)) :
    Calls Try.prog 38 #[.pointer (some ⟨g, 0, none⟩), .int .i64 a1, .int .i64 a2] w fun e w' => e = .returned (.int .i64 r1) ∧ IsS72 w0 w' g s0_0 r2 r3 ∧ Below w0.heap.size w0 w' ∧ KeepBut w w' g none := by
  have HI0 := Aside0.mk hI
  have HK := Aside0.mk (KeepBut.refl w g none)
  have HL := Aside0.mk hB.size
  clear hI
  have HW0 := Aside0.mk hB.size
  have HB := Aside0.mk hB
  clear hB
  have H : ((wayzgoosekit_Dice_To.f s0_0 s0_1 s0_2 (wrap64 (a2 - a1))).bind fun bt118 => (some (wrap64 (a1 + bt118.1), bt118.2.1, bt118.2.2))) = some (r1, r2, r3) := h
  clear h
  replace H := Option.bind_eq_some_iff.mp H
  obtain ⟨⟨t118, t119, t120⟩, A40, H⟩ := H
  replace H : (some (wrap64 (a1 + t118), t119, t120)) = some (r1, r2, r3) := H
  have A4 := Aside0.mk A40
  clear A40
  simp only [Option.some.injEq, Prod.mk.injEq] at H
  obtain ⟨rfl, rfl, rfl⟩ := H
  go_enter Try.func38, Try.ntmps38
  go_wp2_with (first | ((with_reducible refine gate_callee (f := 32) rfl ?_); refine goesL_ (some 12) rfl rfl Try.func32 (by kernel_rfl) rfl #[.pointer (some ⟨g, 0, none⟩), .int .i64 (wrap64 (a2 - a1))] rfl (by (try simp only [List.map_toArray, List.map_cons, List.map_nil]); first | done | rfl | (simp only [List.length_drop, List.length_take]; rfl)) ?_; (with_reducible refine (wayzgoosekit_Dice_To.calls g s0_0 s0_1 s0_2 (wrap64 (a2 - a1)) t118 t119 t120 w0 _ ?side1 ?side2 A4.out).mono ?_); (case side1 => repeat (first | (with_reducible first | exact HI0.out | apply IsS72.alloc | apply IsS72.drewN | apply IsS72.drew | apply IsS72.set_1 | apply IsS72.set_2) | exact HI0.out)); (case side2 => repeat (first | (with_reducible first | exact HB.out | apply below_alloc | apply pw_below_drewN | apply below_drew1 | refine below_set ?_ (IsS72.ge HI0.out)) | exact HB.out)); rintro e w5 ⟨rfl, hi, hb, hk⟩; refine ⟨_, rfl, ?_⟩; have n0_ := Aside0.mk (KeepBut.trans (by repeat (first | (with_reducible first | exact HK.out | apply KeepBut.set_ | apply keep_drewN | apply keep_drew | apply keep_alloc) | exact HK.out)) hk (.inl rfl)); have n1_ := Aside0.mk (hb); have n2_ := Aside0.mk (hi); clear HK; clear HB; clear HI0; have HK := n0_; have HB := n1_; have HI0 := n2_; clear n0_ n1_ n2_; (try clear hb); (try clear hb2); (try clear hk); (try clear hi)))
  go_ret
  exact ⟨by first | rfl | (simp [errW_none, errW_some] <;> rfl) | (simp [*, errW_none, errW_some] <;> rfl), by repeat (first | (with_reducible first | exact HI0.out | apply IsS72.alloc | apply IsS72.drewN | apply IsS72.drew | apply IsS72.set_1 | apply IsS72.set_2) | exact HI0.out), by repeat (first | (with_reducible first | exact HB.out | apply below_alloc | apply pw_below_drewN | apply below_drew1 | refine below_set ?_ (IsS72.ge HI0.out)) | exact HB.out), by repeat (first | (with_reducible first | exact HK.out | apply KeepBut.set_ | apply keep_drewN | apply keep_drew | apply keep_alloc) | exact HK.out)⟩

/-! ### wayzgoosekit_Index: function 20 -/
def wayzgoosekit_Index.l0 : Nat → List Int → Int → Int → Option (Int)
  | 0, _, _, _ => none
  | k + 1, x0, x1, x5 => if x5 < (x0.length : Int) then (if 0 ≤ x5 then (if (rd x0 x5) = x1 then (some x5) else (wayzgoosekit_Index.l0 k x0 x1 (wrap64 (x5 + 1)))) else (none)) else (some (-1))
def wayzgoosekit_Index.f (k : Nat) (l0 : List Int) (a1 : Int) : Option (Int) := wayzgoosekit_Index.l0 k l0 a1 0
theorem wayzgoosekit_Index.mono_l : ∀ k, (∀ y0 y1 y2, LeO (wayzgoosekit_Index.l0 k y0 y1 y2) (wayzgoosekit_Index.l0 (k + 1) y0 y1 y2))
  | 0 => fun _ _ _ r h => by simp [wayzgoosekit_Index.l0] at h
  | k + 1 => by
    have ih0 := wayzgoosekit_Index.mono_l k
    · intro y0 y1 y2
      unfold wayzgoosekit_Index.l0
      repeat' first
      | (with_reducible exact ih0 _ _ _)
      | (with_reducible exact LeO.refl _)
      | (with_reducible exact LeO.none _)
      | (with_reducible refine LeO.ite ?_ ?_)
      | (with_reducible refine LeO.bind ?_ (fun _ => ?_))
      | exact ih0 _ _ _
      | exact LeO.none _
      | refine LeO.ite ?_ ?_
      | refine LeO.bind ?_ (fun _ => ?_)
theorem wayzgoosekit_Index.mono : ∀ a0 a1 k, LeO (wayzgoosekit_Index.f k a0 a1) (wayzgoosekit_Index.f (k + 1) a0 a1) := by
  intro a0 a1 k
  have ih0 := wayzgoosekit_Index.mono_l k
  unfold wayzgoosekit_Index.f
  repeat' first
      | (with_reducible exact ih0 _ _ _)
      | (with_reducible exact LeO.refl _)
      | (with_reducible exact LeO.none _)
      | (with_reducible refine LeO.ite ?_ ?_)
      | (with_reducible refine LeO.bind ?_ (fun _ => ?_))
      | exact ih0 _ _ _
      | exact LeO.none _
      | refine LeO.ite ?_ ?_
      | refine LeO.bind ?_ (fun _ => ?_)
set_option maxHeartbeats 8000000 in
set_option maxRecDepth 100000 in
theorem wayzgoosekit_Index.calls (k : Nat) (A0 : Option Addr) (c0 : Nat) (l0 : List Int) (a1 : Int) (r : Int) (w : World) (hr0 : Kd.C (Kd.int .i64) w A0 l0.length l0) (hc0 : l0.length ≤ c0) (h : wayzgoosekit_Index.f k l0 a1 = some r) :
    Calls Try.prog 20 #[.slice A0 l0.length c0, .int .i64 a1] w fun e w' => e = .returned (.int .i64 r) ∧ Drawn0 w w' := by
  have HR0 := Aside0.mk hr0
  have HC0 := Aside0.mk hc0
  clear hr0 hc0
  have H : (wayzgoosekit_Index.l0 k l0 a1 0) = some r := h
  clear h
  have H' := Aside0.mk H
  clear H
  go_enter Try.func20, Try.ntmps20
  go_wp2
  go_loopg [5] k (fun kq v5 w' => ∃ (x5_1 : Int), v5 = .int .i64 x5_1 ∧ Aside0 (wayzgoosekit_Index.l0 kq l0 a1 x5_1 = some r) ∧ Aside0 (kq ≤ k) ∧ Drawn0 w w')
  case atStart => exact ⟨(0), (by first | rfl | (simp; done) | (simp [*]; done)), H', ⟨Nat.le_refl _⟩, by repeat (first | exact Drawn0.refl _ | apply Drawn0.step)⟩
  case round =>
    clear H'
    try clear c2
    try clear p2
    obtain ⟨x5_1, rfl, HA, HK1, ⟨m1, rfl⟩⟩ := hrel
    cases gk with
    | zero => exact absurd HA.out (by simp [wayzgoosekit_Index.l0])
    | succ k1 =>
      have H := HA.out
      clear HA
      simp only [wayzgoosekit_Index.l0] at H
      by_cases c3 : x5_1 < (l0.length : Int)
      · rw [if_pos c3] at H
        have c3b0 : decide (x5_1 < (l0.length : Int)) = true := decide_eq_true c3
        clear c3
        by_cases c4 : 0 ≤ x5_1
        · rw [if_pos c4] at H
          have c4b0 : decide (0 ≤ x5_1) = true := decide_eq_true c4
          clear c4
          by_cases c5 : (rd l0 x5_1) = a1
          · rw [if_pos c5] at H
            have c5b0 : ((rd l0 x5_1) == a1) = true := beq_iff_eq.mpr c5
            have c5b1 : ((rd l0 x5_1) != a1) = false := bne_eq_false_iff_eq.mpr c5
            clear c5
            obtain rfl := Option.some.inj H
            have p121 : 0 ≤ (x5_1 : Int) := of_decide_eq_true (by first | (with_reducible assumption) | assumption)
            have q121 : x5_1 < (l0.length : Int) := of_decide_eq_true (by first | (with_reducible assumption) | assumption)
            obtain ⟨ad121, e121, hx121_0⟩ := Kd.at_int HR0.out x5_1 p121 q121
            cases e121
            replace p121 := eq_true p121
            replace q121 := eq_true q121
            go_wp2
            go_ret
            exact ⟨by first | rfl | (simp; done) | (simp [*]; done), by repeat (first | exact Drawn0.refl _ | apply Drawn0.step)⟩
          · rw [if_neg c5] at H
            have c5b0 : ((rd l0 x5_1) == a1) = false := beq_eq_false_iff_ne.mpr c5
            have c5b1 : ((rd l0 x5_1) != a1) = true := bne_iff_ne.mpr c5
            have H' := Aside0.mk H
            clear H
            have p121 : 0 ≤ (x5_1 : Int) := of_decide_eq_true (by first | (with_reducible assumption) | assumption)
            have q121 : x5_1 < (l0.length : Int) := of_decide_eq_true (by first | (with_reducible assumption) | assumption)
            obtain ⟨ad121, e121, hx121_0⟩ := Kd.at_int HR0.out x5_1 p121 q121
            cases e121
            replace p121 := eq_true p121
            replace q121 := eq_true q121
            go_wp2
            go_roundg k1
            case measure => have := HK1.out; omega
            case rel => exact ⟨(wrap64 (x5_1 + 1)), (by first | rfl | (simp; done) | (simp [*]; done)), H', ⟨by have := HK1.out; omega⟩, by repeat (first | exact Drawn0.refl _ | apply Drawn0.step)⟩
        · rw [if_neg c4] at H
          exact absurd H (by simp)
      · rw [if_neg c3] at H
        have c3b0 : decide (x5_1 < (l0.length : Int)) = false := decide_eq_false c3
        clear c3
        obtain rfl := Option.some.inj H
        go_wp2
        go_ret
        exact ⟨by first | rfl | (simp; done) | (simp [*]; done), by repeat (first | exact Drawn0.refl _ | apply Drawn0.step)⟩

/-! ### wayzgoosekit_partOf: function 39 -/
def wayzgoosekit_partOf.l0 : Nat → Int → Int → List Int → List Int → Int → List Int → Int → Int → Option (List Int × Int × Int)
  | 0, _, _, _, _, _, _, _, _ => none
  | k + 1, x1, x2, x7, x8, x9, x1000, x1001, x1002 => if x9 < x1 then ((wayzgoosekit_Index.f k x7 x9).bind fun t127 => (if t127 < x2 then (if x8.length < 17592186044416 then (wayzgoosekit_partOf.l0 k x1 x2 x7 (x8 ++ [x9]) (wrap64 (x9 + 1)) x1000 x1001 x1002) else (none)) else (wayzgoosekit_partOf.l0 k x1 x2 x7 x8 (wrap64 (x9 + 1)) x1000 x1001 x1002))) else (some (x8, x1001, x1002))
def wayzgoosekit_partOf.f (k : Nat) (s0_0 : List Int) (s0_1 : Int) (s0_2 : Int) (a1 : Int) (a2 : Int) : Option (List Int × Int × Int) := (wayzgoosekit_Dice_Order.f k s0_0 s0_1 s0_2 a1).bind fun bt122 => (wayzgoosekit_partOf.l0 k a1 a2 bt122.1 ([] : List Int) 0 s0_0 bt122.2.1 bt122.2.2)
theorem wayzgoosekit_partOf.mono_l : ∀ k, (∀ y0 y1 y2 y3 y4 y5 y6 y7, LeO (wayzgoosekit_partOf.l0 k y0 y1 y2 y3 y4 y5 y6 y7) (wayzgoosekit_partOf.l0 (k + 1) y0 y1 y2 y3 y4 y5 y6 y7))
  | 0 => fun _ _ _ _ _ _ _ _ r h => by simp [wayzgoosekit_partOf.l0] at h
  | k + 1 => by
    have ih0 := wayzgoosekit_partOf.mono_l k
    · intro y0 y1 y2 y3 y4 y5 y6 y7
      unfold wayzgoosekit_partOf.l0
      repeat' first
      | (with_reducible exact ih0 _ _ _ _ _ _ _ _)
      | (with_reducible exact wayzgoosekit_Dice_Order.mono _ _ _ _ _)
      | (with_reducible exact wayzgoosekit_Index.mono _ _ _)
      | (with_reducible exact LeO.refl _)
      | (with_reducible exact LeO.none _)
      | (with_reducible refine LeO.ite ?_ ?_)
      | (with_reducible refine LeO.bind ?_ (fun _ => ?_))
      | exact ih0 _ _ _ _ _ _ _ _
      | exact wayzgoosekit_Dice_Order.mono _ _ _ _ _
      | exact wayzgoosekit_Index.mono _ _ _
      | exact LeO.none _
      | refine LeO.ite ?_ ?_
      | refine LeO.bind ?_ (fun _ => ?_)
theorem wayzgoosekit_partOf.mono : ∀ a0 a1 a2 a3 a4 k, LeO (wayzgoosekit_partOf.f k a0 a1 a2 a3 a4) (wayzgoosekit_partOf.f (k + 1) a0 a1 a2 a3 a4) := by
  intro a0 a1 a2 a3 a4 k
  have ih0 := wayzgoosekit_partOf.mono_l k
  unfold wayzgoosekit_partOf.f
  repeat' first
      | (with_reducible exact ih0 _ _ _ _ _ _ _ _)
      | (with_reducible exact wayzgoosekit_Dice_Order.mono _ _ _ _ _)
      | (with_reducible exact wayzgoosekit_Index.mono _ _ _)
      | (with_reducible exact LeO.refl _)
      | (with_reducible exact LeO.none _)
      | (with_reducible refine LeO.ite ?_ ?_)
      | (with_reducible refine LeO.bind ?_ (fun _ => ?_))
      | exact ih0 _ _ _ _ _ _ _ _
      | exact wayzgoosekit_Dice_Order.mono _ _ _ _ _
      | exact wayzgoosekit_Index.mono _ _ _
      | exact LeO.none _
      | refine LeO.ite ?_ ?_
      | refine LeO.bind ?_ (fun _ => ?_)
set_option maxHeartbeats 8000000 in
set_option maxRecDepth 100000 in
theorem wayzgoosekit_partOf.calls (k : Nat) (g : Nat) (s0_0 : List Int) (s0_1 : Int) (s0_2 : Int) (a1 : Int) (a2 : Int) (r1 : List Int) (r2 : Int) (r3 : Int) (w0 w : World) (hI : IsS72 w0 w g s0_0 s0_1 s0_2) (hB : Below w0.heap.size w0 w) (h : wayzgoosekit_partOf.f k s0_0 s0_1 s0_2 a1 a2 = some (r1, r2, r3)) :
    Calls Try.prog 39 #[.pointer (some ⟨g, 0, none⟩), .int .i64 a1, .int .i64 a2] w fun e w' => ∃ v0_ : Value, e = .returned (v0_) ∧ Kd.R (Kd.int .i64) 3 w' w.heap.size (fun _ => True) v0_ r1 ∧ IsS72 w0 w' g s0_0 r2 r3 ∧ Below w0.heap.size w0 w' ∧ KeepBut w w' g none := by
  have HI0 := Aside0.mk hI
  have HK := Aside0.mk (KeepBut.refl w g none)
  have HL := Aside0.mk hB.size
  clear hI
  have HW0 := Aside0.mk hB.size
  have HB := Aside0.mk hB
  clear hB
  have H : ((wayzgoosekit_Dice_Order.f k s0_0 s0_1 s0_2 a1).bind fun bt122 => (wayzgoosekit_partOf.l0 k a1 a2 bt122.1 ([] : List Int) 0 s0_0 bt122.2.1 bt122.2.2)) = some (r1, r2, r3) := h
  clear h
  replace H := Option.bind_eq_some_iff.mp H
  obtain ⟨⟨t122, t125, t126⟩, A40, H⟩ := H
  replace H : (wayzgoosekit_partOf.l0 k a1 a2 t122 ([] : List Int) 0 s0_0 t125 t126) = some (r1, r2, r3) := H
  have A4 := Aside0.mk A40
  clear A40
  have H' := Aside0.mk H
  clear H
  go_enter Try.func39, Try.ntmps39
  go_wp2_with (first | ((with_reducible refine gate_callee (f := 23) rfl ?_); refine goesL_ (some 13) rfl rfl Try.func23 (by kernel_rfl) rfl #[.pointer (some ⟨g, 0, none⟩), .int .i64 a1] rfl (by (try simp only [List.map_toArray, List.map_cons, List.map_nil]); first | done | rfl | (simp only [List.length_drop, List.length_take]; rfl)) ?_; (with_reducible refine (wayzgoosekit_Dice_Order.calls k g s0_0 s0_1 s0_2 a1 t122 t125 t126 w0 _ ?side1 ?side2 A4.out).mono ?_); (case side1 => repeat (first | (with_reducible first | exact HI0.out | apply IsS72.alloc | apply IsS72.drewN | apply IsS72.drew | apply IsS72.set_1 | apply IsS72.set_2) | exact HI0.out)); (case side2 => repeat (first | (with_reducible first | exact HB.out | apply below_alloc | apply pw_below_drewN | apply below_drew1 | refine below_set ?_ (IsS72.ge HI0.out)) | exact HB.out)); rintro e w5 ⟨v123, rfl, ho0, hi, hb, hk⟩; refine ⟨_, rfl, ?_⟩; have n0_ := Aside0.mk (Kd.R_lower ho0 (keep_size (w := w) (g := g) (row := none) (by repeat (first | (with_reducible first | exact HK.out | apply KeepBut.set_ | apply keep_drewN | apply keep_drew | apply keep_alloc) | exact HK.out)))); have n1_ := Aside0.mk (KeepBut.trans (by repeat (first | (with_reducible first | exact HK.out | apply KeepBut.set_ | apply keep_drewN | apply keep_drew | apply keep_alloc) | exact HK.out)) hk (.inl rfl)); have n2_ := Aside0.mk (hb); have n3_ := Aside0.mk (hi); clear HK; clear HB; clear HI0; have HO124 := n0_; have HK := n1_; have HB := n2_; have HI0 := n3_; clear n0_ n1_ n2_ n3_; (try clear hb); (try clear hb2); (try clear hk); (try clear hi); (try clear ho0)))
  go_loopg [8, 9] k (fun kq v8 v9 w' => ∃ (x8_1 : List Int) (x9_1 : Int), v9 = .int .i64 x9_1 ∧ Aside0 (wayzgoosekit_partOf.l0 kq a1 a2 t122 x8_1 x9_1 s0_0 t125 t126 = some (r1, r2, r3)) ∧ Aside0 (kq ≤ k) ∧ Aside0 (Kd.R (Kd.int .i64) 3 w' w.heap.size (fun k_ => some k_ ≠ (v8 : Value).ownBlock) v123 t122) ∧ Aside0 (Kd.R (Kd.int .i64) 3 w' w.heap.size (fun k_ => some k_ ≠ (v123 : Value).ownBlock) v8 x8_1) ∧ Aside0 (IsS72 w0 w' g s0_0 t125 t126) ∧ Aside0 (KeepBut w w' g none) ∧ Aside0 (Below w0.heap.size w0 w'))
  case atStart => exact ⟨(([] : List Int)), (0), (by first | rfl | (simp; done) | (simp [*]; done)), H', ⟨Nat.le_refl _⟩, ⟨by (with_reducible repeat (first | apply Kd.R_alloc | apply Kd.R_drewN | apply Kd.R_drew)); exact Kd.R_mono HO124.out (fun _ hk => (by simp [Value.ownBlock]))⟩, ⟨by first | exact Kd.R_nil _ _ _ _ _ | exact Kd.N_nil _ _ _ _ _ | exact Kd.V_nil _ _ _ _ _ | exact Kd.Q_nil _ _ _ _ _ | exact Kd.S_nil _ _ _ _ _⟩, ⟨by repeat (first | (with_reducible first | exact HI0.out | apply IsS72.alloc | apply IsS72.drewN | apply IsS72.drew | apply IsS72.set_1 | apply IsS72.set_2) | exact HI0.out)⟩, ⟨by repeat (first | (with_reducible first | exact HK.out | apply KeepBut.set_ | apply keep_drewN | apply keep_drew | apply keep_alloc) | exact HK.out)⟩, ⟨by repeat (first | (with_reducible first | exact HB.out | apply below_alloc | apply pw_below_drewN | apply below_drew1 | refine below_set ?_ (IsS72.ge HI0.out)) | exact HB.out)⟩⟩
  case round =>
    clear H'
    try clear c2
    try clear p2
    try clear c3
    obtain ⟨x8_1, x9_1, rfl, HA, HK1, HO_7, HO_8, HI0, HK, HB⟩ := hrel
    cases gk with
    | zero => exact absurd HA.out (by simp [wayzgoosekit_partOf.l0])
    | succ k1 =>
      have H := HA.out
      clear HA
      simp only [wayzgoosekit_partOf.l0] at H
      by_cases c6 : x9_1 < a1
      · rw [if_pos c6] at H
        have c6b0 : decide (x9_1 < a1) = true := decide_eq_true c6
        clear c6
        replace H := Option.bind_eq_some_iff.mp H
        obtain ⟨t127, A70, H⟩ := H
        replace H : (if t127 < a2 then (if x8_1.length < 17592186044416 then (wayzgoosekit_partOf.l0 k1 a1 a2 t122 (x8_1 ++ [x9_1]) (wrap64 (x9_1 + 1)) s0_0 t125 t126) else (none)) else (wayzgoosekit_partOf.l0 k1 a1 a2 t122 x8_1 (wrap64 (x9_1 + 1)) s0_0 t125 t126)) = some (r1, r2, r3) := H
        have A7 := Aside0.mk A70
        clear A70
        by_cases c8 : t127 < a2
        · rw [if_pos c8] at H
          have c8b0 : decide (t127 < a2) = true := decide_eq_true c8
          clear c8
          by_cases c9 : x8_1.length < 17592186044416
          · rw [if_pos c9] at H
            have LMc9 := Aside0.mk c9
            clear c9
            obtain ⟨y128, hy128⟩ : ∃ y_ : List Int, y_ = (x8_1 ++ [x9_1]) := ⟨_, rfl⟩
            replace H : (wayzgoosekit_partOf.l0 k1 a1 a2 t122 y128 (wrap64 (x9_1 + 1)) s0_0 t125 t126) = some (r1, r2, r3) := by first | (rw [hy128]; with_reducible exact H) | (have H2_ := (Option.bind_some _ _).symm.trans H; rw [hy128]; with_reducible exact H2_) | (have H2_ := (Option.bind_some _ _).symm.trans H; with_reducible exact H2_) | with_reducible exact H | (rw [hy128]; exact H) | exact H
            have Ny128 := Aside0.mk hy128
            clear hy128
            have H' := Aside0.mk H
            clear H
            obtain ⟨Ao10, co10, eo10⟩ := Kd.R_slice HO_7.out
            subst eo10
            go_wp2_with (first | ((with_reducible refine gate_callee (f := 20) rfl ?_); refine goesL_ (some 21) rfl rfl Try.func20 (by kernel_rfl) rfl #[.slice Ao10 t122.length co10, .int .i64 x9_1] rfl (by (try simp only [List.map_toArray, List.map_cons, List.map_nil]); first | done | rfl | (simp only [List.length_drop, List.length_take]; rfl)) ?_; (with_reducible refine (wayzgoosekit_Index.calls k1 _ _ t122 x9_1 t127 _ ?side1 ?side2 A7.out).mono ?_); (case side1 => repeat (first | exact (Kd.R_reads' HO_7.out).2.2 | (with_reducible refine Kd.C_alloc ?_ _) | (with_reducible refine Kd.C_drewN ?_ _) | (with_reducible refine Kd.C_drew ?_))); (case side2 => exact (Kd.R_reads' HO_7.out).2.1); rintro e w' ⟨rfl, ⟨nd, rfl⟩⟩; refine ⟨_, rfl, ?_⟩) | ((with_reducible refine gate_builtin (b := .append) (xs := #[.tmp 25, .tmp 27]) rfl ?_); at_builtin; refine Kd.R_append (Kd.int .i64) w.heap.size rfl (.tmp 25) (.tmp 27) 22 3 (.int .i64 0) 8 rfl Try.underlying22 info3 rfl (by decide) (by omega) u8 x8_1 x9_1 [.int .i64 x9_1] (fun k_ => some k_ ≠ (.slice Ao10 t122.length co10 : Value).ownBlock) (fun _ => False) rfl rfl ?aP (fun _ hk => hk.elim) ?aF ?aO (Below.refl _ _) ?aS ?aL ?_; (case aP => exact rfl); (case aF => exact (fun k_ hk => Kd.fresh' (Kd.R_lt (by (with_reducible repeat (first | apply Kd.R_alloc | apply Kd.R_drewN | apply Kd.R_drew)); exact HO_7.out)) k_ hk)); (case aO => exact (by (with_reducible repeat (first | apply Kd.R_alloc | apply Kd.R_drewN | apply Kd.R_drew)); exact HO_8.out)); (case aS => exact (keep_size (w := w) (g := g) (row := none) (by repeat (first | (with_reducible first | exact HK.out | apply KeepBut.set_ | apply keep_drewN | apply keep_drew | apply keep_alloc) | exact HK.out)))); (case aL => have := LMc9.out; omega); intro v129 w11 ho hb hg hat; rw [← Ny128.out] at ho; have n0_ := Aside0.mk (Kd.R_after (ok := (fun _ => True)) (by (with_reducible repeat (first | apply Kd.R_alloc | apply Kd.R_drewN | apply Kd.R_drew)); exact Kd.R_mono HO_7.out (fun _ hk => ⟨trivial, hk⟩)) hg hat); have n1_ := Aside0.mk (IsS72.grown (by repeat (first | (with_reducible first | exact HI0.out | apply IsS72.alloc | apply IsS72.drewN | apply IsS72.drew | apply IsS72.set_1 | apply IsS72.set_2) | exact HI0.out)) hg (IsS72.own_ne HI0.out HO_8.out (by decide))); have n2_ := Aside0.mk (below_weaken (by repeat (first | (with_reducible first | exact HB.out | apply below_alloc | apply pw_below_drewN | apply below_drew1 | refine below_set ?_ (IsS72.ge HI0.out)) | exact HB.out)) HL.out hb); have n3_ := Aside0.mk (KeepBut.trans (by repeat (first | (with_reducible first | exact HK.out | apply KeepBut.set_ | apply keep_drewN | apply keep_drew | apply keep_alloc) | exact HK.out)) (KeepBut.of_grown hg g) (Kd.R_base2 HO_8.out)); have n4_ := Aside0.mk (ho); clear HO_7; clear HI0; clear HB; clear HK; clear HO_8; have HO_7 := n0_; have HI0 := n1_; have HB := n2_; have HK := n3_; have HO130 := n4_; clear n0_ n1_ n2_ n3_ n4_; clear ho hb hg hat))
            go_roundg k1
            case measure => have := HK1.out; omega
            case rel => exact ⟨(y128), (wrap64 (x9_1 + 1)), (by first | rfl | (simp; done) | (simp [*]; done)), H', ⟨by have := HK1.out; omega⟩, ⟨by (with_reducible repeat (first | apply Kd.R_alloc | apply Kd.R_drewN | apply Kd.R_drew)); exact Kd.R_mono HO_7.out (fun _ hk => hk.2)⟩, ⟨by (with_reducible repeat (first | apply Kd.R_alloc | apply Kd.R_drewN | apply Kd.R_drew)); exact HO130.out⟩, ⟨by repeat (first | (with_reducible first | exact HI0.out | apply IsS72.alloc | apply IsS72.drewN | apply IsS72.drew | apply IsS72.set_1 | apply IsS72.set_2) | exact HI0.out)⟩, ⟨by repeat (first | (with_reducible first | exact HK.out | apply KeepBut.set_ | apply keep_drewN | apply keep_drew | apply keep_alloc) | exact HK.out)⟩, ⟨by repeat (first | (with_reducible first | exact HB.out | apply below_alloc | apply pw_below_drewN | apply below_drew1 | refine below_set ?_ (IsS72.ge HI0.out)) | exact HB.out)⟩⟩
          · rw [if_neg c9] at H
            exact absurd H (by simp)
        · rw [if_neg c8] at H
          have c8b0 : decide (t127 < a2) = false := decide_eq_false c8
          clear c8
          have H' := Aside0.mk H
          clear H
          obtain ⟨Ao12, co12, eo12⟩ := Kd.R_slice HO_7.out
          subst eo12
          go_wp2_with (first | ((with_reducible refine gate_callee (f := 20) rfl ?_); refine goesL_ (some 21) rfl rfl Try.func20 (by kernel_rfl) rfl #[.slice Ao12 t122.length co12, .int .i64 x9_1] rfl (by (try simp only [List.map_toArray, List.map_cons, List.map_nil]); first | done | rfl | (simp only [List.length_drop, List.length_take]; rfl)) ?_; (with_reducible refine (wayzgoosekit_Index.calls k1 _ _ t122 x9_1 t127 _ ?side1 ?side2 A7.out).mono ?_); (case side1 => repeat (first | exact (Kd.R_reads' HO_7.out).2.2 | (with_reducible refine Kd.C_alloc ?_ _) | (with_reducible refine Kd.C_drewN ?_ _) | (with_reducible refine Kd.C_drew ?_))); (case side2 => exact (Kd.R_reads' HO_7.out).2.1); rintro e w' ⟨rfl, ⟨nd, rfl⟩⟩; refine ⟨_, rfl, ?_⟩))
          go_roundg k1
          case measure => have := HK1.out; omega
          case rel => exact ⟨(x8_1), (wrap64 (x9_1 + 1)), (by first | rfl | (simp; done) | (simp [*]; done)), H', ⟨by have := HK1.out; omega⟩, ⟨by (with_reducible repeat (first | apply Kd.R_alloc | apply Kd.R_drewN | apply Kd.R_drew)); exact HO_7.out⟩, ⟨by (with_reducible repeat (first | apply Kd.R_alloc | apply Kd.R_drewN | apply Kd.R_drew)); exact HO_8.out⟩, ⟨by repeat (first | (with_reducible first | exact HI0.out | apply IsS72.alloc | apply IsS72.drewN | apply IsS72.drew | apply IsS72.set_1 | apply IsS72.set_2) | exact HI0.out)⟩, ⟨by repeat (first | (with_reducible first | exact HK.out | apply KeepBut.set_ | apply keep_drewN | apply keep_drew | apply keep_alloc) | exact HK.out)⟩, ⟨by repeat (first | (with_reducible first | exact HB.out | apply below_alloc | apply pw_below_drewN | apply below_drew1 | refine below_set ?_ (IsS72.ge HI0.out)) | exact HB.out)⟩⟩
      · rw [if_neg c6] at H
        have c6b0 : decide (x9_1 < a1) = false := decide_eq_false c6
        clear c6
        simp only [Option.some.injEq, Prod.mk.injEq] at H
        obtain ⟨rfl, rfl, rfl⟩ := H
        go_wp2
        go_ret
        exact ⟨_, by first | rfl | (simp [errW_none, errW_some] <;> rfl) | (simp [*, errW_none, errW_some] <;> rfl), by (with_reducible repeat (first | apply Kd.R_alloc | apply Kd.R_drewN | apply Kd.R_drew)); exact Kd.R_mono HO_8.out (fun _ hk => trivial), by repeat (first | (with_reducible first | exact HI0.out | apply IsS72.alloc | apply IsS72.drewN | apply IsS72.drew | apply IsS72.set_1 | apply IsS72.set_2) | exact HI0.out), by repeat (first | (with_reducible first | exact HB.out | apply below_alloc | apply pw_below_drewN | apply below_drew1 | refine below_set ?_ (IsS72.ge HI0.out)) | exact HB.out), by repeat (first | (with_reducible first | exact HK.out | apply KeepBut.set_ | apply keep_drewN | apply keep_drew | apply keep_alloc) | exact HK.out)⟩

/-! ### wayzgoosekit_callings: function 40 -/
def wayzgoosekit_callings.f  : Option (List ByteArray) := some (([(⟨#[98, 97, 107, 101, 114]⟩ : ByteArray), (⟨#[98, 97, 107, 101, 114, 115]⟩ : ByteArray), (⟨#[98, 111, 110, 110, 101, 116, 115]⟩ : ByteArray), (⟨#[98, 114, 101, 119, 101, 114]⟩ : ByteArray), (⟨#[98, 114, 117, 115, 104, 101, 115]⟩ : ByteArray), (⟨#[98, 117, 116, 99, 104, 101, 114]⟩ : ByteArray), (⟨#[99, 97, 110, 100, 108, 101, 115]⟩ : ByteArray), (⟨#[99, 111, 111, 112, 101, 114]⟩ : ByteArray), (⟨#[99, 111, 111, 112, 101, 114, 115]⟩ : ByteArray), (⟨#[99, 117, 116, 108, 101, 114]⟩ : ByteArray), (⟨#[104, 97, 116, 116, 101, 114]⟩ : ByteArray), (⟨#[104, 111, 115, 105, 101, 114]⟩ : ByteArray), (⟨#[109, 101, 114, 99, 101, 114]⟩ : ByteArray), (⟨#[109, 105, 108, 108, 105, 110, 101, 114]⟩ : ByteArray), (⟨#[116, 97, 105, 108, 111, 114]⟩ : ByteArray), (⟨#[116, 97, 110, 110, 101, 114]⟩ : ByteArray)] : List ByteArray))
set_option maxHeartbeats 8000000 in
set_option maxRecDepth 100000 in
theorem wayzgoosekit_callings.calls  (r : List ByteArray) (w : World) (h : wayzgoosekit_callings.f  = some r) :
    Calls Try.prog 40 #[] w fun e w' => ∃ v0_ : Value, e = .returned (v0_) ∧ Kd.R Kd.string 9 w' w.heap.size (fun _ => True) v0_ r ∧ Below w.heap.size w w' := by
  have HB := Aside0.mk (Below.refl w.heap.size w)
  have H : (some (([(⟨#[98, 97, 107, 101, 114]⟩ : ByteArray), (⟨#[98, 97, 107, 101, 114, 115]⟩ : ByteArray), (⟨#[98, 111, 110, 110, 101, 116, 115]⟩ : ByteArray), (⟨#[98, 114, 101, 119, 101, 114]⟩ : ByteArray), (⟨#[98, 114, 117, 115, 104, 101, 115]⟩ : ByteArray), (⟨#[98, 117, 116, 99, 104, 101, 114]⟩ : ByteArray), (⟨#[99, 97, 110, 100, 108, 101, 115]⟩ : ByteArray), (⟨#[99, 111, 111, 112, 101, 114]⟩ : ByteArray), (⟨#[99, 111, 111, 112, 101, 114, 115]⟩ : ByteArray), (⟨#[99, 117, 116, 108, 101, 114]⟩ : ByteArray), (⟨#[104, 97, 116, 116, 101, 114]⟩ : ByteArray), (⟨#[104, 111, 115, 105, 101, 114]⟩ : ByteArray), (⟨#[109, 101, 114, 99, 101, 114]⟩ : ByteArray), (⟨#[109, 105, 108, 108, 105, 110, 101, 114]⟩ : ByteArray), (⟨#[116, 97, 105, 108, 111, 114]⟩ : ByteArray), (⟨#[116, 97, 110, 110, 101, 114]⟩ : ByteArray)] : List ByteArray))) = some r := h
  clear h
  obtain ⟨y131, hy131⟩ : ∃ y_ : List ByteArray, y_ = (([(⟨#[98, 97, 107, 101, 114]⟩ : ByteArray), (⟨#[98, 97, 107, 101, 114, 115]⟩ : ByteArray), (⟨#[98, 111, 110, 110, 101, 116, 115]⟩ : ByteArray), (⟨#[98, 114, 101, 119, 101, 114]⟩ : ByteArray), (⟨#[98, 114, 117, 115, 104, 101, 115]⟩ : ByteArray), (⟨#[98, 117, 116, 99, 104, 101, 114]⟩ : ByteArray), (⟨#[99, 97, 110, 100, 108, 101, 115]⟩ : ByteArray), (⟨#[99, 111, 111, 112, 101, 114]⟩ : ByteArray), (⟨#[99, 111, 111, 112, 101, 114, 115]⟩ : ByteArray), (⟨#[99, 117, 116, 108, 101, 114]⟩ : ByteArray), (⟨#[104, 97, 116, 116, 101, 114]⟩ : ByteArray), (⟨#[104, 111, 115, 105, 101, 114]⟩ : ByteArray), (⟨#[109, 101, 114, 99, 101, 114]⟩ : ByteArray), (⟨#[109, 105, 108, 108, 105, 110, 101, 114]⟩ : ByteArray), (⟨#[116, 97, 105, 108, 111, 114]⟩ : ByteArray), (⟨#[116, 97, 110, 110, 101, 114]⟩ : ByteArray)] : List ByteArray)) := ⟨_, rfl⟩
  replace H : (some y131) = some r := by first | (rw [hy131]; with_reducible exact H) | (have H2_ := (Option.bind_some _ _).symm.trans H; rw [hy131]; with_reducible exact H2_) | (have H2_ := (Option.bind_some _ _).symm.trans H; with_reducible exact H2_) | with_reducible exact H | (rw [hy131]; exact H) | exact H
  have Ny131 := Aside0.mk hy131
  clear hy131
  obtain rfl := Option.some.inj H
  go_enter Try.func40, Try.ntmps40
  go_wp2_with (first | ((with_reducible refine gate_dst (N := 1) rfl ?_); refine Kd.R_lit Kd.string _ 9 ?hg (N := 1) ?hd (xs := ([(⟨#[98, 97, 107, 101, 114]⟩ : ByteArray), (⟨#[98, 97, 107, 101, 114, 115]⟩ : ByteArray), (⟨#[98, 111, 110, 110, 101, 116, 115]⟩ : ByteArray), (⟨#[98, 114, 101, 119, 101, 114]⟩ : ByteArray), (⟨#[98, 114, 117, 115, 104, 101, 115]⟩ : ByteArray), (⟨#[98, 117, 116, 99, 104, 101, 114]⟩ : ByteArray), (⟨#[99, 97, 110, 100, 108, 101, 115]⟩ : ByteArray), (⟨#[99, 111, 111, 112, 101, 114]⟩ : ByteArray), (⟨#[99, 111, 111, 112, 101, 114, 115]⟩ : ByteArray), (⟨#[99, 117, 116, 108, 101, 114]⟩ : ByteArray), (⟨#[104, 97, 116, 116, 101, 114]⟩ : ByteArray), (⟨#[104, 111, 115, 105, 101, 114]⟩ : ByteArray), (⟨#[109, 101, 114, 99, 101, 114]⟩ : ByteArray), (⟨#[109, 105, 108, 108, 105, 110, 101, 114]⟩ : ByteArray), (⟨#[116, 97, 105, 108, 111, 114]⟩ : ByteArray), (⟨#[116, 97, 110, 110, 101, 114]⟩ : ByteArray)] : List ByteArray)) (inner := [.string (⟨#[98, 97, 107, 101, 114]⟩ : ByteArray), .string (⟨#[98, 97, 107, 101, 114, 115]⟩ : ByteArray), .string (⟨#[98, 111, 110, 110, 101, 116, 115]⟩ : ByteArray), .string (⟨#[98, 114, 101, 119, 101, 114]⟩ : ByteArray), .string (⟨#[98, 114, 117, 115, 104, 101, 115]⟩ : ByteArray), .string (⟨#[98, 117, 116, 99, 104, 101, 114]⟩ : ByteArray), .string (⟨#[99, 97, 110, 100, 108, 101, 115]⟩ : ByteArray), .string (⟨#[99, 111, 111, 112, 101, 114]⟩ : ByteArray), .string (⟨#[99, 111, 111, 112, 101, 114, 115]⟩ : ByteArray), .string (⟨#[99, 117, 116, 108, 101, 114]⟩ : ByteArray), .string (⟨#[104, 97, 116, 116, 101, 114]⟩ : ByteArray), .string (⟨#[104, 111, 115, 105, 101, 114]⟩ : ByteArray), .string (⟨#[109, 101, 114, 99, 101, 114]⟩ : ByteArray), .string (⟨#[109, 105, 108, 108, 105, 110, 101, 114]⟩ : ByteArray), .string (⟨#[116, 97, 105, 108, 111, 114]⟩ : ByteArray), .string (⟨#[116, 97, 110, 110, 101, 114]⟩ : ByteArray)]) (ok := fun _ => True) (okp := fun _ => True) ?hr ?hp (fun _ hk => hk) trivial (Below.refl _ _) (Nat.le_refl _) (by simp) ?_; (case hd => rfl); (case hg => rfl); (case hr => first | (go_simp; done) | (go_simp; rfl)); (case hp => exact (Reps.one (show Kd.M Kd.string _ _ _ (⟨#[98, 97, 107, 101, 114]⟩ : ByteArray) [.string (⟨#[98, 97, 107, 101, 114]⟩ : ByteArray)] from rfl) (Reps.one (show Kd.M Kd.string _ _ _ (⟨#[98, 97, 107, 101, 114, 115]⟩ : ByteArray) [.string (⟨#[98, 97, 107, 101, 114, 115]⟩ : ByteArray)] from rfl) (Reps.one (show Kd.M Kd.string _ _ _ (⟨#[98, 111, 110, 110, 101, 116, 115]⟩ : ByteArray) [.string (⟨#[98, 111, 110, 110, 101, 116, 115]⟩ : ByteArray)] from rfl) (Reps.one (show Kd.M Kd.string _ _ _ (⟨#[98, 114, 101, 119, 101, 114]⟩ : ByteArray) [.string (⟨#[98, 114, 101, 119, 101, 114]⟩ : ByteArray)] from rfl) (Reps.one (show Kd.M Kd.string _ _ _ (⟨#[98, 114, 117, 115, 104, 101, 115]⟩ : ByteArray) [.string (⟨#[98, 114, 117, 115, 104, 101, 115]⟩ : ByteArray)] from rfl) (Reps.one (show Kd.M Kd.string _ _ _ (⟨#[98, 117, 116, 99, 104, 101, 114]⟩ : ByteArray) [.string (⟨#[98, 117, 116, 99, 104, 101, 114]⟩ : ByteArray)] from rfl) (Reps.one (show Kd.M Kd.string _ _ _ (⟨#[99, 97, 110, 100, 108, 101, 115]⟩ : ByteArray) [.string (⟨#[99, 97, 110, 100, 108, 101, 115]⟩ : ByteArray)] from rfl) (Reps.one (show Kd.M Kd.string _ _ _ (⟨#[99, 111, 111, 112, 101, 114]⟩ : ByteArray) [.string (⟨#[99, 111, 111, 112, 101, 114]⟩ : ByteArray)] from rfl) (Reps.one (show Kd.M Kd.string _ _ _ (⟨#[99, 111, 111, 112, 101, 114, 115]⟩ : ByteArray) [.string (⟨#[99, 111, 111, 112, 101, 114, 115]⟩ : ByteArray)] from rfl) (Reps.one (show Kd.M Kd.string _ _ _ (⟨#[99, 117, 116, 108, 101, 114]⟩ : ByteArray) [.string (⟨#[99, 117, 116, 108, 101, 114]⟩ : ByteArray)] from rfl) (Reps.one (show Kd.M Kd.string _ _ _ (⟨#[104, 97, 116, 116, 101, 114]⟩ : ByteArray) [.string (⟨#[104, 97, 116, 116, 101, 114]⟩ : ByteArray)] from rfl) (Reps.one (show Kd.M Kd.string _ _ _ (⟨#[104, 111, 115, 105, 101, 114]⟩ : ByteArray) [.string (⟨#[104, 111, 115, 105, 101, 114]⟩ : ByteArray)] from rfl) (Reps.one (show Kd.M Kd.string _ _ _ (⟨#[109, 101, 114, 99, 101, 114]⟩ : ByteArray) [.string (⟨#[109, 101, 114, 99, 101, 114]⟩ : ByteArray)] from rfl) (Reps.one (show Kd.M Kd.string _ _ _ (⟨#[109, 105, 108, 108, 105, 110, 101, 114]⟩ : ByteArray) [.string (⟨#[109, 105, 108, 108, 105, 110, 101, 114]⟩ : ByteArray)] from rfl) (Reps.one (show Kd.M Kd.string _ _ _ (⟨#[116, 97, 105, 108, 111, 114]⟩ : ByteArray) [.string (⟨#[116, 97, 105, 108, 111, 114]⟩ : ByteArray)] from rfl) (Reps.one (show Kd.M Kd.string _ _ _ (⟨#[116, 97, 110, 110, 101, 114]⟩ : ByteArray) [.string (⟨#[116, 97, 110, 110, 101, 114]⟩ : ByteArray)] from rfl) (Reps.none _ _)))))))))))))))))); intro v132 w1 ho2 hb hg_ hnew_; clear hg_ hnew_; (first | rw [← Ny131.out] at ho2 | (simp only [Int.reduceToNat] at ho2; rw [← Ny131.out] at ho2)); have n0_ := Aside0.mk (Kd.R_lower ho2 (below_size (by repeat (first | (with_reducible first | exact HB.out | apply below_alloc | apply pw_below_drewN | apply below_drew1) | exact HB.out)))); have n1_ := Aside0.mk (below_step (by repeat (first | (with_reducible first | exact HB.out | apply below_alloc | apply pw_below_drewN | apply below_drew1) | exact HB.out)) hb); clear HB; have HO133 := n0_; have HB := n1_; clear n0_ n1_; clear hb ho2))
  go_ret
  exact ⟨_, by first | rfl | (simp [errW_none, errW_some] <;> rfl) | (simp [*, errW_none, errW_some] <;> rfl), by (with_reducible repeat (first | apply Kd.R_alloc | apply Kd.R_drewN | apply Kd.R_drew)); exact HO133.out, by repeat (first | (with_reducible first | exact HB.out | apply below_alloc | apply pw_below_drewN | apply below_drew1) | exact HB.out)⟩

/-! ### wayzgoosekit_Dice_Once: function 41 -/
def wayzgoosekit_Dice_Once.f (s0_0 : List Int) (s0_1 : Int) (s0_2 : Int) (a1 : Int) : Option (Bool × Int × Int) := (wayzgoosekit_Dice_To.f s0_0 s0_1 s0_2 (wrap64 (a1 - 1))).bind fun bt134 => (some ((bt134.1 == 0), bt134.2.1, bt134.2.2))
set_option maxHeartbeats 8000000 in
set_option maxRecDepth 100000 in
theorem wayzgoosekit_Dice_Once.calls (g : Nat) (s0_0 : List Int) (s0_1 : Int) (s0_2 : Int) (a1 : Int) (r1 : Bool) (r2 : Int) (r3 : Int) (w0 w : World) (hI : IsS72 w0 w g s0_0 s0_1 s0_2) (hB : Below w0.heap.size w0 w) (h : wayzgoosekit_Dice_Once.f s0_0 s0_1 s0_2 a1 = some (r1, r2, r3)) :
    Calls Try.prog 41 #[.pointer (some ⟨g, 0, none⟩), .int .i64 a1] w fun e w' => e = .returned (.bool r1) ∧ IsS72 w0 w' g s0_0 r2 r3 ∧ Below w0.heap.size w0 w' ∧ KeepBut w w' g none := by
  have HI0 := Aside0.mk hI
  have HK := Aside0.mk (KeepBut.refl w g none)
  have HL := Aside0.mk hB.size
  clear hI
  have HW0 := Aside0.mk hB.size
  have HB := Aside0.mk hB
  clear hB
  have H : ((wayzgoosekit_Dice_To.f s0_0 s0_1 s0_2 (wrap64 (a1 - 1))).bind fun bt134 => (some ((bt134.1 == 0), bt134.2.1, bt134.2.2))) = some (r1, r2, r3) := h
  clear h
  replace H := Option.bind_eq_some_iff.mp H
  obtain ⟨⟨t134, t135, t136⟩, A30, H⟩ := H
  replace H : (some ((t134 == 0), t135, t136)) = some (r1, r2, r3) := H
  have A3 := Aside0.mk A30
  clear A30
  simp only [Option.some.injEq, Prod.mk.injEq] at H
  obtain ⟨rfl, rfl, rfl⟩ := H
  go_enter Try.func41, Try.ntmps41
  go_wp2_with (first | ((with_reducible refine gate_callee (f := 32) rfl ?_); refine goesL_ (some 8) rfl rfl Try.func32 (by kernel_rfl) rfl #[.pointer (some ⟨g, 0, none⟩), .int .i64 (wrap64 (a1 - 1))] rfl (by (try simp only [List.map_toArray, List.map_cons, List.map_nil]); first | done | rfl | (simp only [List.length_drop, List.length_take]; rfl)) ?_; (with_reducible refine (wayzgoosekit_Dice_To.calls g s0_0 s0_1 s0_2 (wrap64 (a1 - 1)) t134 t135 t136 w0 _ ?side1 ?side2 A3.out).mono ?_); (case side1 => repeat (first | (with_reducible first | exact HI0.out | apply IsS72.alloc | apply IsS72.drewN | apply IsS72.drew | apply IsS72.set_1 | apply IsS72.set_2) | exact HI0.out)); (case side2 => repeat (first | (with_reducible first | exact HB.out | apply below_alloc | apply pw_below_drewN | apply below_drew1 | refine below_set ?_ (IsS72.ge HI0.out)) | exact HB.out)); rintro e w4 ⟨rfl, hi, hb, hk⟩; refine ⟨_, rfl, ?_⟩; have n0_ := Aside0.mk (KeepBut.trans (by repeat (first | (with_reducible first | exact HK.out | apply KeepBut.set_ | apply keep_drewN | apply keep_drew | apply keep_alloc) | exact HK.out)) hk (.inl rfl)); have n1_ := Aside0.mk (hb); have n2_ := Aside0.mk (hi); clear HK; clear HB; clear HI0; have HK := n0_; have HB := n1_; have HI0 := n2_; clear n0_ n1_ n2_; (try clear hb); (try clear hb2); (try clear hk); (try clear hi)))
  go_ret
  exact ⟨by first | rfl | (simp [errW_none, errW_some] <;> rfl) | (simp [*, errW_none, errW_some] <;> rfl), by repeat (first | (with_reducible first | exact HI0.out | apply IsS72.alloc | apply IsS72.drewN | apply IsS72.drew | apply IsS72.set_1 | apply IsS72.set_2) | exact HI0.out), by repeat (first | (with_reducible first | exact HB.out | apply below_alloc | apply pw_below_drewN | apply below_drew1 | refine below_set ?_ (IsS72.ge HI0.out)) | exact HB.out), by repeat (first | (with_reducible first | exact HK.out | apply KeepBut.set_ | apply keep_drewN | apply keep_drew | apply keep_alloc) | exact HK.out)⟩

end Go.Proofs.Ytfbimhnlcmdcpaa.Pa
namespace Go.Proofs.Ytfbimhnlcmdcpaa.Pa
open Go.RowKit Go.Proofs.YtfbimhnlcmdcpaaW.PrintWords Go.Proofs.YtfbimhnlcmdcpaaW.PrintLast Go.Proofs.YtfbimhnlcmdcpaaW.PrintMore
attribute [local go_sem] max2_int min2_int max_two min_two max_three min_three max_four min_four   -- for this text's walks alone
set_option linter.unusedVariables false
set_option linter.unusedSimpArgs false


/-! ### wayzgoosekit_TradesOf: function 13 -/
mutual
def wayzgoosekit_TradesOf.l0 : Nat → Int → List Int → Int → List Int → Int → Int → List (S51) → Option ((List (S51)) × (List (S39)) × Int × Int)
  | 0, _, _, _, _, _, _, _ => none
  | k + 1, x2, x8, x9, x1000, x1001, x1002, x139000 => if x9 > 0 then ((wayzgoosekit_sorts.f).bind fun t150 => (if 0 ≤ (x139000.length : Int) then (if (x139000.length : Int) < (x8.length : Int) then (if 0 ≤ (rd x8 (x139000.length : Int)) then (if (rd x8 (x139000.length : Int)) < (t150.length : Int) then ((wayzgoosekit_Dice_From.f x1000 x1001 x1002 (-1) (wrap64 ((x139000.length : Int) - 1))).bind fun bt155 => (if x139000.length < 5864062014805 then (wayzgoosekit_TradesOf.l0 k x2 x8 (wrap64 (x9 - 1)) x1000 bt155.2.1 bt155.2.2 (x139000 ++ [(⟨rdOf ByteArray.empty t150 (rd x8 (x139000.length : Int)), bt155.1⟩ : S51)])) else (none))) else (none)) else (none)) else (none)) else (none))) else ((wayzgoosekit_callings.f).bind fun t161 => ((wayzgoosekit_Dice_To.f x1000 x1001 x1002 x2).bind fun bt164 => ((wayzgoosekit_partOf.f k x1000 bt164.2.1 bt164.2.2 (t161.length : Int) bt164.1).bind fun bt167 => (wayzgoosekit_TradesOf.l1 k bt167.1 (bt167.1.length : Int) 0 x1000 bt167.2.1 bt167.2.2 x139000 ([] : List (S39))))))
def wayzgoosekit_TradesOf.l1 : Nat → List Int → Int → Int → List Int → Int → Int → List (S51) → List (S39) → Option ((List (S51)) × (List (S39)) × Int × Int)
  | 0, _, _, _, _, _, _, _, _ => none
  | k + 1, x10, x11, x12, x1000, x1001, x1002, x139000, x139001 => if x12 < x11 then ((wayzgoosekit_callings.f).bind fun t172 => (if 0 ≤ x12 then (if x12 < (x10.length : Int) then (if 0 ≤ (rd x10 x12) then (if (rd x10 x12) < (t172.length : Int) then ((wayzgoosekit_Dice_To.f x1000 x1001 x1002 (wrap64 ((x139000.length : Int) - 1))).bind fun bt177 => (if x11 > 1 then ((wayzgoosekit_Dice_Once.f x1000 bt177.2.1 bt177.2.2 3).bind fun bt181 => (wayzgoosekit_TradesOf.j2 k x10 x11 x12 bt181.1 x1000 bt181.2.1 bt181.2.2 x139000 x139001 (rdOf ByteArray.empty t172 (rd x10 x12)) bt177.1 (-1))) else (wayzgoosekit_TradesOf.j2 k x10 x11 x12 false x1000 bt177.2.1 bt177.2.2 x139000 x139001 (rdOf ByteArray.empty t172 (rd x10 x12)) bt177.1 (-1)))) else (none)) else (none)) else (none)) else (none))) else (some (x139000, x139001, x1001, x1002))
def wayzgoosekit_TradesOf.j2 : Nat → List Int → Int → Int → Bool → List Int → Int → Int → List (S51) → List (S39) → ByteArray → Int → Int → Option ((List (S51)) × (List (S39)) × Int × Int)
  | 0, _, _, _, _, _, _, _, _, _, _, _, _ => none
  | k + 1, x10, x11, x12, x80, x1000, x1001, x1002, x139000, x139001, x181000, x181001, x181002 => if x80 = true then ((wayzgoosekit_Dice_To.f x1000 x1001 x1002 (wrap64 (x11 - 2))).bind fun bt184 => (if x11 = 0 then (none) else (if x139001.length < 2513169434916 then (wayzgoosekit_TradesOf.l1 k x10 x11 (wrap64 (x12 + 1)) x1000 bt184.2.1 bt184.2.2 x139000 (x139001 ++ [(⟨x181000, (-1), Int.tmod (wrap64 ((wrap64 (x12 + 1)) + bt184.1)) x11, ([] : List Int)⟩ : S39)])) else (none)))) else (wayzgoosekit_TradesOf.l2 k x10 x11 x12 0 x1000 x1001 x1002 x139000 x139001 x181000 x181001 x181002 ([] : List Int))
def wayzgoosekit_TradesOf.l2 : Nat → List Int → Int → Int → Int → List Int → Int → Int → List (S51) → List (S39) → ByteArray → Int → Int → List Int → Option ((List (S51)) × (List (S39)) × Int × Int)
  | 0, _, _, _, _, _, _, _, _, _, _, _, _, _ => none
  | k + 1, x10, x11, x12, x14, x1000, x1001, x1002, x139000, x139001, x181000, x181001, x181002, x181003 => if x14 < x11 then (if x14 = x12 then (wayzgoosekit_TradesOf.l2 k x10 x11 x12 (wrap64 (x14 + 1)) x1000 x1001 x1002 x139000 x139001 x181000 x181001 x181002 x181003) else ((wayzgoosekit_Dice_Once.f x1000 x1001 x1002 4).bind fun bt190 => (if bt190.1 = true then (if x181003.length < 17592186044416 then (wayzgoosekit_TradesOf.l2 k x10 x11 x12 (wrap64 (x14 + 1)) x1000 bt190.2.1 bt190.2.2 x139000 x139001 x181000 x181001 x181002 (x181003 ++ [x14])) else (none)) else (wayzgoosekit_TradesOf.l2 k x10 x11 x12 (wrap64 (x14 + 1)) x1000 bt190.2.1 bt190.2.2 x139000 x139001 x181000 x181001 x181002 x181003)))) else (if (x181003.length : Int) > 0 then ((wayzgoosekit_Dice_Once.f x1000 x1001 x1002 4).bind fun bt196 => (if bt196.1 = true then (if x139001.length < 2513169434916 then (wayzgoosekit_TradesOf.l1 k x10 x11 (wrap64 (x12 + 1)) x1000 bt196.2.1 bt196.2.2 x139000 (x139001 ++ [(⟨x181000, (-1), x181002, x181003⟩ : S39)])) else (none)) else (if x139001.length < 2513169434916 then (wayzgoosekit_TradesOf.l1 k x10 x11 (wrap64 (x12 + 1)) x1000 bt196.2.1 bt196.2.2 x139000 (x139001 ++ [(⟨x181000, x181001, x181002, x181003⟩ : S39)])) else (none)))) else (if x139001.length < 2513169434916 then (wayzgoosekit_TradesOf.l1 k x10 x11 (wrap64 (x12 + 1)) x1000 x1001 x1002 x139000 (x139001 ++ [(⟨x181000, x181001, x181002, x181003⟩ : S39)])) else (none)))
end
def wayzgoosekit_TradesOf.f (k : Nat) (s0_0 : List Int) (s0_1 : Int) (s0_2 : Int) (a1 : Int) (a2 : Int) : Option ((List (S51)) × (List (S39)) × Int × Int) := (wayzgoosekit_sorts.f).bind fun t139 => ((wayzgoosekit_Dice_Order.f k s0_0 s0_1 s0_2 (t139.length : Int)).bind fun bt142 => ((wayzgoosekit_Dice_From.f s0_0 bt142.2.1 bt142.2.2 1 a1).bind fun bt147 => (wayzgoosekit_TradesOf.l0 k a2 bt142.1 bt147.1 s0_0 bt147.2.1 bt147.2.2 ([] : List (S51)))))
theorem wayzgoosekit_TradesOf.mono_l : ∀ k, (∀ y0 y1 y2 y3 y4 y5 y6, LeO (wayzgoosekit_TradesOf.l0 k y0 y1 y2 y3 y4 y5 y6) (wayzgoosekit_TradesOf.l0 (k + 1) y0 y1 y2 y3 y4 y5 y6)) ∧ (∀ y0 y1 y2 y3 y4 y5 y6 y7, LeO (wayzgoosekit_TradesOf.l1 k y0 y1 y2 y3 y4 y5 y6 y7) (wayzgoosekit_TradesOf.l1 (k + 1) y0 y1 y2 y3 y4 y5 y6 y7)) ∧ (∀ y0 y1 y2 y3 y4 y5 y6 y7 y8 y9 y10 y11, LeO (wayzgoosekit_TradesOf.j2 k y0 y1 y2 y3 y4 y5 y6 y7 y8 y9 y10 y11) (wayzgoosekit_TradesOf.j2 (k + 1) y0 y1 y2 y3 y4 y5 y6 y7 y8 y9 y10 y11)) ∧ (∀ y0 y1 y2 y3 y4 y5 y6 y7 y8 y9 y10 y11 y12, LeO (wayzgoosekit_TradesOf.l2 k y0 y1 y2 y3 y4 y5 y6 y7 y8 y9 y10 y11 y12) (wayzgoosekit_TradesOf.l2 (k + 1) y0 y1 y2 y3 y4 y5 y6 y7 y8 y9 y10 y11 y12))
  | 0 => ⟨fun _ _ _ _ _ _ _ r h => by simp [wayzgoosekit_TradesOf.l0] at h, fun _ _ _ _ _ _ _ _ r h => by simp [wayzgoosekit_TradesOf.l1] at h, fun _ _ _ _ _ _ _ _ _ _ _ _ r h => by simp [wayzgoosekit_TradesOf.j2] at h, fun _ _ _ _ _ _ _ _ _ _ _ _ _ r h => by simp [wayzgoosekit_TradesOf.l2] at h⟩
  | k + 1 => by
    obtain ⟨ih0, ih1, ih2, ih3⟩ := wayzgoosekit_TradesOf.mono_l k
    refine ⟨?_, ?_, ?_, ?_⟩
    · intro y0 y1 y2 y3 y4 y5 y6
      unfold wayzgoosekit_TradesOf.l0
      repeat' first
      | (with_reducible exact ih0 _ _ _ _ _ _ _)
      | (with_reducible exact ih1 _ _ _ _ _ _ _ _)
      | (with_reducible exact ih2 _ _ _ _ _ _ _ _ _ _ _ _)
      | (with_reducible exact ih3 _ _ _ _ _ _ _ _ _ _ _ _ _)
      | (with_reducible exact wayzgoosekit_Dice_Order.mono _ _ _ _ _)
      | (with_reducible exact wayzgoosekit_partOf.mono _ _ _ _ _ _)
      | (with_reducible exact LeO.refl _)
      | (with_reducible exact LeO.none _)
      | (with_reducible refine LeO.ite ?_ ?_)
      | (with_reducible refine LeO.bind ?_ (fun _ => ?_))
      | exact ih0 _ _ _ _ _ _ _
      | exact ih1 _ _ _ _ _ _ _ _
      | exact ih2 _ _ _ _ _ _ _ _ _ _ _ _
      | exact ih3 _ _ _ _ _ _ _ _ _ _ _ _ _
      | exact wayzgoosekit_Dice_Order.mono _ _ _ _ _
      | exact wayzgoosekit_partOf.mono _ _ _ _ _ _
      | exact LeO.none _
      | refine LeO.ite ?_ ?_
      | refine LeO.bind ?_ (fun _ => ?_)
    · intro y0 y1 y2 y3 y4 y5 y6 y7
      unfold wayzgoosekit_TradesOf.l1
      repeat' first
      | (with_reducible exact ih0 _ _ _ _ _ _ _)
      | (with_reducible exact ih1 _ _ _ _ _ _ _ _)
      | (with_reducible exact ih2 _ _ _ _ _ _ _ _ _ _ _ _)
      | (with_reducible exact ih3 _ _ _ _ _ _ _ _ _ _ _ _ _)
      | (with_reducible exact wayzgoosekit_Dice_Order.mono _ _ _ _ _)
      | (with_reducible exact wayzgoosekit_partOf.mono _ _ _ _ _ _)
      | (with_reducible exact LeO.refl _)
      | (with_reducible exact LeO.none _)
      | (with_reducible refine LeO.ite ?_ ?_)
      | (with_reducible refine LeO.bind ?_ (fun _ => ?_))
      | exact ih0 _ _ _ _ _ _ _
      | exact ih1 _ _ _ _ _ _ _ _
      | exact ih2 _ _ _ _ _ _ _ _ _ _ _ _
      | exact ih3 _ _ _ _ _ _ _ _ _ _ _ _ _
      | exact wayzgoosekit_Dice_Order.mono _ _ _ _ _
      | exact wayzgoosekit_partOf.mono _ _ _ _ _ _
      | exact LeO.none _
      | refine LeO.ite ?_ ?_
      | refine LeO.bind ?_ (fun _ => ?_)
    · intro y0 y1 y2 y3 y4 y5 y6 y7 y8 y9 y10 y11
      unfold wayzgoosekit_TradesOf.j2
      repeat' first
      | (with_reducible exact ih0 _ _ _ _ _ _ _)
      | (with_reducible exact ih1 _ _ _ _ _ _ _ _)
      | (with_reducible exact ih2 _ _ _ _ _ _ _ _ _ _ _ _)
      | (with_reducible exact ih3 _ _ _ _ _ _ _ _ _ _ _ _ _)
      | (with_reducible exact wayzgoosekit_Dice_Order.mono _ _ _ _ _)
      | (with_reducible exact wayzgoosekit_partOf.mono _ _ _ _ _ _)
      | (with_reducible exact LeO.refl _)
      | (with_reducible exact LeO.none _)
      | (with_reducible refine LeO.ite ?_ ?_)
      | (with_reducible refine LeO.bind ?_ (fun _ => ?_))
      | exact ih0 _ _ _ _ _ _ _
      | exact ih1 _ _ _ _ _ _ _ _
      | exact ih2 _ _ _ _ _ _ _ _ _ _ _ _
      | exact ih3 _ _ _ _ _ _ _ _ _ _ _ _ _
      | exact wayzgoosekit_Dice_Order.mono _ _ _ _ _
      | exact wayzgoosekit_partOf.mono _ _ _ _ _ _
      | exact LeO.none _
      | refine LeO.ite ?_ ?_
      | refine LeO.bind ?_ (fun _ => ?_)
    · intro y0 y1 y2 y3 y4 y5 y6 y7 y8 y9 y10 y11 y12
      unfold wayzgoosekit_TradesOf.l2
      repeat' first
      | (with_reducible exact ih0 _ _ _ _ _ _ _)
      | (with_reducible exact ih1 _ _ _ _ _ _ _ _)
      | (with_reducible exact ih2 _ _ _ _ _ _ _ _ _ _ _ _)
      | (with_reducible exact ih3 _ _ _ _ _ _ _ _ _ _ _ _ _)
      | (with_reducible exact wayzgoosekit_Dice_Order.mono _ _ _ _ _)
      | (with_reducible exact wayzgoosekit_partOf.mono _ _ _ _ _ _)
      | (with_reducible exact LeO.refl _)
      | (with_reducible exact LeO.none _)
      | (with_reducible refine LeO.ite ?_ ?_)
      | (with_reducible refine LeO.bind ?_ (fun _ => ?_))
      | exact ih0 _ _ _ _ _ _ _
      | exact ih1 _ _ _ _ _ _ _ _
      | exact ih2 _ _ _ _ _ _ _ _ _ _ _ _
      | exact ih3 _ _ _ _ _ _ _ _ _ _ _ _ _
      | exact wayzgoosekit_Dice_Order.mono _ _ _ _ _
      | exact wayzgoosekit_partOf.mono _ _ _ _ _ _
      | exact LeO.none _
      | refine LeO.ite ?_ ?_
      | refine LeO.bind ?_ (fun _ => ?_)
theorem wayzgoosekit_TradesOf.mono : ∀ a0 a1 a2 a3 a4 k, LeO (wayzgoosekit_TradesOf.f k a0 a1 a2 a3 a4) (wayzgoosekit_TradesOf.f (k + 1) a0 a1 a2 a3 a4) := by
  intro a0 a1 a2 a3 a4 k
  obtain ⟨ih0, ih1, ih2, ih3⟩ := wayzgoosekit_TradesOf.mono_l k
  unfold wayzgoosekit_TradesOf.f
  repeat' first
      | (with_reducible exact ih0 _ _ _ _ _ _ _)
      | (with_reducible exact ih1 _ _ _ _ _ _ _ _)
      | (with_reducible exact ih2 _ _ _ _ _ _ _ _ _ _ _ _)
      | (with_reducible exact ih3 _ _ _ _ _ _ _ _ _ _ _ _ _)
      | (with_reducible exact wayzgoosekit_Dice_Order.mono _ _ _ _ _)
      | (with_reducible exact wayzgoosekit_partOf.mono _ _ _ _ _ _)
      | (with_reducible exact LeO.refl _)
      | (with_reducible exact LeO.none _)
      | (with_reducible refine LeO.ite ?_ ?_)
      | (with_reducible refine LeO.bind ?_ (fun _ => ?_))
      | exact ih0 _ _ _ _ _ _ _
      | exact ih1 _ _ _ _ _ _ _ _
      | exact ih2 _ _ _ _ _ _ _ _ _ _ _ _
      | exact ih3 _ _ _ _ _ _ _ _ _ _ _ _ _
      | exact wayzgoosekit_Dice_Order.mono _ _ _ _ _
      | exact wayzgoosekit_partOf.mono _ _ _ _ _ _
      | exact LeO.none _
      | refine LeO.ite ?_ ?_
      | refine LeO.bind ?_ (fun _ => ?_)
end Go.Proofs.Ytfbimhnlcmdcpaa.Pa
/- Regions that draw their order: loads are taken first under a condition S on the world, shown anew behind each operation but those of a list M, which wait for all that is taken first. -/
namespace Go.Proofs.Ytfbimhnlcmdcpaa.Pa
open Go
section
variable {P : Program} {ops : Array Oper} {Q : Exit → Act → World → Prop} {md : Region.Mode} {S S' : World → Prop} {M : List Nat}

def wpAnyM (P : Program) (md : Region.Mode) (ops : Array Oper) (Q : Exit → Act → World → Prop) (S : World → Prop) (M : List Nat) : Nat → Array Bool → Act → World → Prop
  | 0, listed, a, w => Region.ready md ops listed = [] ∧ Q .normal a w
  | fuel + 1, listed, a, w =>
    (Region.ready md ops listed = [] → Q .normal a w) ∧
    ∀ i ∈ Region.ready md ops listed, wpOp P ops Q i (fun a' w' => (i ∉ M → S w') ∧ wpAnyM P md ops Q S M fuel (listed.setIfInBounds i true) a' w') a w

theorem wpAny_of_M : ∀ (fuel : Nat) (listed : Array Bool) (a : Act) (w : World), wpAnyM P md ops Q S M fuel listed a w → wpAny P md ops Q fuel listed a w
  | 0, _, _, _, h => h
  | fuel + 1, _, _, _, h => ⟨h.1, fun i hi => wpOp_mono (fun a' w' h' => wpAny_of_M fuel _ a' w' h'.2) (h.2 i hi)⟩

/-- More may be said of the world from here on. -/
theorem wpAnyM_more (hS : ∀ w, S' w → S w) : ∀ (fuel : Nat) (listed : Array Bool) (a : Act) (w : World), wpAnyM P md ops Q S' M fuel listed a w → wpAnyM P md ops Q S M fuel listed a w
  | 0, _, _, _, h => h
  | fuel + 1, _, _, _, h => ⟨h.1, fun i hi => wpOp_mono (fun a' w' h' => ⟨fun hne => hS _ (h'.1 hne), wpAnyM_more hS fuel _ a' w' h'.2⟩) (h.2 i hi)⟩

/-- Operation m waits for operation i. -/
def waitsFor (md : Region.Mode) (ops : Array Oper) (m i : Nat) : Bool :=
  match ops[m]? with
  | none => true
  | some o => o.after.any (fun e => Region.binds md e && e.on == i)

theorem not_ready {m i : Nat} (hw : waitsFor md ops m i = true) {listed : Array Bool} (hi : listed.getD i true = false) : m ∉ Region.ready md ops listed := by
  intro hm
  obtain ⟨_, om, hom, hall⟩ := mem_ready.1 hm
  unfold waitsFor at hw
  rw [hom] at hw
  obtain ⟨e, he, hb⟩ := Array.any_eq_true'.1 hw
  simp only [Bool.and_eq_true, beq_iff_eq] at hb
  have h1 := hall e he hb.1
  have h0 := hi
  rw [hb.2] at h1
  rcases Nat.lt_or_ge i listed.size with h' | h'
  · simp [h'] at h0 h1; rw [h0] at h1; cases h1
  · simp [Array.getElem?_eq_none h'] at h1

/-- C waits for i, and what of M has not come up yet is among it. -/
def laterC (md : Region.Mode) (ops : Array Oper) (listed : Array Bool) (i : Nat) (M C : List Nat) : Bool :=
  C.contains i && C.all (fun c => !listed.getD c true && (c == i || C.any (fun c' => waitsFor md ops c c'))) && M.all (fun j => listed.getD j true || C.contains j)
structure Later (md : Region.Mode) (ops : Array Oper) (listed : Array Bool) (i : Nat) (M C : List Nat) : Prop where
  own : i ∈ C
  open_ : ∀ c ∈ C, listed.getD c true = false
  waits : ∀ c ∈ C, c ≠ i → ∃ c' ∈ C, waitsFor md ops c c' = true
  all : ∀ j ∈ M, listed.getD j true = false → j ∈ C
theorem laterC_spec {listed : Array Bool} {i : Nat} {C : List Nat} (h : laterC md ops listed i M C = true) : Later md ops listed i M C := by
  unfold laterC at h
  simp only [Bool.and_eq_true, List.contains_eq_mem, decide_eq_true_eq, List.all_eq_true, Bool.not_eq_true', Bool.or_eq_true, beq_iff_eq, List.any_eq_true] at h
  obtain ⟨⟨h1, h2⟩, h3⟩ := h
  exact ⟨h1, fun c hc => (h2 c hc).1, fun c hc hne => (h2 c hc).2.resolve_left hne, fun j hj hl => (h3 j hj).resolve_left (by rw [hl]; simp)⟩
theorem Later.not {listed : Array Bool} {i j : Nat} {C : List Nat} (h : Later md ops listed i M C) (hj : j ∈ Region.ready md ops listed) (hne : j ≠ i) : j ∉ C ∧ j ∉ M := by
  have h1 : j ∉ C := fun hc => by
    obtain ⟨c', hc', hw⟩ := h.waits j hc hne
    exact not_ready hw (h.open_ c' hc') hj
  exact ⟨h1, fun hm => h1 (h.all j hm (mem_ready.1 hj).1)⟩
theorem Later.step {listed : Array Bool} {i j : Nat} {C : List Nat} (h : Later md ops listed i M C) (hj : j ∉ C) : Later md ops (listed.setIfInBounds j true) i M C := by
  refine ⟨h.own, fun c hc => ?_, h.waits, fun k hk hl => ?_⟩
  · rw [getD_set_ne true (fun e : j = c => hj (by rw [e]; exact hc))]; exact h.open_ c hc
  · by_cases hjk : j = k
    · subst hjk
      exfalso
      rcases Nat.lt_or_ge j listed.size with h' | h'
      · simp [h'] at hl
      · simp at hl
    · rw [getD_set_ne true hjk] at hl
      exact h.all k hk hl

theorem wpAnyM_first {i : Nat} {oi : Oper} {v : Value} (hi : ops[i]? = some oi) (hsel : ∀ (j : Nat) (o : Oper) cs b, ops[j]? = some o → o.op ≠ .select cs b)
    (hQ : ∀ c a w, Q (.panic c) (a.put oi.dst v) w → Q (.panic c) a w) {C : List Nat} :
    ∀ (fuel : Nat) (listed : Array Bool) (a : Act) (w : World), Later md ops listed i M C →
      (∀ j oj, ops[j]? = some oj → j ≠ i → listed.getD j true = false → (∀ e ∈ oj.after, Region.binds md e = true → e.on ≠ i) → oi.apart ops oj = true) →
      i ∈ Region.ready md ops listed → YieldsIf P ops S oi v a → S w →
      wpAnyM P md ops Q S M fuel (listed.setIfInBounds i true) (a.put oi.dst v) w → wpAnyM P md ops Q S M (fuel + 1) listed a w := by
  intro fuel
  induction fuel with
  | zero =>
    intro listed a w _ _ hr hy hS H
    refine ⟨fun h => (by rw [h] at hr; cases hr), fun j hj => ?_⟩
    by_cases hji : j = i
    · subst hji; exact hy.wpOp hi hS ⟨fun _ => hS, H⟩
    · have := ready_mono hj hji
      rw [H.1] at this
      cases this
  | succ fuel ih =>
    intro listed a w hlt hfree hr hy hS H
    refine ⟨fun h => (by rw [h] at hr; cases hr), fun j hj => ?_⟩
    by_cases hji : j = i
    · subst hji; exact hy.wpOp hi hS ⟨fun _ => hS, H⟩
    · obtain ⟨hjC, hjm⟩ := hlt.not hj hji
      have h1 := H.2 j (ready_mono hj hji)
      obtain ⟨hjun, oj, hoj, hall⟩ := mem_ready.1 hj
      have hnot : ∀ e ∈ oj.after, Region.binds md e = true → e.on ≠ i := fun e he hb heq => by
        have h1 := hall e he hb
        have h0 := (mem_ready.1 hr).1
        rw [heq] at h1
        rcases Nat.lt_or_ge i listed.size with h' | h'
        · simp [h'] at h0 h1; rw [h0] at h1; cases h1
        · simp [Array.getElem?_eq_none h'] at h1
      have h2 := wpOp_putIf hoj (hfree j oj hoj hji hjun hnot) (fun cs b => hsel i oi cs b hi) (fun cs b => hsel j oj cs b hoj) hQ hy h1
      have hfree' : ∀ k ok, ops[k]? = some ok → k ≠ i → (listed.setIfInBounds j true).getD k true = false →
          (∀ e ∈ ok.after, Region.binds md e = true → e.on ≠ i) → oi.apart ops ok = true := fun k ok hk hki hun hno => by
        refine hfree k ok hk hki ?_ hno
        by_cases hjk : j = k
        · subst hjk; exact hjun
        · rw [getD_set_ne true hjk] at hun; exact hun
      refine wpOp_mono (fun a' w' h3 => ⟨h3.2.1, ih (listed.setIfInBounds j true) a' w' (hlt.step hjC) hfree' (ready_mono hr (Ne.symm hji)) h3.1 (h3.2.1 hjm) ?_⟩) h2
      rw [Array.setIfInBounds_comm _ _ hji]
      exact h3.2.2

theorem wpAnyM_take (C : List Nat) {i : Nat} {oi : Oper} {v : Value} {fuel : Nat} {listed : Array Bool} {a : Act} {w : World} (hi : ops[i]? = some oi)
    (hs : (Region.noSelect ops && Region.free md ops listed i && (Region.ready md ops listed).contains i && laterC md ops listed i M C) = true)
    (hQ : ∀ c a w, Q (.panic c) (a.put oi.dst v) w → Q (.panic c) a w) (hy : YieldsIf P ops S oi v a) (hS : S w)
    (h : wpAnyM P md ops Q S M fuel (listed.setIfInBounds i true) (a.put oi.dst v) w) : wpAnyM P md ops Q S M (fuel + 1) listed a w := by
  simp only [Bool.and_eq_true] at hs
  obtain ⟨⟨⟨h1, h2⟩, h3⟩, h4⟩ := hs
  exact wpAnyM_first hi (Region.noSelect_spec h1) hQ fuel listed a w (laterC_spec h4) (Region.free_spec hi h2) (by simpa using h3) hy hS h

/-- The one operation that may come up comes up. -/
theorem wpAnyM_one {i : Nat} {o : Oper} {fuel : Nat} {listed : Array Bool} {a : Act} {w : World} (hr : Region.ready md ops listed = [i]) (ho : ops[i]? = some o)
    (h : ∀ K' : Act → World → Prop, Shut (∀ a w, (i ∉ M → S w) → ((i ∉ M → S w) → wpAnyM P md ops Q S M fuel (listed.setIfInBounds i true) a w) → K' a w) → if Region.wanted o (yielded ops a.tmps) = true then Oper.wp P o a w K' Q else K' (a.put o.dst undef) w) : wpAnyM P md ops Q S M (fuel + 1) listed a w := by
  refine ⟨fun h0 => absurd (hr ▸ h0) (by simp), fun j hj => ?_⟩
  rw [hr, List.mem_singleton] at hj
  subst hj
  exact wpOp_step ho (fun K' hK => h K' (fun a w hS hW => hK a w ⟨hS, hW hS⟩))
/-- Two operations may come up. -/
theorem wpAnyM_two {i j : Nat} {o o' : Oper} {fuel : Nat} {listed : Array Bool} {a : Act} {w : World} (hr : Region.ready md ops listed = [i, j]) (ho : ops[i]? = some o) (ho' : ops[j]? = some o')
    (h : ∀ K' : Act → World → Prop, Shut (∀ a w, (i ∉ M → S w) → ((i ∉ M → S w) → wpAnyM P md ops Q S M fuel (listed.setIfInBounds i true) a w) → K' a w) → if Region.wanted o (yielded ops a.tmps) = true then Oper.wp P o a w K' Q else K' (a.put o.dst undef) w)
    (h' : ∀ K' : Act → World → Prop, Shut (∀ a w, (j ∉ M → S w) → ((j ∉ M → S w) → wpAnyM P md ops Q S M fuel (listed.setIfInBounds j true) a w) → K' a w) → if Region.wanted o' (yielded ops a.tmps) = true then Oper.wp P o' a w K' Q else K' (a.put o'.dst undef) w) : wpAnyM P md ops Q S M (fuel + 1) listed a w := by
  refine ⟨fun h0 => absurd (hr ▸ h0) (by simp), fun k hk => ?_⟩
  rw [hr] at hk
  rcases List.mem_cons.1 hk with rfl | hk
  · exact wpOp_step ho (fun K' hK => h K' (fun a w hS hW => hK a w ⟨hS, hW hS⟩))
  · rw [List.mem_singleton] at hk
    subst hk
    exact wpOp_step ho' (fun K' hK => h' K' (fun a w hS hW => hK a w ⟨hS, hW hS⟩))
theorem wpAnyM_done {listed : Array Bool} {a : Act} {w : World} (hr : Region.ready md ops listed = []) (h : Q .normal a w) : ∀ fuel, wpAnyM P md ops Q S M fuel listed a w
  | 0 => ⟨hr, h⟩
  | _ + 1 => ⟨fun _ => h, by rw [hr]; simp⟩
theorem wp_region_M {id : Nat} {a : Act} {w : World} (M : List Nat) (hm : P.follows .mixedOrders = true) (hS : S w.drew)
    (h : S w.drew → wpAnyM P .any ops Q S M ops.size (Array.replicate ops.size false) a w.drew) : (Code.region id ops true).wp P Q a w :=
  wp_region_any hm (wpAny_of_M _ _ _ _ (h hS))
end
end Go.Proofs.Ytfbimhnlcmdcpaa.Pa
