/- A part of the proof: A heading is found in n steps just if some heading found in n - 1 steps has a reference to it, and none found in fewer; trades are hidden just if they are not found so: for all lists of numbers. Without conditions of its own. -/
import Derived.Test.YtfbimhnlcmdcpaaMTradeFound2
import Derived.Deep.RegionHeld
import Derived.Laws.CopyOwn
import Derived.Laws.MakeOwn
/- The contracts of may and May. -/
namespace Go.Proofs.Ytfbimhnlcmdcpaa.Pa
open Go.RowKit Go.Proofs.YtfbimhnlcmdcpaaW.PrintWords Go.Proofs.YtfbimhnlcmdcpaaW.PrintLast Go.Proofs.YtfbimhnlcmdcpaaW.PrintMore
set_option linter.unusedVariables false
set_option linter.unusedSimpArgs false

theorem hasPrefix_begins (s b : ByteArray) : strings_HasPrefix.f s b = some (begins s b) := by
  unfold strings_HasPrefix.f stringslite_HasPrefix.f
  have hs : s.size = s.data.toList.length := rfl
  have hb : b.size = b.data.toList.length := rfl
  by_cases h : (s.size : Int) ≥ (b.size : Int)
  · rw [if_pos h, if_pos (by omega), if_pos h]
    show some _ = some _
    congr 1
    rw [toList_data, toList_data]
    unfold begins
    have : (s.extract 0 ((b.size : Int)).toNat).data.toList = s.data.toList.take b.data.toList.length := by
      rw [Int.toNat_natCast, hb]
      simp
    rw [this, Bool.eq_iff_iff, beq_iff_eq, List.isPrefixOf_iff_prefix, List.prefix_iff_eq_take]
    exact eq_comm
  · rw [if_neg h]
    show some false = some _
    congr 1
    unfold begins
    symm
    rw [Bool.eq_false_iff, ne_eq, List.isPrefixOf_iff_prefix]
    intro hp
    have := hp.length_le
    omega

theorem followGo_in {cs : List Cl} {hs : List Hd} (hv : Valid cs hs) {a t : Int} : ∀ (m : Nat) (k : Nat) (s : Int), k < hs.length → followGo hs m k s = some (a, t) → ∃ p : Nat, a = p ∧ p < hs.length
  | 0, k, s, hk, h => by simp [followGo_zero] at h
  | m + 1, k, s, hk, h => by
    by_cases hp : (hs.getD k zHd).f2 = -1
    · rw [followGo_end rfl hp] at h
      simp only [Option.some.injEq, Prod.mk.injEq] at h
      exact ⟨k, h.1.symm, hk⟩
    · rw [followGo_ptr rfl hp] at h
      have hg := (hv.head k hk).see
      obtain ⟨p, hpe⟩ : ∃ p : Nat, (hs.getD k zHd).f2 = p := ⟨(hs.getD k zHd).f2.toNat, by omega⟩
      rw [hpe] at h hg
      exact followGo_in hv m p (s + 1) (by omega) h
theorem followT_in {cs : List Cl} {hs : List Hd} (hv : Valid cs hs) {k : Nat} (hk : k < hs.length) {a t : Int} (h : followT hs k = some (a, t)) : ∃ p : Nat, a = p ∧ p < hs.length := followGo_in hv _ k 0 hk h

/-- the trades that the first k headings lead to, as bits -/
def mayStep (hs : List Hd) (b : ByteArray) (k : Nat) (S : Nat) : Nat :=
  if begins (hs.getD k zHd).f0 b = true then (match followT hs k with | none => S | some (e, _) => if isTradeT hs e = true then S ||| 2 ^ e.toNat else S) else S
def mayS (hs : List Hd) (b : ByteArray) : Nat → Nat
  | 0 => 0
  | k + 1 => mayStep hs b k (mayS hs b k)
theorem mayS_lt {cs : List Cl} {hs : List Hd} (hv : Valid cs hs) (b : ByteArray) : ∀ k, k ≤ hs.length → mayS hs b k < 256
  | 0, _ => by show 0 < 256; omega
  | k + 1, hk => by
    have ih := mayS_lt hv b k (by omega)
    have m1 := hv.split.2.1
    show mayStep hs b k (mayS hs b k) < 256
    unfold mayStep
    split
    · split
      · exact ih
      · rename_i e s hf
        obtain ⟨p, rfl, hp⟩ := followT_in hv (by omega) hf
        split
        · rw [Int.toNat_natCast]; exact or_lt _ _ ih (by omega)
        · exact ih
    · exact ih
theorem mayS_bit {cs : List Cl} {hs : List Hd} (hv : Valid cs hs) (b : ByteArray) (e : Nat) : ∀ k, k ≤ hs.length → (mayS hs b k).testBit e = (nats k).any (fun h => leadsTo hs b h e)
  | 0, _ => by show (0 : Nat).testBit e = false; simp
  | k + 1, hk => by
    have ih := mayS_bit hv b e k (by omega)
    rw [nats_succ, List.any_append, ← ih]
    show (mayStep hs b k (mayS hs b k)).testBit e = _
    simp only [List.any_cons, List.any_nil, Bool.or_false]
    unfold mayStep leadsTo
    rw [Int.toNat_natCast]
    cases hb : begins (hs.getD k zHd).f0 b
    · simp
    · cases hf : followT hs k with
      | none => simp
      | some pr =>
        obtain ⟨a, s⟩ := pr
        obtain ⟨p, rfl, hp⟩ := followT_in hv (by omega) hf
        simp only [if_true]
        by_cases hpe : p = e
        · subst hpe
          cases ht : isTradeT hs p
          · simp
          · simp [Nat.testBit_or, Nat.testBit_two_pow]
        · have : ¬ ((p : Int) = (e : Int)) := by omega
          split
          · simp [Nat.testBit_or, Nat.testBit_two_pow, hpe, this]
          · simp [this]
theorem mayT_bits {cs : List Cl} {hs : List Hd} (hv : Valid cs hs) (b : ByteArray) : mayT hs b = (nats hs.length).filter (fun e => (mayS hs b hs.length).testBit e.toNat) := by
  unfold mayT
  apply List.filter_congr
  intro e he
  obtain ⟨n, _, rfl⟩ := List.mem_map.mp he
  show _ = (mayS hs b hs.length).testBit (Int.ofNat n).toNat
  rw [show (Int.ofNat n).toNat = n from rfl, mayS_bit hv b n _ (Nat.le_refl _)]
  rfl

set_option maxHeartbeats 4000000 in
set_option maxRecDepth 100000 in
theorem may_any (g : Nat) (cs : List Cl) (hs : List Hd) (b : ByteArray) (w : World) (hL : IsList w g cs hs) (hv : Valid cs hs) :
    Calls Try.prog 53 #[.pointer (some ⟨g, 0, none⟩), .string b] w fun e w' => ∃ v, e = .returned v ∧ (Kd.int .i64).R 3 w' w.heap.size (fun _ => True) v (mayT hs b) ∧ Below w.heap.size w w' := by
  obtain ⟨m0, m1, -, -⟩ := hv.split
  have hu2 := Try.underlying26
  have hu3 := Try.underlying81
  have hu4 := Try.underlying39
  obtain ⟨i0, hi, hz0, hz1, hz2⟩ := info_parts info3'
  have HM := Lib.hid (mayT_bits hv b)
  obtain ⟨A0, c0, A1, c1, A2, c2, A3, c3, hg, l0, l1, r0, r1, r2, r3⟩ := hL.ok
  obtain ⟨g0, g1, g2, g3⟩ := cells4 hg
  have hLb := fun W (hW : Below w.heap.size w W) => hL.below hW
  have HF := fun (n : Nat) (hn : n < hs.length) W (hW : Below w.heap.size w W) => follow_any g cs hs n W (hL.below hW) hv hn
  have HT := fun (n : Nat) (hn : n < hs.length) W (hW : Below w.heap.size w W) => isTrade_any g cs hs n W (hL.below hW) hn
  obtain ⟨R, hR⟩ : ∃ R, mayT hs b = R := ⟨_, rfl⟩
  rw [hR] at HM ⊢
  clear hL hR
  go_enter Try.func53, Try.ntmps53
  go_wp2
  go_loopg [5, 19] hs.length (fun gk v5 v wr => ∃ k : Nat, k + gk = hs.length ∧ v = .int .i64 k ∧ v5 = .int .u8 (mayS hs b k : Int) ∧ Below w.heap.size w wr)
  case atStart => exact ⟨0, by omega, rfl, rfl, Below.refl _ _⟩
  case round =>
    obtain ⟨k, hk, rfl, rfl, hb⟩ := hrel
    by_cases hlt : k < hs.length
    · have hSl := mayS_lt hv b k (by omega)
      have HS : Hid (mayS hs b (k + 1) = mayStep hs b k (mayS hs b k)) := rfl
      obtain ⟨S, hS⟩ : ∃ S, mayS hs b k = S := ⟨_, rfl⟩
      rw [hS] at HS hSl ⊢
      clear hS
      obtain ⟨ad, A3', c3', e, h0, h1, h2, h3, h4, h5⟩ := hdAt r1 k hlt
      cases e
      obtain ⟨x, hx⟩ : ∃ x, hs.getD k zHd = x := ⟨_, rfl⟩
      rw [hx] at h0 h1 h2 h3 h4 h5
      replace h0 := pw_cell_below hb h0
      replace h1 := pw_cell_below hb h1
      replace h2 := pw_cell_below hb h2
      replace h3 := pw_cell_below hb h3
      have HP := fun W => strings_HasPrefix.calls x.f0 b _ W (hasPrefix_begins x.f0 b)
      have HS2 : Hid (mayS hs b (k + 1) = if begins x.f0 b = true then (match followT hs k with | none => S | some (e, _) => if isTradeT hs e = true then S ||| 2 ^ e.toNat else S) else S) := by
        show _ = _
        rw [HS.out]; unfold mayStep; rw [hx]
      clear HS hx
      obtain ⟨bb, hbb⟩ : ∃ bb, begins x.f0 b = bb := ⟨_, rfl⟩
      rw [hbb] at HS2
      simp only [hbb] at HP
      clear hbb
      cases bb with
      | false =>
        have HS3 : Hid (mayS hs b (k + 1) = S) := by show _ = _; rw [HS2.out]; rfl
        go_wp2_with (go_at_call 73; (with_reducible refine (HP _).mono ?_); rintro e w2 ⟨rfl, ⟨nd, rfl⟩⟩)
        go_roundg (hs.length - (k + 1))
        case measure => omega
        case rel => exact ⟨k + 1, by omega, by go_num, by rw [HS3.out], pw_below_drewN (hb.alloc hb.size _) _⟩
      | true =>
        have HF := fun W (hW : Below w.heap.size w W) => HF k hlt W hW
        have hbd := fun n o => pw_below_drewN (hb.alloc hb.size o) n
        cases hfe : followT hs k with
        | none =>
          have HS3 : Hid (mayS hs b (k + 1) = S) := by show _ = _; rw [HS2.out, hfe]; rfl
          rw [hfe] at HF
          simp only [followV] at HF
          clear HS2 hfe
          go_wp2_with (first
            | (go_at_call 73; (with_reducible refine (HP _).mono ?_); rintro e w2 ⟨rfl, ⟨nd, rfl⟩⟩)
            | (go_at_call 52; (with_reducible refine (HF _ (hbd _ _)).mono ?_); rintro e w3 ⟨rfl, hb3⟩; have HB3 := below_then (hbd _ _) (hbd _ _).size hb3; clear hb3))
          go_roundg (hs.length - (k + 1))
          case measure => omega
          case rel => exact ⟨k + 1, by omega, by go_num, by rw [HS3.out], HB3⟩
        | some pr =>
          obtain ⟨a, s⟩ := pr
          obtain ⟨p, rfl, hp⟩ := followT_in hv hlt hfe
          have HS3 : Hid (mayS hs b (k + 1) = if artB (hs.getD p zHd) = true then S ||| 2 ^ p else S) := by show _ = _; rw [HS2.out, hfe]; rfl
          have HT := fun W (hW : Below w.heap.size w W) => HT p hp W hW
          have HW := fun W => heads_with S p hSl (by omega) W
          rw [hfe] at HF
          simp only [followV] at HF
          obtain ⟨q, hq⟩ : ∃ q, artB (hs.getD p zHd) = q := ⟨_, rfl⟩
          rw [hq] at HS3
          simp only [hq] at HT
          clear HS2 hfe hq
          cases q with
          | true =>
            have HS4 : Hid (mayS hs b (k + 1) = S ||| 2 ^ p) := by show _ = _; rw [HS3.out]; rfl
            go_wp2_with (first
              | (go_at_call 73; (with_reducible refine (HP _).mono ?_); rintro e w2 ⟨rfl, ⟨nd, rfl⟩⟩)
              | (go_at_call 52; (with_reducible refine (HF _ (hbd _ _)).mono ?_); rintro e w3 ⟨rfl, hb3⟩; have HB3 := below_then (hbd _ _) (hbd _ _).size hb3; clear hb3)
              | (go_at_call 63; (with_reducible refine (HT _ HB3).mono ?_); rintro e w4 ⟨rfl, hb4⟩; have HB4 := below_then HB3 HB3.size hb4; clear hb4)
              | (go_at_call 74; (with_reducible refine (HW _).mono ?_); rintro e w5 ⟨rfl, rfl⟩))
            go_roundg (hs.length - (k + 1))
            case measure => omega
            case rel => exact ⟨k + 1, by omega, by go_num, by rw [HS4.out], HB4⟩
          | false =>
            have HS4 : Hid (mayS hs b (k + 1) = S) := by show _ = _; rw [HS3.out]; rfl
            go_wp2_with (first
              | (go_at_call 73; (with_reducible refine (HP _).mono ?_); rintro e w2 ⟨rfl, ⟨nd, rfl⟩⟩)
              | (go_at_call 52; (with_reducible refine (HF _ (hbd _ _)).mono ?_); rintro e w3 ⟨rfl, hb3⟩; have HB3 := below_then (hbd _ _) (hbd _ _).size hb3; clear hb3)
              | (go_at_call 63; (with_reducible refine (HT _ HB3).mono ?_); rintro e w4 ⟨rfl, hb4⟩; have HB4 := below_then HB3 HB3.size hb4; clear hb4))
            go_roundg (hs.length - (k + 1))
            case measure => omega
            case rel => exact ⟨k + 1, by omega, by go_num, by rw [HS4.out], HB4⟩
    · obtain rfl : k = hs.length := by omega
      have hSl := mayS_lt hv b hs.length (Nat.le_refl _)
      obtain ⟨S, hS⟩ : ∃ S, mayS hs b hs.length = S := ⟨_, rfl⟩
      rw [hS] at HM hSl ⊢
      clear hS HF HT hLb
      replace g1 := pw_cell_below hb g1
      obtain ⟨W2, hW2⟩ : ∃ W2, W2 = wr := ⟨_, rfl⟩
      subst hW2
      go_wp2
      go_loopg [11, 52] hs.length (fun gk v5 v wr => ∃ k : Nat, k + gk = hs.length ∧ v = .int .i64 k ∧ Below W2.heap.size W2 wr ∧ wr.ownsRow W2.heap.size 3 1 v5 ((nats k).filter (fun e => S.testBit e.toNat)).length (nums .i64 ((nats k).filter (fun e => S.testBit e.toNat))))
      case atStart => exact ⟨0, by omega, rfl, Below.refl _ _, own_nil _ _ _ _⟩
      case round =>
        obtain ⟨k, hk, rfl, hbq, ho⟩ := hrel
        by_cases hlt : k < hs.length
        · have HH := fun W => heads_has S k hSl (by omega) W
          have hfl := filter_len (fun e => S.testBit e.toNat) k
          obtain ⟨F, hF⟩ : ∃ F, (nats k).filter (fun e => S.testBit e.toNat) = F := ⟨_, rfl⟩
          have HF : Hid ((nats (k + 1)).filter (fun e => S.testBit e.toNat) = F ++ (if S.testBit k = true then [(k : Int)] else [])) := by
            show _ = _
            rw [nats_succ, filter_snoc, hF]; rfl
          rw [hF] at ho hfl
          clear hF
          obtain ⟨bt, hbq'⟩ : ∃ b, S.testBit k = b := ⟨_, rfl⟩
          rw [hbq'] at HF
          simp only [hbq'] at HH
          clear hbq'
          cases bt with
          | true =>
            have HG : Hid ((nats (k + 1)).filter (fun e => S.testBit e.toNat) = F ++ [(k : Int)]) := by show _ = _; rw [HF.out]; rfl
            clear HF
            go_wp2_with (first
              | (go_at_call 75; (with_reducible refine (HH _).mono ?_); rintro e w2 ⟨rfl, rfl⟩)
              | (at_builtin; refine wpList_append_own _ rfl _ _ 22 rfl W2.heap.size 3 i0 (.int .i64 0) 1 8 Try.underlying22 hi hz0 hz1 hz2 rfl (by decide) _ _ _ rfl (ho.alloc _) ⟨wr.heap.size, 0, none⟩ 1 1 [.int .i64 (k : Int)] rfl rfl (cell_one_new _ _ _) (by simp [Value.oneCell']) (by unfold maxLen; omega) (by omega) (by have := hbq.size; simp; omega) ?_; intro v' w3 hown3 hgrow3 _; have HB3 := Below.grown (hbq.alloc hbq.size _) hgrow3 (by have := hbq.size; simp; omega) (fun j hj => (ho.lt j hj).1); have HO := Lib.hid hown3; clear hown3 hgrow3))
            go_roundg (hs.length - (k + 1))
            case measure => omega
            case rel => exact ⟨k + 1, by omega, by go_num, HB3, by rw [HG.out, nums_append, List.length_append]; exact HO.out⟩
          | false =>
            have HG : Hid ((nats (k + 1)).filter (fun e => S.testBit e.toNat) = F) := by show _ = _; rw [HF.out]; exact List.append_nil _
            clear HF
            go_wp2_with (go_at_call 75; (with_reducible refine (HH _).mono ?_); rintro e w2 ⟨rfl, rfl⟩)
            go_roundg (hs.length - (k + 1))
            case measure => omega
            case rel => exact ⟨k + 1, by omega, by go_num, hbq, by rw [HG.out]; exact ho⟩
        · obtain rfl : k = hs.length := by omega
          rw [← HM.out] at ho
          have HR : Hid ((Kd.int .i64).R 3 wr W2.heap.size (fun _ => True) _ R) := Kd.R_of_own ho (fun _ _ => trivial)
          clear ho
          go_wp2
          go_ret
          exact ⟨_, rfl, Kd.R_lower HR.out hb.size, below_then hb hb.size hbq⟩

set_option maxHeartbeats 1000000 in
set_option maxRecDepth 100000 in
theorem trade_May.calls (A0_0 : Option Addr) (c0_0 : Nat) (l0_0 : List (S51)) (A0_1 : Option Addr) (c0_1 : Nat) (l0_1 : List (S39)) (a1 : ByteArray) (r1 : List Int) (r2 : Int) (w : World) (hr0_0 : Kd.C k51 w A0_0 l0_0.length l0_0) (hc0_0 : l0_0.length ≤ c0_0) (hr0_1 : Kd.C k39 w A0_1 l0_1.length l0_1) (hc0_1 : l0_1.length ≤ c0_1) (h : trade_May.f l0_0 l0_1 a1 = some (r1, r2)) :
    Calls Try.prog 19 #[.agg #[.slice A0_0 l0_0.length c0_0, .slice A0_1 l0_1.length c0_1], .string a1] w fun e w' => ∃ v0_ : Value, e = .returned (.tuple #[v0_, .int .i64 r2]) ∧ Kd.R (Kd.int .i64) 3 w' w.heap.size (fun _ => True) v0_ r1 ∧ Below w.heap.size w w' := by
  have hu2 := Try.underlying26
  have hB0 := (Below.refl w.heap.size w).alloc (Nat.le_refl _) (.cells #[.slice A0_0 l0_0.length c0_0, .slice A0_1 l0_1.length c0_1] 26)
  have h := Option.some.inj h
  by_cases hz : checkT l0_0 l0_1 = 0
  · have hv : Valid l0_0 l0_1 := ⟨hz⟩
    have HG := fun W (hW : Below w.heap.size w W) => begin_good A0_0 A0_1 c0_0 c0_1 l0_0 l0_1 W (Kd.C_below hr0_0 hW) (Kd.C_below hr0_1 hW) hc0_0 hc0_1 hv
    rw [if_neg (by omega)] at h
    simp only [Prod.mk.injEq] at h
    obtain ⟨rfl, rfl⟩ := h
    have HP := fun W g (hL : IsList W g l0_0 l0_1) => may_any g l0_0 l0_1 a1 W hL hv
    obtain ⟨R, hR⟩ : ∃ R, mayT l0_1 a1 = R := ⟨_, rfl⟩
    simp only [hR] at HP ⊢
    clear hz hR
    go_enter Try.func19, Try.ntmps19
    go_wp2_with (first
      | (go_at_call 42; (with_reducible refine (HG _ hB0).mono ?_); rintro e w1 ⟨g, rfl, hL1, hb1⟩; obtain ⟨HB1, hT1⟩ := one_box hb1; clear hb1)
      | (go_at_call 53; (with_reducible refine (HP _ _ hL1).mono ?_); rintro e w3 ⟨v, rfl, hR3, hb3⟩))
    go_ret2
    exact ⟨_, rfl, Kd.R_lower hR3 HB1.size, below_then HB1 HB1.size hb3⟩
  · rw [if_pos hz] at h
    simp only [Prod.mk.injEq] at h
    obtain ⟨rfl, rfl⟩ := h
    have HG := fun W (hW : Below w.heap.size w W) => begin_bad A0_0 A0_1 c0_0 c0_1 l0_0 l0_1 W (Kd.C_below hr0_0 hW) (Kd.C_below hr0_1 hW) hc0_0 hc0_1 hz
    obtain ⟨z, hze⟩ : ∃ z, checkT l0_0 l0_1 = z := ⟨_, rfl⟩
    simp only [hze] at HG hz ⊢
    have hz1 : (z != 0) = true := bne_iff_ne.mpr hz
    clear hz hze
    go_enter Try.func19, Try.ntmps19
    go_wp2_with (go_at_call 42; (with_reducible refine (HG _ hB0).mono ?_); rintro e w1 ⟨rfl, hb1⟩; obtain ⟨HB1, hT1⟩ := one_box hb1; clear hb1)
    go_ret2
    exact ⟨_, rfl, Kd.R_nil _ _ _ _ _, HB1⟩
end Go.Proofs.Ytfbimhnlcmdcpaa.Pa
/- The contracts of short and Short. -/
namespace Go.Proofs.Ytfbimhnlcmdcpaa.Pa
open Go.RowKit Go.Proofs.YtfbimhnlcmdcpaaW.PrintWords Go.Proofs.YtfbimhnlcmdcpaaW.PrintLast Go.Proofs.YtfbimhnlcmdcpaaW.PrintMore
set_option linter.unusedVariables false
set_option linter.unusedSimpArgs false

/-- the shortest beginning, of i bytes or more, that means just one trade -/
def shortGo (hs : List Hd) (s : ByteArray) : Nat → Nat → Option ByteArray
  | 0, _ => if (mayT hs s).length = 1 then some s else none
  | m + 1, i => if (mayT hs (s.extract 0 i)).length = 1 then some (s.extract 0 i) else shortGo hs s m (i + 1)
def shortT (hs : List Hd) (h : Int) : Option ByteArray := shortGo hs (hs.getD h.toNat zHd).f0 (hs.getD h.toNat zHd).f0.size 0
def shortR (r : Option ByteArray) : ByteArray × Int := match r with
  | none => (.empty, 11)
  | some s => (s, 0)
def trade_Short.f (cs : List Cl) (hs : List Hd) (h : Int) : Option (ByteArray × Int) :=
  some (if askT cs hs h ≠ 0 then (.empty, askT cs hs h) else shortR (shortT hs h))
theorem shortGo_zero (hs : List Hd) (s : ByteArray) (i : Nat) : shortGo hs s 0 i = if (mayT hs s).length = 1 then some s else none := rfl
theorem shortGo_succ (hs : List Hd) (s : ByteArray) (m i : Nat) : shortGo hs s (m + 1) i = if (mayT hs (s.extract 0 i)).length = 1 then some (s.extract 0 i) else shortGo hs s m (i + 1) := rfl
def shortV (s : ByteArray) (r : Option ByteArray) : Value := match r with
  | none => .tuple #[.string s, .bool false]
  | some x => .tuple #[.string x, .bool true]

theorem word_ascii {s : ByteArray} (h : wordOk s = true) (pos : Nat) (hp : pos < s.size) : Utf8.decode s pos = (((s[pos]'hp).toNat), 1) := by
  have ha : (s[pos]'hp).toNat < 128 := by
    unfold wordOk at h
    simp only [Bool.and_eq_true, List.all_eq_true] at h
    have := h.2 (s[pos]'hp) (by
      have hd := drop_data s pos hp
      have : s[pos]'hp ∈ s.data.toList.drop pos := by rw [hd]; simp
      exact List.mem_of_mem_drop this)
    unfold lowB at this
    simp only [Bool.and_eq_true, decide_eq_true_eq] at this
    omega
  rw [decode_ascii s pos hp ha]

set_option maxHeartbeats 4000000 in
set_option maxRecDepth 100000 in
theorem short_any (g : Nat) (cs : List Cl) (hs : List Hd) (h : Nat) (w : World) (hL : IsList w g cs hs) (hv : Valid cs hs) (hh : h < hs.length) :
    Calls Try.prog 62 #[.pointer (some ⟨g, 0, none⟩), .int .i64 h] w fun e w' => e = .returned (shortV (hs.getD h zHd).f0 (shortT hs h)) ∧ Below w.heap.size w w' := by
  have hu2 := Try.underlying26
  have hu3 := Try.underlying81
  have hu4 := Try.underlying39
  have hgd := hv.head h hh
  have HM := fun b W (hW : Below w.heap.size w W) => may_any g cs hs b W (hL.below hW) hv
  have HR : Hid (shortT hs h = shortGo hs (hs.getD h zHd).f0 (hs.getD h zHd).f0.size 0) := rfl
  obtain ⟨R, hR⟩ : ∃ R, shortT hs h = R := ⟨_, rfl⟩
  rw [hR] at HR ⊢
  obtain ⟨A0, c0, A1, c1, A2, c2, A3, c3, hg, l0, l1, r0, r1, r2, r3⟩ := hL.ok
  obtain ⟨g0, g1, g2, g3⟩ := cells4 hg
  obtain ⟨ad, A3', c3', e, h0, h1, h2, h3, h4, h5⟩ := hdAt r1 h hh
  cases e
  obtain ⟨x, hx⟩ : ∃ x, hs.getD h zHd = x := ⟨_, rfl⟩
  rw [hx] at h0 h1 h2 h3 h4 h5 hgd HR ⊢
  have hw := hgd.word
  obtain ⟨s, hse⟩ : ∃ s, x.f0 = s := ⟨_, rfl⟩
  rw [hse] at h0 hw HR ⊢
  have HD := fun pos hp => Lib.hid (word_ascii hw pos hp)
  have hsz : s.size ≤ 12 := by
    unfold wordOk at hw
    simp only [Bool.and_eq_true, decide_eq_true_eq] at hw
    omega
  clear hL hR hgd hx hse hw
  go_enter Try.func62, Try.ntmps62
  go_wp2
  go_loopg [5] s.size (fun gk v wr => ∃ i : Nat, v = .bool false ∧ i + gk = s.size ∧ wr.heap[w.heap.size]? = some (.stringIter s i) ∧ Below w.heap.size w wr ∧ Hid (shortGo hs s gk i = R))
  case atStart => exact ⟨0, rfl, by omega, World.iter_heap w s 0, (Below.refl _ _).alloc (Nat.le_refl _) _, by show _ = _; exact HR.out.symm⟩
  case round =>
    obtain ⟨i, rfl, hi, hit, hbw, HK⟩ := hrel
    by_cases hp : i < s.size
    · obtain ⟨m, rfl⟩ : ∃ m, gk = m + 1 := ⟨gk - 1, by omega⟩
      rw [shortGo_succ] at HK
      have hnx : ∀ ty, (Instr.next (.pointer (some ⟨w.heap.size, 0, none⟩)) true ty).run Try.prog wr = _ := fun ty => Lib.run_next_any_at wr w.heap.size s i ty hit hp
      have hde := (HD i hp).out
      rw [hde] at hnx
      have hit2 := Lib.iterAt_heap wr w.heap.size s i (i + 1) hit
      have hbw2 := Lib.below_iterAt hbw (k := w.heap.size) (Nat.le_refl _) s (i + 1)
      obtain ⟨W1, hW1⟩ : ∃ W1, W1 = wr.iterAt w.heap.size s (i + 1) := ⟨_, rfl⟩
      rw [← hW1] at hnx hit2 hbw2
      have HM := HM (s.extract 0 i) W1 hbw2
      have hile : (i : Int) ≤ s.size := by omega
      have hi0 : (0 : Int) ≤ i := by omega
      clear hW1 hit hbw hde
      obtain ⟨T, hT⟩ : ∃ T, mayT hs (s.extract 0 i) = T := ⟨_, rfl⟩
      rw [hT] at HM HK
      clear hT
      by_cases h1 : T.length = 1
      · rw [if_pos h1] at HK
        have h1a : ((T.length : Int) == 1) = true := beq_iff_eq.mpr (by omega)
        have HV : Hid (shortV s R = .tuple #[.string (s.extract 0 i), .bool true]) := by show _ = _; rw [← HK.out]; rfl
        clear h1 HK
        go_wp2_with (go_at_call 53; (with_reducible refine HM.mono ?_); rintro e w3 ⟨v, rfl, hR3, hb3⟩; obtain ⟨Ar, cr, rfl, -, -⟩ := Kd.R_reads hR3; have HB3 := below_then hbw2 hbw2.size hb3; clear hR3)
        go_ret2
        exact ⟨by rw [HV.out]; rfl, HB3⟩
      · rw [if_neg h1] at HK
        have h1a : ((T.length : Int) == 1) = false := beq_eq_false_iff_ne.mpr (by omega)
        clear h1
        go_wp2_with (go_at_call 53; (with_reducible refine HM.mono ?_); rintro e w3 ⟨v, rfl, hR3, hb3⟩; obtain ⟨Ar, cr, rfl, -, -⟩ := Kd.R_reads hR3; have HB3 := below_then hbw2 hbw2.size hb3; have hit3 := blk_below hit2 hb3; clear hR3)
        go_roundg m
        case measure => omega
        case rel => exact ⟨i + 1, rfl, by omega, hit3, HB3, HK⟩
    · obtain rfl : i = s.size := by omega
      obtain rfl : gk = 0 := by omega
      rw [shortGo_zero] at HK
      have hnx : ∀ ty, (Instr.next (.pointer (some ⟨w.heap.size, 0, none⟩)) true ty).run Try.prog wr = _ := fun ty => Lib.run_next_end_at wr w.heap.size s s.size ty hit hp
      have HM := HM s wr hbw
      obtain ⟨T, hT⟩ : ∃ T, mayT hs s = T := ⟨_, rfl⟩
      rw [hT] at HM HK
      have HV : Hid (shortV s R = .tuple #[.string s, .bool ((T.length : Int) == 1)]) := by
        show _ = _
        rw [← HK.out]
        by_cases h1 : T.length = 1
        · rw [if_pos h1, h1]; rfl
        · have h1a : ((T.length : Int) == 1) = false := beq_eq_false_iff_ne.mpr (by omega)
          rw [if_neg h1, h1a]; rfl
      clear hT HK
      go_wp2_with (go_at_call 53; (with_reducible refine HM.mono ?_); rintro e w3 ⟨v, rfl, hR3, hb3⟩; obtain ⟨Ar, cr, rfl, -, -⟩ := Kd.R_reads hR3; have HB3 := below_then hbw hbw.size hb3; clear hR3)
      go_ret2
      exact ⟨by rw [HV.out]; rfl, HB3⟩

set_option maxHeartbeats 1000000 in
set_option maxRecDepth 100000 in
theorem trade_Short.calls (A0_0 : Option Addr) (c0_0 : Nat) (l0_0 : List (S51)) (A0_1 : Option Addr) (c0_1 : Nat) (l0_1 : List (S39)) (a1 : Int) (r1 : ByteArray) (r2 : Int) (w : World) (hr0_0 : Kd.C k51 w A0_0 l0_0.length l0_0) (hc0_0 : l0_0.length ≤ c0_0) (hr0_1 : Kd.C k39 w A0_1 l0_1.length l0_1) (hc0_1 : l0_1.length ≤ c0_1) (h : trade_Short.f l0_0 l0_1 a1 = some (r1, r2)) :
    Calls Try.prog 27 #[.agg #[.slice A0_0 l0_0.length c0_0, .slice A0_1 l0_1.length c0_1], .int .i64 a1] w fun e w' => e = .returned (.tuple #[.string r1, .int .i64 r2]) ∧ Below w.heap.size w w' := by
  have hu2 := Try.underlying26
  have hB0 := (Below.refl w.heap.size w).alloc (Nat.le_refl _) (.cells #[.slice A0_0 l0_0.length c0_0, .slice A0_1 l0_1.length c0_1] 26)
  have hB1 := hB0.alloc hB0.size (.cells #[.int .i64 a1] 3)
  have hcq := second_cell w (.cells #[.slice A0_0 l0_0.length c0_0, .slice A0_1 l0_1.length c0_1] 26) (.int .i64 a1)
  have h := Option.some.inj h
  by_cases hz : askT l0_0 l0_1 a1 = 0
  · obtain ⟨hv, n, rfl, hn⟩ := askT_zero hz
    have HG := fun W q (hW : Below w.heap.size w W) hq => ask_good A0_0 A0_1 c0_0 c0_1 l0_0 l0_1 q n W (Kd.C_below hr0_0 hW) (Kd.C_below hr0_1 hW) hc0_0 hc0_1 hq hv hn
    have HF := fun W g (hL : IsList W g l0_0 l0_1) => short_any g l0_0 l0_1 n W hL hv hn
    rw [if_neg (by omega)] at h
    obtain ⟨R, hRe⟩ : ∃ R, shortT l0_1 n = R := ⟨_, rfl⟩
    rw [hRe] at h
    simp only [hRe] at HF
    clear hz hRe
    match R, h with
    | none, hR =>
      simp only [shortR, Prod.mk.injEq] at hR
      obtain ⟨rfl, rfl⟩ := hR
      simp only [shortV] at HF
      go_enter Try.func27, Try.ntmps27
      go_wp2_with (first
        | (go_at_call 51; (with_reducible refine (HG _ _ hB1 hcq).mono ?_); rintro e w1 ⟨g, rfl, hL1, hb1⟩; obtain HB1 := below_then hB1 hB1.size hb1; clear hb1)
        | (go_at_call 62; (with_reducible refine (HF _ _ hL1).mono ?_); rintro e w3 ⟨rfl, hb3⟩))
      go_ret2
      exact ⟨rfl, below_then HB1 HB1.size hb3⟩
    | some s, hR =>
      simp only [shortR, Prod.mk.injEq] at hR
      obtain ⟨rfl, rfl⟩ := hR
      simp only [shortV] at HF
      go_enter Try.func27, Try.ntmps27
      go_wp2_with (first
        | (go_at_call 51; (with_reducible refine (HG _ _ hB1 hcq).mono ?_); rintro e w1 ⟨g, rfl, hL1, hb1⟩; obtain HB1 := below_then hB1 hB1.size hb1; clear hb1)
        | (go_at_call 62; (with_reducible refine (HF _ _ hL1).mono ?_); rintro e w3 ⟨rfl, hb3⟩))
      go_ret2
      exact ⟨rfl, below_then HB1 HB1.size hb3⟩
  · have HG := fun W q (hW : Below w.heap.size w W) hq => ask_bad A0_0 A0_1 c0_0 c0_1 l0_0 l0_1 q a1 W (Kd.C_below hr0_0 hW) (Kd.C_below hr0_1 hW) hc0_0 hc0_1 hq hz
    rw [if_pos hz] at h
    obtain ⟨z, hze⟩ : ∃ z, askT l0_0 l0_1 a1 = z := ⟨_, rfl⟩
    rw [hze] at h hz
    simp only [Prod.mk.injEq] at h
    obtain ⟨rfl, rfl⟩ := h
    simp only [hze] at HG
    have hz1 : (z != 0) = true := bne_iff_ne.mpr hz
    clear hz hze
    go_enter Try.func27, Try.ntmps27
    go_wp2_with (go_at_call 51; (with_reducible refine (HG _ _ hB1 hcq).mono ?_); rintro e w1 ⟨rfl, hb1⟩; obtain HB1 := below_then hB1 hB1.size hb1; clear hb1)
    go_ret2
    exact ⟨rfl, HB1⟩
end Go.Proofs.Ytfbimhnlcmdcpaa.Pa
/- The contracts of next, trades and nets. -/
namespace Go.Proofs.Ytfbimhnlcmdcpaa.Pa
open Go.RowKit Go.Proofs.YtfbimhnlcmdcpaaW.PrintWords Go.Proofs.YtfbimhnlcmdcpaaW.PrintLast Go.Proofs.YtfbimhnlcmdcpaaW.PrintMore
set_option linter.unusedVariables false
set_option linter.unusedSimpArgs false

/-- to which headings one can go in one step -/
def nextT (x : Hd) : List Int := if x.f2 ≠ -1 then [x.f2] else x.f3

theorem next_art (cl : Int) (A : Option Addr) (n c : Nat) (w : World) :
    Calls Try.prog 140 #[.agg #[.int .i64 cl, .slice A n c]] w fun e w' => e = .returned (.slice A n c) ∧ Below w.heap.size w w' := by
  have hu5 := Try.underlying103
  have hB0 := (Below.refl w.heap.size w).alloc (Nat.le_refl _) (.cells #[.int .i64 cl, .slice A n c] 103)
  go_enter Try.func140, Try.ntmps140
  go_wp2
  go_ret
  exact ⟨rfl, hB0⟩
theorem next_idx (A : Option Addr) (n c : Nat) (w : World) :
    Calls Try.prog 142 #[.agg #[.slice A n c]] w fun e w' => e = .returned (.slice A n c) ∧ Below w.heap.size w w' := by
  have hu5 := Try.underlying115
  have hB0 := (Below.refl w.heap.size w).alloc (Nat.le_refl _) (.cells #[.slice A n c] 115)
  go_enter Try.func142, Try.ntmps142
  go_wp2
  go_ret
  exact ⟨rfl, hB0⟩
theorem C_int1 {w : World} {g : Nat} {x : Int} (h : w.cell? ⟨g, 0, none⟩ = some (.int .i64 x)) : (Kd.int .i64).C w (some ⟨g, 0, none⟩) 1 [x] := by
  refine ⟨rfl, by decide, fun _ => ⟨_, rfl, fun j p hj => ?_⟩⟩
  have hj0 : j = 0 := by
    have := (List.getElem?_eq_some_iff.1 hj).1
    simp at this
    exact this
  subst hj0
  obtain rfl : x = p := by simpa using hj
  refine ⟨[.int .i64 x], rfl, rfl, fun i u hu => ?_⟩
  have hi0 : i = 0 := by
    have := (List.getElem?_eq_some_iff.1 hu).1
    simp at this
    exact this
  subst hi0
  obtain rfl : Value.int .i64 x = u := by simpa using hu
  exact h
theorem next_ptr (s : Int) (w : World) :
    Calls Try.prog 141 #[.agg #[.int .i64 s]] w fun e w' => ∃ g, e = .returned (.slice (some ⟨g, 0, none⟩) 1 1) ∧ w.heap.size ≤ g ∧ g < w'.heap.size ∧ w'.cell? ⟨g, 0, none⟩ = some (.int .i64 s) ∧ Below w.heap.size w w' := by
  have hu5 := Try.underlying113
  have hB0 := (Below.refl w.heap.size w).alloc (Nat.le_refl _) (.cells #[.int .i64 s] 113)
  have hB1 := hB0.alloc hB0.size (.cells #[.int .i64 s] 3)
  have hcq := second_cell w (.cells #[.int .i64 s] 113) (.int .i64 s)
  go_enter Try.func141, Try.ntmps141
  go_wp2
  go_ret
  exact ⟨_, rfl, by omega, by simp, hcq, hB1⟩

theorem meth_ptr (n : Nat) (v : Value) (W : World) : Sem.run Try.prog (method (n + 1) 113 v "wayzgoose/trade.next") W = .ok (141, v) W := by kernel_rfl
theorem meth_art (n : Nat) (v : Value) (W : World) : Sem.run Try.prog (method (n + 1) 103 v "wayzgoose/trade.next") W = .ok (140, v) W := by kernel_rfl
theorem meth_idx (n : Nat) (v : Value) (W : World) : Sem.run Try.prog (method (n + 1) 115 v "wayzgoose/trade.next") W = .ok (142, v) W := by kernel_rfl

/-- a method next, in one word: what is read of its result stays so while block B alone is written -/
def NextOk (w : World) (B : Nat) (L : List Int) (f : FuncId) (pv : Value) : Prop :=
  ∀ W : World, Below w.heap.size w W → B < W.heap.size → Calls Try.prog f #[pv] W fun e w' => ∃ A c, e = .returned (.slice A L.length c) ∧ Below W.heap.size W w' ∧ ∀ W' : World, w'.grownBy W' (some B) → (Kd.int .i64).C W' A L.length L
theorem next_any {w : World} {x : Hd} {v : Value} (h : KindVal w x v) (B : Nat) (hB : w.heap.size ≤ B) :
    (x.f2 ≠ -1 ∧ ∃ pv, v = .iface 113 pv ∧ NextOk w B (nextT x) 141 pv) ∨ (x.f2 = -1 ∧ x.f1 ≠ -1 ∧ ∃ pv, v = .iface 103 pv ∧ NextOk w B (nextT x) 140 pv) ∨ (x.f2 = -1 ∧ x.f1 = -1 ∧ ∃ pv, v = .iface 115 pv ∧ NextOk w B (nextT x) 142 pv) := by
  have keep : ∀ {W w' W' : World}, Below w.heap.size w W → Below W.heap.size W w' → w'.grownBy W' (some B) → Below w.heap.size w W' := fun hW hw hg =>
    (below_then hW hW.size hw).grown hg (below_then hW hW.size hw).size (fun j hj => by cases hj; exact hB)
  rcases h with ⟨k1, rfl⟩ | ⟨k1, k2, B3, d3, rfl, k3, k4⟩ | ⟨k1, k2, B3, d3, rfl, k3, k4⟩
  · refine .inl ⟨k1, _, rfl, fun W hW hBW => (next_ptr x.f2 W).mono ?_⟩
    rintro e w' ⟨g, rfl, hg0, hg1, hgc, hb⟩
    have hL : nextT x = [x.f2] := if_pos k1
    rw [hL]
    refine ⟨_, _, rfl, hb, fun W' hg => C_int1 ((hg.cell_far ⟨g, 0, none⟩ hg1 (fun e => ?_)).trans hgc)⟩
    have e2 : g = B := by simpa using e
    omega
  · refine .inr (.inl ⟨k1, k2, _, rfl, fun W hW hBW => (next_art x.f1 B3 x.f3.length d3 W).mono ?_⟩)
    rintro e w' ⟨rfl, hb⟩
    have hL : nextT x = x.f3 := if_neg (by omega)
    rw [hL]
    exact ⟨_, _, rfl, hb, fun W' hg => Kd.C_below k4 (keep hW hb hg)⟩
  · refine .inr (.inr ⟨k1, k2, _, rfl, fun W hW hBW => (next_idx B3 x.f3.length d3 W).mono ?_⟩)
    rintro e w' ⟨rfl, hb⟩
    have hL : nextT x = x.f3 := if_neg (by omega)
    rw [hL]
    exact ⟨_, _, rfl, hb, fun W' hg => Kd.C_below k4 (keep hW hb hg)⟩
theorem nextT_in {cs : List Cl} {hs : List Hd} (hv : Valid cs hs) (k : Nat) (hk : k < hs.length) (j : Nat) (hj : j < (nextT (hs.getD k zHd)).length) : ∃ p : Nat, (nextT (hs.getD k zHd)).getD j 0 = p ∧ p < hs.length := by
  have hg := hv.head k hk
  obtain ⟨x, hx⟩ : ∃ x, hs.getD k zHd = x := ⟨_, rfl⟩
  rw [hx] at hg hj ⊢
  unfold nextT at hj ⊢
  by_cases h : x.f2 ≠ -1
  · rw [if_pos h] at hj ⊢
    have h0 : j = 0 := by simpa using hj
    subst h0
    have := hg.see
    exact ⟨x.f2.toNat, by simp; omega, by omega⟩
  · rw [if_neg h] at hj ⊢
    have := (hg.also j hj).1
    exact ⟨(x.f3.getD j 0).toNat, by omega, by omega⟩

/-! ### trades -/
def tradesS (hs : List Hd) : Nat → Nat
  | 0 => 0
  | k + 1 => if artB (hs.getD k zHd) = true then tradesS hs k ||| 2 ^ k else tradesS hs k
theorem tradesS_lt (hs : List Hd) : ∀ k, k ≤ 6 → tradesS hs k < 256
  | 0, _ => by show 0 < 256; omega
  | k + 1, hk => by
    have ih := tradesS_lt hs k (by omega)
    show (if _ then _ else _) < 256
    split
    · exact or_lt _ _ ih (by omega)
    · exact ih
set_option maxHeartbeats 1000000 in
set_option maxRecDepth 100000 in
theorem trades_any (g : Nat) (cs : List Cl) (hs : List Hd) (w : World) (hL : IsList w g cs hs) (hv : Valid cs hs) :
    Calls Try.prog 86 #[.pointer (some ⟨g, 0, none⟩)] w fun e w' => e = .returned (.int .u8 (tradesS hs hs.length)) ∧ Below w.heap.size w w' := by
  obtain ⟨m0, m1, -, -⟩ := hv.split
  have hu3 := Try.underlying81
  obtain ⟨A0, c0, A1, c1, A2, c2, A3, c3, hg, l0, l1, r0, r1, r2, r3⟩ := hL.ok
  obtain ⟨g0, g1, g2, g3⟩ := cells4 hg
  have HT := fun (n : Nat) (hn : n < hs.length) W (hW : Below w.heap.size w W) => isTrade_any g cs hs n W (hL.below hW) hn
  clear hL
  go_enter Try.func86, Try.ntmps86
  go_wp2
  go_loopg [3, 10] hs.length (fun gk v3 v wr => ∃ k : Nat, k + gk = hs.length ∧ v = .int .i64 k ∧ v3 = .int .u8 (tradesS hs k : Int) ∧ Below w.heap.size w wr)
  case atStart => exact ⟨0, by omega, rfl, rfl, Below.refl _ _⟩
  case round =>
    obtain ⟨k, hk, rfl, rfl, hb⟩ := hrel
    by_cases hlt : k < hs.length
    · have hSl := tradesS_lt hs k (by omega)
      have HS : Hid (tradesS hs (k + 1) = if artB (hs.getD k zHd) = true then tradesS hs k ||| 2 ^ k else tradesS hs k) := rfl
      have HT := HT k hlt
      have HW := fun W => heads_with (tradesS hs k) k hSl (by omega) W
      obtain ⟨S, hS⟩ : ∃ S, tradesS hs k = S := ⟨_, rfl⟩
      obtain ⟨q, hq⟩ : ∃ q, artB (hs.getD k zHd) = q := ⟨_, rfl⟩
      rw [hS, hq] at HS
      simp only [hS] at HW
      simp only [hq] at HT
      rw [hS]
      clear hS hq
      cases q with
      | true =>
        have HS4 : Hid (tradesS hs (k + 1) = S ||| 2 ^ k) := by show _ = _; rw [HS.out]; rfl
        go_wp2_with (first
          | (go_at_call 63; (with_reducible refine (HT _ hb).mono ?_); rintro e w4 ⟨rfl, hb4⟩; have HB4 := below_then hb hb.size hb4; clear hb4)
          | (go_at_call 74; (with_reducible refine (HW _).mono ?_); rintro e w5 ⟨rfl, rfl⟩))
        go_roundg (hs.length - (k + 1))
        case measure => omega
        case rel => exact ⟨k + 1, by omega, by go_num, by rw [HS4.out], HB4⟩
      | false =>
        have HS4 : Hid (tradesS hs (k + 1) = S) := by show _ = _; rw [HS.out]; rfl
        go_wp2_with (go_at_call 63; (with_reducible refine (HT _ hb).mono ?_); rintro e w4 ⟨rfl, hb4⟩; have HB4 := below_then hb hb.size hb4; clear hb4)
        go_roundg (hs.length - (k + 1))
        case measure => omega
        case rel => exact ⟨k + 1, by omega, by go_num, by rw [HS4.out], HB4⟩
    · obtain rfl : k = hs.length := by omega
      go_wp2
      go_ret
      exact ⟨rfl, hb⟩

/-! ### nets -/
def addAll (s : Nat) (l : List Int) : Nat := l.foldl (fun s n => s ||| 2 ^ n.toNat) s
/-- the nets of the first k headings, and of the first j references of heading k -/
def stN (hs : List Hd) (k j : Nat) (i : Nat) : Nat := if i < k then addAll 0 (nextT (hs.getD i zHd)) else if i = k then addAll 0 ((nextT (hs.getD k zHd)).take j) else 0
def upd (st : Nat → Nat) (h v : Nat) (i : Nat) : Nat := if i = h then v else st i
def netCells (st : Nat → Nat) : Array Value := #[.int .u8 (st 0), .int .u8 (st 1), .int .u8 (st 2), .int .u8 (st 3), .int .u8 (st 4), .int .u8 (st 5)]
theorem addAll_lt (l : List Int) (h : ∀ n, n ∈ l → n < 8) : ∀ s, s < 256 → addAll s l < 256 := by
  induction l with
  | nil => exact fun s hs => hs
  | cons a l ih =>
    intro s hs
    show addAll (s ||| 2 ^ a.toNat) l < 256
    refine ih (fun n hn => h n (List.mem_cons_of_mem _ hn)) _ (or_lt _ _ hs ?_)
    have := h a List.mem_cons_self
    omega
theorem six {P : Nat → Prop} (h0 : P 0) (h1 : P 1) (h2 : P 2) (h3 : P 3) (h4 : P 4) (h5 : P 5) : ∀ h, h < 6 → P h
  | 0, _ => h0 | 1, _ => h1 | 2, _ => h2 | 3, _ => h3 | 4, _ => h4 | 5, _ => h5 | n + 6, h => by omega
theorem netCells_get {w : World} {b : Nat} {st : Nat → Nat} {t : TypeId} (hb : w.heap[b]? = some (.cells (netCells st) t (0, 0))) : ∀ h, h < 6 → w.cell? ⟨b, h, none⟩ = some (.int .u8 (st h)) := by
  apply six <;> (simp [World.cell?, hb, netCells])
theorem netCells_set {w : World} {b : Nat} {st : Nat → Nat} {t : TypeId} (hb : w.heap[b]? = some (.cells (netCells st) t (0, 0))) (v : Nat) : ∀ h, h < 6 → (w.setCell ⟨b, h, none⟩ (.int .u8 v)).heap[b]? = some (.cells (netCells (upd st h v)) t (0, 0)) := by
  apply six <;> (simp [World.setCell, Array.getElem?_modify, hb, netCells, upd])

end Go.Proofs.Ytfbimhnlcmdcpaa.Pa
namespace Go.Proofs.Ytfbimhnlcmdcpaa.Pa
open Go.RowKit Go.Proofs.YtfbimhnlcmdcpaaW.PrintWords Go.Proofs.YtfbimhnlcmdcpaaW.PrintLast Go.Proofs.YtfbimhnlcmdcpaaW.PrintMore
attribute [local go_sem] max2_int min2_int max_two min_two max_three min_three max_four min_four   -- for this text's walks alone
set_option linter.unusedVariables false
set_option linter.unusedSimpArgs false


/-! ### bits_Mul32: function 120 -/
def bits_Mul32.f (a0 : Int) (a1 : Int) : Option (Int × Int) := some (((IntKind.u64.wrap ((IntKind.u64.wrap (a0)) * (IntKind.u64.wrap (a1)))) / 4294967296) % 4294967296, (IntKind.u64.wrap ((IntKind.u64.wrap (a0)) * (IntKind.u64.wrap (a1)))) % 4294967296)
set_option maxHeartbeats 8000000 in
set_option maxRecDepth 100000 in
theorem bits_Mul32.calls (a0 : Int) (a1 : Int) (r1 : Int) (r2 : Int) (w : World) (h : bits_Mul32.f a0 a1 = some (r1, r2)) :
    Calls Try.prog 120 #[.int .u32 a0, .int .u32 a1] w fun e w' => e = .returned (.tuple #[.int .u32 r1, .int .u32 r2]) ∧ Drawn0 w w' := by
  have H : (some (((IntKind.u64.wrap ((IntKind.u64.wrap (a0)) * (IntKind.u64.wrap (a1)))) / 4294967296) % 4294967296, (IntKind.u64.wrap ((IntKind.u64.wrap (a0)) * (IntKind.u64.wrap (a1)))) % 4294967296)) = some (r1, r2) := h
  clear h
  simp only [Option.some.injEq, Prod.mk.injEq] at H
  obtain ⟨rfl, rfl⟩ := H
  go_enter Try.func120, Try.ntmps120
  go_wp2
  go_ret2
  exact ⟨by first | rfl | (simp; done) | (simp [*]; done), by repeat (first | exact Drawn0.refl _ | apply Drawn0.step)⟩

/-! ### bits_Mul64: function 121 -/
def bits_Mul64.f (a0 : Int) (a1 : Int) : Option (Int × Int) := some (IntKind.u64.wrap ((IntKind.u64.wrap ((IntKind.u64.wrap ((a0 / 4294967296) * (a1 / 4294967296))) + ((IntKind.u64.wrap ((IntKind.u64.wrap ((a0 / 4294967296) * (Go.bits .and .u64 a1 4294967295))) + ((IntKind.u64.wrap ((Go.bits .and .u64 a0 4294967295) * (Go.bits .and .u64 a1 4294967295))) / 4294967296))) / 4294967296))) + ((IntKind.u64.wrap ((Go.bits .and .u64 (IntKind.u64.wrap ((IntKind.u64.wrap ((a0 / 4294967296) * (Go.bits .and .u64 a1 4294967295))) + ((IntKind.u64.wrap ((Go.bits .and .u64 a0 4294967295) * (Go.bits .and .u64 a1 4294967295))) / 4294967296))) 4294967295) + (IntKind.u64.wrap ((Go.bits .and .u64 a0 4294967295) * (a1 / 4294967296))))) / 4294967296)), IntKind.u64.wrap (a0 * a1))
set_option maxHeartbeats 8000000 in
set_option maxRecDepth 100000 in
theorem bits_Mul64.calls (a0 : Int) (a1 : Int) (r1 : Int) (r2 : Int) (w : World) (h : bits_Mul64.f a0 a1 = some (r1, r2)) :
    Calls Try.prog 121 #[.int .u64 a0, .int .u64 a1] w fun e w' => e = .returned (.tuple #[.int .u64 r1, .int .u64 r2]) ∧ Drawn0 w w' := by
  have H : (some (IntKind.u64.wrap ((IntKind.u64.wrap ((IntKind.u64.wrap ((a0 / 4294967296) * (a1 / 4294967296))) + ((IntKind.u64.wrap ((IntKind.u64.wrap ((a0 / 4294967296) * (Go.bits .and .u64 a1 4294967295))) + ((IntKind.u64.wrap ((Go.bits .and .u64 a0 4294967295) * (Go.bits .and .u64 a1 4294967295))) / 4294967296))) / 4294967296))) + ((IntKind.u64.wrap ((Go.bits .and .u64 (IntKind.u64.wrap ((IntKind.u64.wrap ((a0 / 4294967296) * (Go.bits .and .u64 a1 4294967295))) + ((IntKind.u64.wrap ((Go.bits .and .u64 a0 4294967295) * (Go.bits .and .u64 a1 4294967295))) / 4294967296))) 4294967295) + (IntKind.u64.wrap ((Go.bits .and .u64 a0 4294967295) * (a1 / 4294967296))))) / 4294967296)), IntKind.u64.wrap (a0 * a1))) = some (r1, r2) := h
  clear h
  simp only [Option.some.injEq, Prod.mk.injEq] at H
  obtain ⟨rfl, rfl⟩ := H
  go_enter Try.func121, Try.ntmps121
  go_wp2
  go_ret2
  exact ⟨by first | rfl | (simp; done) | (simp [*]; done), by repeat (first | exact Drawn0.refl _ | apply Drawn0.step)⟩

/-! ### bits_Mul: function 110 -/
def bits_Mul.f (a0 : Int) (a1 : Int) : Option (Int × Int) := (bits_Mul64.f a0 a1).bind fun bt687 => (some (bt687.1, bt687.2))
set_option maxHeartbeats 8000000 in
set_option maxRecDepth 100000 in
theorem bits_Mul.calls (a0 : Int) (a1 : Int) (r1 : Int) (r2 : Int) (w : World) (h : bits_Mul.f a0 a1 = some (r1, r2)) :
    Calls Try.prog 110 #[.int .u64 a0, .int .u64 a1] w fun e w' => e = .returned (.tuple #[.int .u64 r1, .int .u64 r2]) ∧ Drawn0 w w' := by
  have H : ((bits_Mul64.f a0 a1).bind fun bt687 => (some (bt687.1, bt687.2))) = some (r1, r2) := h
  clear h
  replace H := Option.bind_eq_some_iff.mp H
  obtain ⟨⟨t687, t688⟩, A30, H⟩ := H
  replace H : (some (t687, t688)) = some (r1, r2) := H
  have A3 := Aside0.mk A30
  clear A30
  simp only [Option.some.injEq, Prod.mk.injEq] at H
  obtain ⟨rfl, rfl⟩ := H
  go_enter Try.func110, Try.ntmps110
  go_wp2_with (first | ((with_reducible refine gate_callee (f := 121) rfl ?_); refine goesL_ (some 25) rfl rfl Try.func121 (by kernel_rfl) rfl #[.int .u64 a0, .int .u64 a1] rfl (by (try simp only [List.map_toArray, List.map_cons, List.map_nil]); first | done | rfl | (simp only [List.length_drop, List.length_take]; rfl)) ?_; (with_reducible refine (bits_Mul64.calls a0 a1 t687 t688 _ A3.out).mono ?_); rintro e w' ⟨rfl, ⟨nd, rfl⟩⟩; refine ⟨_, rfl, ?_⟩))
  go_ret2
  exact ⟨by first | rfl | (simp; done) | (simp [*]; done), by repeat (first | exact Drawn0.refl _ | apply Drawn0.step)⟩

-- NOT PRINTED: function 85 (slices_Repeat_int_int)

-- NOT PRINTED: function 68 (trade_list_steps)

end Go.Proofs.Ytfbimhnlcmdcpaa.Pa
/- Regions that draw their order: loads are taken first under a condition S on the world, shown anew behind each operation but those of a list M, which wait for all that is taken first. -/
namespace Go.Proofs.Ytfbimhnlcmdcpaa.Pa
open Go
section
variable {P : Program} {ops : Array Oper} {Q : Exit → Act → World → Prop} {md : Region.Mode} {S S' : World → Prop} {M : List Nat}

def wpAnyM (P : Program) (md : Region.Mode) (ops : Array Oper) (Q : Exit → Act → World → Prop) (S : World → Prop) (M : List Nat) : Nat → Array Bool → Act → World → Prop
  | 0, listed, a, w => Region.ready md ops listed = [] ∧ Q .normal a w
  | fuel + 1, listed, a, w =>
    (Region.ready md ops listed = [] → Q .normal a w) ∧
    ∀ i ∈ Region.ready md ops listed, wpOp P ops Q i (fun a' w' => (i ∉ M → S w') ∧ wpAnyM P md ops Q S M fuel (listed.setIfInBounds i true) a' w') a w

theorem wpAny_of_M : ∀ (fuel : Nat) (listed : Array Bool) (a : Act) (w : World), wpAnyM P md ops Q S M fuel listed a w → wpAny P md ops Q fuel listed a w
  | 0, _, _, _, h => h
  | fuel + 1, _, _, _, h => ⟨h.1, fun i hi => wpOp_mono (fun a' w' h' => wpAny_of_M fuel _ a' w' h'.2) (h.2 i hi)⟩

/-- More may be said of the world from here on. -/
theorem wpAnyM_more (hS : ∀ w, S' w → S w) : ∀ (fuel : Nat) (listed : Array Bool) (a : Act) (w : World), wpAnyM P md ops Q S' M fuel listed a w → wpAnyM P md ops Q S M fuel listed a w
  | 0, _, _, _, h => h
  | fuel + 1, _, _, _, h => ⟨h.1, fun i hi => wpOp_mono (fun a' w' h' => ⟨fun hne => hS _ (h'.1 hne), wpAnyM_more hS fuel _ a' w' h'.2⟩) (h.2 i hi)⟩

/-- Operation m waits for operation i. -/
def waitsFor (md : Region.Mode) (ops : Array Oper) (m i : Nat) : Bool :=
  match ops[m]? with
  | none => true
  | some o => o.after.any (fun e => Region.binds md e && e.on == i)

theorem not_ready {m i : Nat} (hw : waitsFor md ops m i = true) {listed : Array Bool} (hi : listed.getD i true = false) : m ∉ Region.ready md ops listed := by
  intro hm
  obtain ⟨_, om, hom, hall⟩ := mem_ready.1 hm
  unfold waitsFor at hw
  rw [hom] at hw
  obtain ⟨e, he, hb⟩ := Array.any_eq_true'.1 hw
  simp only [Bool.and_eq_true, beq_iff_eq] at hb
  have h1 := hall e he hb.1
  have h0 := hi
  rw [hb.2] at h1
  rcases Nat.lt_or_ge i listed.size with h' | h'
  · simp [h'] at h0 h1; rw [h0] at h1; cases h1
  · simp [Array.getElem?_eq_none h'] at h1

/-- C waits for i, and what of M has not come up yet is among it. -/
def laterC (md : Region.Mode) (ops : Array Oper) (listed : Array Bool) (i : Nat) (M C : List Nat) : Bool :=
  C.contains i && C.all (fun c => !listed.getD c true && (c == i || C.any (fun c' => waitsFor md ops c c'))) && M.all (fun j => listed.getD j true || C.contains j)
structure Later (md : Region.Mode) (ops : Array Oper) (listed : Array Bool) (i : Nat) (M C : List Nat) : Prop where
  own : i ∈ C
  open_ : ∀ c ∈ C, listed.getD c true = false
  waits : ∀ c ∈ C, c ≠ i → ∃ c' ∈ C, waitsFor md ops c c' = true
  all : ∀ j ∈ M, listed.getD j true = false → j ∈ C
theorem laterC_spec {listed : Array Bool} {i : Nat} {C : List Nat} (h : laterC md ops listed i M C = true) : Later md ops listed i M C := by
  unfold laterC at h
  simp only [Bool.and_eq_true, List.contains_eq_mem, decide_eq_true_eq, List.all_eq_true, Bool.not_eq_true', Bool.or_eq_true, beq_iff_eq, List.any_eq_true] at h
  obtain ⟨⟨h1, h2⟩, h3⟩ := h
  exact ⟨h1, fun c hc => (h2 c hc).1, fun c hc hne => (h2 c hc).2.resolve_left hne, fun j hj hl => (h3 j hj).resolve_left (by rw [hl]; simp)⟩
theorem Later.not {listed : Array Bool} {i j : Nat} {C : List Nat} (h : Later md ops listed i M C) (hj : j ∈ Region.ready md ops listed) (hne : j ≠ i) : j ∉ C ∧ j ∉ M := by
  have h1 : j ∉ C := fun hc => by
    obtain ⟨c', hc', hw⟩ := h.waits j hc hne
    exact not_ready hw (h.open_ c' hc') hj
  exact ⟨h1, fun hm => h1 (h.all j hm (mem_ready.1 hj).1)⟩
theorem Later.step {listed : Array Bool} {i j : Nat} {C : List Nat} (h : Later md ops listed i M C) (hj : j ∉ C) : Later md ops (listed.setIfInBounds j true) i M C := by
  refine ⟨h.own, fun c hc => ?_, h.waits, fun k hk hl => ?_⟩
  · rw [getD_set_ne true (fun e : j = c => hj (by rw [e]; exact hc))]; exact h.open_ c hc
  · by_cases hjk : j = k
    · subst hjk
      exfalso
      rcases Nat.lt_or_ge j listed.size with h' | h'
      · simp [h'] at hl
      · simp at hl
    · rw [getD_set_ne true hjk] at hl
      exact h.all k hk hl

theorem wpAnyM_first {i : Nat} {oi : Oper} {v : Value} (hi : ops[i]? = some oi) (hsel : ∀ (j : Nat) (o : Oper) cs b, ops[j]? = some o → o.op ≠ .select cs b)
    (hQ : ∀ c a w, Q (.panic c) (a.put oi.dst v) w → Q (.panic c) a w) {C : List Nat} :
    ∀ (fuel : Nat) (listed : Array Bool) (a : Act) (w : World), Later md ops listed i M C →
      (∀ j oj, ops[j]? = some oj → j ≠ i → listed.getD j true = false → (∀ e ∈ oj.after, Region.binds md e = true → e.on ≠ i) → oi.apart ops oj = true) →
      i ∈ Region.ready md ops listed → YieldsIf P ops S oi v a → S w →
      wpAnyM P md ops Q S M fuel (listed.setIfInBounds i true) (a.put oi.dst v) w → wpAnyM P md ops Q S M (fuel + 1) listed a w := by
  intro fuel
  induction fuel with
  | zero =>
    intro listed a w _ _ hr hy hS H
    refine ⟨fun h => (by rw [h] at hr; cases hr), fun j hj => ?_⟩
    by_cases hji : j = i
    · subst hji; exact hy.wpOp hi hS ⟨fun _ => hS, H⟩
    · have := ready_mono hj hji
      rw [H.1] at this
      cases this
  | succ fuel ih =>
    intro listed a w hlt hfree hr hy hS H
    refine ⟨fun h => (by rw [h] at hr; cases hr), fun j hj => ?_⟩
    by_cases hji : j = i
    · subst hji; exact hy.wpOp hi hS ⟨fun _ => hS, H⟩
    · obtain ⟨hjC, hjm⟩ := hlt.not hj hji
      have h1 := H.2 j (ready_mono hj hji)
      obtain ⟨hjun, oj, hoj, hall⟩ := mem_ready.1 hj
      have hnot : ∀ e ∈ oj.after, Region.binds md e = true → e.on ≠ i := fun e he hb heq => by
        have h1 := hall e he hb
        have h0 := (mem_ready.1 hr).1
        rw [heq] at h1
        rcases Nat.lt_or_ge i listed.size with h' | h'
        · simp [h'] at h0 h1; rw [h0] at h1; cases h1
        · simp [Array.getElem?_eq_none h'] at h1
      have h2 := wpOp_putIf hoj (hfree j oj hoj hji hjun hnot) (fun cs b => hsel i oi cs b hi) (fun cs b => hsel j oj cs b hoj) hQ hy h1
      have hfree' : ∀ k ok, ops[k]? = some ok → k ≠ i → (listed.setIfInBounds j true).getD k true = false →
          (∀ e ∈ ok.after, Region.binds md e = true → e.on ≠ i) → oi.apart ops ok = true := fun k ok hk hki hun hno => by
        refine hfree k ok hk hki ?_ hno
        by_cases hjk : j = k
        · subst hjk; exact hjun
        · rw [getD_set_ne true hjk] at hun; exact hun
      refine wpOp_mono (fun a' w' h3 => ⟨h3.2.1, ih (listed.setIfInBounds j true) a' w' (hlt.step hjC) hfree' (ready_mono hr (Ne.symm hji)) h3.1 (h3.2.1 hjm) ?_⟩) h2
      rw [Array.setIfInBounds_comm _ _ hji]
      exact h3.2.2

theorem wpAnyM_take (C : List Nat) {i : Nat} {oi : Oper} {v : Value} {fuel : Nat} {listed : Array Bool} {a : Act} {w : World} (hi : ops[i]? = some oi)
    (hs : (Region.noSelect ops && Region.free md ops listed i && (Region.ready md ops listed).contains i && laterC md ops listed i M C) = true)
    (hQ : ∀ c a w, Q (.panic c) (a.put oi.dst v) w → Q (.panic c) a w) (hy : YieldsIf P ops S oi v a) (hS : S w)
    (h : wpAnyM P md ops Q S M fuel (listed.setIfInBounds i true) (a.put oi.dst v) w) : wpAnyM P md ops Q S M (fuel + 1) listed a w := by
  simp only [Bool.and_eq_true] at hs
  obtain ⟨⟨⟨h1, h2⟩, h3⟩, h4⟩ := hs
  exact wpAnyM_first hi (Region.noSelect_spec h1) hQ fuel listed a w (laterC_spec h4) (Region.free_spec hi h2) (by simpa using h3) hy hS h

/-- The one operation that may come up comes up. -/
theorem wpAnyM_one {i : Nat} {o : Oper} {fuel : Nat} {listed : Array Bool} {a : Act} {w : World} (hr : Region.ready md ops listed = [i]) (ho : ops[i]? = some o)
    (h : ∀ K' : Act → World → Prop, Shut (∀ a w, (i ∉ M → S w) → ((i ∉ M → S w) → wpAnyM P md ops Q S M fuel (listed.setIfInBounds i true) a w) → K' a w) → if Region.wanted o (yielded ops a.tmps) = true then Oper.wp P o a w K' Q else K' (a.put o.dst undef) w) : wpAnyM P md ops Q S M (fuel + 1) listed a w := by
  refine ⟨fun h0 => absurd (hr ▸ h0) (by simp), fun j hj => ?_⟩
  rw [hr, List.mem_singleton] at hj
  subst hj
  exact wpOp_step ho (fun K' hK => h K' (fun a w hS hW => hK a w ⟨hS, hW hS⟩))
/-- Two operations may come up. -/
theorem wpAnyM_two {i j : Nat} {o o' : Oper} {fuel : Nat} {listed : Array Bool} {a : Act} {w : World} (hr : Region.ready md ops listed = [i, j]) (ho : ops[i]? = some o) (ho' : ops[j]? = some o')
    (h : ∀ K' : Act → World → Prop, Shut (∀ a w, (i ∉ M → S w) → ((i ∉ M → S w) → wpAnyM P md ops Q S M fuel (listed.setIfInBounds i true) a w) → K' a w) → if Region.wanted o (yielded ops a.tmps) = true then Oper.wp P o a w K' Q else K' (a.put o.dst undef) w)
    (h' : ∀ K' : Act → World → Prop, Shut (∀ a w, (j ∉ M → S w) → ((j ∉ M → S w) → wpAnyM P md ops Q S M fuel (listed.setIfInBounds j true) a w) → K' a w) → if Region.wanted o' (yielded ops a.tmps) = true then Oper.wp P o' a w K' Q else K' (a.put o'.dst undef) w) : wpAnyM P md ops Q S M (fuel + 1) listed a w := by
  refine ⟨fun h0 => absurd (hr ▸ h0) (by simp), fun k hk => ?_⟩
  rw [hr] at hk
  rcases List.mem_cons.1 hk with rfl | hk
  · exact wpOp_step ho (fun K' hK => h K' (fun a w hS hW => hK a w ⟨hS, hW hS⟩))
  · rw [List.mem_singleton] at hk
    subst hk
    exact wpOp_step ho' (fun K' hK => h' K' (fun a w hS hW => hK a w ⟨hS, hW hS⟩))
theorem wpAnyM_done {listed : Array Bool} {a : Act} {w : World} (hr : Region.ready md ops listed = []) (h : Q .normal a w) : ∀ fuel, wpAnyM P md ops Q S M fuel listed a w
  | 0 => ⟨hr, h⟩
  | _ + 1 => ⟨fun _ => h, by rw [hr]; simp⟩
theorem wp_region_M {id : Nat} {a : Act} {w : World} (M : List Nat) (hm : P.follows .mixedOrders = true) (hS : S w.drew)
    (h : S w.drew → wpAnyM P .any ops Q S M ops.size (Array.replicate ops.size false) a w.drew) : (Code.region id ops true).wp P Q a w :=
  wp_region_any hm (wpAny_of_M _ _ _ _ (h hS))
end
end Go.Proofs.Ytfbimhnlcmdcpaa.Pa
/- The contract of slices.Repeat, for a list of one number. -/
namespace Go.Proofs.Ytfbimhnlcmdcpaa.Pa
open Go.RowKit Go.Proofs.YtfbimhnlcmdcpaaW.PrintWords Go.Proofs.YtfbimhnlcmdcpaaW.PrintLast Go.Proofs.YtfbimhnlcmdcpaaW.PrintMore
set_option linter.unusedVariables false
set_option linter.unusedSimpArgs false

theorem made_one (v : Value) (n : Nat) : madeCells #[v] (n * 1) = (List.replicate n v).toArray := by
  apply Array.ext
  · simp [size_madeCells]
  · intro i h1 h2
    simp [madeCells, Nat.mod_one]
theorem mk_ints (n : Nat) (hn : n ≤ 1000) (W : World) : (Instr.makeSlice 22 (.int .i64 n) (.int .i64 n)).run Try.prog W = .ok (.slice (some ⟨W.heap.size, 0, none⟩) n n) (W.alloc (.cells (List.replicate n (.int .i64 0)).toArray 3)) := by
  obtain ⟨i0, hi, hz0, hz1, hz2⟩ := info_parts info3'
  have h := run_make (P := Try.prog) W 22 3 i0 (.int .i64 0) Try.underlying22 hi hz0 .i64 .i64 n n (by omega) (Int.le_refl _) (by rw [hz2]; omega) (by omega)
  rw [hz1] at h
  simp only [Int.toNat_natCast] at h
  rw [h, show (Value.int .i64 0).cells = #[Value.int .i64 0] from rfl, made_one]
theorem mul_one_n (n : Nat) (hn : n < 7) : bits_Mul.f 1 (n : Int) = some (0, (n : Int)) := by
  have h : ∀ k : Fin 7, bits_Mul.f 1 ((k.val : Nat) : Int) = some (0, ((k.val : Nat) : Int)) := by decide +kernel
  exact h ⟨n, hn⟩
/-- m cells are filled. -/
def repL (x : Int) (n m : Nat) : List Value := List.replicate m (.int .i64 x) ++ List.replicate (n - m) (.int .i64 0)
theorem repL_zero (x : Int) (n : Nat) : List.replicate n (Value.int .i64 0) = repL x n 0 := by simp [repL]
theorem repL_full (x : Int) (n : Nat) : repL x n n = List.replicate n (.int .i64 x) := by simp [repL]
theorem repL_len (x : Int) (n m : Nat) (h : m ≤ n) : (repL x n m).length = n := by simp [repL]; omega
theorem repL_splice (x : Int) (n m d : Nat) (h : m + d ≤ n) : splice (repL x n m) m (List.replicate d (.int .i64 x)) = repL x n (m + d) := by
  unfold splice repL
  rw [List.length_replicate, List.take_left' (by simp), List.drop_append, List.drop_eq_nil_of_le (by simp), List.nil_append, List.length_replicate, List.drop_replicate, ← List.append_assoc, List.replicate_append_replicate]
  congr 2
  omega
theorem repL_get (x : Int) (n m : Nat) {W : World} {g : Nat} {t : TypeId} (hg : W.heap[g]? = some (.cells (repL x n m).toArray t (0, 0))) (j : Nat) (hj : j < m) : W.cell? ⟨g, j, none⟩ = some (.int .i64 x) := by
  have : (repL x n m)[j]? = some (.int .i64 x) := by
    unfold repL
    rw [List.getElem?_append_left (by simpa using hj), List.getElem?_replicate, if_pos hj]
  simp [World.cell?, hg, this]

set_option maxHeartbeats 2000000 in
set_option maxRecDepth 100000 in
theorem repeat_any (A : Addr) (c : Nat) (x : Int) (n : Nat) (w : World) (hA : w.cell? A = some (.int .i64 x)) (hn : 1 ≤ n) (h6 : n < 7) :
    Calls Try.prog 85 #[.slice (some A) 1 c, .int .i64 n] w fun e w' => ∃ g, e = .returned (.slice (some ⟨g, 0, none⟩) n n) ∧ w.heap.size ≤ g ∧ w'.heap[g]? = some (.cells (List.replicate n (.int .i64 x)).toArray 3 (0, 0)) ∧ Below w.heap.size w w' := by
  obtain ⟨i0, hi, hz0, hz1, hz2⟩ := info_parts info3'
  have hmk := mk_ints n (by omega)
  have hmul := mul_one_n n h6
  have hn0 : ¬ ((n : Int) < 0) := by omega
  have hwn : IntKind.u64.wrap (n : Int) = n := by unfold IntKind.wrap; simp [IntKind.signed, IntKind.bits]; omega
  have hA0 : A.add 0 = A := by first | rfl | (cases A; rfl) | simp [Addr.add]
  have hU : Try.prog.underlying 22 = some (.slice 3) := Try.underlying22
  have hZ : (Try.prog.info? 3).map (·.size) = some 1 := by rw [hi]; simp [hz1]
  go_enter Try.func85, Try.ntmps85
  go_wp2_with (first
    | (go_at_call 110; go_loud ((with_reducible refine (bits_Mul.calls _ _ _ _ _ hmul).mono ?_); rintro e w2 ⟨rfl, hd⟩; have hb2 := hd.below; have hA2 := pw_cell_below (hb2.alloc hb2.size (.cells (List.replicate n (.int .i64 0)).toArray 3)) hA; clear hd))
    | ((with_reducible refine gate_builtin (b := .copy) (xs := #[.tmp 31, .tmp 32]) rfl ?_); go_loud (refine wpList_copy_splice rfl (.tmp 31) (.tmp 32) 22 22 rfl 3 hU hZ _ _ _ _ _ _ rfl rfl w2.heap.size 0 (List.replicate n (.int .i64 0)) 3 (heap_alloc_new _ _) (List.replicate 1 (.int .i64 x)) (by show (1 : Nat) = min 1 n; omega) (fun _ => ⟨rfl, A, rfl, ?hsrc⟩) (by simp; omega) (fun u hu => by rw [List.eq_of_mem_replicate hu]; rfl) w.heap.size w ((hb2.alloc hb2.size _)) hb2.size ?_; (case hsrc => intro j v hj; obtain ⟨e1, e2⟩ : j = 0 ∧ v = .int .i64 x := (by rw [List.getElem?_replicate] at hj; split at hj; (next h => exact ⟨by omega, (Option.some.inj hj).symm⟩); cases hj); rw [e1, e2, hA0]; exact hA2); intro w3 hg3 hb3)))
  rw [repL_zero x n] at hg3
  have hg3 : w3.heap[w2.heap.size]? = some (.cells (repL x n 1).toArray 3 (0, 0)) := by
    have h := hg3.out
    rw [repL_splice x n 0 1 (by omega)] at h
    exact h
  obtain ⟨g, hgw⟩ : ∃ g, g = w2.heap.size := ⟨_, rfl⟩
  have hwg : w.heap.size ≤ g := by rw [hgw]; exact hb2.size
  rw [← hgw] at hg3 ⊢
  clear hgw hA2 hb2 hA
  go_loopg [8] (n - 1) (fun gk v8 wr => ∃ m : Nat, 1 ≤ m ∧ m ≤ n ∧ gk = n - m ∧ v8 = .int .i64 m ∧ Aside0 (wr.heap[g]? = some (.cells (repL x n m).toArray 3 (0, 0))) ∧ Below w.heap.size w wr)
  case atStart => exact ⟨1, by omega, hn, by omega, rfl, ⟨hg3⟩, hb3⟩
  case round =>
    clear hg3 hb3
    obtain ⟨m, hm1, hmn, hgk, rfl, hg, hb⟩ := hrel
    by_cases hlt : m < n
    · have hd : decide ((m : Int) < n) = true := decide_eq_true (by omega)
      go_upto_region 9 with (fail)
      have hbd := below_drew hb
      have hgd : wr.drew.heap[g]? = some (.cells (repL x n m).toArray 3 (0, 0)) := hg.out
      have hmc : ¬ ((n : Int) < m) := by omega
      have hm0 : (0 : Int) ≤ m := by omega
      have hcap : ¬ (n - m = 0) := by omega
      have hcap2 : ¬ (n = m) := by omega
      refine wp_region_M (S := fun _ => True) [] (by kernel_rfl) trivial (fun hHeld => ?_)
      refine wpAnyM_take [0, 8, 9] (i := 0) (oi := _) (v := ?hv0) rfl (by kernel_rfl) (fun _ _ _ h => h) (Or.inl ⟨by rfl, ?hy0⟩) (by assumption) ?re0
      case hy0 => intro W hSw; (try dsimp only at hSw); go_simp; try with_reducible rfl
      try simp only [Act.put, List.setIfInBounds_toArray, List.set_cons_zero, List.set_cons_succ]
      refine wpAnyM_take [1, 3, 7, 8, 9] (i := 1) (oi := _) (v := ?hv1) rfl (by kernel_rfl) (fun _ _ _ h => h) (Or.inl ⟨by rfl, ?hy1⟩) (by assumption) ?re1
      case hy1 => intro W hSw; (try dsimp only at hSw); go_simp; try with_reducible rfl
      try simp only [Act.put, List.setIfInBounds_toArray, List.set_cons_zero, List.set_cons_succ]
      refine wpAnyM_take [2, 3, 7, 8, 9] (i := 2) (oi := _) (v := ?hv2) rfl (by kernel_rfl) (fun _ _ _ h => h) (Or.inl ⟨by rfl, ?hy2⟩) (by assumption) ?re2
      case hy2 => intro W hSw; (try dsimp only at hSw); go_simp; try with_reducible rfl
      try simp only [Act.put, List.setIfInBounds_toArray, List.set_cons_zero, List.set_cons_succ]
      refine wpAnyM_take [3, 7, 8, 9] (i := 3) (oi := _) (v := ?hv3) rfl (by kernel_rfl) (fun _ _ _ h => h) (Or.inl ⟨by rfl, ?hy3⟩) (by assumption) ?re3
      case hy3 => intro W hSw; (try dsimp only at hSw); go_simp; try with_reducible rfl
      try simp only [Act.put, List.setIfInBounds_toArray, List.set_cons_zero, List.set_cons_succ]
      refine wpAnyM_take [4, 6, 7, 8, 9] (i := 4) (oi := _) (v := ?hv4) rfl (by kernel_rfl) (fun _ _ _ h => h) (Or.inl ⟨by rfl, ?hy4⟩) (by assumption) ?re4
      case hy4 => intro W hSw; (try dsimp only at hSw); go_simp; try with_reducible rfl
      try simp only [Act.put, List.setIfInBounds_toArray, List.set_cons_zero, List.set_cons_succ]
      refine wpAnyM_take [5, 6, 7, 8, 9] (i := 5) (oi := _) (v := ?hv5) rfl (by kernel_rfl) (fun _ _ _ h => h) (Or.inl ⟨by rfl, ?hy5⟩) (by assumption) ?re5
      case hy5 => intro W hSw; (try dsimp only at hSw); go_simp; try with_reducible rfl
      try simp only [Act.put, List.setIfInBounds_toArray, List.set_cons_zero, List.set_cons_succ]
      refine wpAnyM_take [6, 7, 8, 9] (i := 6) (oi := _) (v := ?hv6) rfl (by kernel_rfl) (fun _ _ _ h => h) (Or.inl ⟨by rfl, ?hy6⟩) (by assumption) ?re6
      case hy6 => intro W hSw; (try dsimp only at hSw); go_simp; try with_reducible rfl
      try simp only [Act.put, List.setIfInBounds_toArray, List.set_cons_zero, List.set_cons_succ]
      refine wpAnyM_one (i := 7) (o := _) (by kernel_rfl) rfl (fun K hK => ?_)
      refine step_copy_splice rfl (.tmp 41) (.tmp 44) 22 22 rfl 3 hU hZ (some ⟨g, m, none⟩) (some ⟨g, 0, none⟩) (n - m) (n - m) m n ?hd ?hs g m (repL x n m) 3 hgd (List.replicate (min m (n - m)) (.int .i64 x)) ?hn ?hpos ?hfit ?h1 w.heap.size w hbd hwg ?_
      case hd => rfl
      case hs => rfl
      case hn => exact List.length_replicate
      case hpos => intro hpos; refine ⟨rfl, ⟨g, 0, none⟩, rfl, ?_⟩; intro j v hj; rw [List.getElem?_replicate] at hj; split at hj; (next hlt2 => (obtain rfl := Option.some.inj hj; have h := repL_get x n m hgd j (by omega); simpa only [add_plain, Nat.zero_add] using h)); cases hj
      case hfit => rw [List.length_replicate, repL_len _ _ _ hmn]; omega
      case h1 => intro u hu; rw [List.eq_of_mem_replicate hu]; rfl
      intro w4 hg4 hb4
      have hg5 : w4.heap[g]? = some (.cells (repL x n (m + min m (n - m))).toArray 3 (0, 0)) := by
        have h := hg4.out
        rw [repL_splice x n m _ (by omega)] at h
        exact h
      rw [List.length_replicate]
      refine hK.out _ _ (fun _ => trivial) (fun _ => ?_)
      clear hK
      clear K
      try simp only [Act.put, List.setIfInBounds_toArray, List.set_cons_zero, List.set_cons_succ]
      refine wpAnyM_one (i := 8) (o := _) (by kernel_rfl) rfl (fun K hK => ?_)
      go_simp
      refine hK.out _ _ (fun _ => trivial) (fun _ => ?_)
      clear hK
      clear K
      try simp only [Act.put, List.setIfInBounds_toArray, List.set_cons_zero, List.set_cons_succ]
      refine wpAnyM_one (i := 9) (o := _) (by kernel_rfl) rfl (fun K hK => ?_)
      go_simp
      refine hK.out _ _ (fun _ => trivial) (fun _ => ?_)
      clear hK
      clear K
      try simp only [Act.put, List.setIfInBounds_toArray, List.set_cons_zero, List.set_cons_succ]
      refine wpAnyM_done (by kernel_rfl) ?_ _
      try simp only [Act.put, List.setIfInBounds_toArray, List.set_cons_zero, List.set_cons_succ]
      go_wp2
      go_roundg (n - (m + min m (n - m)))
      case measure => omega
      case rel => exact ⟨m + min m (n - m), by omega, by omega, rfl, congrArg (Value.int .i64) (by rw [IntKind.wrap_i64]; omega), ⟨hg5⟩, hb4⟩
    · obtain rfl : m = n := by omega
      go_wp2
      go_ret
      exact ⟨g, rfl, hwg, by rw [← repL_full]; exact hg.out, hb⟩
end Go.Proofs.Ytfbimhnlcmdcpaa.Pa
