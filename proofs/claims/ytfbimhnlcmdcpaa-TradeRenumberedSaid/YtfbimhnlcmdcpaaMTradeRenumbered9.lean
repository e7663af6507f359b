/- A part of the proof: If classes have other numbers, and the same names, Compare finds no difference, and the least class of two has the same name: for all lists of numbers. Without conditions of its own. -/
import Derived.Test.YtfbimhnlcmdcpaaMTradeRenumbered6
import Derived.Test.YtfbimhnlcmdcpaaMTradeRenumbered3
import Derived.KernelRfl
import Derived.Test.YtfbimhnlcmdcpaaMTradeRenumbered5
import Derived.Test.YtfbimhnlcmdcpaaMTradeRenumbered8
import Derived.Test.YtfbimhnlcmdcpaaRows
import Derived.WalkKit
import Derived.ProofKit
import Derived.OpenShut
import Derived.ShutString
import Derived.ChangeOld
import Derived.Below
import Derived.SizedLaws
import Derived.Test.YtfbimhnlcmdcpaaMTradeRenumbered2
/- What the dice of the kit give: numbers in their bounds, orders, ascending lists. -/
namespace Go.Proofs.Ytfbimhnlcmdcpaa.Q
open Go.RowKit Go.Proofs.Ytfbimhnlcmdcpaa.Pa Go.Proofs.YtfbimhnlcmdcpaaW.PrintWords Go.Proofs.YtfbimhnlcmdcpaaW.PrintLast Go.Proofs.YtfbimhnlcmdcpaaW.PrintMore
set_option linter.unusedVariables false

theorem u64w (x : Int) : IntKind.u64.wrap x = x % 18446744073709551616 := rfl
theorem xor_range (a b : Int) : 0 ≤ Go.bits .xor .u64 a b ∧ Go.bits .xor .u64 a b < 18446744073709551616 := by
  unfold Go.bits
  rw [u64w]
  omega
theorem w64s {x : Int} (h0 : -9223372036854775808 ≤ x) (h1 : x < 9223372036854775808) : wrap64 x = x := by
  unfold wrap64
  omega
theorem Ev.last {α : Type} {g : Nat → Option α} {r : α} (h : ∀ k, g (k + 1) = some r) : Ev g r := Ev.step h (Ev.now r)
/-- Dice in order: so many numbers are used up. -/
structure DOK (l : List Int) (a : Int) : Prop where
  lo : 0 ≤ a
  hi : a ≤ l.length
  sz : l.length < 4611686018427387904

theorem raw_ok {l : List Int} {a s : Int} (h : DOK l a) : ∃ n a' s', wayzgoosekit_Dice_raw.f l a s = some (n, a', s') ∧ 0 ≤ n ∧ n < 18446744073709551616 ∧ DOK l a' := by
  have hz := h.sz
  have hlo := h.lo
  unfold wayzgoosekit_Dice_raw.f
  by_cases c : a < (l.length : Int)
  · rw [if_pos c, if_pos h.lo]
    refine ⟨_, _, _, rfl, (xor_range _ _).1, (xor_range _ _).2, ?_⟩
    rw [w64s (by omega) (by omega)]
    exact ⟨by omega, by omega, hz⟩
  · rw [if_neg c]
    exact ⟨_, _, _, rfl, (xor_range _ _).1, (xor_range _ _).2, h⟩
theorem to_ok {l : List Int} {a s n : Int} (h : DOK l a) (hn : n < 4611686018427387904) : ∃ v a' s', wayzgoosekit_Dice_To.f l a s n = some (v, a', s') ∧ 0 ≤ v ∧ (v ≤ n ∨ v = 0) ∧ DOK l a' := by
  unfold wayzgoosekit_Dice_To.f
  by_cases c : n < 1
  · rw [if_pos c]
    exact ⟨_, _, _, rfl, by omega, .inr rfl, h⟩
  · rw [if_neg c]
    obtain ⟨m, a', s', hr, h0, h1, hd⟩ := raw_ok (s := s) h
    rw [hr]
    have hw : IntKind.u64.wrap (wrap64 (n + 1)) = n + 1 := by
      rw [w64s (by omega) (by omega), u64w]
      omega
    simp only [Option.bind_some, hw]
    rw [if_neg (by omega)]
    have h2 : (m / 65536).tmod (n + 1) = m / 65536 % (n + 1) := Int.tmod_eq_emod_of_nonneg (by omega)
    have h3 := Int.emod_nonneg (m / 65536) (show n + 1 ≠ 0 by omega)
    have h4 := Int.emod_lt_of_pos (m / 65536) (show 0 < n + 1 by omega)
    rw [h2, w64s (by omega) (by omega)]
    exact ⟨_, _, _, rfl, h3, .inl (by omega), hd⟩
/-- n at least 0: a number from 0 to n. -/
theorem to_ok' {l : List Int} {a s n : Int} (h : DOK l a) (hn : n < 4611686018427387904) (h0 : 0 ≤ n) : ∃ v a' s', wayzgoosekit_Dice_To.f l a s n = some (v, a', s') ∧ 0 ≤ v ∧ v ≤ n ∧ DOK l a' := by
  obtain ⟨v, a', s', h1, h2, h3, h4⟩ := to_ok (s := s) h hn
  exact ⟨v, a', s', h1, h2, by omega, h4⟩
theorem from_ok {l : List Int} {a s lo hi : Int} (h : DOK l a) (hl : -1000000 ≤ lo) (hl2 : lo ≤ 1000000) (hh : -1000000 ≤ hi) (hh2 : hi ≤ 1000000) : ∃ v a' s', wayzgoosekit_Dice_From.f l a s lo hi = some (v, a', s') ∧ lo ≤ v ∧ (v ≤ hi ∨ v = lo) ∧ DOK l a' := by
  unfold wayzgoosekit_Dice_From.f
  rw [w64s (by omega) (by omega)]
  obtain ⟨v, a', s', h1, h2, h3, h4⟩ := to_ok (s := s) (n := hi - lo) h (by omega)
  rw [h1]
  simp only [Option.bind_some]
  rw [w64s (by omega) (by omega)]
  exact ⟨_, _, _, rfl, by omega, by omega, h4⟩
theorem once_ok {l : List Int} {a s n : Int} (h : DOK l a) (hn : -1000000 ≤ n) (hn2 : n < 1000000) : ∃ v a' s', wayzgoosekit_Dice_Once.f l a s n = some (v, a', s') ∧ DOK l a' := by
  unfold wayzgoosekit_Dice_Once.f
  rw [w64s (by omega) (by omega)]
  obtain ⟨v, a', s', h1, h2, h3, h4⟩ := to_ok (s := s) (n := n - 1) h (by omega)
  rw [h1]
  exact ⟨_, _, _, rfl, h4⟩

/-! ### Order -/
theorem set_set_perm (l : List Int) (i j : Nat) (hi : i < l.length) (hj : j < l.length) : ((l.set i (l.getD j 0)).set j (l.getD i 0)).Perm l := by
  have gi : l.getD i 0 = l[i] := by simp [List.getD_eq_getElem?_getD, hi]
  have gj : l.getD j 0 = l[j] := by simp [List.getD_eq_getElem?_getD, hj]
  rw [gi, gj, List.perm_iff_count]
  intro x
  have hi' : i < (l.set i l[j]).length := by rw [List.length_set]; exact hi
  have hj' : j < (l.set i l[j]).length := by rw [List.length_set]; exact hj
  have e1 := List.count_set (a := l[i]) (b := x) hj'
  have e2 := List.count_set (a := l[j]) (b := x) hi
  rw [e1, e2]
  have ci : (if (l[i] == x) = true then 1 else 0) ≤ List.count x l := by
    split
    · rename_i h
      have : l[i] = x := by simpa using h
      exact List.count_pos_iff.2 (this ▸ List.getElem_mem hi)
    · omega
  by_cases hij : i = j
  · subst hij
    simp only [List.getElem_set_self]
    split <;> rename_i h <;> simp_all
  · simp only [List.getElem_set_ne hij]
    have cj : (if (l[j] == x) = true then 1 else 0) ≤ List.count x l - (if (l[i] == x) = true then 1 else 0) + (if (l[j] == x) = true then 1 else 0) := by omega
    omega
theorem order_l1 {l : List Int} (d : Nat) : ∀ (p : List Int) (x a s : Int), DOK l a → x = d → (d : Int) < p.length ∨ d = 0 → p.length < 1000000 →
    ∃ q a' s', Ev (fun k => wayzgoosekit_Dice_Order.l1 k p x l a s) (q, a', s') ∧ q.Perm p ∧ DOK l a' := by
  induction d with
  | zero =>
    intro p x a s h hx hd hp
    refine ⟨p, a, s, Ev.last (fun k => ?_), List.Perm.refl _, h⟩
    simp only [wayzgoosekit_Dice_Order.l1]
    rw [if_neg (by omega)]
  | succ d ih =>
    intro p x a s h hx hd hp
    obtain ⟨v, a1, s1, hr, h0, h1, hd1⟩ := to_ok' (s := s) (n := x) h (by omega) (by omega)
    have hxl : x.toNat < p.length := by omega
    have hvl : v.toNat < p.length := by omega
    have hperm := set_set_perm p x.toNat v.toNat hxl hvl
    obtain ⟨q, a', s', he, hq, hdk⟩ := ih ((p.set x.toNat (rd p v)).set v.toNat (rd p x)) (x - 1) a1 s1 hd1 (by omega) (by simp only [List.length_set]; omega) (by simp only [List.length_set]; exact hp)
    refine ⟨q, a', s', Ev.step (fun k => ?_) he, hq.trans hperm, hdk⟩
    simp only [wayzgoosekit_Dice_Order.l1]
    rw [if_pos (by omega), hr]
    simp only [Option.bind_some]
    rw [if_pos (by omega), if_pos (by omega), if_pos (by omega), if_pos (by omega), w64s (by omega) (by omega)]
theorem order_ok {l : List Int} {a s : Int} (n : Nat) (h : DOK l a) (hn : n < 1000000) (h1 : 1 ≤ n) : ∃ q a' s', Ev (fun k => wayzgoosekit_Dice_Order.f k l a s n) (q, a', s') ∧ q.Perm (nats n) ∧ DOK l a' := by
  have key : ∀ (d i : Nat), i + d = n → ∃ q a' s', Ev (fun k => wayzgoosekit_Dice_Order.l0 k n (nats i) i l a s) (q, a', s') ∧ q.Perm (nats n) ∧ DOK l a' := by
    intro d
    induction d with
    | zero =>
      intro i hi
      obtain rfl : i = n := by omega
      have hlen : (nats i).length = i := by simp [nats]
      obtain ⟨q, a', s', he, hq, hd⟩ := order_l1 (l := l) (i - 1) (nats i) ((i : Int) - 1) a s h (by omega) (by rw [hlen]; omega) (by rw [hlen]; exact hn)
      refine ⟨q, a', s', Ev.step (fun k => ?_) he, hq, hd⟩
      simp only [wayzgoosekit_Dice_Order.l0]
      rw [if_neg (by omega), w64s (by omega) (by omega)]
    | succ d ih =>
      intro i hi
      obtain ⟨q, a', s', he, hq, hd⟩ := ih (i + 1) (by omega)
      have hlen : (nats i).length = i := by simp [nats]
      have hsucc : nats (i + 1) = nats i ++ [(i : Int)] := by simp [nats, List.range_succ]
      refine ⟨q, a', s', Ev.step (fun k => ?_) he, hq, hd⟩
      simp only [wayzgoosekit_Dice_Order.l0]
      rw [if_pos (by omega), if_pos (by rw [hlen]; omega), w64s (by omega) (by omega), hsucc, Int.natCast_add]
      rfl
  exact key n 0 (by omega)

/-! ### Index -/
/-- the first index of x from i on, -1 -/
def idxFrom (x : Int) : List Int → Int → Int
  | [], _ => -1
  | y :: t, i => if y = x then i else idxFrom x t (i + 1)
def idxT (l : List Int) (x : Int) : Int := idxFrom x l 0
theorem index_ok (l : List Int) (x : Int) (hl : l.length < 4611686018427387904) : Ev (fun k => wayzgoosekit_Index.f k l x) (idxT l x) := by
  have key : ∀ (d i : Nat), i + d = l.length → Ev (fun k => wayzgoosekit_Index.l0 k l x i) (idxFrom x (l.drop i) i) := by
    intro d
    induction d with
    | zero =>
      intro i hi
      rw [List.drop_of_length_le (by omega)]
      refine Ev.last (fun k => ?_)
      simp only [wayzgoosekit_Index.l0]
      rw [if_neg (by omega)]
      rfl
    | succ d ih =>
      intro i hi
      have hil : i < l.length := by omega
      rw [List.drop_eq_getElem_cons hil]
      have hrd : rd l (i : Int) = l[i] := by simp [rd, List.getD_eq_getElem?_getD, hil]
      by_cases c : l[i] = x
      · refine Ev.last (fun k => ?_)
        simp only [wayzgoosekit_Index.l0, idxFrom]
        rw [if_pos (by omega), if_pos (by omega), hrd, if_pos c, if_pos c]
      · refine Ev.step (fun k => ?_) (show Ev _ (idxFrom x (l[i] :: l.drop (i + 1)) i) by rw [idxFrom, if_neg c]; exact ih (i + 1) (by omega))
        simp only [wayzgoosekit_Index.l0]
        rw [if_pos (by omega), if_pos (by omega), hrd, if_neg c, w64s (by omega) (by omega)]
        rfl
  exact key l.length 0 (by omega)
theorem idxFrom_spec (x : Int) : ∀ (l : List Int) (i : Int), (x ∉ l ∧ idxFrom x l i = -1) ∨ (∃ j : Nat, j < l.length ∧ l.getD j 0 = x ∧ (∀ m, m < j → l.getD m 0 ≠ x) ∧ idxFrom x l i = i + j)
  | [], i => .inl ⟨by simp, rfl⟩
  | y :: t, i => by
    by_cases c : y = x
    · exact .inr ⟨0, by simp, by simpa using c, fun m hm => by omega, by simp [idxFrom, c]⟩
    · rcases idxFrom_spec x t (i + 1) with ⟨h1, h2⟩ | ⟨j, h1, h2, h3, h4⟩
      · exact .inl ⟨by simp [h1, Ne.symm c], by rw [idxFrom, if_neg c, h2]⟩
      · refine .inr ⟨j + 1, by simp; omega, by simpa using h2, fun m hm => ?_, by rw [idxFrom, if_neg c, h4]; omega⟩
        cases m with
        | zero => simpa using c
        | succ m => simpa using h3 m (by omega)
theorem idxT_spec (l : List Int) (x : Int) : (x ∉ l ∧ idxT l x = -1) ∨ (∃ j : Nat, j < l.length ∧ l.getD j 0 = x ∧ (∀ m, m < j → l.getD m 0 ≠ x) ∧ idxT l x = j) := by
  have := idxFrom_spec x l 0
  simpa [idxT] using this
theorem idxT_nonneg (l : List Int) (x : Int) : 0 ≤ idxT l x ↔ x ∈ l := by
  rcases idxT_spec l x with ⟨h1, h2⟩ | ⟨j, h1, h2, h3, h4⟩
  · rw [h2]; simp [h1]
  · rw [h4]
    refine ⟨fun _ => ?_, fun _ => by omega⟩
    rw [← h2, List.getD_eq_getElem?_getD, List.getElem?_eq_getElem h1]
    exact List.getElem_mem h1
end Go.Proofs.Ytfbimhnlcmdcpaa.Q
/- Trades that are made of numbers are valid. -/
namespace Go.Proofs.Ytfbimhnlcmdcpaa.Q
open Go.RowKit Go.Proofs.Ytfbimhnlcmdcpaa.Pa Go.Proofs.YtfbimhnlcmdcpaaW.PrintWords Go.Proofs.YtfbimhnlcmdcpaaW.PrintLast Go.Proofs.YtfbimhnlcmdcpaaW.PrintMore
set_option linter.unusedVariables false

/-! ### partOf -/
theorem nats_mem (n : Nat) (x : Int) : x ∈ nats n ↔ 0 ≤ x ∧ x < n := by
  unfold nats
  simp only [List.mem_map, List.mem_range]
  constructor
  · rintro ⟨m, hm, rfl⟩
    exact ⟨by simp, by simpa using hm⟩
  · rintro ⟨h0, h1⟩
    exact ⟨x.toNat, by omega, by simp; omega⟩
theorem nats_pairwise (n : Nat) : (nats n).Pairwise (· < ·) := by
  unfold nats
  rw [List.pairwise_map]
  exact (List.pairwise_lt_range).imp (fun h => by simpa using h)
theorem nats_nodup (n : Nat) : (nats n).Nodup := (nats_pairwise n).imp (fun h => by omega)
theorem nats_snoc (n : Nat) : nats (n + 1) = nats n ++ [(n : Int)] := by simp [nats, List.range_succ]
theorem idx_take (p : List Int) (x : Int) (m : Int) (hx : x ∈ p) (hm : idxT p x < m) : x ∈ p.take m.toNat := by
  rcases idxT_spec p x with ⟨h1, h2⟩ | ⟨j, h1, h2, h3, h4⟩
  · exact absurd hx h1
  · rw [h4] at hm
    have : p[j]? = some x := by
      rw [List.getElem?_eq_getElem h1, ← h2, List.getD_eq_getElem?_getD, List.getElem?_eq_getElem h1]
      rfl
    refine List.mem_of_getElem? (i := j) ?_
    rw [List.getElem?_take_of_lt (by omega), this]
theorem part_len (n : Nat) (p : List Int) (m : Int) (hp : p.Perm (nats n)) : ((nats n).filter (fun i => decide (idxT p i < m))).length ≤ m.toNat := by
  have hnd : p.Nodup := hp.nodup_iff.2 (nats_nodup n)
  have h1 : ((nats n).filter (fun i => decide (idxT p i < m))).length = (p.filter (fun i => decide (idxT p i < m))).length := (hp.symm.filter _).length_eq
  rw [h1]
  have h2 : (p.filter (fun i => decide (idxT p i < m))).length ≤ (p.filter (fun i => decide (i ∈ p.take m.toNat))).length := by
    rw [← List.countP_eq_length_filter, ← List.countP_eq_length_filter]
    exact List.countP_mono_left (fun x hx h => by simpa using idx_take p x m hx (by simpa using h))
  refine Nat.le_trans h2 ?_
  have h3 : p.filter (fun i => decide (i ∈ p.take m.toNat)) = (p.take m.toNat).filter (fun i => decide (i ∈ p.take m.toNat)) ++ (p.drop m.toNat).filter (fun i => decide (i ∈ p.take m.toNat)) := by
    conv => lhs; rw [show p.filter (fun i => decide (i ∈ p.take m.toNat)) = ((p.take m.toNat) ++ (p.drop m.toNat)).filter (fun i => decide (i ∈ p.take m.toNat)) by rw [List.take_append_drop]]
    rw [List.filter_append]
  have h4 : (p.drop m.toNat).filter (fun i => decide (i ∈ p.take m.toNat)) = [] := by
    rw [List.filter_eq_nil_iff]
    intro x hx h
    have hd : (p.take m.toNat ++ p.drop m.toNat).Nodup := by rw [List.take_append_drop]; exact hnd
    rw [List.nodup_append] at hd
    exact hd.2.2 x (by simpa using h) x hx rfl
  rw [h3, h4, List.append_nil]
  refine Nat.le_trans (List.length_filter_le _ _) ?_
  rw [List.length_take]
  omega
/-- Ascending numbers below n. -/
structure Asc (ws : List Int) (n : Nat) : Prop where
  lt : ws.Pairwise (· < ·)
  mem : ∀ x ∈ ws, 0 ≤ x ∧ x < n
theorem part_ok {l : List Int} {a s : Int} (n : Nat) (m : Int) (h : DOK l a) (hn : n < 1000000) (h1 : 1 ≤ n) (hm : 0 ≤ m) : ∃ ws a' s', Ev (fun k => wayzgoosekit_partOf.f k l a s n m) (ws, a', s') ∧ Asc ws n ∧ ws.length ≤ m.toNat ∧ DOK l a' := by
  obtain ⟨p, a1, s1, he, hp, hd⟩ := order_ok (s := s) n h hn h1
  have hpl : p.length = n := by rw [hp.length_eq]; simp [nats]
  have key : ∀ (d i : Nat), i + d = n → Ev (fun k => wayzgoosekit_partOf.l0 k n m p ((nats i).filter (fun i => decide (idxT p i < m))) i l a1 s1) ((nats n).filter (fun i => decide (idxT p i < m)), a1, s1) := by
    intro d
    induction d with
    | zero =>
      intro i hi
      obtain rfl : i = n := by omega
      refine Ev.last (fun k => ?_)
      simp only [wayzgoosekit_partOf.l0]
      rw [if_neg (by omega)]
    | succ d ih =>
      intro i hi
      have hlen : ((nats i).filter (fun i => decide (idxT p i < m))).length ≤ i := Nat.le_trans (List.length_filter_le _ _) (by simp [nats])
      have ih := ih (i + 1) (by omega)
      rw [nats_snoc, List.filter_append] at ih
      by_cases c : idxT p i < m
      · have e1 : [(i : Int)].filter (fun i => decide (idxT p i < m)) = [(i : Int)] := by simp [c]
        rw [e1] at ih
        refine Ev.step (f := fun k => (wayzgoosekit_Index.f k p i).bind fun t => if t < m then (if ((nats i).filter (fun i => decide (idxT p i < m))).length < 17592186044416 then wayzgoosekit_partOf.l0 k n m p ((nats i).filter (fun i => decide (idxT p i < m)) ++ [(i : Int)]) ((i + 1 : Nat) : Int) l a1 s1 else none) else wayzgoosekit_partOf.l0 k n m p ((nats i).filter (fun i => decide (idxT p i < m))) ((i + 1 : Nat) : Int) l a1 s1) (fun k => ?_) ?_
        · simp only [wayzgoosekit_partOf.l0]
          rw [if_pos (by omega), w64s (by omega) (by omega)]
          rfl
        · refine Ev.bind (index_ok p i (by omega)) ?_
          refine Ev.congr (fun k => ?_) ih
          rw [if_pos c, if_pos (by omega)]
      · have e1 : [(i : Int)].filter (fun i => decide (idxT p i < m)) = [] := by simp [c]
        rw [e1, List.append_nil] at ih
        refine Ev.step (f := fun k => (wayzgoosekit_Index.f k p i).bind fun t => if t < m then (if ((nats i).filter (fun i => decide (idxT p i < m))).length < 17592186044416 then wayzgoosekit_partOf.l0 k n m p ((nats i).filter (fun i => decide (idxT p i < m)) ++ [(i : Int)]) ((i + 1 : Nat) : Int) l a1 s1 else none) else wayzgoosekit_partOf.l0 k n m p ((nats i).filter (fun i => decide (idxT p i < m))) ((i + 1 : Nat) : Int) l a1 s1) (fun k => ?_) ?_
        · simp only [wayzgoosekit_partOf.l0]
          rw [if_pos (by omega), w64s (by omega) (by omega)]
          rfl
        · refine Ev.bind (index_ok p i (by omega)) ?_
          refine Ev.congr (fun k => ?_) ih
          rw [if_neg c]
  refine ⟨_, _, _, Ev.bind (f := fun k (x : List Int × Int × Int) => wayzgoosekit_partOf.l0 k n m x.1 [] 0 l x.2.1 x.2.2) he (key n 0 (by omega)), ⟨?_, ?_⟩, part_len n p m hp, hd⟩
  · exact (nats_pairwise n).filter _
  · intro x hx
    exact (nats_mem n x).1 (List.mem_filter.1 hx).1
end Go.Proofs.Ytfbimhnlcmdcpaa.Q
/- TradesOf: it gives trades, and they are valid. -/
namespace Go.Proofs.Ytfbimhnlcmdcpaa.Q
open Go.RowKit Go.Proofs.Ytfbimhnlcmdcpaa.Pa Go.Proofs.YtfbimhnlcmdcpaaW.PrintWords Go.Proofs.YtfbimhnlcmdcpaaW.PrintLast Go.Proofs.YtfbimhnlcmdcpaaW.PrintMore
set_option linter.unusedVariables false
set_option linter.unusedSimpArgs false

def sortsL : List ByteArray := (wayzgoosekit_sorts.f).getD []
def callL : List ByteArray := (wayzgoosekit_callings.f).getD []
theorem sorts_f : wayzgoosekit_sorts.f = some sortsL := by kernel_rfl
theorem call_f : wayzgoosekit_callings.f = some callL := by kernel_rfl
theorem sorts_len : sortsL.length = 9 := by kernel_rfl
theorem call_len : callL.length = 16 := by kernel_rfl
def sortAt (i : Int) : ByteArray := rdOf ByteArray.empty sortsL i
def callAt (i : Int) : ByteArray := rdOf ByteArray.empty callL i
def allTwo (n : Nat) (f : Int → Int → Bool) : Bool := (List.range n).all fun i => (List.range n).all fun j => f i j
theorem allTwo_spec {n : Nat} {f : Int → Int → Bool} (h : allTwo n f = true) (i j : Int) (hi : 0 ≤ i) (hi2 : i < n) (hj : 0 ≤ j) (hj2 : j < n) : f i j = true := by
  unfold allTwo at h
  rw [List.all_eq_true] at h
  have h1 := h i.toNat (List.mem_range.2 (by omega))
  rw [List.all_eq_true] at h1
  have h2 := h1 j.toNat (List.mem_range.2 (by omega))
  rwa [show ((i.toNat : Nat) : Int) = i by omega, show ((j.toNat : Nat) : Int) = j by omega] at h2
theorem sorts_all : allTwo 9 (fun i j => wordOk (sortAt i) && (decide (i = j) || !sEq (sortAt i) (sortAt j))) = true := by kernel_rfl
theorem call_all : allTwo 16 (fun i j => wordOk (callAt i) && (decide (i = j) || !sEq (callAt i) (callAt j)) && (!decide (i < j) || (sLt (callAt i) (callAt j) && !sLt (callAt j) (callAt i)))) = true := by kernel_rfl
theorem sort_word (i : Int) (h0 : 0 ≤ i) (h1 : i < 9) : wordOk (sortAt i) = true := by
  have := allTwo_spec sorts_all i i h0 h1 h0 h1
  simp only [Bool.and_eq_true] at this
  exact this.1
theorem sort_ne (i j : Int) (h0 : 0 ≤ i) (h1 : i < 9) (g0 : 0 ≤ j) (g1 : j < 9) (hne : i ≠ j) : sEq (sortAt i) (sortAt j) = false := by
  have := allTwo_spec sorts_all i j h0 h1 g0 g1
  simp only [Bool.and_eq_true] at this
  simpa [hne] using this.2
theorem call_word (i : Int) (h0 : 0 ≤ i) (h1 : i < 16) : wordOk (callAt i) = true := by
  have := allTwo_spec call_all i i h0 h1 h0 h1
  simp only [Bool.and_eq_true] at this
  exact this.1.1
theorem call_ne (i j : Int) (h0 : 0 ≤ i) (h1 : i < 16) (g0 : 0 ≤ j) (g1 : j < 16) (hne : i ≠ j) : sEq (callAt i) (callAt j) = false := by
  have := allTwo_spec call_all i j h0 h1 g0 g1
  simp only [Bool.and_eq_true] at this
  simpa [hne] using this.1.2
theorem call_lt (i j : Int) (h0 : 0 ≤ i) (g1 : j < 16) (hlt : i < j) : sLt (callAt i) (callAt j) = true ∧ sLt (callAt j) (callAt i) = false := by
  have := allTwo_spec call_all i j h0 (by omega) (by omega) g1
  simp only [Bool.and_eq_true] at this
  simpa [hlt] using this.2

/-! ### classes -/
structure ClsOK (p : List Int) (cs : List Cl) : Prop where
  name : ∀ i, i < cs.length → (cs.getD i zCl).f0 = sortAt (p.getD i 0)
  under : ∀ i, i < cs.length → -1 ≤ (cs.getD i zCl).f1 ∧ (cs.getD i zCl).f1 < (i : Int)
theorem ClsOK.snoc {p : List Int} {cs : List Cl} (h : ClsOK p cs) (u : Int) (h0 : -1 ≤ u) (h1 : u < (cs.length : Int)) : ClsOK p (cs ++ [⟨sortAt (p.getD cs.length 0), u⟩]) := by
  constructor
  · intro i hi
    rw [List.length_append, List.length_singleton] at hi
    rcases Nat.lt_or_ge i cs.length with hlt | hge
    · rw [List.getD_eq_getElem?_getD, List.getElem?_append_left hlt, ← List.getD_eq_getElem?_getD]; exact h.name i hlt
    · obtain rfl : i = cs.length := by omega
      simp [List.getD_eq_getElem?_getD]
  · intro i hi
    rw [List.length_append, List.length_singleton] at hi
    rcases Nat.lt_or_ge i cs.length with hlt | hge
    · rw [List.getD_eq_getElem?_getD, List.getElem?_append_left hlt, ← List.getD_eq_getElem?_getD]; exact h.under i hlt
    · obtain rfl : i = cs.length := by omega
      simp [List.getD_eq_getElem?_getD]
      omega
theorem any_false {α : Type} {l : List α} {f : α → Bool} (h : ∀ x ∈ l, f x = false) : l.any f = false := by
  rw [List.any_eq_false]
  intro x hx
  rw [h x hx]
  simp
theorem mem_take_getD {α : Type} (l : List α) (z : α) (i : Nat) (x : α) (h : x ∈ l.take i) : ∃ j, j < i ∧ j < l.length ∧ l.getD j z = x := by
  obtain ⟨j, hj, rfl⟩ := List.mem_iff_getElem.1 h
  rw [List.length_take] at hj
  exact ⟨j, by omega, by omega, by rw [List.getElem_take, List.getD_eq_getElem?_getD, List.getElem?_eq_getElem (by omega)]; rfl⟩
theorem perm_at {p : List Int} {n : Nat} (hp : p.Perm (nats n)) (i : Nat) (hi : i < n) : i < p.length ∧ 0 ≤ p.getD i 0 ∧ p.getD i 0 < n := by
  have hl : p.length = n := by rw [hp.length_eq]; simp [nats]
  have : p.getD i 0 ∈ p := by rw [List.getD_eq_getElem?_getD, List.getElem?_eq_getElem (by omega)]; exact List.getElem_mem _
  have := (nats_mem n _).1 (hp.mem_iff.1 this)
  exact ⟨by omega, this.1, this.2⟩
theorem perm_ne {p : List Int} {n : Nat} (hp : p.Perm (nats n)) (i j : Nat) (hi : i < n) (hj : j < n) (hne : i ≠ j) : p.getD i 0 ≠ p.getD j 0 := by
  have hl : p.length = n := by rw [hp.length_eq]; simp [nats]
  have hnd : p.Nodup := hp.nodup_iff.2 (nats_nodup n)
  rw [List.getD_eq_getElem?_getD, List.getElem?_eq_getElem (by omega), List.getD_eq_getElem?_getD, List.getElem?_eq_getElem (by omega)]
  simp only [Option.getD_some]
  rcases Nat.lt_or_gt_of_ne hne with h | h
  · exact List.pairwise_iff_getElem.1 hnd i j _ _ h
  · exact (List.pairwise_iff_getElem.1 hnd j i _ _ h).symm
theorem ClsOK.err {p : List Int} {cs : List Cl} (hp : p.Perm (nats 9)) (hl : cs.length ≤ 9) (h : ClsOK p cs) (i : Nat) (hi : i < cs.length) : classErr cs i = 0 := by
  unfold classErr
  obtain ⟨h1, h2, h3⟩ := perm_at hp i (by omega)
  rw [h.name i hi, if_neg (by rw [sort_word _ h2 h3]; simp)]
  rw [if_neg, if_neg, if_neg]
  · have := (h.under i hi).2; omega
  · have := h.under i hi
    omega
  · rw [any_false]
    · simp
    intro y hy
    obtain ⟨j, hj, hjl, rfl⟩ := mem_take_getD cs zCl i y hy
    obtain ⟨g1, g2, g3⟩ := perm_at hp j (by omega)
    rw [h.name j hjl]
    exact sort_ne _ _ g2 g3 h2 h3 (perm_ne hp j i (by omega) (by omega) (by omega))

/-! ### headings -/
structure HdOK (nc n i : Nat) (w : Int) (x : Hd) : Prop where
  word : x.f0 = callAt w
  cls : -1 ≤ x.f1 ∧ x.f1 < nc
  see : x.f2 = -1 ∨ (0 ≤ x.f2 ∧ x.f2 < n ∧ x.f2 ≠ i)
  ptr : x.f2 ≠ -1 → x.f1 = -1 ∧ x.f3 = []
  idx : x.f2 = -1 → x.f1 = -1 → x.f3 ≠ []
  asc : x.f3.Pairwise (· < ·)
  also : ∀ y ∈ x.f3, 0 ≤ y ∧ y < n ∧ y ≠ i
def HdsOK (nc n : Nat) (ws : List Int) (hs : List Hd) : Prop := ∀ i, i < hs.length → HdOK nc n i (ws.getD i 0) (hs.getD i zHd)
theorem HdsOK.snoc {nc n : Nat} {ws : List Int} {hs : List Hd} {x : Hd} (h : HdsOK nc n ws hs) (hx : HdOK nc n hs.length (ws.getD hs.length 0) x) : HdsOK nc n ws (hs ++ [x]) := by
  intro i hi
  rw [List.length_append, List.length_singleton] at hi
  rcases Nat.lt_or_ge i hs.length with hlt | hge
  · rw [List.getD_eq_getElem?_getD (l := hs ++ [x]), List.getElem?_append_left hlt, ← List.getD_eq_getElem?_getD]; exact h i hlt
  · obtain rfl : i = hs.length := by omega
    rw [List.getD_eq_getElem?_getD (l := hs ++ [x]), List.getElem?_append_right (Nat.le_refl _), Nat.sub_self]
    exact hx
theorem asc_at {ws : List Int} {n : Nat} (h : Asc ws n) (i : Nat) (hi : i < ws.length) : 0 ≤ ws.getD i 0 ∧ ws.getD i 0 < n := by
  rw [List.getD_eq_getElem?_getD, List.getElem?_eq_getElem hi]
  exact h.mem _ (List.getElem_mem hi)
theorem asc_lt {ws : List Int} (h : ws.Pairwise (· < ·)) (i j : Nat) (hij : i < j) (hj : j < ws.length) : ws.getD i 0 < ws.getD j 0 := by
  rw [List.getD_eq_getElem?_getD, List.getElem?_eq_getElem (by omega), List.getD_eq_getElem?_getD, List.getElem?_eq_getElem hj]
  exact List.pairwise_iff_getElem.1 h i j (by omega) hj hij
theorem alsoErr_zero {n i : Nat} {l : List Int} (hl : l.Pairwise (· < ·)) (hm : ∀ y ∈ l, 0 ≤ y ∧ y < n ∧ y ≠ i) : ∀ (m k : Nat), k + m ≤ l.length → alsoErr n i l m k = 0
  | 0, k, _ => rfl
  | m + 1, k, h => by
    have hk : k < l.length := by omega
    have hmem : l.getD k 0 ∈ l := by rw [List.getD_eq_getElem?_getD, List.getElem?_eq_getElem hk]; exact List.getElem_mem hk
    have h1 := hm _ hmem
    unfold alsoErr
    rw [if_neg (by omega), if_neg (by omega), if_neg, alsoErr_zero hl hm m (k + 1) (by omega)]
    rintro ⟨h2, h3⟩
    have := asc_lt hl (k - 1) k (by omega) hk
    omega
theorem HdsOK.err {nc : Nat} {cs : List Cl} {ws : List Int} {hs : List Hd} (hw : Asc ws 16) (hc : cs.length = nc) (hn : hs.length = ws.length) (h : HdsOK nc hs.length ws hs) (i : Nat) (hi : i < hs.length) : headErr cs hs i = 0 := by
  have hx := h i hi
  obtain ⟨w0, w1⟩ := asc_at hw i (by omega)
  unfold headErr
  rw [hx.word, if_neg (by rw [call_word _ w0 (by omega)]; simp)]
  rw [if_neg]
  · rw [if_neg]
    · rw [if_neg (by have := hx.cls; omega), if_neg (by have := hx.see; omega), if_neg (by have := hx.see; omega), if_neg, ]
      · unfold kindErr
        rw [if_neg]
        rintro (⟨h1, h2⟩ | ⟨h1, h2, h3⟩)
        · have := hx.ptr h1
          rw [this.2] at h2
          rcases h2 with h2 | h2
          · exact h2 this.1
          · simp at h2
        · exact hx.idx h1 h2 (List.length_eq_zero_iff.1 h3)
      · rw [alsoErr_zero hx.asc hx.also _ _ (by omega)]
        simp
    · rintro ⟨h0, h1⟩
      have hy := h (i - 1) (by omega)
      rw [hy.word, (call_lt _ _ (asc_at hw (i - 1) (by omega)).1 (by omega) (asc_lt hw.lt (i - 1) i (by omega) (by omega))).2] at h1
      cases h1
  · rw [any_false]
    · simp
    intro y hy
    obtain ⟨j, hj, hjl, rfl⟩ := mem_take_getD hs zHd i y hy
    obtain ⟨g0, g1⟩ := asc_at hw j (by omega)
    have hlt := asc_lt hw.lt j i hj (by omega)
    rw [(h j hjl).word]
    exact call_ne _ _ g0 (by omega) w0 (by omega) (by omega)
theorem firstErr_none {g : Nat → Int} : ∀ (m i : Nat), (∀ j, i ≤ j → j < i + m → g j = 0) → firstErr g m i = 0
  | 0, i, _ => rfl
  | m + 1, i, h => by
    unfold firstErr
    rw [if_neg (by rw [h i (Nat.le_refl _) (by omega)]; simp)]
    exact firstErr_none m (i + 1) (fun j h1 h2 => h j (by omega) (by omega))
theorem made_valid {p : List Int} {cs : List Cl} {ws : List Int} {hs : List Hd} (hp : p.Perm (nats 9)) (hc6 : cs.length ≤ 6) (hh6 : hs.length ≤ 6) (hc : ClsOK p cs) (hw : Asc ws 16) (hn : hs.length = ws.length) (h : HdsOK cs.length hs.length ws hs) : checkT cs hs = 0 := by
  unfold checkT
  rw [if_neg (by omega), firstErr_none _ _ (fun j _ hj => hc.err hp (by omega) j (by omega)), if_neg (by simp), firstErr_none _ _ (fun j _ hj => h.err hw rfl hn j (by omega))]
end Go.Proofs.Ytfbimhnlcmdcpaa.Q
/- TradesOf gives trades, and they are valid. -/
namespace Go.Proofs.Ytfbimhnlcmdcpaa.Q
open Go.RowKit Go.Proofs.Ytfbimhnlcmdcpaa.Pa Go.Proofs.YtfbimhnlcmdcpaaW.PrintWords Go.Proofs.YtfbimhnlcmdcpaaW.PrintLast Go.Proofs.YtfbimhnlcmdcpaaW.PrintMore
set_option linter.unusedVariables false
set_option linter.unusedSimpArgs false

abbrev TRes := List Cl × List Hd × Int × Int
/-- The loop on headings comes to n headings that are in order. -/
def HRes (l : List Int) (ws : List Int) (cs : List Cl) (n : Nat) (g : Nat → Option TRes) : Prop :=
  ∃ hs a s, Ev g (cs, hs, a, s) ∧ hs.length = n ∧ HdsOK cs.length n ws hs ∧ DOK l a
theorem HRes.step {l ws : List Int} {cs : List Cl} {n : Nat} {g f : Nat → Option TRes} (h : ∀ k, g (k + 1) = f k) (hf : HRes l ws cs n f) : HRes l ws cs n g := by
  obtain ⟨hs, a, s, he, h1, h2, h3⟩ := hf
  exact ⟨hs, a, s, Ev.step h he, h1, h2, h3⟩
theorem HRes.congr {l ws : List Int} {cs : List Cl} {n : Nat} {g f : Nat → Option TRes} (h : ∀ k, g k = f k) (hf : HRes l ws cs n f) : HRes l ws cs n g := by
  obtain ⟨hs, a, s, he, h1, h2, h3⟩ := hf
  exact ⟨hs, a, s, Ev.congr h he, h1, h2, h3⟩

structure Env (l : List Int) (ws : List Int) (cs : List Cl) (n : Nat) : Prop where
  asc : Asc ws 16
  len : ws.length = n
  pos : 1 ≤ cs.length
  le : cs.length ≤ 6
  n6 : n ≤ 6

/-- What is laid for heading i so far. -/
theorem l2_ok {l ws : List Int} {cs : List Cl} {n : Nat} (E : Env l ws cs n) (i : Nat) (hi : i < n) (hs : List Hd) (hl : hs.length = i) (hok : HdsOK cs.length n ws hs) (u : Int) (hu0 : 0 ≤ u) (hu1 : u < cs.length)
    (ih : ∀ hs' a s, hs'.length = i + 1 → HdsOK cs.length n ws hs' → DOK l a → HRes l ws cs n (fun k => wayzgoosekit_TradesOf.l1 k ws n ((i : Int) + 1) l a s cs hs')) :
    ∀ (e j : Nat) (ul : List Int) (a s : Int), j + e = n → ul.Pairwise (· < ·) → (∀ y ∈ ul, 0 ≤ y ∧ y < j ∧ y ≠ i) → ul.length ≤ j → DOK l a →
      HRes l ws cs n (fun k => wayzgoosekit_TradesOf.l2 k ws n i j l a s cs hs (callAt (ws.getD i 0)) u (-1) ul) := by
  have hn6 := E.n6
  have hws := E.len
  intro e
  induction e with
  | zero =>
    intro j ul a s hj hp hm hul hd
    obtain rfl : j = n := by omega
    have hfin : ∀ c : Int, (c = u ∨ (c = -1 ∧ ul ≠ [])) → HdsOK cs.length j ws (hs ++ [⟨callAt (ws.getD i 0), c, -1, ul⟩]) := by
      intro c hc
      refine HdsOK.snoc hok ?_
      rw [hl]
      refine ⟨rfl, by show -1 ≤ c ∧ c < _; omega, .inl rfl, fun h => absurd rfl h, fun _ h1 => ?_, hp, fun y hy => hm y hy⟩
      rcases hc with hc | hc
      · have h1 : c = -1 := h1
        omega
      · exact hc.2
    by_cases c : (ul.length : Int) > 0
    · obtain ⟨b, a', s', hr, hd'⟩ := once_ok (s := s) (n := 4) hd (by omega) (by omega)
      have hne : ul ≠ [] := by rintro rfl; simp at c
      cases b with
      | true =>
        refine HRes.step (fun k => ?_) (ih (hs ++ [⟨callAt (ws.getD i 0), -1, -1, ul⟩]) a' s' (by simp [hl]) (hfin (-1) (.inr ⟨rfl, hne⟩)) hd')
        simp only [wayzgoosekit_TradesOf.l2]
        rw [if_neg (by omega), if_pos c, hr]
        simp only [Option.bind_some, if_true]
        rw [if_pos (by omega), w64s (by omega) (by omega)]
      | false =>
        refine HRes.step (fun k => ?_) (ih (hs ++ [⟨callAt (ws.getD i 0), u, -1, ul⟩]) a' s' (by simp [hl]) (hfin u (.inl rfl)) hd')
        simp only [wayzgoosekit_TradesOf.l2]
        rw [if_neg (by omega), if_pos c, hr]
        simp only [Option.bind_some, Bool.false_eq_true, if_false]
        rw [if_pos (by omega), w64s (by omega) (by omega)]
    · refine HRes.step (fun k => ?_) (ih (hs ++ [⟨callAt (ws.getD i 0), u, -1, ul⟩]) a s (by simp [hl]) (hfin u (.inl rfl)) hd)
      simp only [wayzgoosekit_TradesOf.l2]
      rw [if_neg (by omega), if_neg c, if_pos (by omega), w64s (by omega) (by omega)]
  | succ e ihe =>
    intro j ul a s hj hp hm hul hd
    by_cases c : (j : Int) = i
    · refine HRes.step (fun k => ?_) (ihe (j + 1) ul a s (by omega) hp (fun y hy => by have := hm y hy; omega) (by omega) hd)
      simp only [wayzgoosekit_TradesOf.l2]
      rw [if_pos (by omega), if_pos c, w64s (by omega) (by omega)]
      rfl
    · obtain ⟨b, a', s', hr, hd'⟩ := once_ok (s := s) (n := 4) hd (by omega) (by omega)
      cases b with
      | true =>
        refine HRes.step (fun k => ?_) (ihe (j + 1) (ul ++ [(j : Int)]) a' s' (by omega) ?_ ?_ (by simp; omega) hd')
        · simp only [wayzgoosekit_TradesOf.l2]
          rw [if_pos (by omega), if_neg c, hr]
          simp only [Option.bind_some, if_true]
          rw [if_pos (by omega), w64s (by omega) (by omega)]
          rfl
        · rw [List.pairwise_append]
          refine ⟨hp, by simp, fun x hx y hy => ?_⟩
          rw [List.mem_singleton.1 hy]
          exact (hm x hx).2.1
        · intro y hy
          rcases List.mem_append.1 hy with hy | hy
          · have := hm y hy; omega
          · rw [List.mem_singleton.1 hy]; omega
      | false =>
        refine HRes.step (fun k => ?_) (ihe (j + 1) ul a' s' (by omega) hp (fun y hy => by have := hm y hy; omega) (by omega) hd')
        simp only [wayzgoosekit_TradesOf.l2]
        rw [if_pos (by omega), if_neg c, hr]
        simp only [Option.bind_some, Bool.false_eq_true, if_false]
        rw [w64s (by omega) (by omega)]
        rfl
theorem j2_ok {l ws : List Int} {cs : List Cl} {n : Nat} (E : Env l ws cs n) (i : Nat) (hi : i < n) (hs : List Hd) (hl : hs.length = i) (hok : HdsOK cs.length n ws hs) (u : Int) (hu0 : 0 ≤ u) (hu1 : u < cs.length) (b : Bool) (hb : b = true → 2 ≤ n) (a s : Int) (hd : DOK l a)
    (ih : ∀ hs' a s, hs'.length = i + 1 → HdsOK cs.length n ws hs' → DOK l a → HRes l ws cs n (fun k => wayzgoosekit_TradesOf.l1 k ws n ((i : Int) + 1) l a s cs hs')) :
    HRes l ws cs n (fun k => wayzgoosekit_TradesOf.j2 k ws n i b l a s cs hs (callAt (ws.getD i 0)) u (-1)) := by
  have hn6 := E.n6
  cases b with
  | true =>
    have hn2 := hb rfl
    obtain ⟨y, a', s', hr, y0, y1, hd'⟩ := to_ok' (s := s) (n := (n : Int) - 2) hd (by omega) (by omega)
    have e1 : wrap64 ((n : Int) - 2) = (n : Int) - 2 := w64s (by omega) (by omega)
    have e2 : wrap64 ((i : Int) + 1) = (i : Int) + 1 := w64s (by omega) (by omega)
    have e3 : wrap64 ((i : Int) + 1 + y) = (i : Int) + 1 + y := w64s (by omega) (by omega)
    have e4 : ((i : Int) + 1 + y).tmod n = ((i : Int) + 1 + y) % n := Int.tmod_eq_emod_of_nonneg (by omega)
    have h3 := Int.emod_nonneg ((i : Int) + 1 + y) (show (n : Int) ≠ 0 by omega)
    have h4 := Int.emod_lt_of_pos ((i : Int) + 1 + y) (show 0 < (n : Int) by omega)
    have h5 : ((i : Int) + 1 + y) % n ≠ i := by
      rcases (show ((i : Int) + 1 + y) < n ∨ (n : Int) ≤ (i : Int) + 1 + y by omega) with hlt | hge
      · rw [Int.emod_eq_of_lt (by omega) hlt]; omega
      · rw [← Int.sub_emod_right, Int.emod_eq_of_lt (by omega) (by omega)]; omega
    refine HRes.step (fun k => ?_) (ih (hs ++ [⟨callAt (ws.getD i 0), -1, ((i : Int) + 1 + y) % n, []⟩]) a' s' (by simp [hl]) ?_ hd')
    · simp only [wayzgoosekit_TradesOf.j2, if_true]
      rw [e1, hr]
      simp only [Option.bind_some]
      rw [if_neg (by omega), if_pos (by omega), e2, e3, e4]
    · refine HdsOK.snoc hok ?_
      rw [hl]
      exact ⟨rfl, by show (-1 : Int) ≤ -1 ∧ (-1 : Int) < (cs.length : Int); have := E.pos; omega, .inr ⟨h3, h4, h5⟩, fun _ => ⟨rfl, rfl⟩, fun h => by have h : ((i : Int) + 1 + y) % n = -1 := h; omega, List.Pairwise.nil, fun y hy => by simp at hy⟩
  | false =>
    refine HRes.step (fun k => ?_) (l2_ok E i hi hs hl hok u hu0 hu1 ih n 0 [] a s (by omega) List.Pairwise.nil (fun y hy => by simp at hy) (by simp) hd)
    simp only [wayzgoosekit_TradesOf.j2, Bool.false_eq_true, if_false]
    rfl
theorem l1_ok {l ws : List Int} {cs : List Cl} {n : Nat} (E : Env l ws cs n) : ∀ (d i : Nat) (hs : List Hd) (a s : Int), i + d = n → hs.length = i → HdsOK cs.length n ws hs → DOK l a → HRes l ws cs n (fun k => wayzgoosekit_TradesOf.l1 k ws n i l a s cs hs) := by
  have hn6 := E.n6
  have hws := E.len
  have hpos := E.pos
  have hle := E.le
  intro d
  induction d with
  | zero =>
    intro i hs a s hi hl hok hd
    refine ⟨hs, a, s, Ev.last (fun k => ?_), by omega, hok, hd⟩
    simp only [wayzgoosekit_TradesOf.l1]
    rw [if_neg (by omega)]
  | succ d ih =>
    intro i hs a s hi hl hok hd
    have ih' : ∀ hs' a s, hs'.length = i + 1 → HdsOK cs.length n ws hs' → DOK l a → HRes l ws cs n (fun k => wayzgoosekit_TradesOf.l1 k ws n ((i : Int) + 1) l a s cs hs') := fun hs' a s h1 h2 h3 => ih (i + 1) hs' a s (by omega) h1 h2 h3
    obtain ⟨w0, w1⟩ := asc_at E.asc i (by omega)
    have hrd : rd ws (i : Int) = ws.getD i 0 := by simp [rd]
    obtain ⟨u, a1, s1, hr, u0, u1, hd1⟩ := to_ok' (s := s) (n := (cs.length : Int) - 1) hd (by omega) (by omega)
    have e1 : wrap64 ((cs.length : Int) - 1) = (cs.length : Int) - 1 := w64s (by omega) (by omega)
    by_cases c : (n : Int) > 1
    · obtain ⟨b, a2, s2, ho, hd2⟩ := once_ok (s := s1) (n := 3) hd1 (by omega) (by omega)
      refine HRes.step (fun k => ?_) (j2_ok E i (by omega) hs hl hok u u0 (by omega) b (fun _ => by omega) a2 s2 hd2 ih')
      simp only [wayzgoosekit_TradesOf.l1]
      rw [if_pos (by omega), call_f]
      simp only [Option.bind_some]
      rw [if_pos (by omega), if_pos (by omega), hrd, if_pos w0, if_pos (by rw [call_len]; omega), e1, hr]
      simp only [Option.bind_some]
      rw [if_pos c, ho]
      rfl
    · refine HRes.step (fun k => ?_) (j2_ok E i (by omega) hs hl hok u u0 (by omega) false (fun h => by cases h) a1 s1 hd1 ih')
      simp only [wayzgoosekit_TradesOf.l1]
      rw [if_pos (by omega), call_f]
      simp only [Option.bind_some]
      rw [if_pos (by omega), if_pos (by omega), hrd, if_pos w0, if_pos (by rw [call_len]; omega), e1, hr]
      simp only [Option.bind_some]
      rw [if_neg c]
      rfl
/-- Made trades. -/
structure MadeT (cs : List Cl) (hs : List Hd) (c h : Int) : Prop where
  ok : checkT cs hs = 0
  pos : 1 ≤ cs.length
  cls : (cs.length : Int) ≤ c ∨ cs.length = 1
  hds : (hs.length : Int) ≤ h
theorem l0_ok {l : List Int} {p : List Int} (hp : p.Perm (nats 9)) (h : Int) (h0 : 0 ≤ h) (h6 : h ≤ 6) : ∀ (d : Nat) (cs : List Cl) (a s : Int), cs.length + d ≤ 6 → 1 ≤ cs.length + d → ClsOK p cs → DOK l a →
    ∃ cs' hs a' s', Ev (fun k => wayzgoosekit_TradesOf.l0 k h p d l a s cs) (cs', hs, a', s') ∧ checkT cs' hs = 0 ∧ cs'.length = cs.length + d ∧ (hs.length : Int) ≤ h ∧ DOK l a' := by
  intro d
  induction d with
  | zero =>
    intro cs a s hl hl1 hc hd
    obtain ⟨mh, a1, s1, hr, m0, m1, hd1⟩ := to_ok' (s := s) (n := h) hd (by omega) h0
    obtain ⟨ws, a2, s2, he, hw, hlen, hd2⟩ := part_ok (s := s1) 16 mh hd1 (by omega) (by omega) m0
    have hn6 : ws.length ≤ 6 := by omega
    obtain ⟨hs, a3, s3, he3, hl3, hok3, hd3⟩ := l1_ok (l := l) (ws := ws) (cs := cs) (n := ws.length) ⟨hw, rfl, by omega, by omega, hn6⟩ ws.length 0 [] a2 s2 (by omega) rfl (fun i hi => by simp at hi) hd2
    refine ⟨cs, hs, a3, s3, ?_, made_valid hp (by omega) (by omega) hc hw hl3 (by rw [hl3]; exact hok3), rfl, by omega, hd3⟩
    refine Ev.step (f := fun k => (wayzgoosekit_partOf.f k l a1 s1 16 mh).bind fun bt => wayzgoosekit_TradesOf.l1 k bt.1 (bt.1.length : Int) 0 l bt.2.1 bt.2.2 cs []) (fun k => ?_) (Ev.bind (f := fun k (bt : List Int × Int × Int) => wayzgoosekit_TradesOf.l1 k bt.1 (bt.1.length : Int) 0 l bt.2.1 bt.2.2 cs []) he he3)
    simp only [wayzgoosekit_TradesOf.l0]
    rw [if_neg (by omega), call_f]
    simp only [Option.bind_some]
    rw [hr]
    simp only [Option.bind_some, call_len]
    rfl
  | succ d ih =>
    intro cs a s hl hl1 hc hd
    obtain ⟨g1, g2, g3⟩ := perm_at hp cs.length (by omega)
    obtain ⟨u, a1, s1, hr, u0, u1, hd1⟩ := from_ok (s := s) (lo := -1) (hi := (cs.length : Int) - 1) hd (by omega) (by omega) (by omega) (by omega)
    have e1 : wrap64 ((cs.length : Int) - 1) = (cs.length : Int) - 1 := w64s (by omega) (by omega)
    have e2 : wrap64 (((d + 1 : Nat) : Int) - 1) = (d : Int) := by rw [w64s (by omega) (by omega)]; omega
    have hrd : rd p (cs.length : Int) = p.getD cs.length 0 := by simp [rd]
    have hl2 : (cs ++ [(⟨sortAt (p.getD cs.length 0), u⟩ : Cl)]).length = cs.length + 1 := by simp
    obtain ⟨cs', hs, a', s', he, h1, h2, h3, h4⟩ := ih (cs ++ [⟨sortAt (p.getD cs.length 0), u⟩]) a1 s1 (by omega) (by omega) (hc.snoc u (by omega) (by omega)) hd1
    refine ⟨cs', hs, a', s', Ev.step (fun k => ?_) he, h1, by omega, h3, h4⟩
    simp only [wayzgoosekit_TradesOf.l0]
    rw [if_pos (by omega), sorts_f]
    simp only [Option.bind_some]
    rw [if_pos (by omega), if_pos (by omega), hrd, if_pos g2, if_pos (by rw [sorts_len]; omega), e1, hr]
    simp only [Option.bind_some]
    rw [if_pos (by omega), e2]
    rfl
theorem tradesOf_ok {l : List Int} {a s c h : Int} (hd : DOK l a) (c1 : 1 ≤ c) (c6 : c ≤ 6) (h0 : 0 ≤ h) (h6 : h ≤ 6) : ∃ cs hs a' s', Ev (fun k => wayzgoosekit_TradesOf.f k l a s c h) (cs, hs, a', s') ∧ MadeT cs hs c h ∧ DOK l a' := by
  obtain ⟨p, a1, s1, he, hp, hd1⟩ := order_ok (s := s) 9 hd (by omega) (by omega)
  obtain ⟨m, a2, s2, hr, m0, m1, hd2⟩ := from_ok (s := s1) (lo := 1) (hi := c) hd1 (by omega) (by omega) (by omega) (by omega)
  obtain ⟨d, rfl⟩ : ∃ d : Nat, m = d := ⟨m.toNat, by omega⟩
  obtain ⟨cs, hs, a3, s3, he3, g1, g2, g3, g4⟩ := l0_ok (l := l) hp h h0 h6 d [] a2 s2 (by simp; omega) (by simp; omega) ⟨fun i hi => by simp at hi, fun i hi => by simp at hi⟩ hd2
  have g2 : cs.length = d := by simpa using g2
  refine ⟨cs, hs, a3, s3, ?_, ⟨g1, by omega, by omega, g3⟩, g4⟩
  refine Ev.congr (f := fun k => (wayzgoosekit_Dice_Order.f k l a s 9).bind fun bt => (wayzgoosekit_Dice_From.f l bt.2.1 bt.2.2 1 c).bind fun bt2 => wayzgoosekit_TradesOf.l0 k h bt.1 bt2.1 l bt2.2.1 bt2.2.2 []) (fun k => ?_) ?_
  · unfold wayzgoosekit_TradesOf.f
    rw [sorts_f]
    simp only [Option.bind_some, sorts_len]
    rfl
  · refine Ev.bind (f := fun k (bt : List Int × Int × Int) => (wayzgoosekit_Dice_From.f l bt.2.1 bt.2.2 1 c).bind fun bt2 => wayzgoosekit_TradesOf.l0 k h bt.1 bt2.1 l bt2.2.1 bt2.2.2 []) he ?_
    refine Ev.congr (fun k => ?_) he3
    simp only [hr, Option.bind_some]
theorem newDice_ok {l : List Int} (h : l.length * 8 ≤ 140737488351232) : DOK l 0 := ⟨by omega, by omega, by omega⟩
end Go.Proofs.Ytfbimhnlcmdcpaa.Q
namespace Go.Proofs.Ytfbimhnlcmdcpaa.Pa
open Go.RowKit Go.Proofs.YtfbimhnlcmdcpaaW.PrintWords Go.Proofs.YtfbimhnlcmdcpaaW.PrintLast Go.Proofs.YtfbimhnlcmdcpaaW.PrintMore
attribute [local go_sem] max2_int min2_int max_two min_two max_three min_three max_four min_four   -- for this text's walks alone
set_option linter.unusedVariables false
set_option linter.unusedSimpArgs false

/-! ### wayzgooselaw04_under: function 16 -/
mutual
def wayzgooselaw04_under.l0 : Nat → Int → Int → Int → List (S51) → List (S39) → Option (Bool)
  | 0, _, _, _, _, _ => none
  | k + 1, x1, x2, x7, x211000, x211001 => if x7 < (x211000.length : Int) then (wayzgooselaw04_under.j1 k x1 x2 x7 (decide (x1 ≥ 0)) x211000 x211001) else (wayzgooselaw04_under.j1 k x1 x2 x7 false x211000 x211001)
def wayzgooselaw04_under.j1 : Nat → Int → Int → Int → Bool → List (S51) → List (S39) → Option (Bool)
  | 0, _, _, _, _, _, _ => none
  | k + 1, x1, x2, x7, x16, x211000, x211001 => if x16 = true then (if x1 = x2 then (some true) else (if 0 ≤ x1 then (if x1 < (x211000.length : Int) then (wayzgooselaw04_under.l0 k ((rd_T51 x211000 x1).f1) x2 (wrap64 (x7 + 1)) x211000 x211001) else (none)) else (none))) else (some false)
end
def wayzgooselaw04_under.f (k : Nat) (l0_0 : List (S51)) (l0_1 : List (S39)) (a1 : Int) (a2 : Int) : Option (Bool) := wayzgooselaw04_under.l0 k a1 a2 0 l0_0 l0_1
theorem wayzgooselaw04_under.mono_l : ∀ k, (∀ y0 y1 y2 y3 y4, LeO (wayzgooselaw04_under.l0 k y0 y1 y2 y3 y4) (wayzgooselaw04_under.l0 (k + 1) y0 y1 y2 y3 y4)) ∧ (∀ y0 y1 y2 y3 y4 y5, LeO (wayzgooselaw04_under.j1 k y0 y1 y2 y3 y4 y5) (wayzgooselaw04_under.j1 (k + 1) y0 y1 y2 y3 y4 y5))
  | 0 => ⟨fun _ _ _ _ _ r h => by simp [wayzgooselaw04_under.l0] at h, fun _ _ _ _ _ _ r h => by simp [wayzgooselaw04_under.j1] at h⟩
  | k + 1 => by
    obtain ⟨ih0, ih1⟩ := wayzgooselaw04_under.mono_l k
    refine ⟨?_, ?_⟩
    · intro y0 y1 y2 y3 y4
      unfold wayzgooselaw04_under.l0
      repeat' first
      | (with_reducible exact ih0 _ _ _ _ _)
      | (with_reducible exact ih1 _ _ _ _ _ _)
      | (with_reducible exact LeO.refl _)
      | (with_reducible exact LeO.none _)
      | (with_reducible refine LeO.ite ?_ ?_)
      | (with_reducible refine LeO.bind ?_ (fun _ => ?_))
      | exact ih0 _ _ _ _ _
      | exact ih1 _ _ _ _ _ _
      | exact LeO.none _
      | refine LeO.ite ?_ ?_
      | refine LeO.bind ?_ (fun _ => ?_)
    · intro y0 y1 y2 y3 y4 y5
      unfold wayzgooselaw04_under.j1
      repeat' first
      | (with_reducible exact ih0 _ _ _ _ _)
      | (with_reducible exact ih1 _ _ _ _ _ _)
      | (with_reducible exact LeO.refl _)
      | (with_reducible exact LeO.none _)
      | (with_reducible refine LeO.ite ?_ ?_)
      | (with_reducible refine LeO.bind ?_ (fun _ => ?_))
      | exact ih0 _ _ _ _ _
      | exact ih1 _ _ _ _ _ _
      | exact LeO.none _
      | refine LeO.ite ?_ ?_
      | refine LeO.bind ?_ (fun _ => ?_)
theorem wayzgooselaw04_under.mono : ∀ a0 a1 a2 a3 k, LeO (wayzgooselaw04_under.f k a0 a1 a2 a3) (wayzgooselaw04_under.f (k + 1) a0 a1 a2 a3) := by
  intro a0 a1 a2 a3 k
  obtain ⟨ih0, ih1⟩ := wayzgooselaw04_under.mono_l k
  unfold wayzgooselaw04_under.f
  repeat' first
      | (with_reducible exact ih0 _ _ _ _ _)
      | (with_reducible exact ih1 _ _ _ _ _ _)
      | (with_reducible exact LeO.refl _)
      | (with_reducible exact LeO.none _)
      | (with_reducible refine LeO.ite ?_ ?_)
      | (with_reducible refine LeO.bind ?_ (fun _ => ?_))
      | exact ih0 _ _ _ _ _
      | exact ih1 _ _ _ _ _ _
      | exact LeO.none _
      | refine LeO.ite ?_ ?_
      | refine LeO.bind ?_ (fun _ => ?_)
set_option maxHeartbeats 8000000 in
set_option maxRecDepth 100000 in
theorem wayzgooselaw04_under.calls (k : Nat) (A0_0 : Option Addr) (c0_0 : Nat) (l0_0 : List (S51)) (A0_1 : Option Addr) (c0_1 : Nat) (l0_1 : List (S39)) (a1 : Int) (a2 : Int) (r : Bool) (w : World) (hr0_0 : Kd.C k51 w A0_0 l0_0.length l0_0) (hc0_0 : l0_0.length ≤ c0_0) (hr0_1 : Kd.C k39 w A0_1 l0_1.length l0_1) (hc0_1 : l0_1.length ≤ c0_1) (h : wayzgooselaw04_under.f k l0_0 l0_1 a1 a2 = some r) :
    Calls Try.prog 16 #[.agg #[.slice A0_0 l0_0.length c0_0, .slice A0_1 l0_1.length c0_1], .int .i64 a1, .int .i64 a2] w fun e w' => e = .returned (.bool r) ∧ Below w.heap.size w w' := by
  have hu26 := Try.underlying26
  have HR0_0 := Aside0.mk hr0_0
  have HC0_0 := Aside0.mk hc0_0
  clear hr0_0 hc0_0
  have HR0_1 := Aside0.mk hr0_1
  have HC0_1 := Aside0.mk hc0_1
  clear hr0_1 hc0_1
  have HB := Aside0.mk (Below.refl w.heap.size w)
  have H : (wayzgooselaw04_under.l0 k a1 a2 0 l0_0 l0_1) = some r := h
  clear h
  have H' := Aside0.mk H
  clear H
  go_enter Try.func16, Try.ntmps16
  go_wp2_with (first | ((with_reducible refine gate_dst (N := 3) rfl ?_); refine box_event ?hg (N := 3) ?hd (cs := #[.slice A0_0 l0_0.length c0_0, .slice A0_1 l0_1.length c0_1]) (t := 26) ?hr ?_; (case hd => rfl); (case hg => rfl); (case hr => first | (go_simp; done) | (go_simp; rfl)); intro gb210 hg w4 hbox hb; have n0_ := Aside0.mk (below_step (by repeat (first | (with_reducible first | exact HB.out | apply below_alloc | apply pw_below_drewN | apply below_drew1) | exact HB.out)) hb); have n1_ := Aside0.mk (hbox); have n2_ := Aside0.mk ((by rw [hg]; exact (below_size (by repeat (first | (with_reducible first | exact HB.out | apply below_alloc | apply pw_below_drewN | apply below_drew1) | exact HB.out))) : w.heap.size ≤ gb210)); have n3_ := Aside0.mk ((by rw [hg]; exact (below_size (by repeat (first | (with_reducible first | exact HB.out | apply below_alloc | apply pw_below_drewN | apply below_drew1) | exact HB.out))) : w.heap.size ≤ gb210)); clear HB; have HB := n0_; have BK210 := n1_; have GW210 := n2_; have GE210 := n3_; clear n0_ n1_ n2_ n3_; clear hb hbox hg))
  go_loopg [1, 7] k (fun kq v1 v7 w' => ∃ (x1_1 : Int) (x7_1 : Int), v1 = .int .i64 x1_1 ∧ v7 = .int .i64 x7_1 ∧ Aside0 (wayzgooselaw04_under.l0 kq x1_1 a2 x7_1 l0_0 l0_1 = some r) ∧ Aside0 (kq ≤ k) ∧ Aside0 (w'.heap[gb210]? = some (.cells #[(.slice A0_0 l0_0.length c0_0), (.slice A0_1 l0_1.length c0_1)] 26 (0, 0))) ∧ Aside0 (Below w.heap.size w w'))
  case atStart => exact ⟨(a1), (0), (by first | rfl | (simp; done) | (simp [*]; done)), (by first | rfl | (simp; done) | (simp [*]; done)), H', ⟨Nat.le_refl _⟩, ⟨by (with_reducible repeat (first | refine blk_drewN ?_ _ | refine blk_drew ?_ | refine blk_alloc ?_ _)); exact BK210.out⟩, ⟨by repeat (first | (with_reducible first | exact HB.out | apply below_alloc | apply pw_below_drewN | apply below_drew1 | refine below_set ?_ GE210.out) | exact HB.out)⟩⟩
  case round =>
    clear H'
    try clear c1
    try clear p2
    obtain ⟨x1_1, x7_1, rfl, rfl, HA, HK1, BK210, HB⟩ := hrel
    cases gk with
    | zero => exact absurd HA.out (by simp [wayzgooselaw04_under.l0])
    | succ k1 =>
      have H := HA.out
      clear HA
      simp only [wayzgooselaw04_under.l0] at H
      have HC5 := Aside0.mk H
      clear H
      go_upto_region 2 with (fail)
      go_cut [16] (fun v16 wc => ∃ (kq : Nat) (x16_4 : Bool), v16 = .bool x16_4 ∧ Aside0 (wayzgooselaw04_under.j1 kq x1_1 a2 x7_1 x16_4 l0_0 l0_1 = some r) ∧ Aside0 (kq ≤ k1) ∧ Aside0 (wc.heap[gb210]? = some (.cells #[(.slice A0_0 l0_0.length c0_0), (.slice A0_1 l0_1.length c0_1)] 26 (0, 0))) ∧ Aside0 (Below w.heap.size w wc))
      case first =>
        have H := HC5.out
        clear HC5
        by_cases c6 : x7_1 < (l0_0.length : Int)
        · rw [if_pos c6] at H
          have c6b0 : decide (x7_1 < (l0_0.length : Int)) = true := decide_eq_true c6
          clear c6
          (first | rw [c6b0] | (simp only [i64_w, i32_w]; rw [c6b0]) | skip)
          have H' := Aside0.mk H
          clear H
          have hcz7_0 : wr.cell? ⟨gb210, 0, none⟩ = some (.slice A0_0 l0_0.length c0_0) := (blk_cell BK210.out 0).trans rfl
          have hcz7_1 : wr.cell? ⟨gb210, 1, none⟩ = some (.slice A0_1 l0_1.length c0_1) := (blk_cell BK210.out 1).trans rfl
          have hfz7_0 := blk_frozen BK210.out 0
          have hfz7_1 := blk_frozen BK210.out 1
          go_wp2
          go_meet
          case rel => exact ⟨_, (decide (x1_1 ≥ 0)), (by first | rfl | (simp; done) | (simp [*]; done)), H', ⟨by have := HK1.out; first | omega | exact Nat.le_refl _⟩, ⟨by (with_reducible repeat (first | refine blk_drewN ?_ _ | refine blk_drew ?_ | refine blk_alloc ?_ _)); exact BK210.out⟩, ⟨by repeat (first | (with_reducible first | exact HB.out | apply below_alloc | apply pw_below_drewN | apply below_drew1 | refine below_set ?_ GE210.out) | exact HB.out)⟩⟩
        · rw [if_neg c6] at H
          have c6b0 : decide (x7_1 < (l0_0.length : Int)) = false := decide_eq_false c6
          clear c6
          (first | rw [c6b0] | (simp only [i64_w, i32_w]; rw [c6b0]) | skip)
          have H' := Aside0.mk H
          clear H
          have hcz8_0 : wr.cell? ⟨gb210, 0, none⟩ = some (.slice A0_0 l0_0.length c0_0) := (blk_cell BK210.out 0).trans rfl
          have hcz8_1 : wr.cell? ⟨gb210, 1, none⟩ = some (.slice A0_1 l0_1.length c0_1) := (blk_cell BK210.out 1).trans rfl
          have hfz8_0 := blk_frozen BK210.out 0
          have hfz8_1 := blk_frozen BK210.out 1
          go_wp2
          go_meet
          case rel => exact ⟨_, (false), (by first | rfl | (simp; done) | (simp [*]; done)), H', ⟨by have := HK1.out; first | omega | exact Nat.le_refl _⟩, ⟨by (with_reducible repeat (first | refine blk_drewN ?_ _ | refine blk_drew ?_ | refine blk_alloc ?_ _)); exact BK210.out⟩, ⟨by repeat (first | (with_reducible first | exact HB.out | apply below_alloc | apply pw_below_drewN | apply below_drew1 | refine below_set ?_ GE210.out) | exact HB.out)⟩⟩
      case rest =>
        clear HC5
        try clear c1
        try clear p2
        try clear c6
        try clear c6b0
        try clear hcz7_0
        try clear hcz7_1
        try clear hcz8_0
        try clear hcz8_1
        try clear hfz7_0
        try clear hfz7_1
        try clear hfz8_0
        try clear hfz8_1
        try clear p2
        obtain ⟨kq, x16_4, rfl, HA, HJ4, BK210, HB⟩ := hcut
        cases kq with
        | zero => exact absurd HA.out (by simp [wayzgooselaw04_under.j1])
        | succ kj4 =>
          have H := HA.out
          clear HA
          simp only [wayzgooselaw04_under.j1] at H
          by_cases c9 : x16_4 = true
          · subst c9
            have H1 : (if x1_1 = a2 then (some true) else (if 0 ≤ x1_1 then (if x1_1 < (l0_0.length : Int) then (wayzgooselaw04_under.l0 kj4 ((rd_T51 l0_0 x1_1).f1) a2 (wrap64 (x7_1 + 1)) l0_0 l0_1) else (none)) else (none))) = some r := by rw [if_pos rfl] at H; exact H
            clear H
            have H := H1
            clear H1
            by_cases c10 : x1_1 = a2
            · rw [if_pos c10] at H
              have c10b0 : (x1_1 == a2) = true := beq_iff_eq.mpr c10
              have c10b1 : (x1_1 != a2) = false := bne_eq_false_iff_eq.mpr c10
              clear c10
              obtain rfl := Option.some.inj H
              go_wp2
              go_ret
              exact ⟨by first | rfl | (simp [errW_none, errW_some] <;> rfl) | (simp [*, errW_none, errW_some] <;> rfl), by repeat (first | (with_reducible first | exact HB.out | apply below_alloc | apply pw_below_drewN | apply below_drew1 | refine below_set ?_ GE210.out) | exact HB.out)⟩
            · rw [if_neg c10] at H
              have c10b0 : (x1_1 == a2) = false := beq_eq_false_iff_ne.mpr c10
              have c10b1 : (x1_1 != a2) = true := bne_iff_ne.mpr c10
              by_cases c11 : 0 ≤ x1_1
              · rw [if_pos c11] at H
                have c11b0 : decide (0 ≤ x1_1) = true := decide_eq_true c11
                clear c11
                by_cases c12 : x1_1 < (l0_0.length : Int)
                · rw [if_pos c12] at H
                  have c12b0 : decide (x1_1 < (l0_0.length : Int)) = true := decide_eq_true c12
                  clear c12
                  have H' := Aside0.mk H
                  clear H
                  have hcz13_0 : wc.cell? ⟨gb210, 0, none⟩ = some (.slice A0_0 l0_0.length c0_0) := (blk_cell BK210.out 0).trans rfl
                  have hcz13_1 : wc.cell? ⟨gb210, 1, none⟩ = some (.slice A0_1 l0_1.length c0_1) := (blk_cell BK210.out 1).trans rfl
                  have hfz13_0 := blk_frozen BK210.out 0
                  have hfz13_1 := blk_frozen BK210.out 1
                  have p211 : 0 ≤ (x1_1 : Int) := of_decide_eq_true (by first | (with_reducible assumption) | assumption)
                  have q211 : x1_1 < (l0_0.length : Int) := of_decide_eq_true (by first | (with_reducible assumption) | assumption)
                  obtain ⟨ad211, e211, hx211_0, hx211_1⟩ := at_T51 HR0_0.out x1_1 p211 q211
                  cases e211
                  replace hx211_0 := (HB.out.cell (World.block_lt_of_cell? w _ hx211_0)).trans hx211_0
                  replace hx211_1 := (HB.out.cell (World.block_lt_of_cell? w _ hx211_1)).trans hx211_1
                  replace p211 := eq_true p211
                  replace q211 := eq_true q211
                  go_wp2
                  go_roundg kj4
                  case measure => have := HK1.out; have := HJ4.out; omega
                  case rel => exact ⟨((rd_T51 l0_0 x1_1).f1), (wrap64 (x7_1 + 1)), (by first | rfl | (simp; done) | (simp [*]; done)), (by first | rfl | (simp; done) | (simp [*]; done)), H', ⟨by have := HK1.out; have := HJ4.out; omega⟩, ⟨by (with_reducible repeat (first | refine blk_drewN ?_ _ | refine blk_drew ?_ | refine blk_alloc ?_ _)); exact BK210.out⟩, ⟨by repeat (first | (with_reducible first | exact HB.out | apply below_alloc | apply pw_below_drewN | apply below_drew1 | refine below_set ?_ GE210.out) | exact HB.out)⟩⟩
                · rw [if_neg c12] at H
                  exact absurd H (by simp)
              · rw [if_neg c11] at H
                exact absurd H (by simp)
          · replace c9 := Bool.eq_false_iff.mpr c9
            subst c9
            have H1 : (some false) = some r := by rw [if_neg (show ¬ (false = true) by decide)] at H; exact H
            clear H
            have H := H1
            clear H1
            obtain rfl := Option.some.inj H
            go_wp2
            go_ret
            exact ⟨by first | rfl | (simp [errW_none, errW_some] <;> rfl) | (simp [*, errW_none, errW_some] <;> rfl), by repeat (first | (with_reducible first | exact HB.out | apply below_alloc | apply pw_below_drewN | apply below_drew1 | refine below_set ?_ GE210.out) | exact HB.out)⟩

end Go.Proofs.Ytfbimhnlcmdcpaa.Pa
/- Classes above classes: plain facts, and what the statements' 'under' computes. -/
namespace Go.Proofs.Ytfbimhnlcmdcpaa.Q
open Go.RowKit Go.Proofs.Ytfbimhnlcmdcpaa.Pa Go.Proofs.YtfbimhnlcmdcpaaW.PrintWords Go.Proofs.YtfbimhnlcmdcpaaW.PrintLast Go.Proofs.YtfbimhnlcmdcpaaW.PrintMore
set_option linter.unusedVariables false
set_option linter.unusedSimpArgs false

def Unders (cs : List Cl) : Prop := ∀ i, i < cs.length → -1 ≤ (cs.getD i zCl).f1 ∧ (cs.getD i zCl).f1 < (i : Int)
theorem firstErr_all {g : Nat → Int} : ∀ {m i : Nat}, firstErr g m i = 0 → ∀ j, i ≤ j → j < i + m → g j = 0
  | 0, i, _, j, h1, h2 => by omega
  | m + 1, i, h, j, h1, h2 => by
    unfold firstErr at h
    by_cases hz : g i = 0
    · rw [if_neg (by omega)] at h
      by_cases hj : j = i
      · rw [hj]; exact hz
      · exact firstErr_all h j (by omega) (by omega)
    · rw [if_pos hz] at h
      exact absurd h hz
theorem check_parts {cs : List Cl} {hs : List Hd} (h : checkT cs hs = 0) : cs.length ≤ 6 ∧ hs.length ≤ 6 ∧ (∀ i, i < cs.length → classErr cs i = 0) ∧ (∀ i, i < hs.length → headErr cs hs i = 0) := by
  unfold checkT at h
  split at h
  · omega
  · split at h
    · rename_i h1; exact absurd h h1
    · refine ⟨by omega, by omega, fun i hi => firstErr_all (by omega : firstErr (classErr cs) cs.length 0 = 0) i (by omega) (by omega), fun i hi => firstErr_all h i (by omega) (by omega)⟩
theorem check_unders {cs : List Cl} {hs : List Hd} (h : checkT cs hs = 0) : Unders cs := by
  intro i hi
  have h := (check_parts h).2.2.1 i hi
  unfold classErr at h
  split at h
  · omega
  · split at h
    · omega
    · split at h
      · omega
      · split at h
        · omega
        · rename_i c d
          exact ⟨by omega, by omega⟩
theorem upT_neg (cs : List Cl) (k : Nat) (a b : Int) (h : a < 0) : upT cs k a b = false := by
  cases k with
  | zero => rfl
  | succ k => rw [upT, if_pos h]
theorem upT_fuel {cs : List Cl} (hu : Unders cs) (b : Int) : ∀ (i k k' : Nat), i < cs.length → i < k → i < k' → upT cs k i b = upT cs k' i b := by
  intro i
  induction i using Nat.strongRecOn with
  | ind i ih =>
    intro k k' hi hk hk'
    obtain ⟨k, rfl⟩ : ∃ m, k = m + 1 := ⟨k - 1, by omega⟩
    obtain ⟨k', rfl⟩ : ∃ m, k' = m + 1 := ⟨k' - 1, by omega⟩
    rw [upT, upT]
    simp only [Int.toNat_natCast]
    by_cases h0 : 0 ≤ (cs.getD i zCl).f1
    · have hlt := (hu i hi).2
      have e : (((cs.getD i zCl).f1.toNat : Nat) : Int) = (cs.getD i zCl).f1 := by omega
      have := ih (cs.getD i zCl).f1.toNat (by omega) k k' (by omega) (by omega) (by omega)
      rw [e] at this
      rw [this]
    · rw [upT_neg cs k _ _ (by omega), upT_neg cs k' _ _ (by omega)]
theorem isUp_neg (cs : List Cl) (a b : Int) (h : a < 0) : isUp cs a b = false := upT_neg cs _ a b h
theorem isUp_step {cs : List Cl} (hu : Unders cs) (i : Nat) (hi : i < cs.length) (b : Int) : isUp cs i b = (decide ((i : Int) = b) || isUp cs (cs.getD i zCl).f1 b) := by
  unfold isUp
  rw [upT_fuel hu b i cs.length (cs.length + 1) hi hi (by omega), upT, if_neg (by omega), Int.toNat_natCast]
  by_cases c : (i : Int) = b
  · rw [if_pos c, decide_eq_true c]; rfl
  · rw [if_neg c, decide_eq_false c, Bool.false_or]
theorem isUp_le {cs : List Cl} (hu : Unders cs) : ∀ (i : Nat) (b : Int), i < cs.length → isUp cs i b = true → 0 ≤ b ∧ b ≤ i := by
  intro i
  induction i using Nat.strongRecOn with
  | ind i ih =>
    intro b hi h
    rw [isUp_step hu i hi] at h
    simp only [Bool.or_eq_true, decide_eq_true_eq] at h
    rcases h with h | h
    · omega
    · rcases (show (cs.getD i zCl).f1 < 0 ∨ 0 ≤ (cs.getD i zCl).f1 by omega) with hn | h0
      · rw [isUp_neg _ _ _ hn] at h; cases h
      · have hlt := (hu i hi).2
        rw [show (cs.getD i zCl).f1 = (((cs.getD i zCl).f1.toNat : Nat) : Int) by omega] at h
        have := ih (cs.getD i zCl).f1.toNat (by omega) b (by omega) h
        omega
/-- What is above a class is in line. -/
theorem isUp_line {cs : List Cl} (hu : Unders cs) : ∀ (i : Nat) (n c : Int), i < cs.length → isUp cs i n = true → isUp cs i c = true → c ≤ n → isUp cs n c = true := by
  intro i
  induction i using Nat.strongRecOn with
  | ind i ih =>
    intro n c hi hn hc hle
    have hn2 := hn
    rw [isUp_step hu i hi] at hn
    simp only [Bool.or_eq_true, decide_eq_true_eq] at hn
    rcases hn with rfl | hn
    · exact hc
    · have hlt := (hu i hi).2
      rcases (show (cs.getD i zCl).f1 < 0 ∨ 0 ≤ (cs.getD i zCl).f1 by omega) with h0 | h0
      · rw [isUp_neg _ _ _ h0] at hn; cases hn
      · have e : (cs.getD i zCl).f1 = (((cs.getD i zCl).f1.toNat : Nat) : Int) := by omega
        have hnle := (isUp_le hu (cs.getD i zCl).f1.toNat n (by omega) (e ▸ hn)).2
        rw [isUp_step hu i hi] at hc
        simp only [Bool.or_eq_true, decide_eq_true_eq] at hc
        rcases hc with hc | hc
        · omega
        · rw [e] at hn hc
          exact ih (cs.getD i zCl).f1.toNat (by omega) n c (by omega) hn hc hle
/-! ### the least class of two -/
theorem find_last (f : Int → Bool) : ∀ n : Nat, (((nats n).reverse.find? f).getD (-1) = -1 ∧ ∀ c : Int, 0 ≤ c → c < n → f c = false) ∨ (∃ m : Nat, m < n ∧ ((nats n).reverse.find? f).getD (-1) = m ∧ f m = true ∧ ∀ c : Int, (m : Int) < c → c < n → f c = false)
  | 0 => .inl ⟨rfl, fun c h0 h1 => by omega⟩
  | n + 1 => by
    rw [nats_snoc, List.reverse_append]
    simp only [List.reverse_cons, List.reverse_nil, List.nil_append, List.cons_append, List.find?_cons]
    cases hf : f (n : Int) with
    | true =>
      exact .inr ⟨n, by omega, rfl, hf, fun c h1 h2 => by omega⟩
    | false =>
      rcases find_last f n with ⟨h1, h2⟩ | ⟨m, h1, h2, h3, h4⟩
      · refine .inl ⟨h1, fun c h0 hc => ?_⟩
        by_cases e : c = n
        · rw [e]; exact hf
        · exact h2 c h0 (by omega)
      · refine .inr ⟨m, by omega, h2, h3, fun c h0 hc => ?_⟩
        by_cases e : c = n
        · rw [e]; exact hf
        · exact h4 c h0 (by omega)
theorem least_spec {cs : List Cl} (hu : Unders cs) (a b : Nat) (ha : a < cs.length) (hb : b < cs.length) :
    (leastT cs a b = -1 ∧ ∀ c : Int, isUp cs a c = true → isUp cs b c = true → False) ∨
    (∃ m : Nat, leastT cs a b = m ∧ m < cs.length ∧ isUp cs a m = true ∧ isUp cs b m = true ∧ ∀ c : Int, isUp cs a c = true → isUp cs b c = true → isUp cs m c = true) := by
  rcases find_last (fun c => isUp cs a c && isUp cs b c) cs.length with ⟨h1, h2⟩ | ⟨m, h1, h2, h3, h4⟩
  · refine .inl ⟨h1, fun c hc hc2 => ?_⟩
    have := isUp_le hu a c ha hc
    have h := h2 c this.1 (by omega)
    simp [hc, hc2] at h
  · simp only [Bool.and_eq_true] at h3
    refine .inr ⟨m, h2, h1, h3.1, h3.2, fun c hc hc2 => ?_⟩
    have hle := isUp_le hu a c ha hc
    refine isUp_line hu a m c ha h3.1 hc ?_
    rcases (show c ≤ (m : Int) ∨ (m : Int) < c by omega) with h | h
    · exact h
    · have h := h4 c h (by omega)
      simp [hc, hc2] at h

/-! ### the statements' own 'under' -/
end Go.Proofs.Ytfbimhnlcmdcpaa.Q
/- What valid trades say of each heading. -/
namespace Go.Proofs.Ytfbimhnlcmdcpaa.Q
open Go.RowKit Go.Proofs.Ytfbimhnlcmdcpaa.Pa Go.Proofs.YtfbimhnlcmdcpaaW.PrintWords Go.Proofs.YtfbimhnlcmdcpaaW.PrintLast Go.Proofs.YtfbimhnlcmdcpaaW.PrintMore
set_option linter.unusedVariables false
set_option linter.unusedSimpArgs false

theorem clause_parts {cs : List Cl} {i : Nat} (h : classErr cs i = 0) : wordOk (cs.getD i zCl).f0 = true ∧ (cs.take i).any (fun y => sEq y.f0 (cs.getD i zCl).f0) = false ∧ -1 ≤ (cs.getD i zCl).f1 ∧ (cs.getD i zCl).f1 < (i : Int) := by
  unfold classErr at h
  split at h
  · omega
  · split at h
    · omega
    · split at h
      · omega
      · split at h
        · omega
        · rename_i a b c d
          refine ⟨by simpa using a, by simpa using b, by omega, by omega⟩
theorem also_parts {n i : Nat} {l : List Int} : ∀ {m k : Nat}, alsoErr n i l m k = 0 → ∀ j, k ≤ j → j < k + m → (0 ≤ l.getD j 0 ∧ l.getD j 0 < (n : Int) ∧ l.getD j 0 ≠ (i : Int) ∧ (0 < j → l.getD (j - 1) 0 < l.getD j 0))
  | 0, k, _, j, h1, h2 => by omega
  | m + 1, k, h, j, h1, h2 => by
    unfold alsoErr at h
    split at h
    · omega
    · split at h
      · omega
      · split at h
        · omega
        · rename_i a b c
          by_cases hj : j = k
          · subst hj
            refine ⟨by omega, by omega, by omega, fun h0 => ?_⟩
            have : ¬ l.getD j 0 ≤ l.getD (j - 1) 0 := fun h3 => c ⟨h0, h3⟩
            omega
          · exact also_parts h j (by omega) (by omega)
structure HeadV (cs : List Cl) (hs : List Hd) (i : Nat) (x : Hd) : Prop where
  word : wordOk x.f0 = true
  new : (hs.take i).any (fun y => sEq y.f0 x.f0) = false
  sorted : 0 < i → sLt x.f0 (hs.getD (i - 1) zHd).f0 = false
  cls : -1 ≤ x.f1 ∧ x.f1 < cs.length
  see : -1 ≤ x.f2 ∧ x.f2 < hs.length ∧ x.f2 ≠ i
  also : ∀ j, j < x.f3.length → (0 ≤ x.f3.getD j 0 ∧ x.f3.getD j 0 < (hs.length : Int) ∧ x.f3.getD j 0 ≠ (i : Int) ∧ (0 < j → x.f3.getD (j - 1) 0 < x.f3.getD j 0))
  ptr : x.f2 ≠ -1 → x.f1 = -1 ∧ x.f3 = []
  other : x.f2 = -1 → x.f1 = -1 → x.f3 ≠ []
theorem head_parts {cs : List Cl} {hs : List Hd} {i : Nat} (h : headErr cs hs i = 0) : HeadV cs hs i (hs.getD i zHd) := by
  unfold headErr at h
  by_cases a1 : wordOk (hs.getD i zHd).f0 = false
  · rw [if_pos a1] at h; omega
  · rw [if_neg a1] at h
    by_cases a2 : (hs.take i).any (fun y => sEq y.f0 (hs.getD i zHd).f0) = true
    · rw [if_pos a2] at h; omega
    · rw [if_neg a2] at h
      by_cases a3 : 0 < i ∧ sLt (hs.getD i zHd).f0 (hs.getD (i - 1) zHd).f0 = true
      · rw [if_pos a3] at h; omega
      · rw [if_neg a3] at h
        by_cases a4 : ¬ (-1 ≤ (hs.getD i zHd).f1 ∧ (hs.getD i zHd).f1 ≤ (cs.length : Int) - 1)
        · rw [if_pos a4] at h; omega
        · rw [if_neg a4] at h
          by_cases a5 : ¬ (-1 ≤ (hs.getD i zHd).f2 ∧ (hs.getD i zHd).f2 ≤ (hs.length : Int) - 1)
          · rw [if_pos a5] at h; omega
          · rw [if_neg a5] at h
            by_cases a6 : (hs.getD i zHd).f2 = (i : Int)
            · rw [if_pos a6] at h; omega
            · rw [if_neg a6] at h
              by_cases a7 : alsoErr hs.length i (hs.getD i zHd).f3 (hs.getD i zHd).f3.length 0 ≠ 0
              · rw [if_pos a7] at h; exact absurd h a7
              · rw [if_neg a7] at h
                unfold kindErr at h
                split at h
                · omega
                · rename_i a8
                  refine ⟨by simpa using a1, by simpa using a2, fun h0 => ?_, by omega, by omega, fun j hj => also_parts (by omega : alsoErr hs.length i (hs.getD i zHd).f3 (hs.getD i zHd).f3.length 0 = 0) j (by omega) (by omega), fun h2 => ?_, fun h2 h1 h3 => ?_⟩
                  · have : ¬ sLt (hs.getD i zHd).f0 (hs.getD (i - 1) zHd).f0 = true := fun h3 => a3 ⟨h0, h3⟩
                    simpa using this
                  · have h4 : ¬ ((hs.getD i zHd).f1 ≠ -1 ∨ 0 < (hs.getD i zHd).f3.length) := fun h5 => a8 (.inl ⟨h2, h5⟩)
                    refine ⟨by omega, List.length_eq_zero_iff.1 (by omega)⟩
                  · exact a8 (.inr ⟨h2, h1, by rw [h3]; rfl⟩)
theorem check_head {cs : List Cl} {hs : List Hd} (h : checkT cs hs = 0) (i : Nat) (hi : i < hs.length) : HeadV cs hs i (hs.getD i zHd) := head_parts ((check_parts h).2.2.2 i hi)
theorem inN_true {h : Int} {n : Nat} (h0 : 0 ≤ h) (h1 : h < n) : inN h n = true := by
  unfold inN
  simp [h0, h1]
theorem rd_hd (hs : List Hd) (i : Nat) : rd_T39 hs i = hs.getD i zHd := by
  unfold rd_T39
  rw [Int.toNat_natCast]
end Go.Proofs.Ytfbimhnlcmdcpaa.Q
/- Numbers in order that have a property: counting them one after the other. -/
namespace Go.Proofs.Ytfbimhnlcmdcpaa.Q
open Go.RowKit Go.Proofs.Ytfbimhnlcmdcpaa.Pa Go.Proofs.YtfbimhnlcmdcpaaW.PrintWords Go.Proofs.YtfbimhnlcmdcpaaW.PrintLast Go.Proofs.YtfbimhnlcmdcpaaW.PrintMore
set_option linter.unusedVariables false
set_option linter.unusedSimpArgs false

theorem filt_succ (P : Int → Bool) (n : Nat) : (nats (n + 1)).filter P = (nats n).filter P ++ (if P n = true then [(n : Int)] else []) := by
  rw [nats_snoc, List.filter_append]
  cases h : P n <;> simp [h]
theorem rd_nat (l : List Int) (i : Nat) : rd l (i : Int) = l.getD i 0 := by
  unfold rd
  rw [Int.toNat_natCast]
end Go.Proofs.Ytfbimhnlcmdcpaa.Q
/- What makes trades valid, part by part. -/
namespace Go.Proofs.Ytfbimhnlcmdcpaa.Q
open Go.RowKit Go.Proofs.Ytfbimhnlcmdcpaa.Pa Go.Proofs.YtfbimhnlcmdcpaaW.PrintWords Go.Proofs.YtfbimhnlcmdcpaaW.PrintLast
set_option linter.unusedVariables false
set_option linter.unusedSimpArgs false

theorem alsoErr_none {n i : Nat} {l : List Int} (h : ∀ j, j < l.length → (0 ≤ l.getD j 0 ∧ l.getD j 0 < (n : Int) ∧ l.getD j 0 ≠ (i : Int) ∧ (0 < j → l.getD (j - 1) 0 < l.getD j 0))) : ∀ (m k : Nat), k + m ≤ l.length → alsoErr n i l m k = 0
  | 0, k, _ => rfl
  | m + 1, k, hk => by
    obtain ⟨h0, h1, h2, h3⟩ := h k (by omega)
    unfold alsoErr
    rw [if_neg (by omega), if_neg (by omega), if_neg, alsoErr_none h m (k + 1) (by omega)]
    rintro ⟨h4, h5⟩
    have := h3 h4
    omega
theorem head_err {cs : List Cl} {hs : List Hd} {i : Nat} (h : HeadV cs hs i (hs.getD i zHd)) : headErr cs hs i = 0 := by
  unfold headErr
  rw [h.word, if_neg (by simp), h.new, if_neg (by simp), if_neg, if_neg (by have := h.cls; omega), if_neg (by have := h.see; omega), if_neg (by have := h.see; omega), alsoErr_none h.also _ _ (by omega), if_neg (by simp)]
  · unfold kindErr
    rw [if_neg]
    rintro (⟨h1, h2⟩ | ⟨h1, h2, h3⟩)
    · have := h.ptr h1
      rw [this.2] at h2
      rcases h2 with h2 | h2
      · exact h2 this.1
      · simp at h2
    · exact h.other h1 h2 (List.length_eq_zero_iff.1 h3)
  · rintro ⟨h1, h2⟩
    rw [h.sorted h1] at h2
    cases h2
theorem check_zero {cs : List Cl} {hs : List Hd} (h1 : cs.length ≤ 6) (h2 : hs.length ≤ 6) (hc : ∀ i, i < cs.length → classErr cs i = 0) (hh : ∀ i, i < hs.length → headErr cs hs i = 0) : checkT cs hs = 0 := by
  unfold checkT
  rw [if_neg (by omega), firstErr_none _ _ (fun j _ hj => hc j (by omega)), if_neg (by simp), firstErr_none _ _ (fun j _ hj => hh j (by omega))]
theorem any_words {l l' : List Hd} (h : l.map (fun y => y.f0) = l'.map (fun y => y.f0)) (b : ByteArray) : l.any (fun y => sEq y.f0 b) = l'.any (fun y => sEq y.f0 b) := by
  have e : ∀ l : List Hd, l.any (fun y => sEq y.f0 b) = (l.map (fun y => y.f0)).any (fun x => sEq x b) := fun l => by rw [List.any_map]; rfl
  rw [e, e, h]

theorem getD_mem {l : List Int} (j : Nat) (hj : j < l.length) : l.getD j 0 ∈ l := by
  rw [List.getD_eq_getElem?_getD, List.getElem?_eq_getElem hj]; exact List.getElem_mem _
end Go.Proofs.Ytfbimhnlcmdcpaa.Q
/- Classes with other numbers: the same classes above, the least class of two, the same names. -/
namespace Go.Proofs.Ytfbimhnlcmdcpaa.Q
open Go.RowKit Go.Proofs.Ytfbimhnlcmdcpaa.Pa Go.Proofs.YtfbimhnlcmdcpaaW.PrintWords Go.Proofs.YtfbimhnlcmdcpaaW.PrintLast
set_option linter.unusedVariables false
set_option linter.unusedSimpArgs false

/-- The old numbers of the classes, in an order in which each class comes after the one above it. -/
structure Ord (cs : List Cl) (o : List Int) : Prop where
  mem : ∀ x ∈ o, 0 ≤ x ∧ x < cs.length
  dup : o.Nodup
  up : ∀ j, j < o.length → (cs.getD (o.getD j 0).toNat zCl).f1 = -1 ∨ (0 ≤ idxT o (cs.getD (o.getD j 0).toNat zCl).f1 ∧ idxT o (cs.getD (o.getD j 0).toNat zCl).f1 < j)
theorem nodup_at {o : List Int} (hd : o.Nodup) (i j : Nat) (hi : i < o.length) (hj : j < o.length) (h : o.getD i 0 = o.getD j 0) : i = j := by
  rw [List.getD_eq_getElem?_getD, List.getElem?_eq_getElem hi, List.getD_eq_getElem?_getD, List.getElem?_eq_getElem hj] at h
  simp only [Option.getD_some] at h
  rcases Nat.lt_trichotomy i j with hlt | e | hlt
  · exact absurd h (List.pairwise_iff_getElem.1 hd i j hi hj hlt)
  · exact e
  · exact absurd h.symm (List.pairwise_iff_getElem.1 hd j i hj hi hlt)
theorem idxT_neg {o : List Int} {x : Int} (h : x ∉ o) : idxT o x = -1 := by
  rcases idxT_spec o x with ⟨_, h1⟩ | ⟨i, hi, he, _, _⟩
  · exact h1
  · exact absurd (he ▸ getD_mem i hi) h
theorem idxT_get {o : List Int} {x : Int} (h : x ∈ o) : ∃ j : Nat, j < o.length ∧ o.getD j 0 = x ∧ idxT o x = j := by
  rcases idxT_spec o x with ⟨h1, _⟩ | ⟨i, hi, he, _, hx⟩
  · exact absurd h h1
  · exact ⟨i, hi, he, hx⟩
theorem idxT_ge (o : List Int) (x : Int) : -1 ≤ idxT o x := by
  rcases idxT_spec o x with ⟨_, h1⟩ | ⟨i, hi, he, _, hx⟩ <;> omega
def renC (cs : List Cl) (o : List Int) : List Cl := o.map (fun c => ⟨(cs.getD c.toNat zCl).f0, idxT o (cs.getD c.toNat zCl).f1⟩)
def renH (o : List Int) (hs : List Hd) : List Hd := hs.map (fun x => ⟨x.f0, idxT o x.f1, x.f2, x.f3⟩)
theorem renC_len (cs : List Cl) (o : List Int) : (renC cs o).length = o.length := by unfold renC; rw [List.length_map]
theorem renC_get (cs : List Cl) (o : List Int) (j : Nat) (hj : j < o.length) : (renC cs o).getD j zCl = ⟨(cs.getD (o.getD j 0).toNat zCl).f0, idxT o (cs.getD (o.getD j 0).toNat zCl).f1⟩ := by
  unfold renC
  rw [List.getD_eq_getElem?_getD, List.getElem?_map, List.getElem?_eq_getElem hj, List.getD_eq_getElem?_getD (l := o), List.getElem?_eq_getElem hj]
  rfl
theorem renH_len (o : List Int) (hs : List Hd) : (renH o hs).length = hs.length := by unfold renH; rw [List.length_map]
theorem renH_get (o : List Int) (hs : List Hd) (j : Nat) (hj : j < hs.length) : (renH o hs).getD j zHd = ⟨(hs.getD j zHd).f0, idxT o (hs.getD j zHd).f1, (hs.getD j zHd).f2, (hs.getD j zHd).f3⟩ := by
  unfold renH
  rw [List.getD_eq_getElem?_getD, List.getElem?_map, List.getElem?_eq_getElem hj, List.getD_eq_getElem?_getD (l := hs), List.getElem?_eq_getElem hj]
  rfl
section
variable {cs : List Cl} {hs : List Hd} {o : List Int}
theorem Ord.neg (h : Ord cs o) : idxT o (-1) = -1 := idxT_neg (fun hm => by have := h.mem _ hm; omega)
theorem Ord.at (h : Ord cs o) (j : Nat) (hj : j < o.length) : ∃ c : Nat, o.getD j 0 = c ∧ c < cs.length := by
  have := h.mem _ (getD_mem j hj)
  exact ⟨(o.getD j 0).toNat, by omega, by omega⟩
theorem Ord.unders (h : Ord cs o) : Unders (renC cs o) := fun i hi => by
  rw [renC_len] at hi
  rw [renC_get _ _ _ hi]
  show -1 ≤ idxT o _ ∧ idxT o _ < (i : Int)
  rcases h.up i hi with e | ⟨h0, h1⟩
  · rw [e, h.neg]; omega
  · exact ⟨by omega, h1⟩
/-- The same classes above. -/
theorem Ord.isUp (h : Ord cs o) (hu : Unders cs) : ∀ (i : Nat), i < o.length → ∀ (b : Nat), b < o.length → isUp (renC cs o) i b = isUp cs (o.getD i 0) (o.getD b 0) := by
  intro i
  induction i using Nat.strongRecOn with
  | ind i ih =>
    intro hi b hb
    obtain ⟨c, hc, hcl⟩ := h.at i hi
    rw [isUp_step h.unders i (by rw [renC_len]; exact hi), renC_get _ _ _ hi, hc, isUp_step hu c hcl]
    have e1 : decide ((i : Int) = (b : Int)) = decide ((c : Int) = o.getD b 0) := by
      refine decide_eq_decide.2 ⟨fun e => ?_, fun e => ?_⟩
      · rw [← hc, show b = i by omega]
      · have := nodup_at h.dup i b hi hb (hc.trans e); omega
    rw [e1]
    congr 1
    rw [Int.toNat_natCast]
    show Pa.isUp (renC cs o) (idxT o _) b = _
    rcases h.up i hi with e | ⟨h0, h1⟩
    · rw [hc, Int.toNat_natCast] at e
      rw [e, h.neg, isUp_neg _ _ _ (by omega), isUp_neg _ _ _ (by omega)]
    · rw [hc, Int.toNat_natCast] at h0 h1
      obtain ⟨j, hj, he, hx⟩ := idxT_get ((idxT_nonneg o _).1 h0)
      rw [hx] at h1 ⊢
      rw [ih j (by omega) hj b hb, he]
/-- The least class of two is the same. -/
theorem Ord.least (h : Ord cs o) (hu : Unders cs) (hall : ∀ x : Nat, x < cs.length → (x : Int) ∈ o) (a b : Nat) (ha : a < o.length) (hb : b < o.length) : idxT o (leastT cs (o.getD a 0) (o.getD b 0)) = leastT (renC cs o) a b := by
  obtain ⟨ca, ea, la⟩ := h.at a ha
  obtain ⟨cb, eb, lb⟩ := h.at b hb
  rw [ea, eb]
  have hl := renC_len cs o
  rcases least_spec hu ca cb la lb with ⟨h1, h2⟩ | ⟨m, h1, h2, h3, h4, h5⟩
  · rw [h1, h.neg]
    rcases least_spec h.unders a b (by omega) (by omega) with ⟨g1, g2⟩ | ⟨k, g1, g2, g3, g4, g5⟩
    · exact g1.symm
    · exfalso
      rw [h.isUp hu a ha k (by omega), ea] at g3
      rw [h.isUp hu b hb k (by omega), eb] at g4
      exact h2 _ g3 g4
  · obtain ⟨j, hj, he, hx⟩ := idxT_get (hall m h2)
    rw [h1, hx]
    have u1 : Pa.isUp (renC cs o) a j = true := by rw [h.isUp hu a ha j hj, ea, he]; exact h3
    have u2 : Pa.isUp (renC cs o) b j = true := by rw [h.isUp hu b hb j hj, eb, he]; exact h4
    rcases least_spec h.unders a b (by omega) (by omega) with ⟨g1, g2⟩ | ⟨k, g1, g2, g3, g4, g5⟩
    · exact (g2 _ u1 u2).elim
    · rw [g1]
      have v1 := g5 _ u1 u2
      have v2 := isUp_le h.unders k j (by omega) v1
      rw [h.isUp hu a ha k (by omega), ea] at g3
      rw [h.isUp hu b hb k (by omega), eb] at g4
      have v3 := h5 _ g3 g4
      rw [← he, ← h.isUp hu j hj k (by omega)] at v3
      have v4 := isUp_le h.unders j k (by omega) v3
      omega
/-- A path grows by its last class. -/
theorem filt_one (P : Int → Bool) (c : Nat) (hP : ∀ b : Int, P b = true → b < c) : ∀ n : Nat, c < n → (nats n).filter (fun b => decide ((c : Int) = b) || P b) = (nats n).filter P ++ [(c : Int)]
  | 0, h => by omega
  | n + 1, h => by
    have off : ∀ m : Nat, c ≤ m → P m = false := fun m hm => by
      cases hp : P m with
      | false => rfl
      | true => have := hP _ hp; omega
    rw [filt_succ, filt_succ, off n (by omega)]
    by_cases e : c = n
    · subst e
      have e1 : (nats c).filter (fun b => decide ((c : Int) = b) || P b) = (nats c).filter P := by
        refine List.filter_congr (fun x hx => ?_)
        have := (nats_mem c x).1 hx
        rw [decide_eq_false (by omega), Bool.false_or]
      rw [e1]
      simp
    · rw [filt_one P c hP n (by omega), decide_eq_false (by omega)]
      simp
theorem path_step (hu : Unders cs) (c : Nat) (hc : c < cs.length) : pathT cs c = pathT cs (cs.getD c zCl).f1 ++ [(c : Int)] := by
  have h1 : ∀ b : Int, Pa.isUp cs (cs.getD c zCl).f1 b = true → b < c := fun b hb => by
    rcases (show (cs.getD c zCl).f1 < 0 ∨ 0 ≤ (cs.getD c zCl).f1 by omega) with h0 | h0
    · rw [isUp_neg _ _ _ h0] at hb; cases hb
    · have hlt := (hu c hc).2
      have e : (cs.getD c zCl).f1 = (((cs.getD c zCl).f1.toNat : Nat) : Int) := by omega
      rw [e] at hb
      have := isUp_le hu _ b (by omega) hb
      omega
  unfold pathT
  rw [← filt_one (fun o => Pa.isUp cs (cs.getD c zCl).f1 o) c h1 cs.length hc]
  exact List.filter_congr (fun x _ => isUp_step hu c hc x)
theorem path_neg (a : Int) (h : a < 0) : pathT cs a = [] := by
  unfold pathT
  rw [List.filter_eq_nil_iff]
  intro x _
  rw [isUp_neg _ _ _ h]
  simp
theorem Ord.names (h : Ord cs o) (hu : Unders cs) : ∀ (i : Nat), i < o.length → classNames (renC cs o) (pathT (renC cs o) i) = classNames cs (pathT cs (o.getD i 0)) := by
  intro i
  induction i using Nat.strongRecOn with
  | ind i ih =>
    intro hi
    obtain ⟨c, hc, hcl⟩ := h.at i hi
    rw [path_step h.unders i (by rw [renC_len]; exact hi), hc, path_step hu c hcl]
    unfold classNames
    rw [List.map_append, List.map_append]
    have e2 : ([(i : Int)].map fun c => ((renC cs o).getD c.toNat zCl).f0) = ([(c : Int)].map fun c => (cs.getD c.toNat zCl).f0) := by
      simp only [List.map_cons, List.map_nil, Int.toNat_natCast]
      rw [renC_get _ _ _ hi, hc, Int.toNat_natCast]
    rw [e2]
    congr 1
    rw [renC_get _ _ _ hi, hc, Int.toNat_natCast]
    show (pathT (renC cs o) (idxT o (cs.getD c zCl).f1)).map _ = _
    rcases h.up i hi with e | ⟨h0, h1⟩
    · rw [hc, Int.toNat_natCast] at e
      rw [e, h.neg, path_neg _ (by omega), path_neg _ (by omega)]
      rfl
    · rw [hc, Int.toNat_natCast] at h0 h1
      obtain ⟨j, hj, he, hx⟩ := idxT_get ((idxT_nonneg o _).1 h0)
      rw [hx] at h1 ⊢
      have := ih j (by omega) hj
      rw [he] at this
      exact this
theorem Ord.namesFrom (h : Ord cs o) (hu : Unders cs) (hall : ∀ x : Nat, x < cs.length → (x : Int) ∈ o) (hc : ∀ i, i < hs.length → -1 ≤ (hs.getD i zHd).f1 ∧ (hs.getD i zHd).f1 < cs.length) (s : ByteArray) :
    ∀ (k i : Nat), i + k = hs.length → namesFrom (renC cs o) (renH o hs) s k i = namesFrom cs hs s k i
  | 0, i, _ => rfl
  | k + 1, i, hi => by
    have hil : i < hs.length := by omega
    have ih := h.namesFrom hu hall hc s k (i + 1) (by omega)
    have hci := hc i hil
    show (if _ then _ else _) = (if _ then _ else _)
    rw [renH_get _ _ _ hil, ih]
    show (if sEq (hs.getD i zHd).f0 s = true ∧ idxT o (hs.getD i zHd).f1 ≠ -1 then some (classNames (renC cs o) (pathT (renC cs o) (idxT o (hs.getD i zHd).f1))) else _) = _
    by_cases e : (hs.getD i zHd).f1 = -1
    · rw [e, h.neg]
      simp
    · obtain ⟨c, hce⟩ : ∃ c : Nat, (hs.getD i zHd).f1 = c := ⟨(hs.getD i zHd).f1.toNat, by omega⟩
      obtain ⟨j, hj, he, hx⟩ := idxT_get (hall c (by omega))
      rw [hce, hx, h.names hu j hj, he]
      by_cases hq : sEq (hs.getD i zHd).f0 s = true
      · rw [if_pos ⟨hq, by omega⟩, if_pos ⟨hq, by omega⟩]
      · rw [if_neg (fun h => hq h.1), if_neg (fun h => hq h.1)]
theorem moveOf_same (s : ByteArray) (p : Option (List ByteArray)) : moveOf s p p = [] := by
  unfold moveOf
  cases p <;> simp
theorem Ord.moves (h : Ord cs o) (hu : Unders cs) (hall : ∀ x : Nat, x < cs.length → (x : Int) ∈ o) (hc : ∀ i, i < hs.length → -1 ≤ (hs.getD i zHd).f1 ∧ (hs.getD i zHd).f1 < cs.length) : movesT cs hs (renC cs o) (renH o hs) = [] := by
  unfold movesT
  rw [List.flatMap_eq_nil_iff]
  intro s _
  have : namesT (renC cs o) (renH o hs) s = namesT cs hs s := by
    unfold namesT
    rw [renH_len]
    exact h.namesFrom hu hall hc s _ _ (by omega)
  rw [this]
  exact moveOf_same _ _
/-- The trades are valid. -/
theorem Ord.valid (h : Ord cs o) (hk : checkT cs hs = 0) (hl : o.length = cs.length) (hall : ∀ x : Nat, x < cs.length → (x : Int) ∈ o) : checkT (renC cs o) (renH o hs) = 0 := by
  obtain ⟨p1, p2, p3, p4⟩ := check_parts hk
  refine check_zero (by rw [renC_len]; omega) (by rw [renH_len]; exact p2) (fun i hi => ?_) (fun i hi => ?_)
  · rw [renC_len] at hi
    obtain ⟨c, hc, hcl⟩ := h.at i hi
    have hu := h.unders i (by rw [renC_len]; exact hi)
    have hw := (clause_parts (p3 c hcl)).1
    unfold classErr
    have hgw : ((renC cs o).getD i zCl).f0 = (cs.getD c zCl).f0 := by rw [renC_get _ _ _ hi, hc, Int.toNat_natCast]
    rw [hgw, if_neg (by rw [hw]; simp), if_neg, if_neg (by rw [renC_len]; omega), if_neg (by omega)]
    rw [any_false]
    · simp
    · intro y hy
      obtain ⟨j, hj, hjl, rfl⟩ := mem_take_getD (renC cs o) zCl i y hy
      rw [renC_len] at hjl
      obtain ⟨d, hd, hdl⟩ := h.at j hjl
      rw [renC_get _ _ _ hjl, hd, Int.toNat_natCast]
      show sEq (cs.getD d zCl).f0 (cs.getD c zCl).f0 = false
      have hne : d ≠ c := fun e => by
        have := nodup_at h.dup j i hjl hi (by rw [hd, hc, e]); omega
      have two : ∀ a b : Nat, a < b → b < cs.length → sEq (cs.getD a zCl).f0 (cs.getD b zCl).f0 = false := fun a b hab hb => by
        have := (clause_parts (p3 b hb)).2.1
        rw [List.any_eq_false] at this
        have hm : cs.getD a zCl ∈ cs.take b := by
          rw [List.getD_eq_getElem?_getD, List.getElem?_eq_getElem (by omega)]
          refine List.mem_iff_getElem.2 ⟨a, by rw [List.length_take]; omega, by rw [List.getElem_take]; rfl⟩
        simpa using this _ hm
      rcases Nat.lt_or_gt_of_ne hne with hlt | hgt
      · exact two d c hlt hcl
      · have := two c d hgt hdl
        unfold sEq at this ⊢
        rw [Bool.eq_false_iff] at this ⊢
        intro e
        exact this (by rw [beq_iff_eq] at e ⊢; exact e.symm)
  · rw [renH_len] at hi
    have hx := check_head hk i hi
    have hwords : (renH o hs).map (fun y => y.f0) = hs.map (fun y => y.f0) := by
      unfold renH
      rw [List.map_map]; rfl
    have hg := renH_get o hs i hi
    refine head_err ⟨by rw [hg]; exact hx.word, ?_, fun h0 => ?_, ?_, by rw [hg, renH_len]; exact hx.see, by rw [hg, renH_len]; exact hx.also, ?_, ?_⟩
    · rw [hg, any_words (l' := hs.take i) (by rw [List.map_take, hwords, ← List.map_take])]
      exact hx.new
    · rw [hg, renH_get o hs (i - 1) (by omega)]
      exact hx.sorted h0
    · rw [hg, renC_len]
      show -1 ≤ idxT o _ ∧ idxT o _ < (o.length : Int)
      refine ⟨idxT_ge _ _, ?_⟩
      rcases idxT_spec o (hs.getD i zHd).f1 with ⟨_, h1⟩ | ⟨j, hj, _, _, h1⟩ <;> rw [h1] <;> omega
    · rw [hg]
      intro h2
      obtain ⟨g1, g2⟩ := hx.ptr h2
      refine ⟨?_, g2⟩
      show idxT o (hs.getD i zHd).f1 = -1
      rw [g1]; exact h.neg
    · rw [hg]
      intro h2 h1
      refine hx.other h2 ?_
      have h1 : idxT o (hs.getD i zHd).f1 = -1 := h1
      have hc := hx.cls
      by_cases e : (hs.getD i zHd).f1 = -1
      · exact e
      · exfalso
        obtain ⟨c, hce⟩ : ∃ c : Nat, (hs.getD i zHd).f1 = c := ⟨(hs.getD i zHd).f1.toNat, by omega⟩
        have := (idxT_nonneg o (hs.getD i zHd).f1).2 (by rw [hce]; exact hall c (by omega))
        omega
end
end Go.Proofs.Ytfbimhnlcmdcpaa.Q
/- DupTrades gives the same trades (plain). -/
namespace Go.Proofs.Ytfbimhnlcmdcpaa.Q
open Go.RowKit Go.Proofs.Ytfbimhnlcmdcpaa.Pa Go.Proofs.YtfbimhnlcmdcpaaW.PrintWords Go.Proofs.YtfbimhnlcmdcpaaW.PrintLast
set_option linter.unusedVariables false
set_option linter.unusedSimpArgs false

theorem set_same {α : Type} (l : List α) (z : α) (i : Nat) (hi : i < l.length) : l.set i (l.getD i z) = l := by
  rw [List.getD_eq_getElem?_getD, List.getElem?_eq_getElem hi]
  exact List.set_getElem_self hi
theorem dupL {cs : List Cl} {hs : List Hd} (hl : hs.length < 1000000000) (ha : ∀ i, i < hs.length → (hs.getD i zHd).f3.length < 17592186044416) : ∀ (d i : Nat), i + d = hs.length → Ev (fun k => wayzgoosekit_DupTrades.l0 k i cs hs) (cs, hs) := by
  intro d
  induction d with
  | zero =>
    intro i hi
    refine Ev.last (fun k => ?_)
    simp only [wayzgoosekit_DupTrades.l0]
    rw [if_neg (by omega)]
  | succ d ih =>
    intro i hi
    refine Ev.step (fun k => ?_) (ih (i + 1) (by omega))
    have := ha i (by omega)
    simp only [wayzgoosekit_DupTrades.l0]
    rw [if_pos (by omega), if_pos (by omega), rd_hd]
    unfold wayzgoosekit_DupInts.f
    simp only [Option.bind_some, List.length_nil, Nat.zero_add, List.nil_append]
    rw [if_pos this]
    simp only [Option.bind_some, Int.toNat_natCast]
    rw [w64s (by omega) (by omega), show (⟨(hs.getD i zHd).f0, (hs.getD i zHd).f1, (hs.getD i zHd).f2, (hs.getD i zHd).f3⟩ : Hd) = hs.getD i zHd from rfl, set_same hs zHd i (by omega)]
    rfl
theorem dup_ok {cs : List Cl} {hs : List Hd} (hc : cs.length < 5864062014805) (hl : hs.length < 1000000000) (ha : ∀ i, i < hs.length → (hs.getD i zHd).f3.length < 17592186044416) : Ev (fun k => wayzgoosekit_DupTrades.f k cs hs) (cs, hs) := by
  refine Ev.congr (fun k => ?_) (dupL (cs := cs) hl ha hs.length 0 (by omega))
  unfold wayzgoosekit_DupTrades.f
  simp only [Option.bind_some, List.length_nil, Nat.zero_add, List.nil_append]
  rw [if_pos hc, if_pos (by omega)]
  rfl
/-- References of a valid heading are few. -/
theorem also_few {cs : List Cl} {hs : List Hd} (hk : checkT cs hs = 0) (i : Nat) (hi : i < hs.length) : (hs.getD i zHd).f3.length ≤ hs.length := by
  have hx := check_head hk i hi
  have key : ∀ j, j < (hs.getD i zHd).f3.length → (j : Int) ≤ (hs.getD i zHd).f3.getD j 0 := by
    intro j
    induction j with
    | zero => intro hj; exact (hx.also 0 hj).1
    | succ j ih =>
      intro hj
      have h1 := (hx.also (j + 1) hj).2.2.2 (by omega)
      have h2 := ih (by omega)
      rw [show j + 1 - 1 = j by omega] at h1
      omega
  rcases Nat.eq_zero_or_pos (hs.getD i zHd).f3.length with h0 | h0
  · omega
  · have h1 := key ((hs.getD i zHd).f3.length - 1) (by omega)
    have h2 := (hx.also ((hs.getD i zHd).f3.length - 1) (by omega)).2.1
    omega
theorem dup_valid {cs : List Cl} {hs : List Hd} (hk : checkT cs hs = 0) : Ev (fun k => wayzgoosekit_DupTrades.f k cs hs) (cs, hs) := by
  obtain ⟨p1, p2, -, -⟩ := check_parts hk
  exact dup_ok (by omega) (by omega) (fun i hi => by have := also_few hk i hi; omega)
end Go.Proofs.Ytfbimhnlcmdcpaa.Q
/- If classes have other numbers, and the same names, Compare finds no difference, and the least class of two has the same name: for all lists of numbers. -/
namespace Go.Proofs.Ytfbimhnlcmdcpaa.Pure
open Go.RowKit Go.Proofs.Ytfbimhnlcmdcpaa.Pa Go.Proofs.Ytfbimhnlcmdcpaa.Q Go.Proofs.YtfbimhnlcmdcpaaW.PrintWords Go.Proofs.YtfbimhnlcmdcpaaW.PrintLast
set_option linter.unusedVariables false
set_option linter.unusedSimpArgs false

theorem rd_cl (cs : List Cl) (i : Nat) : rd_T51 cs i = cs.getD i zCl := by
  unfold rd_T51
  rw [Int.toNat_natCast]
theorem least_val {cs : List Cl} {hs : List Hd} (hk : checkT cs hs = 0) (a b : Nat) (ha : a < cs.length) (hb : b < cs.length) : trade_Least.f cs hs a b = some (leastT cs a b, 0) := by
  unfold trade_Least.f
  rw [if_neg (by omega), if_neg (by rw [inN_true (by omega) (by omega), inN_true (by omega) (by omega)]; simp)]
theorem l45 {cs : List Cl} {hs : List Hd} {o : List Int} (hk : checkT cs hs = 0) (h : Ord cs o) (hl : o.length = cs.length) (hall : ∀ x : Nat, x < cs.length → (x : Int) ∈ o) (hk2 : checkT (renC cs o) (renH o hs) = 0) :
    ∀ (d a : Nat), a + d = cs.length → Ev (fun k => wayzgooselaw04_TradeRenumbered.l4 k cs.length o a cs hs (renC cs o) (renH o hs)) true := by
  have h6 := (check_parts hk).1
  have hu := check_unders hk
  intro d
  induction d with
  | zero =>
    intro a ha
    refine Ev.last (fun k => ?_)
    simp only [wayzgooselaw04_TradeRenumbered.l4]
    rw [if_neg (by omega)]
    rfl
  | succ d ih =>
    intro a ha
    have hn := ih (a + 1) (by omega)
    have key : ∀ (e b : Nat), b + e = cs.length → Ev (fun k => wayzgooselaw04_TradeRenumbered.l5 k cs.length o a b cs hs (renC cs o) (renH o hs)) true := by
      intro e
      induction e with
      | zero =>
        intro b hb
        refine Ev.step (fun k => ?_) hn
        simp only [wayzgooselaw04_TradeRenumbered.l5]
        rw [if_neg (by omega), w64s (by omega) (by omega)]
        rfl
      | succ e ih2 =>
        intro b hb
        obtain ⟨ca, ea, la⟩ := h.at a (by omega)
        obtain ⟨cb, eb, lb⟩ := h.at b (by omega)
        have hle := h.least hu hall a b (by omega) (by omega)
        rw [ea, eb] at hle
        refine Ev.step (f := fun k => (wayzgoosekit_Index.f k o (leastT cs ca cb)).bind fun t => if t = leastT (renC cs o) a b then wayzgooselaw04_TradeRenumbered.l5 k cs.length o a ((b + 1 : Nat) : Int) cs hs (renC cs o) (renH o hs) else some false) (fun k => ?_) ?_
        · simp only [wayzgooselaw04_TradeRenumbered.l5]
          rw [if_pos (by omega), if_pos (by omega), if_pos (by omega), if_pos (by omega), if_pos (by omega), rd_nat, rd_nat, ea, eb, least_val hk ca cb la lb]
          simp only [Option.bind_some]
          rw [least_val hk2 a b (by rw [renC_len]; omega) (by rw [renC_len]; omega)]
          simp only [Option.bind_some]
          rw [if_pos trivial, if_pos trivial, w64s (by omega) (by omega)]
          rfl
        · refine Ev.bind (f := fun k t => if t = leastT (renC cs o) a b then wayzgooselaw04_TradeRenumbered.l5 k cs.length o a ((b + 1 : Nat) : Int) cs hs (renC cs o) (renH o hs) else some false) (index_ok o (leastT cs ca cb) (by omega)) ?_
          rw [hle]
          refine Ev.congr (fun k => ?_) (ih2 (b + 1) (by omega))
          rw [if_pos rfl]
    refine Ev.step (fun k => ?_) (key cs.length 0 (by omega))
    simp only [wayzgooselaw04_TradeRenumbered.l4]
    rw [if_pos (by omega)]
    rfl
theorem mix_set {α : Type} (A B : List α) (z : α) (i : Nat) (hA : i < A.length) (hB : B.length = A.length) (y : α) (hy : A.getD i z = y) : (A.take i ++ B.drop i).set i y = A.take (i + 1) ++ B.drop (i + 1) := by
  have h1 : (A.take i).length = i := by rw [List.length_take]; omega
  rw [List.set_append_right _ _ (by omega), h1, Nat.sub_self, List.drop_eq_getElem_cons (by omega : i < B.length), List.set_cons_zero, List.take_succ_eq_append_getElem hA, List.append_assoc]
  rw [List.getD_eq_getElem?_getD, List.getElem?_eq_getElem hA] at hy
  subst hy
  rfl
theorem mix_get {α : Type} (A B : List α) (z : α) (i : Nat) (hA : i < A.length) (hB : B.length = A.length) : (A.take i ++ B.drop i).getD i z = B.getD i z := by
  have h1 : (A.take i).length = i := by rw [List.length_take]; omega
  rw [List.getD_eq_getElem?_getD, List.getElem?_append_right (by omega), h1, Nat.sub_self, List.getElem?_drop, Nat.add_zero, ← List.getD_eq_getElem?_getD]
theorem mix_len {α : Type} (A B : List α) (i : Nat) (hA : i ≤ A.length) (hB : B.length = A.length) : (A.take i ++ B.drop i).length = A.length := by
  rw [List.length_append, List.length_take, List.length_drop]; omega
theorem l3_true {cs : List Cl} {hs : List Hd} {o : List Int} (hk : checkT cs hs = 0) (h : Ord cs o) (hl : o.length = cs.length) (hall : ∀ x : Nat, x < cs.length → (x : Int) ∈ o) (hk2 : checkT (renC cs o) (renH o hs) = 0) :
    ∀ (d i : Nat), i + d = hs.length → Ev (fun k => wayzgooselaw04_TradeRenumbered.l3 k cs.length o i cs hs (renC cs o) ((renH o hs).take i ++ hs.drop i)) true := by
  have h6 := (check_parts hk).2.1
  have h5 := (check_parts hk).1
  have hrl := renH_len o hs
  intro d
  induction d with
  | zero =>
    intro i hi
    have e : (renH o hs).take i ++ hs.drop i = renH o hs := by
      rw [List.take_of_length_le (by omega), List.drop_eq_nil_of_le (by omega), List.append_nil]
    rw [e]
    have hm := h.moves (hs := hs) (check_unders hk) hall (fun j hj => (check_head hk j hj).cls)
    have hcf : trade_Compare.f cs hs (renC cs o) (renH o hs) = some ([], 0) := by
      unfold trade_Compare.f
      rw [if_neg (by omega), if_neg (by omega), hm]
    refine Ev.step (f := fun k => wayzgooselaw04_TradeRenumbered.j4 k cs.length o false cs hs (renC cs o) (renH o hs)) (fun k => ?_) (Ev.step (fun k => ?_) (l45 hk h hl hall hk2 cs.length 0 (by omega)))
    · simp only [wayzgooselaw04_TradeRenumbered.l3]
      rw [if_neg (by omega), hcf]
      rfl
    · simp only [wayzgooselaw04_TradeRenumbered.j4]
      rw [if_neg (by simp)]
      rfl
  | succ d ih =>
    intro i hi
    have hml := mix_len (renH o hs) hs i (by omega) (by omega)
    have hn := ih (i + 1) (by omega)
    refine Ev.step (f := fun k => (wayzgoosekit_Index.f k o (hs.getD i zHd).f1).bind fun t => wayzgooselaw04_TradeRenumbered.l3 k cs.length o ((i + 1 : Nat) : Int) cs hs (renC cs o) (((renH o hs).take i ++ hs.drop i).set i ⟨(hs.getD i zHd).f0, t, (hs.getD i zHd).f2, (hs.getD i zHd).f3⟩)) (fun k => ?_) ?_
    · simp only [wayzgooselaw04_TradeRenumbered.l3]
      rw [if_pos (by omega), if_pos (by omega), if_pos (by omega), rd_hd, rd_hd, mix_get _ _ _ _ (by omega) (by omega), w64s (by omega) (by omega)]
      rfl
    · refine Ev.bind (f := fun k t => wayzgooselaw04_TradeRenumbered.l3 k cs.length o ((i + 1 : Nat) : Int) cs hs (renC cs o) (((renH o hs).take i ++ hs.drop i).set i ⟨(hs.getD i zHd).f0, t, (hs.getD i zHd).f2, (hs.getD i zHd).f3⟩)) (index_ok o (hs.getD i zHd).f1 (by omega)) ?_
      rw [mix_set (renH o hs) hs zHd i (by omega) (by omega) _ (renH_get o hs i (by omega))]
      exact hn
theorem l2_true {cs : List Cl} {hs : List Hd} {o : List Int} (hk : checkT cs hs = 0) (h : Ord cs o) (hl : o.length = cs.length) (hall : ∀ x : Nat, x < cs.length → (x : Int) ∈ o) (hk2 : checkT (renC cs o) (renH o hs) = 0) :
    ∀ (d i : Nat), i + d = cs.length → Ev (fun k => wayzgooselaw04_TradeRenumbered.l2 k cs.length o i cs hs ((renC cs o).take i ++ cs.drop i) hs) true := by
  have h6 := (check_parts hk).1
  have hrl := renC_len cs o
  intro d
  induction d with
  | zero =>
    intro i hi
    have e : (renC cs o).take i ++ cs.drop i = renC cs o := by
      rw [List.take_of_length_le (by omega), List.drop_eq_nil_of_le (by omega), List.append_nil]
    rw [e]
    refine Ev.step (fun k => ?_) (l3_true hk h hl hall hk2 hs.length 0 (by omega))
    simp only [wayzgooselaw04_TradeRenumbered.l2]
    rw [if_neg (by omega)]
    simp
  | succ d ih =>
    intro i hi
    have hml := mix_len (renC cs o) cs i (by omega) (by omega)
    have hn := ih (i + 1) (by omega)
    obtain ⟨c, hc, hcl⟩ := h.at i (by omega)
    have hg := renC_get cs o i (by omega)
    rw [hc, Int.toNat_natCast] at hg
    refine Ev.step (f := fun k => (wayzgoosekit_Index.f k o (cs.getD c zCl).f1).bind fun t => wayzgooselaw04_TradeRenumbered.l2 k cs.length o ((i + 1 : Nat) : Int) cs hs (((renC cs o).take i ++ cs.drop i).set i ⟨(cs.getD c zCl).f0, t⟩) hs) (fun k => ?_) ?_
    · simp only [wayzgooselaw04_TradeRenumbered.l2]
      rw [if_pos (by omega), if_pos (by omega), if_pos (by omega), rd_nat, hc, if_pos (by omega), if_pos (by omega), rd_cl]
      simp only [show ((i : Int) < (((renC cs o).take i ++ cs.drop i).length : Int)) = True from eq_true (by omega), if_true]
      rw [w64s (by omega) (by omega)]
      rfl
    · refine Ev.bind (f := fun k t => wayzgooselaw04_TradeRenumbered.l2 k cs.length o ((i + 1 : Nat) : Int) cs hs (((renC cs o).take i ++ cs.drop i).set i ⟨(cs.getD c zCl).f0, t⟩) hs) (index_ok o (cs.getD c zCl).f1 (by omega)) ?_
      rw [mix_set (renC cs o) cs zCl i (by omega) (by omega) _ hg]
      exact hn
/-- A class that may come next. -/
def Next (cs : List Cl) (o : List Int) (c : Int) : Prop := 0 ≤ c ∧ c < cs.length ∧ c ∉ o ∧ ((cs.getD c.toNat zCl).f1 = -1 ∨ (cs.getD c.toNat zCl).f1 ∈ o)
theorem idx_app {o : List Int} {x c : Int} (h : x ∈ o) : idxT (o ++ [c]) x = idxT o x := by
  obtain ⟨j, hj, he, hx⟩ := idxT_get h
  have hm : x ∈ o ++ [c] := List.mem_append_left _ h
  rcases idxT_spec (o ++ [c]) x with ⟨h1, _⟩ | ⟨i, hi, hie, hmin, hix⟩
  · exact absurd hm h1
  · rcases idxT_spec o x with ⟨h1, _⟩ | ⟨i', hi', hie', hmin', hix'⟩
    · exact absurd h h1
    · rw [hix, hix']
      have g : ∀ m, m < o.length → (o ++ [c]).getD m 0 = o.getD m 0 := fun m hm => by
        rw [List.getD_eq_getElem?_getD, List.getElem?_append_left hm, ← List.getD_eq_getElem?_getD]
      have h1 : ¬ i' < i := fun hlt => hmin i' hlt (by rw [g i' hi', hie'])
      have h2 : ¬ i < i' := fun hlt => hmin' i hlt (by rw [← g i (by omega), hie])
      omega
theorem ord_snoc {cs : List Cl} {o : List Int} (h : Ord cs o) {c : Int} (hn : Next cs o c) : Ord cs (o ++ [c]) := by
  obtain ⟨c0, c1, c2, c3⟩ := hn
  refine ⟨fun x hx => ?_, ?_, fun j hj => ?_⟩
  · rcases List.mem_append.1 hx with hx | hx
    · exact h.mem x hx
    · rw [List.mem_singleton] at hx; subst hx; exact ⟨c0, c1⟩
  · rw [List.nodup_append]
    refine ⟨h.dup, by simp, fun a ha b hb => ?_⟩
    rw [List.mem_singleton] at hb
    subst hb
    intro e
    subst e
    exact c2 ha
  · rw [List.length_append, List.length_singleton] at hj
    by_cases e : j < o.length
    · have g : (o ++ [c]).getD j 0 = o.getD j 0 := by rw [List.getD_eq_getElem?_getD, List.getElem?_append_left e, ← List.getD_eq_getElem?_getD]
      rw [g]
      rcases h.up j e with h1 | ⟨h1, h2⟩
      · exact .inl h1
      · rw [idx_app ((idxT_nonneg o _).1 h1)]
        exact .inr ⟨h1, h2⟩
    · obtain rfl : j = o.length := by omega
      have g : (o ++ [c]).getD o.length 0 = c := by
        rw [List.getD_eq_getElem?_getD, List.getElem?_append_right (Nat.le_refl _), Nat.sub_self]
        rfl
      rw [g]
      show (cs.getD c.toNat zCl).f1 = -1 ∨ (0 ≤ idxT (o ++ [c]) (cs.getD c.toNat zCl).f1 ∧ idxT (o ++ [c]) (cs.getD c.toNat zCl).f1 < (o.length : Int))
      rcases c3 with c3 | c3
      · exact .inl c3
      · rw [idx_app c3]
        obtain ⟨i, hi, _, hx⟩ := idxT_get c3
        exact .inr ⟨by omega, by omega⟩
theorem nodup_len : ∀ (n : Nat) {o : List Int}, o.Nodup → (∀ x ∈ o, 0 ≤ x ∧ x < n) → o.length ≤ n ∧ (o.length = n → ∀ x : Nat, x < n → (x : Int) ∈ o)
  | 0, o, hd, hm => by
    cases o with
    | nil => exact ⟨Nat.le_refl _, fun _ x hx => by omega⟩
    | cons a l => have := hm a List.mem_cons_self; omega
  | n + 1, o, hd, hm => by
    have he : (o.erase (n : Int)).Nodup := hd.erase _
    have hme : ∀ x ∈ o.erase (n : Int), 0 ≤ x ∧ x < n := fun x hx => by
      rw [hd.mem_erase_iff] at hx
      have := hm x hx.2
      omega
    obtain ⟨h1, h2⟩ := nodup_len n he hme
    by_cases c : (n : Int) ∈ o
    · have hl := List.length_erase_of_mem c
      have hp := List.length_pos_of_mem c
      refine ⟨by omega, fun e x hx => ?_⟩
      by_cases ex : x = n
      · rw [ex]; exact c
      · exact List.mem_of_mem_erase (h2 (by omega) x (by omega))
    · rw [List.erase_of_not_mem c] at h1
      exact ⟨by omega, fun e => by omega⟩
theorem all_len : ∀ (n : Nat) {o : List Int}, o.Nodup → (∀ x : Nat, x < n → (x : Int) ∈ o) → n ≤ o.length
  | 0, o, _, _ => Nat.zero_le _
  | n + 1, o, hd, hm => by
    have c := hm n (by omega)
    have hl := List.length_erase_of_mem c
    have hp := List.length_pos_of_mem c
    have := all_len n (hd.erase (n : Int)) (fun x hx => by rw [hd.mem_erase_iff]; exact ⟨by omega, hm x (by omega)⟩)
    omega
theorem next_there {cs : List Cl} {o : List Int} (hu : Unders cs) (h : Ord cs o) (hlt : o.length < cs.length) : ∃ c : Nat, Next cs o c := by
  have hex : ∃ c : Nat, c < cs.length ∧ (c : Int) ∉ o := by
    rcases Classical.em (∃ c : Nat, c < cs.length ∧ (c : Int) ∉ o) with he | hne
    · exact he
    · exfalso
      have := all_len cs.length h.dup (fun x hx => by
        rcases Classical.em ((x : Int) ∈ o) with hm | hm
        · exact hm
        · exact absurd ⟨x, hx, hm⟩ hne)
      omega
  have key : ∀ n c : Nat, c < n → c < cs.length → (c : Int) ∉ o → ∃ c : Nat, Next cs o c := by
    intro n
    induction n with
    | zero => intro c h; omega
    | succ n ih =>
      intro c hcn hc hno
      by_cases e : (cs.getD c zCl).f1 = -1
      · exact ⟨c, by omega, by omega, hno, .inl (by rw [Int.toNat_natCast]; exact e)⟩
      · by_cases hm : (cs.getD c zCl).f1 ∈ o
        · exact ⟨c, by omega, by omega, hno, .inr (by rw [Int.toNat_natCast]; exact hm)⟩
        · have := hu c hc
          exact ih (cs.getD c zCl).f1.toNat (by omega) (by omega) (by rw [show (((cs.getD c zCl).f1.toNat : Nat) : Int) = (cs.getD c zCl).f1 by omega]; exact hm)
  obtain ⟨c, hc, hno⟩ := hex
  exact key (c + 1) c (by omega) hc hno
theorem l01 {cs : List Cl} {hs : List Hd} {p : List Int} (hk : checkT cs hs = 0) (hp : p.Perm (nats cs.length)) :
    ∀ (d : Nat) (o : List Int), o.length + d = cs.length → Ord cs o → Ev (fun k => wayzgooselaw04_TradeRenumbered.l0 k cs.length o p cs hs) true := by
  have h6 := (check_parts hk).1
  have hu := check_unders hk
  have hpl : p.length = cs.length := by rw [hp.length_eq]; simp [nats]
  intro d
  induction d with
  | zero =>
    intro o ho h
    obtain ⟨_, hall0⟩ := nodup_len cs.length h.dup h.mem
    have hall := hall0 (by omega)
    have hk2 := h.valid hk (by omega) hall
    refine Ev.step (f := fun k => (wayzgoosekit_DupTrades.f k cs hs).bind fun bt => wayzgooselaw04_TradeRenumbered.l2 k cs.length o 0 cs hs bt.1 bt.2) (fun k => ?_) (Ev.bind (f := fun k (bt : List Cl × List Hd) => wayzgooselaw04_TradeRenumbered.l2 k cs.length o 0 cs hs bt.1 bt.2) (dup_valid hk) ?_)
    · simp only [wayzgooselaw04_TradeRenumbered.l0]
      rw [if_neg (by omega)]
    · have := l2_true hk h (by omega) hall hk2 cs.length 0 (by omega)
      simpa using this
  | succ d ih =>
    intro o ho h
    obtain ⟨c, hc⟩ := next_there hu h (by omega)
    have hcp : (c : Int) ∈ p := hp.mem_iff.2 ((nats_mem _ _).2 ⟨hc.1, hc.2.1⟩)
    obtain ⟨j, hj, hje, -⟩ := idxT_get hcp
    have app : ∀ c : Int, Next cs o c → Ev (fun k => wayzgooselaw04_TradeRenumbered.l0 k cs.length (o ++ [c]) p cs hs) true := fun c hc => ih (o ++ [c]) (by rw [List.length_append, List.length_singleton]; omega) (ord_snoc h hc)
    have key : ∀ (e i : Nat), i + e = j → Ev (fun k => wayzgooselaw04_TradeRenumbered.l1 k cs.length o p i cs hs) true := by
      intro e
      induction e with
      | zero =>
        intro i hi
        obtain rfl : i = j := by omega
        have hcu := hu c (by have := hc.2.1; omega)
        have ha := app c hc
        obtain ⟨c0, c1, c2, c3⟩ := hc
        rw [Int.toNat_natCast] at c3
        refine Ev.step (f := fun k => (wayzgoosekit_Index.f k o c).bind fun t => if t < 0 then (if (cs.getD c zCl).f1 < 0 then wayzgooselaw04_TradeRenumbered.l0 k cs.length (o ++ [(c : Int)]) p cs hs else (wayzgoosekit_Index.f k o (cs.getD c zCl).f1).bind fun t2 => if t2 ≥ 0 then wayzgooselaw04_TradeRenumbered.l0 k cs.length (o ++ [(c : Int)]) p cs hs else wayzgooselaw04_TradeRenumbered.l1 k cs.length o p ((i + 1 : Nat) : Int) cs hs) else wayzgooselaw04_TradeRenumbered.l1 k cs.length o p ((i + 1 : Nat) : Int) cs hs) (fun k => ?_) ?_
        · simp only [wayzgooselaw04_TradeRenumbered.l1]
          rw [if_pos (by omega), if_pos (by omega), if_pos (by omega), rd_nat, hje, if_pos (by omega), if_pos (by omega), rd_cl, if_pos (by omega : o.length < 17592186044416), w64s (by omega) (by omega)]
          rfl
        · refine Ev.bind (f := fun k t => if t < 0 then (if (cs.getD c zCl).f1 < 0 then wayzgooselaw04_TradeRenumbered.l0 k cs.length (o ++ [(c : Int)]) p cs hs else (wayzgoosekit_Index.f k o (cs.getD c zCl).f1).bind fun t2 => if t2 ≥ 0 then wayzgooselaw04_TradeRenumbered.l0 k cs.length (o ++ [(c : Int)]) p cs hs else wayzgooselaw04_TradeRenumbered.l1 k cs.length o p ((i + 1 : Nat) : Int) cs hs) else wayzgooselaw04_TradeRenumbered.l1 k cs.length o p ((i + 1 : Nat) : Int) cs hs) (index_ok o c (by omega)) ?_
          rw [idxT_neg c2]
          simp only [show ((-1 : Int) < 0) = True by simp, if_true]
          rcases c3 with c3 | c3
          · simp only [show ((cs.getD c zCl).f1 < 0) = True from eq_true (by omega), if_true]
            exact ha
          · have h0 := h.mem _ c3
            simp only [show ((cs.getD c zCl).f1 < 0) = False from eq_false (by omega), if_false]
            refine Ev.bind (f := fun k t2 => if t2 ≥ 0 then wayzgooselaw04_TradeRenumbered.l0 k cs.length (o ++ [(c : Int)]) p cs hs else wayzgooselaw04_TradeRenumbered.l1 k cs.length o p ((i + 1 : Nat) : Int) cs hs) (index_ok o (cs.getD c zCl).f1 (by omega)) ?_
            have := (idxT_nonneg o (cs.getD c zCl).f1).2 c3
            simp only [show (idxT o (cs.getD c zCl).f1 ≥ 0) = True from eq_true this, if_true]
            exact ha
      | succ e ih2 =>
        intro i hi
        have hn := ih2 (i + 1) (by omega)
        have hil : i < p.length := by omega
        obtain ⟨x, hx, hxl⟩ : ∃ x : Nat, p.getD i 0 = x ∧ x < cs.length := by
          have := (nats_mem _ _).1 (hp.mem_iff.1 (getD_mem i hil))
          exact ⟨(p.getD i 0).toNat, by omega, by omega⟩
        have hxu := hu x hxl
        refine Ev.step (f := fun k => (wayzgoosekit_Index.f k o x).bind fun t => if t < 0 then (if (cs.getD x zCl).f1 < 0 then wayzgooselaw04_TradeRenumbered.l0 k cs.length (o ++ [(x : Int)]) p cs hs else (wayzgoosekit_Index.f k o (cs.getD x zCl).f1).bind fun t2 => if t2 ≥ 0 then wayzgooselaw04_TradeRenumbered.l0 k cs.length (o ++ [(x : Int)]) p cs hs else wayzgooselaw04_TradeRenumbered.l1 k cs.length o p ((i + 1 : Nat) : Int) cs hs) else wayzgooselaw04_TradeRenumbered.l1 k cs.length o p ((i + 1 : Nat) : Int) cs hs) (fun k => ?_) ?_
        · simp only [wayzgooselaw04_TradeRenumbered.l1]
          rw [if_pos (by omega), if_pos (by omega), if_pos (by omega), rd_nat, hx, if_pos (by omega), if_pos (by omega), rd_cl, if_pos (by omega : o.length < 17592186044416), w64s (by omega) (by omega)]
          rfl
        · refine Ev.bind (f := fun k t => if t < 0 then (if (cs.getD x zCl).f1 < 0 then wayzgooselaw04_TradeRenumbered.l0 k cs.length (o ++ [(x : Int)]) p cs hs else (wayzgoosekit_Index.f k o (cs.getD x zCl).f1).bind fun t2 => if t2 ≥ 0 then wayzgooselaw04_TradeRenumbered.l0 k cs.length (o ++ [(x : Int)]) p cs hs else wayzgooselaw04_TradeRenumbered.l1 k cs.length o p ((i + 1 : Nat) : Int) cs hs) else wayzgooselaw04_TradeRenumbered.l1 k cs.length o p ((i + 1 : Nat) : Int) cs hs) (index_ok o x (by omega)) ?_
          by_cases a1 : (x : Int) ∈ o
          · have := (idxT_nonneg o x).2 a1
            simp only [show (idxT o x < 0) = False from eq_false (by omega), if_false]
            exact hn
          · rw [idxT_neg a1]
            simp only [show ((-1 : Int) < 0) = True by simp, if_true]
            by_cases a2 : (cs.getD x zCl).f1 < 0
            · simp only [show ((cs.getD x zCl).f1 < 0) = True from eq_true a2, if_true]
              exact app x ⟨by omega, by omega, a1, .inl (by rw [Int.toNat_natCast]; omega)⟩
            · simp only [show ((cs.getD x zCl).f1 < 0) = False from eq_false a2, if_false]
              refine Ev.bind (f := fun k t2 => if t2 ≥ 0 then wayzgooselaw04_TradeRenumbered.l0 k cs.length (o ++ [(x : Int)]) p cs hs else wayzgooselaw04_TradeRenumbered.l1 k cs.length o p ((i + 1 : Nat) : Int) cs hs) (index_ok o (cs.getD x zCl).f1 (by omega)) ?_
              by_cases a3 : (cs.getD x zCl).f1 ∈ o
              · have := (idxT_nonneg o (cs.getD x zCl).f1).2 a3
                simp only [show (idxT o (cs.getD x zCl).f1 ≥ 0) = True from eq_true this, if_true]
                exact app x ⟨by omega, by omega, a1, .inr (by rw [Int.toNat_natCast]; exact a3)⟩
              · rw [idxT_neg a3]
                simp only [show ((-1 : Int) ≥ 0) = False by simp, if_false]
                exact hn
    refine Ev.step (fun k => ?_) (key j 0 (by omega))
    simp only [wayzgooselaw04_TradeRenumbered.l0]
    rw [if_pos (by omega)]
    rfl
theorem TradeRenumbered : wayzgooselaw04_TradeRenumbered.Pure := by
  intro l _ hl _
  obtain ⟨cs, hs, a', s', he, hm, hd⟩ := tradesOf_ok (s := 11400714819323198485) (newDice_ok hl) (c := 6) (h := 6) (by omega) (by omega) (by omega) (by omega)
  have h6 := (check_parts hm.ok).1
  obtain ⟨p, a2, s2, hor, hp, _⟩ := order_ok (s := s') cs.length hd (by omega) hm.pos
  refine Ev.rounds (r := true) ?_
  refine Ev.congr (f := fun k => (wayzgoosekit_TradesOf.f k l 0 11400714819323198485 6 6).bind fun bt => (wayzgoosekit_Dice_Order.f k l bt.2.2.1 bt.2.2.2 (bt.1.length : Int)).bind fun b3 => wayzgooselaw04_TradeRenumbered.l0 k (bt.1.length : Int) [] b3.1 bt.1 bt.2.1) (fun k => ?_) (Ev.bind (f := fun k (bt : List Cl × List Hd × Int × Int) => (wayzgoosekit_Dice_Order.f k l bt.2.2.1 bt.2.2.2 (bt.1.length : Int)).bind fun b3 => wayzgooselaw04_TradeRenumbered.l0 k (bt.1.length : Int) [] b3.1 bt.1 bt.2.1) he (Ev.bind (f := fun k (b3 : List Int × Int × Int) => wayzgooselaw04_TradeRenumbered.l0 k (cs.length : Int) [] b3.1 cs hs) hor (l01 hm.ok hp cs.length [] (by simp) ⟨fun x hx => by simp at hx, List.nodup_nil, fun j hj => by simp at hj⟩)))
  unfold wayzgooselaw04_TradeRenumbered.f wayzgoosekit_NewDice.f
  rfl
end Go.Proofs.Ytfbimhnlcmdcpaa.Pure
namespace Go.Proofs.Ytfbimhnlcmdcpaa.tradeRenumbered
open Go.ChangeShapes Go.WideShapes Go.ChangeAt Go.RowKit
open Go.ChangeMaps (open_string shut_string)
set_option linter.unusedVariables false
theorem own : ownKnob Try.prog.godebug = none := by kernel_rfl
theorem laidOut : laidOutB Try.prog = true := by kernel_rfl
def IsRow (k : IntKind) (w : World) (a : Option Addr) (len cap : Nat) (zs : List Int) : Prop :=
  (a = none ∧ len = 0 ∧ cap = 0 ∧ zs = []) ∨
  ∃ x, a = some x ∧ len ≤ cap ∧ cap ≤ maxLen ∧ zs.length = cap ∧ (∀ i, i < zs.length → w.cell? (x.add i) = some (.int k (zs.getD i 0))) ∧ ∀ n ∈ zs, (Lit.int k n).wf = true
set_option maxRecDepth 100000 in
theorem lifted (os : Os) (started : os.Started) (H : Type) (enc : TypeId × Value → H) :
    ReturnsInHanded {} Try.checked os 7 .any (Rows.tradeRenumberedSpec.pre6 enc Try.prog Try.f7 Rows.tradeRenumberedRow.domain false) (Rows.tradeRenumberedSpec.post enc Try.prog Try.f7 false true false false) := by
  refine returnsInHanded_of_change_sized (C := Try.checked) own started (by kernel_rfl) Try.func7
    (ChangeSpec.witness6 (enc := enc) (C := Try.checked) false ⟨#[], #[.slice none 0 0], []⟩ 8 (by kernel_rfl) (by kernel_rfl) (by kernel_rfl) (by kernel_rfl)) ?_
  intro W base args ds gs before hval0 hW hcnd hsz0 _
  have hsz : (DataW.weightsEach Try.prog (Try.f7.params.toList ++ Rows.tradeRenumberedSpec.plain.varTypes Try.prog) (ds ++ gs)).all (· ≤ reachBytes) = true := hsz0
  have hval : ∀ (j : Nat) t v, Try.f7.params[j]? = some t → args[j]? = some v → Value.okWide Try.prog W .any base t v := hval0
  have hW' := hW
  obtain ⟨p, q, hA0, hV, rfl, hfz, hnd⟩ := hW
  have hA : DataW.TrodAll enc Try.prog W 0 (fun _ => true) true Try.f7.params.toList args.toList ds p := hA0
  rw [Try.params7] at hA hval hsz
  obtain ⟨v0, vs0, d0, ds0, p0, q0, hargs, rfl, rfl, h0, r0⟩ := trodAll_cons hA
  obtain ⟨rfl, rfl, rfl⟩ := trodAll_nil r0
  obtain rfl : args = #[v0] := by cases args; simp_all
  obtain ⟨rfl, rfl⟩ := trodVars_none hV
  obtain ⟨a0, len0, cap0, rfl⟩ := okWide_slice Try.underlying22 (hval 0 22 v0 rfl rfl)
  have k0 := h0
  have lt0 : ∀ x ∈ p0, x.block < W.heap.size := by obtain ⟨m, hm⟩ := k0; exact DataW.trod_lt m _ _ _ hm
  obtain ⟨z0, w0⟩ : ∃ zs, IsRow .i64 W a0 len0 cap0 zs := by
    obtain ⟨fuel, hf⟩ := h0
    rcases open_ints Try.underlying22 Try.underlying3 (by kernel_rfl) hf with ⟨hcs, _⟩ | ⟨x, l, c, zs, hcs, _, hl, hm, hz, _, hcell, hwz⟩
    · simp [Value.cells] at hcs
      obtain ⟨rfl, rfl, rfl⟩ := hcs
      exact ⟨[], .inl ⟨rfl, rfl, rfl, rfl⟩⟩
    · simp [Value.cells] at hcs
      obtain ⟨rfl, rfl, rfl⟩ := hcs
      exact ⟨zs, .inr ⟨_, rfl, hl, hm, by simpa using hz, hcell, hwz⟩⟩
  have y0 : len0 * 8 ≤ 140737488351232 := Go.Proofs.YtfbimhnlcmdcpaaW.PrintWords.sized_ints hsz (j := 0) (t := 22) rfl rfl Try.underlying22 Try.underlying3 (by kernel_rfl) (by kernel_rfl) h0
  clear hA0 hval0 hsz0 hsz
  refine (Pa.wayzgooselaw04_TradeRenumbered.walk Pure.TradeRenumbered a0 len0 cap0 z0 W w0 y0).mono fun e W' ⟨he, bel⟩ => ?_
  subst he
  exact ⟨_, rfl, _, _, _, [], _, [], hW', trodAll_mk1 (shut_bool Try.underlying4 _), (trodAll_cons_mk (Below.trod laidOut (by kernel_rfl) (of_decide_eq_true (by kernel_rfl)) k0 bel lt0) trodAll_mk0), rfl, bel.frame _, fun h => by cases h⟩
theorem over : Rows.tradeRenumberedRow.holds Try.pinned (OpenSpec.ofChange Rows.tradeRenumberedSpec) :=
  OpenClaim.holds_of_wide 7 Try.f7 rfl rfl rfl rfl rfl rfl rfl ⟨rfl, rfl, rfl, rfl, rfl⟩ rfl rfl rfl rfl rfl (by kernel_rfl) Try.func7 (by kernel_rfl)
    (of_decide_eq_true (by kernel_rfl)) (by unfold Func.isWrapper; first | (rw [if_pos (by decide +kernel)]; kernel_rfl) | (rw [if_neg (by decide +kernel)]; exact ⟨rfl, rfl⟩))
    (fun os started H enc _ => lifted os started H enc)
theorem proved : Rows.TradeRenumberedSaid := over
#print axioms proved
end Go.Proofs.Ytfbimhnlcmdcpaa.tradeRenumbered
namespace Go.Proofs.Ytfbimhnlcmdcpaa
/-- The row, under a short name, for the claim. -/
theorem tradeRenumbered_holds : Rows.TradeRenumberedSaid := tradeRenumbered.proved
end Go.Proofs.Ytfbimhnlcmdcpaa
