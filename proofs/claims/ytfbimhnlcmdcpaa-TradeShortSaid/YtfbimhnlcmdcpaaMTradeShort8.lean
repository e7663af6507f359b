/- A part of the proof: The beginning of Short means just one trade, and that to which the heading leads, if it leads to one; no shorter one means just one: for all lists of numbers. Without conditions of its own. (It holds words of the kit's print, out of print.sh's own texts for this seat, cut down by a program to what this proof reaches.) -/
import Derived.Test.YtfbimhnlcmdcpaaMTradeShort3
import Derived.Test.YtfbimhnlcmdcpaaMTradeShort2
import Derived.KernelRfl
import Derived.Test.YtfbimhnlcmdcpaaMTradeShort7
import Derived.SizedLaws
import Derived.ChangeSlices
import Derived.Test.YtfbimhnlcmdcpaaRows
import Derived.WalkKit
import Derived.ProofKit
import Derived.OpenShut
import Derived.ShutString
import Derived.ChangeOld
import Derived.Below
/- What the dice of the kit give: numbers in their bounds, orders, ascending lists. -/
namespace Go.Proofs.Ytfbimhnlcmdcpaa.Q
open Go.RowKit Go.Proofs.Ytfbimhnlcmdcpaa.Pa Go.Proofs.YtfbimhnlcmdcpaaW.PrintWords Go.Proofs.YtfbimhnlcmdcpaaW.PrintLast Go.Proofs.YtfbimhnlcmdcpaaW.PrintMore
set_option linter.unusedVariables false

theorem u64w (x : Int) : IntKind.u64.wrap x = x % 18446744073709551616 := rfl
theorem xor_range (a b : Int) : 0 ≤ Go.bits .xor .u64 a b ∧ Go.bits .xor .u64 a b < 18446744073709551616 := by
  unfold Go.bits
  rw [u64w]
  omega
theorem w64s {x : Int} (h0 : -9223372036854775808 ≤ x) (h1 : x < 9223372036854775808) : wrap64 x = x := by
  unfold wrap64
  omega
theorem Ev.last {α : Type} {g : Nat → Option α} {r : α} (h : ∀ k, g (k + 1) = some r) : Ev g r := Ev.step h (Ev.now r)
/-- Dice in order: so many numbers are used up. -/
structure DOK (l : List Int) (a : Int) : Prop where
  lo : 0 ≤ a
  hi : a ≤ l.length
  sz : l.length < 4611686018427387904

theorem raw_ok {l : List Int} {a s : Int} (h : DOK l a) : ∃ n a' s', wayzgoosekit_Dice_raw.f l a s = some (n, a', s') ∧ 0 ≤ n ∧ n < 18446744073709551616 ∧ DOK l a' := by
  have hz := h.sz
  have hlo := h.lo
  unfold wayzgoosekit_Dice_raw.f
  by_cases c : a < (l.length : Int)
  · rw [if_pos c, if_pos h.lo]
    refine ⟨_, _, _, rfl, (xor_range _ _).1, (xor_range _ _).2, ?_⟩
    rw [w64s (by omega) (by omega)]
    exact ⟨by omega, by omega, hz⟩
  · rw [if_neg c]
    exact ⟨_, _, _, rfl, (xor_range _ _).1, (xor_range _ _).2, h⟩
theorem to_ok {l : List Int} {a s n : Int} (h : DOK l a) (hn : n < 4611686018427387904) : ∃ v a' s', wayzgoosekit_Dice_To.f l a s n = some (v, a', s') ∧ 0 ≤ v ∧ (v ≤ n ∨ v = 0) ∧ DOK l a' := by
  unfold wayzgoosekit_Dice_To.f
  by_cases c : n < 1
  · rw [if_pos c]
    exact ⟨_, _, _, rfl, by omega, .inr rfl, h⟩
  · rw [if_neg c]
    obtain ⟨m, a', s', hr, h0, h1, hd⟩ := raw_ok (s := s) h
    rw [hr]
    have hw : IntKind.u64.wrap (wrap64 (n + 1)) = n + 1 := by
      rw [w64s (by omega) (by omega), u64w]
      omega
    simp only [Option.bind_some, hw]
    rw [if_neg (by omega)]
    have h2 : (m / 65536).tmod (n + 1) = m / 65536 % (n + 1) := Int.tmod_eq_emod_of_nonneg (by omega)
    have h3 := Int.emod_nonneg (m / 65536) (show n + 1 ≠ 0 by omega)
    have h4 := Int.emod_lt_of_pos (m / 65536) (show 0 < n + 1 by omega)
    rw [h2, w64s (by omega) (by omega)]
    exact ⟨_, _, _, rfl, h3, .inl (by omega), hd⟩
/-- n at least 0: a number from 0 to n. -/
theorem to_ok' {l : List Int} {a s n : Int} (h : DOK l a) (hn : n < 4611686018427387904) (h0 : 0 ≤ n) : ∃ v a' s', wayzgoosekit_Dice_To.f l a s n = some (v, a', s') ∧ 0 ≤ v ∧ v ≤ n ∧ DOK l a' := by
  obtain ⟨v, a', s', h1, h2, h3, h4⟩ := to_ok (s := s) h hn
  exact ⟨v, a', s', h1, h2, by omega, h4⟩
theorem from_ok {l : List Int} {a s lo hi : Int} (h : DOK l a) (hl : -1000000 ≤ lo) (hl2 : lo ≤ 1000000) (hh : -1000000 ≤ hi) (hh2 : hi ≤ 1000000) : ∃ v a' s', wayzgoosekit_Dice_From.f l a s lo hi = some (v, a', s') ∧ lo ≤ v ∧ (v ≤ hi ∨ v = lo) ∧ DOK l a' := by
  unfold wayzgoosekit_Dice_From.f
  rw [w64s (by omega) (by omega)]
  obtain ⟨v, a', s', h1, h2, h3, h4⟩ := to_ok (s := s) (n := hi - lo) h (by omega)
  rw [h1]
  simp only [Option.bind_some]
  rw [w64s (by omega) (by omega)]
  exact ⟨_, _, _, rfl, by omega, by omega, h4⟩
theorem once_ok {l : List Int} {a s n : Int} (h : DOK l a) (hn : -1000000 ≤ n) (hn2 : n < 1000000) : ∃ v a' s', wayzgoosekit_Dice_Once.f l a s n = some (v, a', s') ∧ DOK l a' := by
  unfold wayzgoosekit_Dice_Once.f
  rw [w64s (by omega) (by omega)]
  obtain ⟨v, a', s', h1, h2, h3, h4⟩ := to_ok (s := s) (n := n - 1) h (by omega)
  rw [h1]
  exact ⟨_, _, _, rfl, h4⟩

/-! ### Order -/
theorem set_set_perm (l : List Int) (i j : Nat) (hi : i < l.length) (hj : j < l.length) : ((l.set i (l.getD j 0)).set j (l.getD i 0)).Perm l := by
  have gi : l.getD i 0 = l[i] := by simp [List.getD_eq_getElem?_getD, hi]
  have gj : l.getD j 0 = l[j] := by simp [List.getD_eq_getElem?_getD, hj]
  rw [gi, gj, List.perm_iff_count]
  intro x
  have hi' : i < (l.set i l[j]).length := by rw [List.length_set]; exact hi
  have hj' : j < (l.set i l[j]).length := by rw [List.length_set]; exact hj
  have e1 := List.count_set (a := l[i]) (b := x) hj'
  have e2 := List.count_set (a := l[j]) (b := x) hi
  rw [e1, e2]
  have ci : (if (l[i] == x) = true then 1 else 0) ≤ List.count x l := by
    split
    · rename_i h
      have : l[i] = x := by simpa using h
      exact List.count_pos_iff.2 (this ▸ List.getElem_mem hi)
    · omega
  by_cases hij : i = j
  · subst hij
    simp only [List.getElem_set_self]
    split <;> rename_i h <;> simp_all
  · simp only [List.getElem_set_ne hij]
    have cj : (if (l[j] == x) = true then 1 else 0) ≤ List.count x l - (if (l[i] == x) = true then 1 else 0) + (if (l[j] == x) = true then 1 else 0) := by omega
    omega
theorem order_l1 {l : List Int} (d : Nat) : ∀ (p : List Int) (x a s : Int), DOK l a → x = d → (d : Int) < p.length ∨ d = 0 → p.length < 1000000 →
    ∃ q a' s', Ev (fun k => wayzgoosekit_Dice_Order.l1 k p x l a s) (q, a', s') ∧ q.Perm p ∧ DOK l a' := by
  induction d with
  | zero =>
    intro p x a s h hx hd hp
    refine ⟨p, a, s, Ev.last (fun k => ?_), List.Perm.refl _, h⟩
    simp only [wayzgoosekit_Dice_Order.l1]
    rw [if_neg (by omega)]
  | succ d ih =>
    intro p x a s h hx hd hp
    obtain ⟨v, a1, s1, hr, h0, h1, hd1⟩ := to_ok' (s := s) (n := x) h (by omega) (by omega)
    have hxl : x.toNat < p.length := by omega
    have hvl : v.toNat < p.length := by omega
    have hperm := set_set_perm p x.toNat v.toNat hxl hvl
    obtain ⟨q, a', s', he, hq, hdk⟩ := ih ((p.set x.toNat (rd p v)).set v.toNat (rd p x)) (x - 1) a1 s1 hd1 (by omega) (by simp only [List.length_set]; omega) (by simp only [List.length_set]; exact hp)
    refine ⟨q, a', s', Ev.step (fun k => ?_) he, hq.trans hperm, hdk⟩
    simp only [wayzgoosekit_Dice_Order.l1]
    rw [if_pos (by omega), hr]
    simp only [Option.bind_some]
    rw [if_pos (by omega), if_pos (by omega), if_pos (by omega), if_pos (by omega), w64s (by omega) (by omega)]
theorem order_ok {l : List Int} {a s : Int} (n : Nat) (h : DOK l a) (hn : n < 1000000) (h1 : 1 ≤ n) : ∃ q a' s', Ev (fun k => wayzgoosekit_Dice_Order.f k l a s n) (q, a', s') ∧ q.Perm (nats n) ∧ DOK l a' := by
  have key : ∀ (d i : Nat), i + d = n → ∃ q a' s', Ev (fun k => wayzgoosekit_Dice_Order.l0 k n (nats i) i l a s) (q, a', s') ∧ q.Perm (nats n) ∧ DOK l a' := by
    intro d
    induction d with
    | zero =>
      intro i hi
      obtain rfl : i = n := by omega
      have hlen : (nats i).length = i := by simp [nats]
      obtain ⟨q, a', s', he, hq, hd⟩ := order_l1 (l := l) (i - 1) (nats i) ((i : Int) - 1) a s h (by omega) (by rw [hlen]; omega) (by rw [hlen]; exact hn)
      refine ⟨q, a', s', Ev.step (fun k => ?_) he, hq, hd⟩
      simp only [wayzgoosekit_Dice_Order.l0]
      rw [if_neg (by omega), w64s (by omega) (by omega)]
    | succ d ih =>
      intro i hi
      obtain ⟨q, a', s', he, hq, hd⟩ := ih (i + 1) (by omega)
      have hlen : (nats i).length = i := by simp [nats]
      have hsucc : nats (i + 1) = nats i ++ [(i : Int)] := by simp [nats, List.range_succ]
      refine ⟨q, a', s', Ev.step (fun k => ?_) he, hq, hd⟩
      simp only [wayzgoosekit_Dice_Order.l0]
      rw [if_pos (by omega), if_pos (by rw [hlen]; omega), w64s (by omega) (by omega), hsucc, Int.natCast_add]
      rfl
  exact key n 0 (by omega)

/-! ### Index -/
/-- the first index of x from i on, -1 -/
def idxFrom (x : Int) : List Int → Int → Int
  | [], _ => -1
  | y :: t, i => if y = x then i else idxFrom x t (i + 1)
def idxT (l : List Int) (x : Int) : Int := idxFrom x l 0
theorem index_ok (l : List Int) (x : Int) (hl : l.length < 4611686018427387904) : Ev (fun k => wayzgoosekit_Index.f k l x) (idxT l x) := by
  have key : ∀ (d i : Nat), i + d = l.length → Ev (fun k => wayzgoosekit_Index.l0 k l x i) (idxFrom x (l.drop i) i) := by
    intro d
    induction d with
    | zero =>
      intro i hi
      rw [List.drop_of_length_le (by omega)]
      refine Ev.last (fun k => ?_)
      simp only [wayzgoosekit_Index.l0]
      rw [if_neg (by omega)]
      rfl
    | succ d ih =>
      intro i hi
      have hil : i < l.length := by omega
      rw [List.drop_eq_getElem_cons hil]
      have hrd : rd l (i : Int) = l[i] := by simp [rd, List.getD_eq_getElem?_getD, hil]
      by_cases c : l[i] = x
      · refine Ev.last (fun k => ?_)
        simp only [wayzgoosekit_Index.l0, idxFrom]
        rw [if_pos (by omega), if_pos (by omega), hrd, if_pos c, if_pos c]
      · refine Ev.step (fun k => ?_) (show Ev _ (idxFrom x (l[i] :: l.drop (i + 1)) i) by rw [idxFrom, if_neg c]; exact ih (i + 1) (by omega))
        simp only [wayzgoosekit_Index.l0]
        rw [if_pos (by omega), if_pos (by omega), hrd, if_neg c, w64s (by omega) (by omega)]
        rfl
  exact key l.length 0 (by omega)
theorem idxFrom_spec (x : Int) : ∀ (l : List Int) (i : Int), (x ∉ l ∧ idxFrom x l i = -1) ∨ (∃ j : Nat, j < l.length ∧ l.getD j 0 = x ∧ (∀ m, m < j → l.getD m 0 ≠ x) ∧ idxFrom x l i = i + j)
  | [], i => .inl ⟨by simp, rfl⟩
  | y :: t, i => by
    by_cases c : y = x
    · exact .inr ⟨0, by simp, by simpa using c, fun m hm => by omega, by simp [idxFrom, c]⟩
    · rcases idxFrom_spec x t (i + 1) with ⟨h1, h2⟩ | ⟨j, h1, h2, h3, h4⟩
      · exact .inl ⟨by simp [h1, Ne.symm c], by rw [idxFrom, if_neg c, h2]⟩
      · refine .inr ⟨j + 1, by simp; omega, by simpa using h2, fun m hm => ?_, by rw [idxFrom, if_neg c, h4]; omega⟩
        cases m with
        | zero => simpa using c
        | succ m => simpa using h3 m (by omega)
theorem idxT_spec (l : List Int) (x : Int) : (x ∉ l ∧ idxT l x = -1) ∨ (∃ j : Nat, j < l.length ∧ l.getD j 0 = x ∧ (∀ m, m < j → l.getD m 0 ≠ x) ∧ idxT l x = j) := by
  have := idxFrom_spec x l 0
  simpa [idxT] using this
end Go.Proofs.Ytfbimhnlcmdcpaa.Q
/- Trades that are made of numbers are valid. -/
namespace Go.Proofs.Ytfbimhnlcmdcpaa.Q
open Go.RowKit Go.Proofs.Ytfbimhnlcmdcpaa.Pa Go.Proofs.YtfbimhnlcmdcpaaW.PrintWords Go.Proofs.YtfbimhnlcmdcpaaW.PrintLast Go.Proofs.YtfbimhnlcmdcpaaW.PrintMore
set_option linter.unusedVariables false

/-! ### partOf -/
theorem nats_mem (n : Nat) (x : Int) : x ∈ nats n ↔ 0 ≤ x ∧ x < n := by
  unfold nats
  simp only [List.mem_map, List.mem_range]
  constructor
  · rintro ⟨m, hm, rfl⟩
    exact ⟨by simp, by simpa using hm⟩
  · rintro ⟨h0, h1⟩
    exact ⟨x.toNat, by omega, by simp; omega⟩
theorem nats_pairwise (n : Nat) : (nats n).Pairwise (· < ·) := by
  unfold nats
  rw [List.pairwise_map]
  exact (List.pairwise_lt_range).imp (fun h => by simpa using h)
theorem nats_nodup (n : Nat) : (nats n).Nodup := (nats_pairwise n).imp (fun h => by omega)
theorem nats_snoc (n : Nat) : nats (n + 1) = nats n ++ [(n : Int)] := by simp [nats, List.range_succ]
theorem idx_take (p : List Int) (x : Int) (m : Int) (hx : x ∈ p) (hm : idxT p x < m) : x ∈ p.take m.toNat := by
  rcases idxT_spec p x with ⟨h1, h2⟩ | ⟨j, h1, h2, h3, h4⟩
  · exact absurd hx h1
  · rw [h4] at hm
    have : p[j]? = some x := by
      rw [List.getElem?_eq_getElem h1, ← h2, List.getD_eq_getElem?_getD, List.getElem?_eq_getElem h1]
      rfl
    refine List.mem_of_getElem? (i := j) ?_
    rw [List.getElem?_take_of_lt (by omega), this]
theorem part_len (n : Nat) (p : List Int) (m : Int) (hp : p.Perm (nats n)) : ((nats n).filter (fun i => decide (idxT p i < m))).length ≤ m.toNat := by
  have hnd : p.Nodup := hp.nodup_iff.2 (nats_nodup n)
  have h1 : ((nats n).filter (fun i => decide (idxT p i < m))).length = (p.filter (fun i => decide (idxT p i < m))).length := (hp.symm.filter _).length_eq
  rw [h1]
  have h2 : (p.filter (fun i => decide (idxT p i < m))).length ≤ (p.filter (fun i => decide (i ∈ p.take m.toNat))).length := by
    rw [← List.countP_eq_length_filter, ← List.countP_eq_length_filter]
    exact List.countP_mono_left (fun x hx h => by simpa using idx_take p x m hx (by simpa using h))
  refine Nat.le_trans h2 ?_
  have h3 : p.filter (fun i => decide (i ∈ p.take m.toNat)) = (p.take m.toNat).filter (fun i => decide (i ∈ p.take m.toNat)) ++ (p.drop m.toNat).filter (fun i => decide (i ∈ p.take m.toNat)) := by
    conv => lhs; rw [show p.filter (fun i => decide (i ∈ p.take m.toNat)) = ((p.take m.toNat) ++ (p.drop m.toNat)).filter (fun i => decide (i ∈ p.take m.toNat)) by rw [List.take_append_drop]]
    rw [List.filter_append]
  have h4 : (p.drop m.toNat).filter (fun i => decide (i ∈ p.take m.toNat)) = [] := by
    rw [List.filter_eq_nil_iff]
    intro x hx h
    have hd : (p.take m.toNat ++ p.drop m.toNat).Nodup := by rw [List.take_append_drop]; exact hnd
    rw [List.nodup_append] at hd
    exact hd.2.2 x (by simpa using h) x hx rfl
  rw [h3, h4, List.append_nil]
  refine Nat.le_trans (List.length_filter_le _ _) ?_
  rw [List.length_take]
  omega
/-- Ascending numbers below n. -/
structure Asc (ws : List Int) (n : Nat) : Prop where
  lt : ws.Pairwise (· < ·)
  mem : ∀ x ∈ ws, 0 ≤ x ∧ x < n
theorem part_ok {l : List Int} {a s : Int} (n : Nat) (m : Int) (h : DOK l a) (hn : n < 1000000) (h1 : 1 ≤ n) (hm : 0 ≤ m) : ∃ ws a' s', Ev (fun k => wayzgoosekit_partOf.f k l a s n m) (ws, a', s') ∧ Asc ws n ∧ ws.length ≤ m.toNat ∧ DOK l a' := by
  obtain ⟨p, a1, s1, he, hp, hd⟩ := order_ok (s := s) n h hn h1
  have hpl : p.length = n := by rw [hp.length_eq]; simp [nats]
  have key : ∀ (d i : Nat), i + d = n → Ev (fun k => wayzgoosekit_partOf.l0 k n m p ((nats i).filter (fun i => decide (idxT p i < m))) i l a1 s1) ((nats n).filter (fun i => decide (idxT p i < m)), a1, s1) := by
    intro d
    induction d with
    | zero =>
      intro i hi
      obtain rfl : i = n := by omega
      refine Ev.last (fun k => ?_)
      simp only [wayzgoosekit_partOf.l0]
      rw [if_neg (by omega)]
    | succ d ih =>
      intro i hi
      have hlen : ((nats i).filter (fun i => decide (idxT p i < m))).length ≤ i := Nat.le_trans (List.length_filter_le _ _) (by simp [nats])
      have ih := ih (i + 1) (by omega)
      rw [nats_snoc, List.filter_append] at ih
      by_cases c : idxT p i < m
      · have e1 : [(i : Int)].filter (fun i => decide (idxT p i < m)) = [(i : Int)] := by simp [c]
        rw [e1] at ih
        refine Ev.step (f := fun k => (wayzgoosekit_Index.f k p i).bind fun t => if t < m then (if ((nats i).filter (fun i => decide (idxT p i < m))).length < 17592186044416 then wayzgoosekit_partOf.l0 k n m p ((nats i).filter (fun i => decide (idxT p i < m)) ++ [(i : Int)]) ((i + 1 : Nat) : Int) l a1 s1 else none) else wayzgoosekit_partOf.l0 k n m p ((nats i).filter (fun i => decide (idxT p i < m))) ((i + 1 : Nat) : Int) l a1 s1) (fun k => ?_) ?_
        · simp only [wayzgoosekit_partOf.l0]
          rw [if_pos (by omega), w64s (by omega) (by omega)]
          rfl
        · refine Ev.bind (index_ok p i (by omega)) ?_
          refine Ev.congr (fun k => ?_) ih
          rw [if_pos c, if_pos (by omega)]
      · have e1 : [(i : Int)].filter (fun i => decide (idxT p i < m)) = [] := by simp [c]
        rw [e1, List.append_nil] at ih
        refine Ev.step (f := fun k => (wayzgoosekit_Index.f k p i).bind fun t => if t < m then (if ((nats i).filter (fun i => decide (idxT p i < m))).length < 17592186044416 then wayzgoosekit_partOf.l0 k n m p ((nats i).filter (fun i => decide (idxT p i < m)) ++ [(i : Int)]) ((i + 1 : Nat) : Int) l a1 s1 else none) else wayzgoosekit_partOf.l0 k n m p ((nats i).filter (fun i => decide (idxT p i < m))) ((i + 1 : Nat) : Int) l a1 s1) (fun k => ?_) ?_
        · simp only [wayzgoosekit_partOf.l0]
          rw [if_pos (by omega), w64s (by omega) (by omega)]
          rfl
        · refine Ev.bind (index_ok p i (by omega)) ?_
          refine Ev.congr (fun k => ?_) ih
          rw [if_neg c]
  refine ⟨_, _, _, Ev.bind (f := fun k (x : List Int × Int × Int) => wayzgoosekit_partOf.l0 k n m x.1 [] 0 l x.2.1 x.2.2) he (key n 0 (by omega)), ⟨?_, ?_⟩, part_len n p m hp, hd⟩
  · exact (nats_pairwise n).filter _
  · intro x hx
    exact (nats_mem n x).1 (List.mem_filter.1 hx).1
end Go.Proofs.Ytfbimhnlcmdcpaa.Q
/- TradesOf: it gives trades, and they are valid. -/
namespace Go.Proofs.Ytfbimhnlcmdcpaa.Q
open Go.RowKit Go.Proofs.Ytfbimhnlcmdcpaa.Pa Go.Proofs.YtfbimhnlcmdcpaaW.PrintWords Go.Proofs.YtfbimhnlcmdcpaaW.PrintLast Go.Proofs.YtfbimhnlcmdcpaaW.PrintMore
set_option linter.unusedVariables false
set_option linter.unusedSimpArgs false

def sortsL : List ByteArray := (wayzgoosekit_sorts.f).getD []
def callL : List ByteArray := (wayzgoosekit_callings.f).getD []
theorem sorts_f : wayzgoosekit_sorts.f = some sortsL := by kernel_rfl
theorem call_f : wayzgoosekit_callings.f = some callL := by kernel_rfl
theorem sorts_len : sortsL.length = 9 := by kernel_rfl
theorem call_len : callL.length = 16 := by kernel_rfl
def sortAt (i : Int) : ByteArray := rdOf ByteArray.empty sortsL i
def callAt (i : Int) : ByteArray := rdOf ByteArray.empty callL i
def allTwo (n : Nat) (f : Int → Int → Bool) : Bool := (List.range n).all fun i => (List.range n).all fun j => f i j
theorem allTwo_spec {n : Nat} {f : Int → Int → Bool} (h : allTwo n f = true) (i j : Int) (hi : 0 ≤ i) (hi2 : i < n) (hj : 0 ≤ j) (hj2 : j < n) : f i j = true := by
  unfold allTwo at h
  rw [List.all_eq_true] at h
  have h1 := h i.toNat (List.mem_range.2 (by omega))
  rw [List.all_eq_true] at h1
  have h2 := h1 j.toNat (List.mem_range.2 (by omega))
  rwa [show ((i.toNat : Nat) : Int) = i by omega, show ((j.toNat : Nat) : Int) = j by omega] at h2
theorem sorts_all : allTwo 9 (fun i j => wordOk (sortAt i) && (decide (i = j) || !sEq (sortAt i) (sortAt j))) = true := by kernel_rfl
theorem call_all : allTwo 16 (fun i j => wordOk (callAt i) && (decide (i = j) || !sEq (callAt i) (callAt j)) && (!decide (i < j) || (sLt (callAt i) (callAt j) && !sLt (callAt j) (callAt i)))) = true := by kernel_rfl
theorem sort_word (i : Int) (h0 : 0 ≤ i) (h1 : i < 9) : wordOk (sortAt i) = true := by
  have := allTwo_spec sorts_all i i h0 h1 h0 h1
  simp only [Bool.and_eq_true] at this
  exact this.1
theorem sort_ne (i j : Int) (h0 : 0 ≤ i) (h1 : i < 9) (g0 : 0 ≤ j) (g1 : j < 9) (hne : i ≠ j) : sEq (sortAt i) (sortAt j) = false := by
  have := allTwo_spec sorts_all i j h0 h1 g0 g1
  simp only [Bool.and_eq_true] at this
  simpa [hne] using this.2
theorem call_word (i : Int) (h0 : 0 ≤ i) (h1 : i < 16) : wordOk (callAt i) = true := by
  have := allTwo_spec call_all i i h0 h1 h0 h1
  simp only [Bool.and_eq_true] at this
  exact this.1.1
theorem call_ne (i j : Int) (h0 : 0 ≤ i) (h1 : i < 16) (g0 : 0 ≤ j) (g1 : j < 16) (hne : i ≠ j) : sEq (callAt i) (callAt j) = false := by
  have := allTwo_spec call_all i j h0 h1 g0 g1
  simp only [Bool.and_eq_true] at this
  simpa [hne] using this.1.2
theorem call_lt (i j : Int) (h0 : 0 ≤ i) (g1 : j < 16) (hlt : i < j) : sLt (callAt i) (callAt j) = true ∧ sLt (callAt j) (callAt i) = false := by
  have := allTwo_spec call_all i j h0 (by omega) (by omega) g1
  simp only [Bool.and_eq_true] at this
  simpa [hlt] using this.2

/-! ### classes -/
structure ClsOK (p : List Int) (cs : List Cl) : Prop where
  name : ∀ i, i < cs.length → (cs.getD i zCl).f0 = sortAt (p.getD i 0)
  under : ∀ i, i < cs.length → -1 ≤ (cs.getD i zCl).f1 ∧ (cs.getD i zCl).f1 < (i : Int)
theorem ClsOK.snoc {p : List Int} {cs : List Cl} (h : ClsOK p cs) (u : Int) (h0 : -1 ≤ u) (h1 : u < (cs.length : Int)) : ClsOK p (cs ++ [⟨sortAt (p.getD cs.length 0), u⟩]) := by
  constructor
  · intro i hi
    rw [List.length_append, List.length_singleton] at hi
    rcases Nat.lt_or_ge i cs.length with hlt | hge
    · rw [List.getD_eq_getElem?_getD, List.getElem?_append_left hlt, ← List.getD_eq_getElem?_getD]; exact h.name i hlt
    · obtain rfl : i = cs.length := by omega
      simp [List.getD_eq_getElem?_getD]
  · intro i hi
    rw [List.length_append, List.length_singleton] at hi
    rcases Nat.lt_or_ge i cs.length with hlt | hge
    · rw [List.getD_eq_getElem?_getD, List.getElem?_append_left hlt, ← List.getD_eq_getElem?_getD]; exact h.under i hlt
    · obtain rfl : i = cs.length := by omega
      simp [List.getD_eq_getElem?_getD]
      omega
theorem any_false {α : Type} {l : List α} {f : α → Bool} (h : ∀ x ∈ l, f x = false) : l.any f = false := by
  rw [List.any_eq_false]
  intro x hx
  rw [h x hx]
  simp
theorem mem_take_getD {α : Type} (l : List α) (z : α) (i : Nat) (x : α) (h : x ∈ l.take i) : ∃ j, j < i ∧ j < l.length ∧ l.getD j z = x := by
  obtain ⟨j, hj, rfl⟩ := List.mem_iff_getElem.1 h
  rw [List.length_take] at hj
  exact ⟨j, by omega, by omega, by rw [List.getElem_take, List.getD_eq_getElem?_getD, List.getElem?_eq_getElem (by omega)]; rfl⟩
theorem perm_at {p : List Int} {n : Nat} (hp : p.Perm (nats n)) (i : Nat) (hi : i < n) : i < p.length ∧ 0 ≤ p.getD i 0 ∧ p.getD i 0 < n := by
  have hl : p.length = n := by rw [hp.length_eq]; simp [nats]
  have : p.getD i 0 ∈ p := by rw [List.getD_eq_getElem?_getD, List.getElem?_eq_getElem (by omega)]; exact List.getElem_mem _
  have := (nats_mem n _).1 (hp.mem_iff.1 this)
  exact ⟨by omega, this.1, this.2⟩
theorem perm_ne {p : List Int} {n : Nat} (hp : p.Perm (nats n)) (i j : Nat) (hi : i < n) (hj : j < n) (hne : i ≠ j) : p.getD i 0 ≠ p.getD j 0 := by
  have hl : p.length = n := by rw [hp.length_eq]; simp [nats]
  have hnd : p.Nodup := hp.nodup_iff.2 (nats_nodup n)
  rw [List.getD_eq_getElem?_getD, List.getElem?_eq_getElem (by omega), List.getD_eq_getElem?_getD, List.getElem?_eq_getElem (by omega)]
  simp only [Option.getD_some]
  rcases Nat.lt_or_gt_of_ne hne with h | h
  · exact List.pairwise_iff_getElem.1 hnd i j _ _ h
  · exact (List.pairwise_iff_getElem.1 hnd j i _ _ h).symm
theorem ClsOK.err {p : List Int} {cs : List Cl} (hp : p.Perm (nats 9)) (hl : cs.length ≤ 9) (h : ClsOK p cs) (i : Nat) (hi : i < cs.length) : classErr cs i = 0 := by
  unfold classErr
  obtain ⟨h1, h2, h3⟩ := perm_at hp i (by omega)
  rw [h.name i hi, if_neg (by rw [sort_word _ h2 h3]; simp)]
  rw [if_neg, if_neg, if_neg]
  · have := (h.under i hi).2; omega
  · have := h.under i hi
    omega
  · rw [any_false]
    · simp
    intro y hy
    obtain ⟨j, hj, hjl, rfl⟩ := mem_take_getD cs zCl i y hy
    obtain ⟨g1, g2, g3⟩ := perm_at hp j (by omega)
    rw [h.name j hjl]
    exact sort_ne _ _ g2 g3 h2 h3 (perm_ne hp j i (by omega) (by omega) (by omega))

/-! ### headings -/
structure HdOK (nc n i : Nat) (w : Int) (x : Hd) : Prop where
  word : x.f0 = callAt w
  cls : -1 ≤ x.f1 ∧ x.f1 < nc
  see : x.f2 = -1 ∨ (0 ≤ x.f2 ∧ x.f2 < n ∧ x.f2 ≠ i)
  ptr : x.f2 ≠ -1 → x.f1 = -1 ∧ x.f3 = []
  idx : x.f2 = -1 → x.f1 = -1 → x.f3 ≠ []
  asc : x.f3.Pairwise (· < ·)
  also : ∀ y ∈ x.f3, 0 ≤ y ∧ y < n ∧ y ≠ i
def HdsOK (nc n : Nat) (ws : List Int) (hs : List Hd) : Prop := ∀ i, i < hs.length → HdOK nc n i (ws.getD i 0) (hs.getD i zHd)
theorem HdsOK.snoc {nc n : Nat} {ws : List Int} {hs : List Hd} {x : Hd} (h : HdsOK nc n ws hs) (hx : HdOK nc n hs.length (ws.getD hs.length 0) x) : HdsOK nc n ws (hs ++ [x]) := by
  intro i hi
  rw [List.length_append, List.length_singleton] at hi
  rcases Nat.lt_or_ge i hs.length with hlt | hge
  · rw [List.getD_eq_getElem?_getD (l := hs ++ [x]), List.getElem?_append_left hlt, ← List.getD_eq_getElem?_getD]; exact h i hlt
  · obtain rfl : i = hs.length := by omega
    rw [List.getD_eq_getElem?_getD (l := hs ++ [x]), List.getElem?_append_right (Nat.le_refl _), Nat.sub_self]
    exact hx
theorem asc_at {ws : List Int} {n : Nat} (h : Asc ws n) (i : Nat) (hi : i < ws.length) : 0 ≤ ws.getD i 0 ∧ ws.getD i 0 < n := by
  rw [List.getD_eq_getElem?_getD, List.getElem?_eq_getElem hi]
  exact h.mem _ (List.getElem_mem hi)
theorem asc_lt {ws : List Int} (h : ws.Pairwise (· < ·)) (i j : Nat) (hij : i < j) (hj : j < ws.length) : ws.getD i 0 < ws.getD j 0 := by
  rw [List.getD_eq_getElem?_getD, List.getElem?_eq_getElem (by omega), List.getD_eq_getElem?_getD, List.getElem?_eq_getElem hj]
  exact List.pairwise_iff_getElem.1 h i j (by omega) hj hij
theorem alsoErr_zero {n i : Nat} {l : List Int} (hl : l.Pairwise (· < ·)) (hm : ∀ y ∈ l, 0 ≤ y ∧ y < n ∧ y ≠ i) : ∀ (m k : Nat), k + m ≤ l.length → alsoErr n i l m k = 0
  | 0, k, _ => rfl
  | m + 1, k, h => by
    have hk : k < l.length := by omega
    have hmem : l.getD k 0 ∈ l := by rw [List.getD_eq_getElem?_getD, List.getElem?_eq_getElem hk]; exact List.getElem_mem hk
    have h1 := hm _ hmem
    unfold alsoErr
    rw [if_neg (by omega), if_neg (by omega), if_neg, alsoErr_zero hl hm m (k + 1) (by omega)]
    rintro ⟨h2, h3⟩
    have := asc_lt hl (k - 1) k (by omega) hk
    omega
theorem HdsOK.err {nc : Nat} {cs : List Cl} {ws : List Int} {hs : List Hd} (hw : Asc ws 16) (hc : cs.length = nc) (hn : hs.length = ws.length) (h : HdsOK nc hs.length ws hs) (i : Nat) (hi : i < hs.length) : headErr cs hs i = 0 := by
  have hx := h i hi
  obtain ⟨w0, w1⟩ := asc_at hw i (by omega)
  unfold headErr
  rw [hx.word, if_neg (by rw [call_word _ w0 (by omega)]; simp)]
  rw [if_neg]
  · rw [if_neg]
    · rw [if_neg (by have := hx.cls; omega), if_neg (by have := hx.see; omega), if_neg (by have := hx.see; omega), if_neg, ]
      · unfold kindErr
        rw [if_neg]
        rintro (⟨h1, h2⟩ | ⟨h1, h2, h3⟩)
        · have := hx.ptr h1
          rw [this.2] at h2
          rcases h2 with h2 | h2
          · exact h2 this.1
          · simp at h2
        · exact hx.idx h1 h2 (List.length_eq_zero_iff.1 h3)
      · rw [alsoErr_zero hx.asc hx.also _ _ (by omega)]
        simp
    · rintro ⟨h0, h1⟩
      have hy := h (i - 1) (by omega)
      rw [hy.word, (call_lt _ _ (asc_at hw (i - 1) (by omega)).1 (by omega) (asc_lt hw.lt (i - 1) i (by omega) (by omega))).2] at h1
      cases h1
  · rw [any_false]
    · simp
    intro y hy
    obtain ⟨j, hj, hjl, rfl⟩ := mem_take_getD hs zHd i y hy
    obtain ⟨g0, g1⟩ := asc_at hw j (by omega)
    have hlt := asc_lt hw.lt j i hj (by omega)
    rw [(h j hjl).word]
    exact call_ne _ _ g0 (by omega) w0 (by omega) (by omega)
theorem firstErr_none {g : Nat → Int} : ∀ (m i : Nat), (∀ j, i ≤ j → j < i + m → g j = 0) → firstErr g m i = 0
  | 0, i, _ => rfl
  | m + 1, i, h => by
    unfold firstErr
    rw [if_neg (by rw [h i (Nat.le_refl _) (by omega)]; simp)]
    exact firstErr_none m (i + 1) (fun j h1 h2 => h j (by omega) (by omega))
theorem made_valid {p : List Int} {cs : List Cl} {ws : List Int} {hs : List Hd} (hp : p.Perm (nats 9)) (hc6 : cs.length ≤ 6) (hh6 : hs.length ≤ 6) (hc : ClsOK p cs) (hw : Asc ws 16) (hn : hs.length = ws.length) (h : HdsOK cs.length hs.length ws hs) : checkT cs hs = 0 := by
  unfold checkT
  rw [if_neg (by omega), firstErr_none _ _ (fun j _ hj => hc.err hp (by omega) j (by omega)), if_neg (by simp), firstErr_none _ _ (fun j _ hj => h.err hw rfl hn j (by omega))]
end Go.Proofs.Ytfbimhnlcmdcpaa.Q
/- TradesOf gives trades, and they are valid. -/
namespace Go.Proofs.Ytfbimhnlcmdcpaa.Q
open Go.RowKit Go.Proofs.Ytfbimhnlcmdcpaa.Pa Go.Proofs.YtfbimhnlcmdcpaaW.PrintWords Go.Proofs.YtfbimhnlcmdcpaaW.PrintLast Go.Proofs.YtfbimhnlcmdcpaaW.PrintMore
set_option linter.unusedVariables false
set_option linter.unusedSimpArgs false

abbrev TRes := List Cl × List Hd × Int × Int
/-- The loop on headings comes to n headings that are in order. -/
def HRes (l : List Int) (ws : List Int) (cs : List Cl) (n : Nat) (g : Nat → Option TRes) : Prop :=
  ∃ hs a s, Ev g (cs, hs, a, s) ∧ hs.length = n ∧ HdsOK cs.length n ws hs ∧ DOK l a
theorem HRes.step {l ws : List Int} {cs : List Cl} {n : Nat} {g f : Nat → Option TRes} (h : ∀ k, g (k + 1) = f k) (hf : HRes l ws cs n f) : HRes l ws cs n g := by
  obtain ⟨hs, a, s, he, h1, h2, h3⟩ := hf
  exact ⟨hs, a, s, Ev.step h he, h1, h2, h3⟩
theorem HRes.congr {l ws : List Int} {cs : List Cl} {n : Nat} {g f : Nat → Option TRes} (h : ∀ k, g k = f k) (hf : HRes l ws cs n f) : HRes l ws cs n g := by
  obtain ⟨hs, a, s, he, h1, h2, h3⟩ := hf
  exact ⟨hs, a, s, Ev.congr h he, h1, h2, h3⟩

structure Env (l : List Int) (ws : List Int) (cs : List Cl) (n : Nat) : Prop where
  asc : Asc ws 16
  len : ws.length = n
  pos : 1 ≤ cs.length
  le : cs.length ≤ 6
  n6 : n ≤ 6

/-- What is laid for heading i so far. -/
theorem l2_ok {l ws : List Int} {cs : List Cl} {n : Nat} (E : Env l ws cs n) (i : Nat) (hi : i < n) (hs : List Hd) (hl : hs.length = i) (hok : HdsOK cs.length n ws hs) (u : Int) (hu0 : 0 ≤ u) (hu1 : u < cs.length)
    (ih : ∀ hs' a s, hs'.length = i + 1 → HdsOK cs.length n ws hs' → DOK l a → HRes l ws cs n (fun k => wayzgoosekit_TradesOf.l1 k ws n ((i : Int) + 1) l a s cs hs')) :
    ∀ (e j : Nat) (ul : List Int) (a s : Int), j + e = n → ul.Pairwise (· < ·) → (∀ y ∈ ul, 0 ≤ y ∧ y < j ∧ y ≠ i) → ul.length ≤ j → DOK l a →
      HRes l ws cs n (fun k => wayzgoosekit_TradesOf.l2 k ws n i j l a s cs hs (callAt (ws.getD i 0)) u (-1) ul) := by
  have hn6 := E.n6
  have hws := E.len
  intro e
  induction e with
  | zero =>
    intro j ul a s hj hp hm hul hd
    obtain rfl : j = n := by omega
    have hfin : ∀ c : Int, (c = u ∨ (c = -1 ∧ ul ≠ [])) → HdsOK cs.length j ws (hs ++ [⟨callAt (ws.getD i 0), c, -1, ul⟩]) := by
      intro c hc
      refine HdsOK.snoc hok ?_
      rw [hl]
      refine ⟨rfl, by show -1 ≤ c ∧ c < _; omega, .inl rfl, fun h => absurd rfl h, fun _ h1 => ?_, hp, fun y hy => hm y hy⟩
      rcases hc with hc | hc
      · have h1 : c = -1 := h1
        omega
      · exact hc.2
    by_cases c : (ul.length : Int) > 0
    · obtain ⟨b, a', s', hr, hd'⟩ := once_ok (s := s) (n := 4) hd (by omega) (by omega)
      have hne : ul ≠ [] := by rintro rfl; simp at c
      cases b with
      | true =>
        refine HRes.step (fun k => ?_) (ih (hs ++ [⟨callAt (ws.getD i 0), -1, -1, ul⟩]) a' s' (by simp [hl]) (hfin (-1) (.inr ⟨rfl, hne⟩)) hd')
        simp only [wayzgoosekit_TradesOf.l2]
        rw [if_neg (by omega), if_pos c, hr]
        simp only [Option.bind_some, if_true]
        rw [if_pos (by omega), w64s (by omega) (by omega)]
      | false =>
        refine HRes.step (fun k => ?_) (ih (hs ++ [⟨callAt (ws.getD i 0), u, -1, ul⟩]) a' s' (by simp [hl]) (hfin u (.inl rfl)) hd')
        simp only [wayzgoosekit_TradesOf.l2]
        rw [if_neg (by omega), if_pos c, hr]
        simp only [Option.bind_some, Bool.false_eq_true, if_false]
        rw [if_pos (by omega), w64s (by omega) (by omega)]
    · refine HRes.step (fun k => ?_) (ih (hs ++ [⟨callAt (ws.getD i 0), u, -1, ul⟩]) a s (by simp [hl]) (hfin u (.inl rfl)) hd)
      simp only [wayzgoosekit_TradesOf.l2]
      rw [if_neg (by omega), if_neg c, if_pos (by omega), w64s (by omega) (by omega)]
  | succ e ihe =>
    intro j ul a s hj hp hm hul hd
    by_cases c : (j : Int) = i
    · refine HRes.step (fun k => ?_) (ihe (j + 1) ul a s (by omega) hp (fun y hy => by have := hm y hy; omega) (by omega) hd)
      simp only [wayzgoosekit_TradesOf.l2]
      rw [if_pos (by omega), if_pos c, w64s (by omega) (by omega)]
      rfl
    · obtain ⟨b, a', s', hr, hd'⟩ := once_ok (s := s) (n := 4) hd (by omega) (by omega)
      cases b with
      | true =>
        refine HRes.step (fun k => ?_) (ihe (j + 1) (ul ++ [(j : Int)]) a' s' (by omega) ?_ ?_ (by simp; omega) hd')
        · simp only [wayzgoosekit_TradesOf.l2]
          rw [if_pos (by omega), if_neg c, hr]
          simp only [Option.bind_some, if_true]
          rw [if_pos (by omega), w64s (by omega) (by omega)]
          rfl
        · rw [List.pairwise_append]
          refine ⟨hp, by simp, fun x hx y hy => ?_⟩
          rw [List.mem_singleton.1 hy]
          exact (hm x hx).2.1
        · intro y hy
          rcases List.mem_append.1 hy with hy | hy
          · have := hm y hy; omega
          · rw [List.mem_singleton.1 hy]; omega
      | false =>
        refine HRes.step (fun k => ?_) (ihe (j + 1) ul a' s' (by omega) hp (fun y hy => by have := hm y hy; omega) (by omega) hd')
        simp only [wayzgoosekit_TradesOf.l2]
        rw [if_pos (by omega), if_neg c, hr]
        simp only [Option.bind_some, Bool.false_eq_true, if_false]
        rw [w64s (by omega) (by omega)]
        rfl
theorem j2_ok {l ws : List Int} {cs : List Cl} {n : Nat} (E : Env l ws cs n) (i : Nat) (hi : i < n) (hs : List Hd) (hl : hs.length = i) (hok : HdsOK cs.length n ws hs) (u : Int) (hu0 : 0 ≤ u) (hu1 : u < cs.length) (b : Bool) (hb : b = true → 2 ≤ n) (a s : Int) (hd : DOK l a)
    (ih : ∀ hs' a s, hs'.length = i + 1 → HdsOK cs.length n ws hs' → DOK l a → HRes l ws cs n (fun k => wayzgoosekit_TradesOf.l1 k ws n ((i : Int) + 1) l a s cs hs')) :
    HRes l ws cs n (fun k => wayzgoosekit_TradesOf.j2 k ws n i b l a s cs hs (callAt (ws.getD i 0)) u (-1)) := by
  have hn6 := E.n6
  cases b with
  | true =>
    have hn2 := hb rfl
    obtain ⟨y, a', s', hr, y0, y1, hd'⟩ := to_ok' (s := s) (n := (n : Int) - 2) hd (by omega) (by omega)
    have e1 : wrap64 ((n : Int) - 2) = (n : Int) - 2 := w64s (by omega) (by omega)
    have e2 : wrap64 ((i : Int) + 1) = (i : Int) + 1 := w64s (by omega) (by omega)
    have e3 : wrap64 ((i : Int) + 1 + y) = (i : Int) + 1 + y := w64s (by omega) (by omega)
    have e4 : ((i : Int) + 1 + y).tmod n = ((i : Int) + 1 + y) % n := Int.tmod_eq_emod_of_nonneg (by omega)
    have h3 := Int.emod_nonneg ((i : Int) + 1 + y) (show (n : Int) ≠ 0 by omega)
    have h4 := Int.emod_lt_of_pos ((i : Int) + 1 + y) (show 0 < (n : Int) by omega)
    have h5 : ((i : Int) + 1 + y) % n ≠ i := by
      rcases (show ((i : Int) + 1 + y) < n ∨ (n : Int) ≤ (i : Int) + 1 + y by omega) with hlt | hge
      · rw [Int.emod_eq_of_lt (by omega) hlt]; omega
      · rw [← Int.sub_emod_right, Int.emod_eq_of_lt (by omega) (by omega)]; omega
    refine HRes.step (fun k => ?_) (ih (hs ++ [⟨callAt (ws.getD i 0), -1, ((i : Int) + 1 + y) % n, []⟩]) a' s' (by simp [hl]) ?_ hd')
    · simp only [wayzgoosekit_TradesOf.j2, if_true]
      rw [e1, hr]
      simp only [Option.bind_some]
      rw [if_neg (by omega), if_pos (by omega), e2, e3, e4]
    · refine HdsOK.snoc hok ?_
      rw [hl]
      exact ⟨rfl, by show (-1 : Int) ≤ -1 ∧ (-1 : Int) < (cs.length : Int); have := E.pos; omega, .inr ⟨h3, h4, h5⟩, fun _ => ⟨rfl, rfl⟩, fun h => by have h : ((i : Int) + 1 + y) % n = -1 := h; omega, List.Pairwise.nil, fun y hy => by simp at hy⟩
  | false =>
    refine HRes.step (fun k => ?_) (l2_ok E i hi hs hl hok u hu0 hu1 ih n 0 [] a s (by omega) List.Pairwise.nil (fun y hy => by simp at hy) (by simp) hd)
    simp only [wayzgoosekit_TradesOf.j2, Bool.false_eq_true, if_false]
    rfl
theorem l1_ok {l ws : List Int} {cs : List Cl} {n : Nat} (E : Env l ws cs n) : ∀ (d i : Nat) (hs : List Hd) (a s : Int), i + d = n → hs.length = i → HdsOK cs.length n ws hs → DOK l a → HRes l ws cs n (fun k => wayzgoosekit_TradesOf.l1 k ws n i l a s cs hs) := by
  have hn6 := E.n6
  have hws := E.len
  have hpos := E.pos
  have hle := E.le
  intro d
  induction d with
  | zero =>
    intro i hs a s hi hl hok hd
    refine ⟨hs, a, s, Ev.last (fun k => ?_), by omega, hok, hd⟩
    simp only [wayzgoosekit_TradesOf.l1]
    rw [if_neg (by omega)]
  | succ d ih =>
    intro i hs a s hi hl hok hd
    have ih' : ∀ hs' a s, hs'.length = i + 1 → HdsOK cs.length n ws hs' → DOK l a → HRes l ws cs n (fun k => wayzgoosekit_TradesOf.l1 k ws n ((i : Int) + 1) l a s cs hs') := fun hs' a s h1 h2 h3 => ih (i + 1) hs' a s (by omega) h1 h2 h3
    obtain ⟨w0, w1⟩ := asc_at E.asc i (by omega)
    have hrd : rd ws (i : Int) = ws.getD i 0 := by simp [rd]
    obtain ⟨u, a1, s1, hr, u0, u1, hd1⟩ := to_ok' (s := s) (n := (cs.length : Int) - 1) hd (by omega) (by omega)
    have e1 : wrap64 ((cs.length : Int) - 1) = (cs.length : Int) - 1 := w64s (by omega) (by omega)
    by_cases c : (n : Int) > 1
    · obtain ⟨b, a2, s2, ho, hd2⟩ := once_ok (s := s1) (n := 3) hd1 (by omega) (by omega)
      refine HRes.step (fun k => ?_) (j2_ok E i (by omega) hs hl hok u u0 (by omega) b (fun _ => by omega) a2 s2 hd2 ih')
      simp only [wayzgoosekit_TradesOf.l1]
      rw [if_pos (by omega), call_f]
      simp only [Option.bind_some]
      rw [if_pos (by omega), if_pos (by omega), hrd, if_pos w0, if_pos (by rw [call_len]; omega), e1, hr]
      simp only [Option.bind_some]
      rw [if_pos c, ho]
      rfl
    · refine HRes.step (fun k => ?_) (j2_ok E i (by omega) hs hl hok u u0 (by omega) false (fun h => by cases h) a1 s1 hd1 ih')
      simp only [wayzgoosekit_TradesOf.l1]
      rw [if_pos (by omega), call_f]
      simp only [Option.bind_some]
      rw [if_pos (by omega), if_pos (by omega), hrd, if_pos w0, if_pos (by rw [call_len]; omega), e1, hr]
      simp only [Option.bind_some]
      rw [if_neg c]
      rfl
/-- Made trades. -/
structure MadeT (cs : List Cl) (hs : List Hd) (c h : Int) : Prop where
  ok : checkT cs hs = 0
  pos : 1 ≤ cs.length
  cls : (cs.length : Int) ≤ c ∨ cs.length = 1
  hds : (hs.length : Int) ≤ h
theorem l0_ok {l : List Int} {p : List Int} (hp : p.Perm (nats 9)) (h : Int) (h0 : 0 ≤ h) (h6 : h ≤ 6) : ∀ (d : Nat) (cs : List Cl) (a s : Int), cs.length + d ≤ 6 → 1 ≤ cs.length + d → ClsOK p cs → DOK l a →
    ∃ cs' hs a' s', Ev (fun k => wayzgoosekit_TradesOf.l0 k h p d l a s cs) (cs', hs, a', s') ∧ checkT cs' hs = 0 ∧ cs'.length = cs.length + d ∧ (hs.length : Int) ≤ h ∧ DOK l a' := by
  intro d
  induction d with
  | zero =>
    intro cs a s hl hl1 hc hd
    obtain ⟨mh, a1, s1, hr, m0, m1, hd1⟩ := to_ok' (s := s) (n := h) hd (by omega) h0
    obtain ⟨ws, a2, s2, he, hw, hlen, hd2⟩ := part_ok (s := s1) 16 mh hd1 (by omega) (by omega) m0
    have hn6 : ws.length ≤ 6 := by omega
    obtain ⟨hs, a3, s3, he3, hl3, hok3, hd3⟩ := l1_ok (l := l) (ws := ws) (cs := cs) (n := ws.length) ⟨hw, rfl, by omega, by omega, hn6⟩ ws.length 0 [] a2 s2 (by omega) rfl (fun i hi => by simp at hi) hd2
    refine ⟨cs, hs, a3, s3, ?_, made_valid hp (by omega) (by omega) hc hw hl3 (by rw [hl3]; exact hok3), rfl, by omega, hd3⟩
    refine Ev.step (f := fun k => (wayzgoosekit_partOf.f k l a1 s1 16 mh).bind fun bt => wayzgoosekit_TradesOf.l1 k bt.1 (bt.1.length : Int) 0 l bt.2.1 bt.2.2 cs []) (fun k => ?_) (Ev.bind (f := fun k (bt : List Int × Int × Int) => wayzgoosekit_TradesOf.l1 k bt.1 (bt.1.length : Int) 0 l bt.2.1 bt.2.2 cs []) he he3)
    simp only [wayzgoosekit_TradesOf.l0]
    rw [if_neg (by omega), call_f]
    simp only [Option.bind_some]
    rw [hr]
    simp only [Option.bind_some, call_len]
    rfl
  | succ d ih =>
    intro cs a s hl hl1 hc hd
    obtain ⟨g1, g2, g3⟩ := perm_at hp cs.length (by omega)
    obtain ⟨u, a1, s1, hr, u0, u1, hd1⟩ := from_ok (s := s) (lo := -1) (hi := (cs.length : Int) - 1) hd (by omega) (by omega) (by omega) (by omega)
    have e1 : wrap64 ((cs.length : Int) - 1) = (cs.length : Int) - 1 := w64s (by omega) (by omega)
    have e2 : wrap64 (((d + 1 : Nat) : Int) - 1) = (d : Int) := by rw [w64s (by omega) (by omega)]; omega
    have hrd : rd p (cs.length : Int) = p.getD cs.length 0 := by simp [rd]
    have hl2 : (cs ++ [(⟨sortAt (p.getD cs.length 0), u⟩ : Cl)]).length = cs.length + 1 := by simp
    obtain ⟨cs', hs, a', s', he, h1, h2, h3, h4⟩ := ih (cs ++ [⟨sortAt (p.getD cs.length 0), u⟩]) a1 s1 (by omega) (by omega) (hc.snoc u (by omega) (by omega)) hd1
    refine ⟨cs', hs, a', s', Ev.step (fun k => ?_) he, h1, by omega, h3, h4⟩
    simp only [wayzgoosekit_TradesOf.l0]
    rw [if_pos (by omega), sorts_f]
    simp only [Option.bind_some]
    rw [if_pos (by omega), if_pos (by omega), hrd, if_pos g2, if_pos (by rw [sorts_len]; omega), e1, hr]
    simp only [Option.bind_some]
    rw [if_pos (by omega), e2]
    rfl
theorem tradesOf_ok {l : List Int} {a s c h : Int} (hd : DOK l a) (c1 : 1 ≤ c) (c6 : c ≤ 6) (h0 : 0 ≤ h) (h6 : h ≤ 6) : ∃ cs hs a' s', Ev (fun k => wayzgoosekit_TradesOf.f k l a s c h) (cs, hs, a', s') ∧ MadeT cs hs c h ∧ DOK l a' := by
  obtain ⟨p, a1, s1, he, hp, hd1⟩ := order_ok (s := s) 9 hd (by omega) (by omega)
  obtain ⟨m, a2, s2, hr, m0, m1, hd2⟩ := from_ok (s := s1) (lo := 1) (hi := c) hd1 (by omega) (by omega) (by omega) (by omega)
  obtain ⟨d, rfl⟩ : ∃ d : Nat, m = d := ⟨m.toNat, by omega⟩
  obtain ⟨cs, hs, a3, s3, he3, g1, g2, g3, g4⟩ := l0_ok (l := l) hp h h0 h6 d [] a2 s2 (by simp; omega) (by simp; omega) ⟨fun i hi => by simp at hi, fun i hi => by simp at hi⟩ hd2
  have g2 : cs.length = d := by simpa using g2
  refine ⟨cs, hs, a3, s3, ?_, ⟨g1, by omega, by omega, g3⟩, g4⟩
  refine Ev.congr (f := fun k => (wayzgoosekit_Dice_Order.f k l a s 9).bind fun bt => (wayzgoosekit_Dice_From.f l bt.2.1 bt.2.2 1 c).bind fun bt2 => wayzgoosekit_TradesOf.l0 k h bt.1 bt2.1 l bt2.2.1 bt2.2.2 []) (fun k => ?_) ?_
  · unfold wayzgoosekit_TradesOf.f
    rw [sorts_f]
    simp only [Option.bind_some, sorts_len]
    rfl
  · refine Ev.bind (f := fun k (bt : List Int × Int × Int) => (wayzgoosekit_Dice_From.f l bt.2.1 bt.2.2 1 c).bind fun bt2 => wayzgoosekit_TradesOf.l0 k h bt.1 bt2.1 l bt2.2.1 bt2.2.2 []) he ?_
    refine Ev.congr (fun k => ?_) he3
    simp only [hr, Option.bind_some]
theorem newDice_ok {l : List Int} (h : l.length * 8 ≤ 140737488351232) : DOK l 0 := ⟨by omega, by omega, by omega⟩
end Go.Proofs.Ytfbimhnlcmdcpaa.Q
namespace Go.Proofs.Ytfbimhnlcmdcpaa.Pa
open Go.RowKit Go.Proofs.YtfbimhnlcmdcpaaW.PrintWords Go.Proofs.YtfbimhnlcmdcpaaW.PrintLast Go.Proofs.YtfbimhnlcmdcpaaW.PrintMore
attribute [local go_sem] max2_int min2_int max_two min_two max_three min_three max_four min_four   -- for this text's walks alone
set_option linter.unusedVariables false
set_option linter.unusedSimpArgs false

/-! ### wayzgooselaw04_under: function 16 -/
mutual
def wayzgooselaw04_under.l0 : Nat → Int → Int → Int → List (S51) → List (S39) → Option (Bool)
  | 0, _, _, _, _, _ => none
  | k + 1, x1, x2, x7, x211000, x211001 => if x7 < (x211000.length : Int) then (wayzgooselaw04_under.j1 k x1 x2 x7 (decide (x1 ≥ 0)) x211000 x211001) else (wayzgooselaw04_under.j1 k x1 x2 x7 false x211000 x211001)
def wayzgooselaw04_under.j1 : Nat → Int → Int → Int → Bool → List (S51) → List (S39) → Option (Bool)
  | 0, _, _, _, _, _, _ => none
  | k + 1, x1, x2, x7, x16, x211000, x211001 => if x16 = true then (if x1 = x2 then (some true) else (if 0 ≤ x1 then (if x1 < (x211000.length : Int) then (wayzgooselaw04_under.l0 k ((rd_T51 x211000 x1).f1) x2 (wrap64 (x7 + 1)) x211000 x211001) else (none)) else (none))) else (some false)
end
def wayzgooselaw04_under.f (k : Nat) (l0_0 : List (S51)) (l0_1 : List (S39)) (a1 : Int) (a2 : Int) : Option (Bool) := wayzgooselaw04_under.l0 k a1 a2 0 l0_0 l0_1
theorem wayzgooselaw04_under.mono_l : ∀ k, (∀ y0 y1 y2 y3 y4, LeO (wayzgooselaw04_under.l0 k y0 y1 y2 y3 y4) (wayzgooselaw04_under.l0 (k + 1) y0 y1 y2 y3 y4)) ∧ (∀ y0 y1 y2 y3 y4 y5, LeO (wayzgooselaw04_under.j1 k y0 y1 y2 y3 y4 y5) (wayzgooselaw04_under.j1 (k + 1) y0 y1 y2 y3 y4 y5))
  | 0 => ⟨fun _ _ _ _ _ r h => by simp [wayzgooselaw04_under.l0] at h, fun _ _ _ _ _ _ r h => by simp [wayzgooselaw04_under.j1] at h⟩
  | k + 1 => by
    obtain ⟨ih0, ih1⟩ := wayzgooselaw04_under.mono_l k
    refine ⟨?_, ?_⟩
    · intro y0 y1 y2 y3 y4
      unfold wayzgooselaw04_under.l0
      repeat' first
      | (with_reducible exact ih0 _ _ _ _ _)
      | (with_reducible exact ih1 _ _ _ _ _ _)
      | (with_reducible exact LeO.refl _)
      | (with_reducible exact LeO.none _)
      | (with_reducible refine LeO.ite ?_ ?_)
      | (with_reducible refine LeO.bind ?_ (fun _ => ?_))
      | exact ih0 _ _ _ _ _
      | exact ih1 _ _ _ _ _ _
      | exact LeO.none _
      | refine LeO.ite ?_ ?_
      | refine LeO.bind ?_ (fun _ => ?_)
    · intro y0 y1 y2 y3 y4 y5
      unfold wayzgooselaw04_under.j1
      repeat' first
      | (with_reducible exact ih0 _ _ _ _ _)
      | (with_reducible exact ih1 _ _ _ _ _ _)
      | (with_reducible exact LeO.refl _)
      | (with_reducible exact LeO.none _)
      | (with_reducible refine LeO.ite ?_ ?_)
      | (with_reducible refine LeO.bind ?_ (fun _ => ?_))
      | exact ih0 _ _ _ _ _
      | exact ih1 _ _ _ _ _ _
      | exact LeO.none _
      | refine LeO.ite ?_ ?_
      | refine LeO.bind ?_ (fun _ => ?_)
theorem wayzgooselaw04_under.mono : ∀ a0 a1 a2 a3 k, LeO (wayzgooselaw04_under.f k a0 a1 a2 a3) (wayzgooselaw04_under.f (k + 1) a0 a1 a2 a3) := by
  intro a0 a1 a2 a3 k
  obtain ⟨ih0, ih1⟩ := wayzgooselaw04_under.mono_l k
  unfold wayzgooselaw04_under.f
  repeat' first
      | (with_reducible exact ih0 _ _ _ _ _)
      | (with_reducible exact ih1 _ _ _ _ _ _)
      | (with_reducible exact LeO.refl _)
      | (with_reducible exact LeO.none _)
      | (with_reducible refine LeO.ite ?_ ?_)
      | (with_reducible refine LeO.bind ?_ (fun _ => ?_))
      | exact ih0 _ _ _ _ _
      | exact ih1 _ _ _ _ _ _
      | exact LeO.none _
      | refine LeO.ite ?_ ?_
      | refine LeO.bind ?_ (fun _ => ?_)
set_option maxHeartbeats 8000000 in
set_option maxRecDepth 100000 in
theorem wayzgooselaw04_under.calls (k : Nat) (A0_0 : Option Addr) (c0_0 : Nat) (l0_0 : List (S51)) (A0_1 : Option Addr) (c0_1 : Nat) (l0_1 : List (S39)) (a1 : Int) (a2 : Int) (r : Bool) (w : World) (hr0_0 : Kd.C k51 w A0_0 l0_0.length l0_0) (hc0_0 : l0_0.length ≤ c0_0) (hr0_1 : Kd.C k39 w A0_1 l0_1.length l0_1) (hc0_1 : l0_1.length ≤ c0_1) (h : wayzgooselaw04_under.f k l0_0 l0_1 a1 a2 = some r) :
    Calls Try.prog 16 #[.agg #[.slice A0_0 l0_0.length c0_0, .slice A0_1 l0_1.length c0_1], .int .i64 a1, .int .i64 a2] w fun e w' => e = .returned (.bool r) ∧ Below w.heap.size w w' := by
  have hu26 := Try.underlying26
  have HR0_0 := Aside0.mk hr0_0
  have HC0_0 := Aside0.mk hc0_0
  clear hr0_0 hc0_0
  have HR0_1 := Aside0.mk hr0_1
  have HC0_1 := Aside0.mk hc0_1
  clear hr0_1 hc0_1
  have HB := Aside0.mk (Below.refl w.heap.size w)
  have H : (wayzgooselaw04_under.l0 k a1 a2 0 l0_0 l0_1) = some r := h
  clear h
  have H' := Aside0.mk H
  clear H
  go_enter Try.func16, Try.ntmps16
  go_wp2_with (first | ((with_reducible refine gate_dst (N := 3) rfl ?_); refine box_event ?hg (N := 3) ?hd (cs := #[.slice A0_0 l0_0.length c0_0, .slice A0_1 l0_1.length c0_1]) (t := 26) ?hr ?_; (case hd => rfl); (case hg => rfl); (case hr => first | (go_simp; done) | (go_simp; rfl)); intro gb210 hg w4 hbox hb; have n0_ := Aside0.mk (below_step (by repeat (first | (with_reducible first | exact HB.out | apply below_alloc | apply pw_below_drewN | apply below_drew1) | exact HB.out)) hb); have n1_ := Aside0.mk (hbox); have n2_ := Aside0.mk ((by rw [hg]; exact (below_size (by repeat (first | (with_reducible first | exact HB.out | apply below_alloc | apply pw_below_drewN | apply below_drew1) | exact HB.out))) : w.heap.size ≤ gb210)); have n3_ := Aside0.mk ((by rw [hg]; exact (below_size (by repeat (first | (with_reducible first | exact HB.out | apply below_alloc | apply pw_below_drewN | apply below_drew1) | exact HB.out))) : w.heap.size ≤ gb210)); clear HB; have HB := n0_; have BK210 := n1_; have GW210 := n2_; have GE210 := n3_; clear n0_ n1_ n2_ n3_; clear hb hbox hg))
  go_loopg [1, 7] k (fun kq v1 v7 w' => ∃ (x1_1 : Int) (x7_1 : Int), v1 = .int .i64 x1_1 ∧ v7 = .int .i64 x7_1 ∧ Aside0 (wayzgooselaw04_under.l0 kq x1_1 a2 x7_1 l0_0 l0_1 = some r) ∧ Aside0 (kq ≤ k) ∧ Aside0 (w'.heap[gb210]? = some (.cells #[(.slice A0_0 l0_0.length c0_0), (.slice A0_1 l0_1.length c0_1)] 26 (0, 0))) ∧ Aside0 (Below w.heap.size w w'))
  case atStart => exact ⟨(a1), (0), (by first | rfl | (simp; done) | (simp [*]; done)), (by first | rfl | (simp; done) | (simp [*]; done)), H', ⟨Nat.le_refl _⟩, ⟨by (with_reducible repeat (first | refine blk_drewN ?_ _ | refine blk_drew ?_ | refine blk_alloc ?_ _)); exact BK210.out⟩, ⟨by repeat (first | (with_reducible first | exact HB.out | apply below_alloc | apply pw_below_drewN | apply below_drew1 | refine below_set ?_ GE210.out) | exact HB.out)⟩⟩
  case round =>
    clear H'
    try clear c1
    try clear p2
    obtain ⟨x1_1, x7_1, rfl, rfl, HA, HK1, BK210, HB⟩ := hrel
    cases gk with
    | zero => exact absurd HA.out (by simp [wayzgooselaw04_under.l0])
    | succ k1 =>
      have H := HA.out
      clear HA
      simp only [wayzgooselaw04_under.l0] at H
      have HC5 := Aside0.mk H
      clear H
      go_upto_region 2 with (fail)
      go_cut [16] (fun v16 wc => ∃ (kq : Nat) (x16_4 : Bool), v16 = .bool x16_4 ∧ Aside0 (wayzgooselaw04_under.j1 kq x1_1 a2 x7_1 x16_4 l0_0 l0_1 = some r) ∧ Aside0 (kq ≤ k1) ∧ Aside0 (wc.heap[gb210]? = some (.cells #[(.slice A0_0 l0_0.length c0_0), (.slice A0_1 l0_1.length c0_1)] 26 (0, 0))) ∧ Aside0 (Below w.heap.size w wc))
      case first =>
        have H := HC5.out
        clear HC5
        by_cases c6 : x7_1 < (l0_0.length : Int)
        · rw [if_pos c6] at H
          have c6b0 : decide (x7_1 < (l0_0.length : Int)) = true := decide_eq_true c6
          clear c6
          (first | rw [c6b0] | (simp only [i64_w, i32_w]; rw [c6b0]) | skip)
          have H' := Aside0.mk H
          clear H
          have hcz7_0 : wr.cell? ⟨gb210, 0, none⟩ = some (.slice A0_0 l0_0.length c0_0) := (blk_cell BK210.out 0).trans rfl
          have hcz7_1 : wr.cell? ⟨gb210, 1, none⟩ = some (.slice A0_1 l0_1.length c0_1) := (blk_cell BK210.out 1).trans rfl
          have hfz7_0 := blk_frozen BK210.out 0
          have hfz7_1 := blk_frozen BK210.out 1
          go_wp2
          go_meet
          case rel => exact ⟨_, (decide (x1_1 ≥ 0)), (by first | rfl | (simp; done) | (simp [*]; done)), H', ⟨by have := HK1.out; first | omega | exact Nat.le_refl _⟩, ⟨by (with_reducible repeat (first | refine blk_drewN ?_ _ | refine blk_drew ?_ | refine blk_alloc ?_ _)); exact BK210.out⟩, ⟨by repeat (first | (with_reducible first | exact HB.out | apply below_alloc | apply pw_below_drewN | apply below_drew1 | refine below_set ?_ GE210.out) | exact HB.out)⟩⟩
        · rw [if_neg c6] at H
          have c6b0 : decide (x7_1 < (l0_0.length : Int)) = false := decide_eq_false c6
          clear c6
          (first | rw [c6b0] | (simp only [i64_w, i32_w]; rw [c6b0]) | skip)
          have H' := Aside0.mk H
          clear H
          have hcz8_0 : wr.cell? ⟨gb210, 0, none⟩ = some (.slice A0_0 l0_0.length c0_0) := (blk_cell BK210.out 0).trans rfl
          have hcz8_1 : wr.cell? ⟨gb210, 1, none⟩ = some (.slice A0_1 l0_1.length c0_1) := (blk_cell BK210.out 1).trans rfl
          have hfz8_0 := blk_frozen BK210.out 0
          have hfz8_1 := blk_frozen BK210.out 1
          go_wp2
          go_meet
          case rel => exact ⟨_, (false), (by first | rfl | (simp; done) | (simp [*]; done)), H', ⟨by have := HK1.out; first | omega | exact Nat.le_refl _⟩, ⟨by (with_reducible repeat (first | refine blk_drewN ?_ _ | refine blk_drew ?_ | refine blk_alloc ?_ _)); exact BK210.out⟩, ⟨by repeat (first | (with_reducible first | exact HB.out | apply below_alloc | apply pw_below_drewN | apply below_drew1 | refine below_set ?_ GE210.out) | exact HB.out)⟩⟩
      case rest =>
        clear HC5
        try clear c1
        try clear p2
        try clear c6
        try clear c6b0
        try clear hcz7_0
        try clear hcz7_1
        try clear hcz8_0
        try clear hcz8_1
        try clear hfz7_0
        try clear hfz7_1
        try clear hfz8_0
        try clear hfz8_1
        try clear p2
        obtain ⟨kq, x16_4, rfl, HA, HJ4, BK210, HB⟩ := hcut
        cases kq with
        | zero => exact absurd HA.out (by simp [wayzgooselaw04_under.j1])
        | succ kj4 =>
          have H := HA.out
          clear HA
          simp only [wayzgooselaw04_under.j1] at H
          by_cases c9 : x16_4 = true
          · subst c9
            have H1 : (if x1_1 = a2 then (some true) else (if 0 ≤ x1_1 then (if x1_1 < (l0_0.length : Int) then (wayzgooselaw04_under.l0 kj4 ((rd_T51 l0_0 x1_1).f1) a2 (wrap64 (x7_1 + 1)) l0_0 l0_1) else (none)) else (none))) = some r := by rw [if_pos rfl] at H; exact H
            clear H
            have H := H1
            clear H1
            by_cases c10 : x1_1 = a2
            · rw [if_pos c10] at H
              have c10b0 : (x1_1 == a2) = true := beq_iff_eq.mpr c10
              have c10b1 : (x1_1 != a2) = false := bne_eq_false_iff_eq.mpr c10
              clear c10
              obtain rfl := Option.some.inj H
              go_wp2
              go_ret
              exact ⟨by first | rfl | (simp [errW_none, errW_some] <;> rfl) | (simp [*, errW_none, errW_some] <;> rfl), by repeat (first | (with_reducible first | exact HB.out | apply below_alloc | apply pw_below_drewN | apply below_drew1 | refine below_set ?_ GE210.out) | exact HB.out)⟩
            · rw [if_neg c10] at H
              have c10b0 : (x1_1 == a2) = false := beq_eq_false_iff_ne.mpr c10
              have c10b1 : (x1_1 != a2) = true := bne_iff_ne.mpr c10
              by_cases c11 : 0 ≤ x1_1
              · rw [if_pos c11] at H
                have c11b0 : decide (0 ≤ x1_1) = true := decide_eq_true c11
                clear c11
                by_cases c12 : x1_1 < (l0_0.length : Int)
                · rw [if_pos c12] at H
                  have c12b0 : decide (x1_1 < (l0_0.length : Int)) = true := decide_eq_true c12
                  clear c12
                  have H' := Aside0.mk H
                  clear H
                  have hcz13_0 : wc.cell? ⟨gb210, 0, none⟩ = some (.slice A0_0 l0_0.length c0_0) := (blk_cell BK210.out 0).trans rfl
                  have hcz13_1 : wc.cell? ⟨gb210, 1, none⟩ = some (.slice A0_1 l0_1.length c0_1) := (blk_cell BK210.out 1).trans rfl
                  have hfz13_0 := blk_frozen BK210.out 0
                  have hfz13_1 := blk_frozen BK210.out 1
                  have p211 : 0 ≤ (x1_1 : Int) := of_decide_eq_true (by first | (with_reducible assumption) | assumption)
                  have q211 : x1_1 < (l0_0.length : Int) := of_decide_eq_true (by first | (with_reducible assumption) | assumption)
                  obtain ⟨ad211, e211, hx211_0, hx211_1⟩ := at_T51 HR0_0.out x1_1 p211 q211
                  cases e211
                  replace hx211_0 := (HB.out.cell (World.block_lt_of_cell? w _ hx211_0)).trans hx211_0
                  replace hx211_1 := (HB.out.cell (World.block_lt_of_cell? w _ hx211_1)).trans hx211_1
                  replace p211 := eq_true p211
                  replace q211 := eq_true q211
                  go_wp2
                  go_roundg kj4
                  case measure => have := HK1.out; have := HJ4.out; omega
                  case rel => exact ⟨((rd_T51 l0_0 x1_1).f1), (wrap64 (x7_1 + 1)), (by first | rfl | (simp; done) | (simp [*]; done)), (by first | rfl | (simp; done) | (simp [*]; done)), H', ⟨by have := HK1.out; have := HJ4.out; omega⟩, ⟨by (with_reducible repeat (first | refine blk_drewN ?_ _ | refine blk_drew ?_ | refine blk_alloc ?_ _)); exact BK210.out⟩, ⟨by repeat (first | (with_reducible first | exact HB.out | apply below_alloc | apply pw_below_drewN | apply below_drew1 | refine below_set ?_ GE210.out) | exact HB.out)⟩⟩
                · rw [if_neg c12] at H
                  exact absurd H (by simp)
              · rw [if_neg c11] at H
                exact absurd H (by simp)
          · replace c9 := Bool.eq_false_iff.mpr c9
            subst c9
            have H1 : (some false) = some r := by rw [if_neg (show ¬ (false = true) by decide)] at H; exact H
            clear H
            have H := H1
            clear H1
            obtain rfl := Option.some.inj H
            go_wp2
            go_ret
            exact ⟨by first | rfl | (simp [errW_none, errW_some] <;> rfl) | (simp [*, errW_none, errW_some] <;> rfl), by repeat (first | (with_reducible first | exact HB.out | apply below_alloc | apply pw_below_drewN | apply below_drew1 | refine below_set ?_ GE210.out) | exact HB.out)⟩

end Go.Proofs.Ytfbimhnlcmdcpaa.Pa
/- Classes above classes: plain facts, and what the statements' 'under' computes. -/
namespace Go.Proofs.Ytfbimhnlcmdcpaa.Q
open Go.RowKit Go.Proofs.Ytfbimhnlcmdcpaa.Pa Go.Proofs.YtfbimhnlcmdcpaaW.PrintWords Go.Proofs.YtfbimhnlcmdcpaaW.PrintLast Go.Proofs.YtfbimhnlcmdcpaaW.PrintMore
set_option linter.unusedVariables false
set_option linter.unusedSimpArgs false

theorem firstErr_all {g : Nat → Int} : ∀ {m i : Nat}, firstErr g m i = 0 → ∀ j, i ≤ j → j < i + m → g j = 0
  | 0, i, _, j, h1, h2 => by omega
  | m + 1, i, h, j, h1, h2 => by
    unfold firstErr at h
    by_cases hz : g i = 0
    · rw [if_neg (by omega)] at h
      by_cases hj : j = i
      · rw [hj]; exact hz
      · exact firstErr_all h j (by omega) (by omega)
    · rw [if_pos hz] at h
      exact absurd h hz
theorem check_parts {cs : List Cl} {hs : List Hd} (h : checkT cs hs = 0) : cs.length ≤ 6 ∧ hs.length ≤ 6 ∧ (∀ i, i < cs.length → classErr cs i = 0) ∧ (∀ i, i < hs.length → headErr cs hs i = 0) := by
  unfold checkT at h
  split at h
  · omega
  · split at h
    · rename_i h1; exact absurd h h1
    · refine ⟨by omega, by omega, fun i hi => firstErr_all (by omega : firstErr (classErr cs) cs.length 0 = 0) i (by omega) (by omega), fun i hi => firstErr_all h i (by omega) (by omega)⟩
/-! ### the least class of two -/
/-! ### the statements' own 'under' -/
end Go.Proofs.Ytfbimhnlcmdcpaa.Q
/- What valid trades say of each heading. -/
namespace Go.Proofs.Ytfbimhnlcmdcpaa.Q
open Go.RowKit Go.Proofs.Ytfbimhnlcmdcpaa.Pa Go.Proofs.YtfbimhnlcmdcpaaW.PrintWords Go.Proofs.YtfbimhnlcmdcpaaW.PrintLast Go.Proofs.YtfbimhnlcmdcpaaW.PrintMore
set_option linter.unusedVariables false
set_option linter.unusedSimpArgs false

theorem also_parts {n i : Nat} {l : List Int} : ∀ {m k : Nat}, alsoErr n i l m k = 0 → ∀ j, k ≤ j → j < k + m → (0 ≤ l.getD j 0 ∧ l.getD j 0 < (n : Int) ∧ l.getD j 0 ≠ (i : Int) ∧ (0 < j → l.getD (j - 1) 0 < l.getD j 0))
  | 0, k, _, j, h1, h2 => by omega
  | m + 1, k, h, j, h1, h2 => by
    unfold alsoErr at h
    split at h
    · omega
    · split at h
      · omega
      · split at h
        · omega
        · rename_i a b c
          by_cases hj : j = k
          · subst hj
            refine ⟨by omega, by omega, by omega, fun h0 => ?_⟩
            have : ¬ l.getD j 0 ≤ l.getD (j - 1) 0 := fun h3 => c ⟨h0, h3⟩
            omega
          · exact also_parts h j (by omega) (by omega)
structure HeadV (cs : List Cl) (hs : List Hd) (i : Nat) (x : Hd) : Prop where
  word : wordOk x.f0 = true
  new : (hs.take i).any (fun y => sEq y.f0 x.f0) = false
  sorted : 0 < i → sLt x.f0 (hs.getD (i - 1) zHd).f0 = false
  cls : -1 ≤ x.f1 ∧ x.f1 < cs.length
  see : -1 ≤ x.f2 ∧ x.f2 < hs.length ∧ x.f2 ≠ i
  also : ∀ j, j < x.f3.length → (0 ≤ x.f3.getD j 0 ∧ x.f3.getD j 0 < (hs.length : Int) ∧ x.f3.getD j 0 ≠ (i : Int) ∧ (0 < j → x.f3.getD (j - 1) 0 < x.f3.getD j 0))
  ptr : x.f2 ≠ -1 → x.f1 = -1 ∧ x.f3 = []
  other : x.f2 = -1 → x.f1 = -1 → x.f3 ≠ []
theorem head_parts {cs : List Cl} {hs : List Hd} {i : Nat} (h : headErr cs hs i = 0) : HeadV cs hs i (hs.getD i zHd) := by
  unfold headErr at h
  by_cases a1 : wordOk (hs.getD i zHd).f0 = false
  · rw [if_pos a1] at h; omega
  · rw [if_neg a1] at h
    by_cases a2 : (hs.take i).any (fun y => sEq y.f0 (hs.getD i zHd).f0) = true
    · rw [if_pos a2] at h; omega
    · rw [if_neg a2] at h
      by_cases a3 : 0 < i ∧ sLt (hs.getD i zHd).f0 (hs.getD (i - 1) zHd).f0 = true
      · rw [if_pos a3] at h; omega
      · rw [if_neg a3] at h
        by_cases a4 : ¬ (-1 ≤ (hs.getD i zHd).f1 ∧ (hs.getD i zHd).f1 ≤ (cs.length : Int) - 1)
        · rw [if_pos a4] at h; omega
        · rw [if_neg a4] at h
          by_cases a5 : ¬ (-1 ≤ (hs.getD i zHd).f2 ∧ (hs.getD i zHd).f2 ≤ (hs.length : Int) - 1)
          · rw [if_pos a5] at h; omega
          · rw [if_neg a5] at h
            by_cases a6 : (hs.getD i zHd).f2 = (i : Int)
            · rw [if_pos a6] at h; omega
            · rw [if_neg a6] at h
              by_cases a7 : alsoErr hs.length i (hs.getD i zHd).f3 (hs.getD i zHd).f3.length 0 ≠ 0
              · rw [if_pos a7] at h; exact absurd h a7
              · rw [if_neg a7] at h
                unfold kindErr at h
                split at h
                · omega
                · rename_i a8
                  refine ⟨by simpa using a1, by simpa using a2, fun h0 => ?_, by omega, by omega, fun j hj => also_parts (by omega : alsoErr hs.length i (hs.getD i zHd).f3 (hs.getD i zHd).f3.length 0 = 0) j (by omega) (by omega), fun h2 => ?_, fun h2 h1 h3 => ?_⟩
                  · have : ¬ sLt (hs.getD i zHd).f0 (hs.getD (i - 1) zHd).f0 = true := fun h3 => a3 ⟨h0, h3⟩
                    simpa using this
                  · have h4 : ¬ ((hs.getD i zHd).f1 ≠ -1 ∨ 0 < (hs.getD i zHd).f3.length) := fun h5 => a8 (.inl ⟨h2, h5⟩)
                    refine ⟨by omega, List.length_eq_zero_iff.1 (by omega)⟩
                  · exact a8 (.inr ⟨h2, h1, by rw [h3]; rfl⟩)
theorem check_head {cs : List Cl} {hs : List Hd} (h : checkT cs hs = 0) (i : Nat) (hi : i < hs.length) : HeadV cs hs i (hs.getD i zHd) := head_parts ((check_parts h).2.2.2 i hi)
theorem inN_true {h : Int} {n : Nat} (h0 : 0 ≤ h) (h1 : h < n) : inN h n = true := by
  unfold inN
  simp [h0, h1]
theorem rd_hd (hs : List Hd) (i : Nat) : rd_T39 hs i = hs.getD i zHd := by
  unfold rd_T39
  rw [Int.toNat_natCast]
end Go.Proofs.Ytfbimhnlcmdcpaa.Q
/- Numbers in order that have a property: counting them one after the other. -/
namespace Go.Proofs.Ytfbimhnlcmdcpaa.Q
open Go.RowKit Go.Proofs.Ytfbimhnlcmdcpaa.Pa Go.Proofs.YtfbimhnlcmdcpaaW.PrintWords Go.Proofs.YtfbimhnlcmdcpaaW.PrintLast Go.Proofs.YtfbimhnlcmdcpaaW.PrintMore
set_option linter.unusedVariables false
set_option linter.unusedSimpArgs false

theorem filt_mem {P : Int → Bool} {n : Nat} {x : Int} : x ∈ (nats n).filter P ↔ 0 ≤ x ∧ x < n ∧ P x = true := by
  rw [List.mem_filter, nats_mem]
  exact and_assoc
end Go.Proofs.Ytfbimhnlcmdcpaa.Q
/- Where headings lead, and what a beginning means: plain facts. -/
namespace Go.Proofs.Ytfbimhnlcmdcpaa.Q
open Go.RowKit Go.Proofs.Ytfbimhnlcmdcpaa.Pa Go.Proofs.YtfbimhnlcmdcpaaW.PrintWords Go.Proofs.YtfbimhnlcmdcpaaW.PrintLast Go.Proofs.YtfbimhnlcmdcpaaW.PrintMore
set_option linter.unusedVariables false
set_option linter.unusedSimpArgs false

theorem foll_end {cs : List Cl} {hs : List Hd} (hk : checkT cs hs = 0) {e t : Int} : ∀ (m k : Nat) (s : Int), k < hs.length → followGo hs m k s = some (e, t) → ∃ p : Nat, e = p ∧ p < hs.length ∧ (hs.getD p zHd).f2 = -1
  | 0, k, s, _, h => by cases h
  | m + 1, k, s, hi, h => by
    rw [followGo, Int.toNat_natCast] at h
    by_cases c : (hs.getD k zHd).f2 = -1
    · rw [if_neg (by omega)] at h
      simp only [Option.some.injEq, Prod.mk.injEq] at h
      exact ⟨k, h.1.symm, hi, c⟩
    · rw [if_pos c] at h
      have h2 := (check_head hk k hi).see
      obtain ⟨q, hq⟩ : ∃ q : Nat, (hs.getD k zHd).f2 = q := ⟨(hs.getD k zHd).f2.toNat, by omega⟩
      rw [hq] at h h2
      exact foll_end hk m q (s + 1) (by omega) h
def follR (r : Option (Int × Int)) : Int × Int × Int := match r with
  | none => (0, 0, 9)
  | some (e, s) => (e, s, 0)
theorem follow_val {cs : List Cl} {hs : List Hd} (hk : checkT cs hs = 0) (i : Nat) (hi : i < hs.length) : trade_Follow.f cs hs i = some (follR (followT hs i)) := by
  unfold trade_Follow.f
  rw [if_neg (by omega), if_neg (by rw [inN_true (by omega) (by omega)]; simp)]
  rfl
theorem follR_cases {cs : List Cl} {hs : List Hd} (hk : checkT cs hs = 0) (i : Nat) (hi : i < hs.length) :
    ((follR (followT hs i)).2.2 = 9 ∧ followT hs i = none) ∨ ((follR (followT hs i)).2.2 = 0 ∧ ∃ (p : Nat) (s : Int), followT hs i = some ((p : Int), s) ∧ (follR (followT hs i)).1 = p ∧ p < hs.length ∧ (hs.getD p zHd).f2 = -1) := by
  match hf : followT hs i with
  | none => exact .inl ⟨rfl, rfl⟩
  | some (e, s) =>
    obtain ⟨p, rfl, hp, hp2⟩ := foll_end hk (hs.length + 1) i 0 hi hf
    exact .inr ⟨rfl, p, s, rfl, rfl, hp, hp2⟩
theorem may_val {cs : List Cl} {hs : List Hd} (hk : checkT cs hs = 0) (b : ByteArray) : trade_May.f cs hs b = some (mayT hs b, 0) := by
  unfold trade_May.f
  rw [if_neg (by omega)]
/-- heading h leads to trade e -/
def leadT (hs : List Hd) (h e : Int) : Bool := (match followT hs h with | none => false | some (x, _) => decide (x = e)) && isTradeT hs e
theorem leadsTo_eq (hs : List Hd) (b : ByteArray) (h e : Int) : leadsTo hs b h e = (begins (hs.getD h.toNat zHd).f0 b && leadT hs h e) := by
  unfold leadsTo leadT
  rw [Bool.and_assoc]
  rfl
def mayP (hs : List Hd) (b : ByteArray) (e : Int) : Bool := (nats hs.length).any (fun h => leadsTo hs b h e)
theorem mayT_filt (hs : List Hd) (b : ByteArray) : mayT hs b = (nats hs.length).filter (mayP hs b) := rfl
theorem mayP_true {hs : List Hd} {b : ByteArray} {e : Int} : mayP hs b e = true ↔ ∃ h : Nat, h < hs.length ∧ begins (hs.getD h zHd).f0 b = true ∧ leadT hs h e = true := by
  unfold mayP
  rw [List.any_eq_true]
  constructor
  · rintro ⟨x, hx, hl⟩
    obtain ⟨x0, x1⟩ := (nats_mem _ _).1 hx
    rw [leadsTo_eq, Bool.and_eq_true] at hl
    refine ⟨x.toNat, by omega, hl.1, ?_⟩
    rw [show ((x.toNat : Nat) : Int) = x by omega]
    exact hl.2
  · rintro ⟨h, hh, h1, h2⟩
    refine ⟨h, (nats_mem _ _).2 ⟨by omega, by omega⟩, ?_⟩
    rw [leadsTo_eq, Int.toNat_natCast, h1, h2]
    rfl
theorem mayT_mem {hs : List Hd} {b : ByteArray} {e : Int} : e ∈ mayT hs b ↔ 0 ≤ e ∧ e < hs.length ∧ mayP hs b e = true := by rw [mayT_filt]; exact filt_mem
theorem leadT_true {hs : List Hd} {h e : Int} (hl : leadT hs h e = true) : (∃ s, followT hs h = some (e, s)) ∧ isTradeT hs e = true := by
  unfold leadT at hl
  rw [Bool.and_eq_true] at hl
  refine ⟨?_, hl.2⟩
  match hf : followT hs h with
  | none => rw [hf] at hl; exact absurd hl.1 (by simp)
  | some (x, s) =>
    rw [hf] at hl
    have h1 := hl.1
    simp only [decide_eq_true_eq] at h1
    exact ⟨s, by rw [h1]⟩
theorem ext_list (s : ByteArray) (n : Nat) : (s.extract 0 n).data.toList = s.data.toList.take n := by simp
theorem ba_ext {a b : ByteArray} (h : a.data.toList = b.data.toList) : a = b := by
  cases a; cases b
  congr 1
  exact Array.toList_inj.1 h
theorem ext_all (s : ByteArray) : s.extract 0 s.size = s := by
  apply ba_ext
  rw [ext_list, List.take_of_length_le]
  exact Nat.le_refl s.data.toList.length
theorem begins_ext (s : ByteArray) (n : Nat) : begins s (s.extract 0 n) = true := by
  unfold begins
  rw [ext_list, List.isPrefixOf_iff_prefix]
  exact List.take_prefix _ _
end Go.Proofs.Ytfbimhnlcmdcpaa.Q
/- The beginning of Short means just one trade, and that to which the heading leads, if it leads to one; no shorter one means just one: for all lists of numbers. -/
namespace Go.Proofs.Ytfbimhnlcmdcpaa.Pure
open Go.RowKit Go.Proofs.Ytfbimhnlcmdcpaa.Pa Go.Proofs.Ytfbimhnlcmdcpaa.Q Go.Proofs.YtfbimhnlcmdcpaaW.PrintWords Go.Proofs.YtfbimhnlcmdcpaaW.PrintLast
set_option linter.unusedVariables false
set_option linter.unusedSimpArgs false

theorem short_val {cs : List Cl} {hs : List Hd} (hk : checkT cs hs = 0) (i : Nat) (hi : i < hs.length) : trade_Short.f cs hs i = some (shortR (shortT hs i)) := by
  have ha : askT cs hs i = 0 := by
    unfold askT
    rw [if_neg (by omega), if_neg (by rw [inN_true (by omega) (by omega)]; simp)]
  unfold trade_Short.f
  rw [if_neg (by omega)]
theorem means_sure {cs : List Cl} {hs : List Hd} (hk : checkT cs hs = 0) (b : ByteArray) (h1 : (mayT hs b).length = 1) : trade_Means.f cs hs b ((mayT hs b).getD 0 0) = some (1, 0) := by
  have hm : (mayT hs b).getD 0 0 ∈ mayT hs b := by
    rw [List.getD_eq_getElem?_getD, List.getElem?_eq_getElem (by omega)]
    exact List.getElem_mem _
  obtain ⟨g0, g1, g2⟩ := mayT_mem.1 hm
  obtain ⟨h, _, _, hl⟩ := mayP_true.1 g2
  unfold trade_Means.f meansT
  rw [if_neg (by omega), if_neg (by rw [inN_true g0 g1]; simp), if_neg (by rw [(leadT_true hl).2]; simp), if_neg, if_pos h1]
  rw [List.contains_iff_mem.2 hm]
  simp
theorem j4_true {cs : List Cl} {hs : List Hd} (hk : checkT cs hs = 0) (i : Nat) (hi : i < hs.length) (n : Nat) (hn : n ≤ (hs.getD i zHd).f0.size) (h12 : (hs.getD i zHd).f0.size ≤ 12)
    (h1 : (mayT hs ((hs.getD i zHd).f0.extract 0 n)).length = 1) (hrest : Ev (fun k => wayzgooselaw04_TradeShort.l0 k ((i : Int) + 1) cs hs) true) :
    Ev (fun k => wayzgooselaw04_TradeShort.j4 k i ((hs.getD i zHd).f0.extract 0 n) 0 (hs.getD i zHd).f0 (follR (followT hs i)).1 (follR (followT hs i)).2.2 true n (mayT hs ((hs.getD i zHd).f0.extract 0 n)) false cs hs) true := by
  have h6 := (check_parts hk).2.1
  have hend : Ev (fun k => wayzgooselaw04_TradeShort.l1 k i ((hs.getD i zHd).f0.extract 0 n) 0 (hs.getD i zHd).f0 (follR (followT hs i)).1 (follR (followT hs i)).2.2 true ((n : Int) + 1) cs hs) true := by
    have hj : Ev (fun k => wayzgooselaw04_TradeShort.j3 k i ((hs.getD i zHd).f0.extract 0 n) 0 (hs.getD i zHd).f0 (follR (followT hs i)).1 (follR (followT hs i)).2.2 true ((n : Int) + 1) false cs hs) true := by
      refine Ev.step (fun k => ?_) hrest
      simp only [wayzgooselaw04_TradeShort.j3]
      rw [if_neg (by simp), if_pos trivial, w64s (by omega) (by omega)]
    refine Ev.step (fun k => ?_) hj
    simp only [wayzgooselaw04_TradeShort.l1]
    by_cases c : ((n : Int) + 1) ≤ ((hs.getD i zHd).f0.size : Int)
    · rw [if_pos c]; rfl
    · rw [if_neg c]
  refine Ev.step (fun k => ?_) hend
  simp only [wayzgooselaw04_TradeShort.j4]
  have hrd : rd (mayT hs ((hs.getD i zHd).f0.extract 0 n)) 0 = (mayT hs ((hs.getD i zHd).f0.extract 0 n)).getD 0 0 := rfl
  rw [if_neg (by simp), if_pos (by omega), hrd, means_sure hk _ h1]
  simp only [Option.bind_some]
  rw [if_pos trivial, if_pos trivial, w64s (by omega) (by omega)]
  rcases follR_cases hk i hi with ⟨hc, -⟩ | ⟨hc, p, s, hf, he, hp, hp2⟩
  · rw [if_neg (by omega)]
  · rw [if_pos hc, if_pos (by omega), if_pos (by omega)]
    have e2 : rd_T39 hs (follR (followT hs i)).1 = hs.getD p zHd := by rw [he, rd_hd]
    rw [e2]
    by_cases c : (hs.getD p zHd).f1 ≥ 0
    · rw [if_pos c, if_pos]
      have hmem : (p : Int) ∈ mayT hs ((hs.getD i zHd).f0.extract 0 n) := by
        refine mayT_mem.2 ⟨by omega, by omega, mayP_true.2 ⟨i, hi, begins_ext _ _, ?_⟩⟩
        unfold leadT isTradeT
        rw [hf, Int.toNat_natCast, decide_eq_true hp2, decide_eq_true (by omega)]
        simp
      obtain ⟨x, hx⟩ := List.length_eq_one_iff.1 h1
      rw [hx] at hmem ⊢
      rw [← List.mem_singleton.1 hmem, he]
      rfl
    · rw [if_neg c]
theorem l1_true {cs : List Cl} {hs : List Hd} (hk : checkT cs hs = 0) (i : Nat) (hi : i < hs.length) (h12 : (hs.getD i zHd).f0.size ≤ 12) (r : Option ByteArray) (hrest : Ev (fun k => wayzgooselaw04_TradeShort.l0 k ((i : Int) + 1) cs hs) true) :
    ∀ (d n : Nat), n + d = (hs.getD i zHd).f0.size → shortGo hs (hs.getD i zHd).f0 d n = r → Ev (fun k => wayzgooselaw04_TradeShort.l1 k i (shortR r).1 (shortR r).2 (hs.getD i zHd).f0 (follR (followT hs i)).1 (follR (followT hs i)).2.2 false n cs hs) true := by
  have h6 := (check_parts hk).2.1
  have one : ∀ n : Nat, n ≤ (hs.getD i zHd).f0.size → (mayT hs ((hs.getD i zHd).f0.extract 0 n)).length = 1 → r = some ((hs.getD i zHd).f0.extract 0 n) → Ev (fun k => wayzgooselaw04_TradeShort.l1 k i (shortR r).1 (shortR r).2 (hs.getD i zHd).f0 (follR (followT hs i)).1 (follR (followT hs i)).2.2 false n cs hs) true := by
    intro n hn h1 hr
    subst hr
    refine Ev.step (f := fun k => wayzgooselaw04_TradeShort.j3 k i ((hs.getD i zHd).f0.extract 0 n) 0 (hs.getD i zHd).f0 (follR (followT hs i)).1 (follR (followT hs i)).2.2 false n true cs hs) (fun k => ?_) ?_
    · simp only [wayzgooselaw04_TradeShort.l1]
      rw [if_pos (by omega)]
      rfl
    · refine Ev.step (fun k => ?_) (j4_true hk i hi n hn h12 h1 hrest)
      simp only [wayzgooselaw04_TradeShort.j3]
      rw [if_pos trivial, if_pos (by omega), if_pos (by omega), Int.toNat_natCast, may_val hk]
      simp only [Option.bind_some]
      rw [if_pos trivial, if_pos (by omega), if_pos trivial]
      simp
  have more : ∀ n : Nat, n ≤ (hs.getD i zHd).f0.size → ¬ (mayT hs ((hs.getD i zHd).f0.extract 0 n)).length = 1 → Ev (fun k => wayzgooselaw04_TradeShort.l1 k i (shortR r).1 (shortR r).2 (hs.getD i zHd).f0 (follR (followT hs i)).1 (follR (followT hs i)).2.2 false ((n + 1 : Nat) : Int) cs hs) true → Ev (fun k => wayzgooselaw04_TradeShort.l1 k i (shortR r).1 (shortR r).2 (hs.getD i zHd).f0 (follR (followT hs i)).1 (follR (followT hs i)).2.2 false n cs hs) true := by
    intro n hn h1 hnext
    refine Ev.step (f := fun k => wayzgooselaw04_TradeShort.j3 k i (shortR r).1 (shortR r).2 (hs.getD i zHd).f0 (follR (followT hs i)).1 (follR (followT hs i)).2.2 false n true cs hs) (fun k => ?_) ?_
    · simp only [wayzgooselaw04_TradeShort.l1]
      rw [if_pos (by omega)]
      rfl
    · refine Ev.step (fun k => ?_) hnext
      simp only [wayzgooselaw04_TradeShort.j3]
      rw [if_pos trivial, if_pos (by omega), if_pos (by omega), Int.toNat_natCast, may_val hk]
      simp only [Option.bind_some]
      rw [if_pos trivial, if_neg (by omega), w64s (by omega) (by omega)]
      rfl
  intro d
  induction d with
  | zero =>
    intro n hn hr
    have hn : n = (hs.getD i zHd).f0.size := by omega
    rw [shortGo_zero] at hr
    by_cases c : (mayT hs (hs.getD i zHd).f0).length = 1
    · rw [if_pos c] at hr
      refine one n (by omega) ?_ ?_
      · rw [hn, ext_all]; exact c
      · rw [hn, ext_all]; exact hr.symm
    · rw [if_neg c] at hr
      refine more n (by omega) (by rw [hn, ext_all]; exact c) ?_
      subst hr
      refine Ev.step (f := fun k => wayzgooselaw04_TradeShort.j3 k i .empty 11 (hs.getD i zHd).f0 (follR (followT hs i)).1 (follR (followT hs i)).2.2 false ((n + 1 : Nat) : Int) false cs hs) (fun k => ?_) ?_
      · simp only [wayzgooselaw04_TradeShort.l1]
        rw [if_neg (by omega)]
        rfl
      · refine Ev.step (fun k => ?_) hrest
        simp only [wayzgooselaw04_TradeShort.j3]
        rw [if_neg (by simp), if_neg (by simp), if_pos trivial, if_pos (show ByteArray.empty.toList = [] by rw [toList_data]; rfl), w64s (by omega) (by omega)]
  | succ d ih =>
    intro n hn hr
    rw [shortGo_succ] at hr
    by_cases c : (mayT hs ((hs.getD i zHd).f0.extract 0 n)).length = 1
    · rw [if_pos c] at hr
      exact one n (by omega) c hr.symm
    · rw [if_neg c] at hr
      exact more n (by omega) c (ih (n + 1) (by omega) hr)
theorem word_len {s : ByteArray} (h : wordOk s = true) : 1 ≤ s.size ∧ s.size ≤ 12 := by
  unfold wordOk at h
  simp only [Bool.and_eq_true, decide_eq_true_eq] at h
  exact ⟨h.1.1.1.1, h.1.1.1.2⟩
theorem l0_true {cs : List Cl} {hs : List Hd} (hk : checkT cs hs = 0) : ∀ (d i : Nat), i + d = hs.length → Ev (fun k => wayzgooselaw04_TradeShort.l0 k i cs hs) true := by
  have h6 := (check_parts hk).2.1
  intro d
  induction d with
  | zero =>
    intro i hi
    refine Ev.last (fun k => ?_)
    simp only [wayzgooselaw04_TradeShort.l0]
    rw [if_neg (by omega)]
    rfl
  | succ d ih =>
    intro i hi
    have h12 := (word_len (check_head hk i (by omega)).word).2
    have hl1 := l1_true hk i (by omega) h12 (shortT hs i) (ih (i + 1) (by omega)) (hs.getD i zHd).f0.size 0 (by omega) (by unfold shortT; rw [Int.toNat_natCast])
    refine Ev.step (f := fun k => wayzgooselaw04_TradeShort.j1 k i (shortR (shortT hs i)).1 (shortR (shortT hs i)).2 (hs.getD i zHd).f0 (follR (followT hs i)).1 (follR (followT hs i)).2.2 false cs hs) (fun k => ?_) (Ev.step (fun k => ?_) hl1)
    · simp only [wayzgooselaw04_TradeShort.l0]
      rw [if_pos (by omega), short_val hk i (by omega)]
      simp only [Option.bind_some]
      rw [if_pos (by omega), follow_val hk i (by omega)]
      simp only [Option.bind_some, rd_hd]
      rcases follR_cases hk i (by omega) with ⟨hc, -⟩ | ⟨hc, p, s, hf, he, hp, hp2⟩
      · rw [if_neg (by omega)]
      · rw [if_pos hc, if_neg (by omega), decide_eq_false (by omega)]
    · simp only [wayzgooselaw04_TradeShort.j1]
      rw [if_neg (by simp)]
      rfl
theorem TradeShort : wayzgooselaw04_TradeShort.Pure := by
  intro l _ hl _
  obtain ⟨cs, hs, a', s', he, hm, _⟩ := tradesOf_ok (s := 11400714819323198485) (newDice_ok hl) (c := 2) (h := 6) (by omega) (by omega) (by omega) (by omega)
  refine Ev.rounds (r := true) ?_
  refine Ev.congr (f := fun k => (wayzgoosekit_TradesOf.f k l 0 11400714819323198485 2 6).bind fun bt => wayzgooselaw04_TradeShort.l0 k 0 bt.1 bt.2.1) (fun k => ?_) (Ev.bind (f := fun k (bt : List Cl × List Hd × Int × Int) => wayzgooselaw04_TradeShort.l0 k 0 bt.1 bt.2.1) he (l0_true hm.ok hs.length 0 (by omega)))
  unfold wayzgooselaw04_TradeShort.f wayzgoosekit_NewDice.f
  rfl

end Go.Proofs.Ytfbimhnlcmdcpaa.Pure
-- PRINTED WORDS (module Derived/Print/Sized.lean): go-gate-2's, for the rows of laws over slices: an AI agent of Go's test side, Tue Nov 17 2026; no person has read it. Lean checks it.
namespace Go.Proofs.YtfbimhnlcmdcpaaW.PrintWords
open Go.ChangeShapes Go.WideShapes
/-- A row's slice of whole numbers is no longer than its weight allows. -/
theorem sized_ints {H : Type} {enc : TypeId × Value → H} {P : Program} {W : World} {base : Nat} {spare : Nat → Bool} {held : Bool} {t e : TypeId} {k : IntKind} {a : Option Addr} {len cap : Nat} {d : DataW H} {ps : List MemPlace} {ts : List TypeId} {ds : List (DataW H)} {j : Nat}
    (hsz : (DataW.weightsEach P ts ds).all (· ≤ reachBytes) = true) (ht : ts[j]? = some t) (hd : ds[j]? = some d) (hu : P.underlying t = some (.slice e)) (he : P.underlying e = some (.int k)) (hc : P.cellsOf e = 1) {B : Nat} (hB : P.bytesOf e = B)
    (h : DataW.Trod enc P W base spare held t (.slice a len cap) d ps) : len * B ≤ 140737488351232 := by
  obtain ⟨fuel, hf⟩ := h
  rcases open_ints hu he hc hf with ⟨hcs, _⟩ | ⟨x, l, c, zs, hcs, _, hl, _, hz, hx, _, _⟩
  · simp [Value.cells] at hcs
    obtain ⟨rfl, rfl, rfl⟩ := hcs
    simp
  · simp [Value.cells] at hcs
    obtain ⟨rfl, rfl, rfl⟩ := hcs
    obtain ⟨hx, _⟩ := Prod.mk.inj hx
    subst hx
    have z := sized_slice hsz ht hd hu
    rw [hB] at z
    have hl2 : len ≤ zs.length := by
      rw [hz]
      split
      · exact hl
      · exact Nat.le_refl _
    have h1 : (lits (H := H) k (zs.take len)).length + (lits (H := H) k (zs.drop len)).length = zs.length := by
      simp [lits]
      omega
    rw [h1] at z
    exact Nat.le_trans (Nat.mul_le_mul_right _ hl2) z
end Go.Proofs.YtfbimhnlcmdcpaaW.PrintWords
namespace Go.Proofs.Ytfbimhnlcmdcpaa.tradeShort
open Go.ChangeShapes Go.WideShapes Go.ChangeAt Go.RowKit
open Go.ChangeMaps (open_string shut_string)
set_option linter.unusedVariables false
theorem own : ownKnob Try.prog.godebug = none := by kernel_rfl
theorem laidOut : laidOutB Try.prog = true := by kernel_rfl
def IsRow (k : IntKind) (w : World) (a : Option Addr) (len cap : Nat) (zs : List Int) : Prop :=
  (a = none ∧ len = 0 ∧ cap = 0 ∧ zs = []) ∨
  ∃ x, a = some x ∧ len ≤ cap ∧ cap ≤ maxLen ∧ zs.length = cap ∧ (∀ i, i < zs.length → w.cell? (x.add i) = some (.int k (zs.getD i 0))) ∧ ∀ n ∈ zs, (Lit.int k n).wf = true
set_option maxRecDepth 100000 in
theorem lifted (os : Os) (started : os.Started) (H : Type) (enc : TypeId × Value → H) :
    ReturnsInHanded {} Try.checked os 9 .any (Rows.tradeShortSpec.pre6 enc Try.prog Try.f9 Rows.tradeShortRow.domain false) (Rows.tradeShortSpec.post enc Try.prog Try.f9 false true false false) := by
  refine returnsInHanded_of_change_sized (C := Try.checked) own started (by kernel_rfl) Try.func9
    (ChangeSpec.witness6 (enc := enc) (C := Try.checked) false ⟨#[], #[.slice none 0 0], []⟩ 8 (by kernel_rfl) (by kernel_rfl) (by kernel_rfl) (by kernel_rfl)) ?_
  intro W base args ds gs before hval0 hW hcnd hsz0 _
  have hsz : (DataW.weightsEach Try.prog (Try.f9.params.toList ++ Rows.tradeShortSpec.plain.varTypes Try.prog) (ds ++ gs)).all (· ≤ reachBytes) = true := hsz0
  have hval : ∀ (j : Nat) t v, Try.f9.params[j]? = some t → args[j]? = some v → Value.okWide Try.prog W .any base t v := hval0
  have hW' := hW
  obtain ⟨p, q, hA0, hV, rfl, hfz, hnd⟩ := hW
  have hA : DataW.TrodAll enc Try.prog W 0 (fun _ => true) true Try.f9.params.toList args.toList ds p := hA0
  rw [Try.params9] at hA hval hsz
  obtain ⟨v0, vs0, d0, ds0, p0, q0, hargs, rfl, rfl, h0, r0⟩ := trodAll_cons hA
  obtain ⟨rfl, rfl, rfl⟩ := trodAll_nil r0
  obtain rfl : args = #[v0] := by cases args; simp_all
  obtain ⟨rfl, rfl⟩ := trodVars_none hV
  obtain ⟨a0, len0, cap0, rfl⟩ := okWide_slice Try.underlying22 (hval 0 22 v0 rfl rfl)
  have k0 := h0
  have lt0 : ∀ x ∈ p0, x.block < W.heap.size := by obtain ⟨m, hm⟩ := k0; exact DataW.trod_lt m _ _ _ hm
  obtain ⟨z0, w0⟩ : ∃ zs, IsRow .i64 W a0 len0 cap0 zs := by
    obtain ⟨fuel, hf⟩ := h0
    rcases open_ints Try.underlying22 Try.underlying3 (by kernel_rfl) hf with ⟨hcs, _⟩ | ⟨x, l, c, zs, hcs, _, hl, hm, hz, _, hcell, hwz⟩
    · simp [Value.cells] at hcs
      obtain ⟨rfl, rfl, rfl⟩ := hcs
      exact ⟨[], .inl ⟨rfl, rfl, rfl, rfl⟩⟩
    · simp [Value.cells] at hcs
      obtain ⟨rfl, rfl, rfl⟩ := hcs
      exact ⟨zs, .inr ⟨_, rfl, hl, hm, by simpa using hz, hcell, hwz⟩⟩
  have y0 : len0 * 8 ≤ 140737488351232 := Go.Proofs.YtfbimhnlcmdcpaaW.PrintWords.sized_ints hsz (j := 0) (t := 22) rfl rfl Try.underlying22 Try.underlying3 (by kernel_rfl) (by kernel_rfl) h0
  clear hA0 hval0 hsz0 hsz
  refine (Pa.wayzgooselaw04_TradeShort.walk Pure.TradeShort a0 len0 cap0 z0 W w0 y0).mono fun e W' ⟨he, bel⟩ => ?_
  subst he
  exact ⟨_, rfl, _, _, _, [], _, [], hW', trodAll_mk1 (shut_bool Try.underlying4 _), (trodAll_cons_mk (Below.trod laidOut (by kernel_rfl) (of_decide_eq_true (by kernel_rfl)) k0 bel lt0) trodAll_mk0), rfl, bel.frame _, fun h => by cases h⟩
theorem over : Rows.tradeShortRow.holds Try.pinned (OpenSpec.ofChange Rows.tradeShortSpec) :=
  OpenClaim.holds_of_wide 9 Try.f9 rfl rfl rfl rfl rfl rfl rfl ⟨rfl, rfl, rfl, rfl, rfl⟩ rfl rfl rfl rfl rfl (by kernel_rfl) Try.func9 (by kernel_rfl)
    (of_decide_eq_true (by kernel_rfl)) (by unfold Func.isWrapper; first | (rw [if_pos (by decide +kernel)]; kernel_rfl) | (rw [if_neg (by decide +kernel)]; exact ⟨rfl, rfl⟩))
    (fun os started H enc _ => lifted os started H enc)
theorem proved : Rows.TradeShortSaid := over
#print axioms proved
end Go.Proofs.Ytfbimhnlcmdcpaa.tradeShort
namespace Go.Proofs.Ytfbimhnlcmdcpaa
/-- The row, under a short name, for the claim. -/
theorem tradeShort_holds : Rows.TradeShortSaid := tradeShort.proved
end Go.Proofs.Ytfbimhnlcmdcpaa
