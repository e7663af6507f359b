/- A part of the proof: After Drop the trades are valid and the heading is not there, each other trade remains, no reference is lost whose two headings remain, and a heading to which none refers goes alone: for all lists of numbers. Without conditions of its own. -/
import Derived.Test.YtfbimhnlcmdcpaaMTradeDropped3
import Derived.Test.YtfbimhnlcmdcpaaMTradeDropped2
import Derived.KernelRfl
import Derived.Test.YtfbimhnlcmdcpaaMTradeDropped5
import Derived.Test.YtfbimhnlcmdcpaaMTradeDropped6
import Derived.Test.YtfbimhnlcmdcpaaRows
import Derived.WalkKit
import Derived.ProofKit
import Derived.OpenShut
import Derived.ShutString
import Derived.ChangeOld
import Derived.Below
import Derived.SizedLaws
import Derived.Test.YtfbimhnlcmdcpaaMTradeDropped1
/- What the dice of the kit give: numbers in their bounds, orders, ascending lists. -/
namespace Go.Proofs.Ytfbimhnlcmdcpaa.Q
open Go.RowKit Go.Proofs.Ytfbimhnlcmdcpaa.Pa Go.Proofs.YtfbimhnlcmdcpaaW.PrintWords Go.Proofs.YtfbimhnlcmdcpaaW.PrintLast Go.Proofs.YtfbimhnlcmdcpaaW.PrintMore
set_option linter.unusedVariables false

theorem u64w (x : Int) : IntKind.u64.wrap x = x % 18446744073709551616 := rfl
theorem xor_range (a b : Int) : 0 ≤ Go.bits .xor .u64 a b ∧ Go.bits .xor .u64 a b < 18446744073709551616 := by
  unfold Go.bits
  rw [u64w]
  omega
theorem w64s {x : Int} (h0 : -9223372036854775808 ≤ x) (h1 : x < 9223372036854775808) : wrap64 x = x := by
  unfold wrap64
  omega
theorem Ev.last {α : Type} {g : Nat → Option α} {r : α} (h : ∀ k, g (k + 1) = some r) : Ev g r := Ev.step h (Ev.now r)
/-- Dice in order: so many numbers are used up. -/
structure DOK (l : List Int) (a : Int) : Prop where
  lo : 0 ≤ a
  hi : a ≤ l.length
  sz : l.length < 4611686018427387904

theorem raw_ok {l : List Int} {a s : Int} (h : DOK l a) : ∃ n a' s', wayzgoosekit_Dice_raw.f l a s = some (n, a', s') ∧ 0 ≤ n ∧ n < 18446744073709551616 ∧ DOK l a' := by
  have hz := h.sz
  have hlo := h.lo
  unfold wayzgoosekit_Dice_raw.f
  by_cases c : a < (l.length : Int)
  · rw [if_pos c, if_pos h.lo]
    refine ⟨_, _, _, rfl, (xor_range _ _).1, (xor_range _ _).2, ?_⟩
    rw [w64s (by omega) (by omega)]
    exact ⟨by omega, by omega, hz⟩
  · rw [if_neg c]
    exact ⟨_, _, _, rfl, (xor_range _ _).1, (xor_range _ _).2, h⟩
theorem to_ok {l : List Int} {a s n : Int} (h : DOK l a) (hn : n < 4611686018427387904) : ∃ v a' s', wayzgoosekit_Dice_To.f l a s n = some (v, a', s') ∧ 0 ≤ v ∧ (v ≤ n ∨ v = 0) ∧ DOK l a' := by
  unfold wayzgoosekit_Dice_To.f
  by_cases c : n < 1
  · rw [if_pos c]
    exact ⟨_, _, _, rfl, by omega, .inr rfl, h⟩
  · rw [if_neg c]
    obtain ⟨m, a', s', hr, h0, h1, hd⟩ := raw_ok (s := s) h
    rw [hr]
    have hw : IntKind.u64.wrap (wrap64 (n + 1)) = n + 1 := by
      rw [w64s (by omega) (by omega), u64w]
      omega
    simp only [Option.bind_some, hw]
    rw [if_neg (by omega)]
    have h2 : (m / 65536).tmod (n + 1) = m / 65536 % (n + 1) := Int.tmod_eq_emod_of_nonneg (by omega)
    have h3 := Int.emod_nonneg (m / 65536) (show n + 1 ≠ 0 by omega)
    have h4 := Int.emod_lt_of_pos (m / 65536) (show 0 < n + 1 by omega)
    rw [h2, w64s (by omega) (by omega)]
    exact ⟨_, _, _, rfl, h3, .inl (by omega), hd⟩
/-- n at least 0: a number from 0 to n. -/
theorem to_ok' {l : List Int} {a s n : Int} (h : DOK l a) (hn : n < 4611686018427387904) (h0 : 0 ≤ n) : ∃ v a' s', wayzgoosekit_Dice_To.f l a s n = some (v, a', s') ∧ 0 ≤ v ∧ v ≤ n ∧ DOK l a' := by
  obtain ⟨v, a', s', h1, h2, h3, h4⟩ := to_ok (s := s) h hn
  exact ⟨v, a', s', h1, h2, by omega, h4⟩
theorem from_ok {l : List Int} {a s lo hi : Int} (h : DOK l a) (hl : -1000000 ≤ lo) (hl2 : lo ≤ 1000000) (hh : -1000000 ≤ hi) (hh2 : hi ≤ 1000000) : ∃ v a' s', wayzgoosekit_Dice_From.f l a s lo hi = some (v, a', s') ∧ lo ≤ v ∧ (v ≤ hi ∨ v = lo) ∧ DOK l a' := by
  unfold wayzgoosekit_Dice_From.f
  rw [w64s (by omega) (by omega)]
  obtain ⟨v, a', s', h1, h2, h3, h4⟩ := to_ok (s := s) (n := hi - lo) h (by omega)
  rw [h1]
  simp only [Option.bind_some]
  rw [w64s (by omega) (by omega)]
  exact ⟨_, _, _, rfl, by omega, by omega, h4⟩
theorem once_ok {l : List Int} {a s n : Int} (h : DOK l a) (hn : -1000000 ≤ n) (hn2 : n < 1000000) : ∃ v a' s', wayzgoosekit_Dice_Once.f l a s n = some (v, a', s') ∧ DOK l a' := by
  unfold wayzgoosekit_Dice_Once.f
  rw [w64s (by omega) (by omega)]
  obtain ⟨v, a', s', h1, h2, h3, h4⟩ := to_ok (s := s) (n := n - 1) h (by omega)
  rw [h1]
  exact ⟨_, _, _, rfl, h4⟩

/-! ### Order -/
theorem set_set_perm (l : List Int) (i j : Nat) (hi : i < l.length) (hj : j < l.length) : ((l.set i (l.getD j 0)).set j (l.getD i 0)).Perm l := by
  have gi : l.getD i 0 = l[i] := by simp [List.getD_eq_getElem?_getD, hi]
  have gj : l.getD j 0 = l[j] := by simp [List.getD_eq_getElem?_getD, hj]
  rw [gi, gj, List.perm_iff_count]
  intro x
  have hi' : i < (l.set i l[j]).length := by rw [List.length_set]; exact hi
  have hj' : j < (l.set i l[j]).length := by rw [List.length_set]; exact hj
  have e1 := List.count_set (a := l[i]) (b := x) hj'
  have e2 := List.count_set (a := l[j]) (b := x) hi
  rw [e1, e2]
  have ci : (if (l[i] == x) = true then 1 else 0) ≤ List.count x l := by
    split
    · rename_i h
      have : l[i] = x := by simpa using h
      exact List.count_pos_iff.2 (this ▸ List.getElem_mem hi)
    · omega
  by_cases hij : i = j
  · subst hij
    simp only [List.getElem_set_self]
    split <;> rename_i h <;> simp_all
  · simp only [List.getElem_set_ne hij]
    have cj : (if (l[j] == x) = true then 1 else 0) ≤ List.count x l - (if (l[i] == x) = true then 1 else 0) + (if (l[j] == x) = true then 1 else 0) := by omega
    omega
theorem order_l1 {l : List Int} (d : Nat) : ∀ (p : List Int) (x a s : Int), DOK l a → x = d → (d : Int) < p.length ∨ d = 0 → p.length < 1000000 →
    ∃ q a' s', Ev (fun k => wayzgoosekit_Dice_Order.l1 k p x l a s) (q, a', s') ∧ q.Perm p ∧ DOK l a' := by
  induction d with
  | zero =>
    intro p x a s h hx hd hp
    refine ⟨p, a, s, Ev.last (fun k => ?_), List.Perm.refl _, h⟩
    simp only [wayzgoosekit_Dice_Order.l1]
    rw [if_neg (by omega)]
  | succ d ih =>
    intro p x a s h hx hd hp
    obtain ⟨v, a1, s1, hr, h0, h1, hd1⟩ := to_ok' (s := s) (n := x) h (by omega) (by omega)
    have hxl : x.toNat < p.length := by omega
    have hvl : v.toNat < p.length := by omega
    have hperm := set_set_perm p x.toNat v.toNat hxl hvl
    obtain ⟨q, a', s', he, hq, hdk⟩ := ih ((p.set x.toNat (rd p v)).set v.toNat (rd p x)) (x - 1) a1 s1 hd1 (by omega) (by simp only [List.length_set]; omega) (by simp only [List.length_set]; exact hp)
    refine ⟨q, a', s', Ev.step (fun k => ?_) he, hq.trans hperm, hdk⟩
    simp only [wayzgoosekit_Dice_Order.l1]
    rw [if_pos (by omega), hr]
    simp only [Option.bind_some]
    rw [if_pos (by omega), if_pos (by omega), if_pos (by omega), if_pos (by omega), w64s (by omega) (by omega)]
theorem order_ok {l : List Int} {a s : Int} (n : Nat) (h : DOK l a) (hn : n < 1000000) (h1 : 1 ≤ n) : ∃ q a' s', Ev (fun k => wayzgoosekit_Dice_Order.f k l a s n) (q, a', s') ∧ q.Perm (nats n) ∧ DOK l a' := by
  have key : ∀ (d i : Nat), i + d = n → ∃ q a' s', Ev (fun k => wayzgoosekit_Dice_Order.l0 k n (nats i) i l a s) (q, a', s') ∧ q.Perm (nats n) ∧ DOK l a' := by
    intro d
    induction d with
    | zero =>
      intro i hi
      obtain rfl : i = n := by omega
      have hlen : (nats i).length = i := by simp [nats]
      obtain ⟨q, a', s', he, hq, hd⟩ := order_l1 (l := l) (i - 1) (nats i) ((i : Int) - 1) a s h (by omega) (by rw [hlen]; omega) (by rw [hlen]; exact hn)
      refine ⟨q, a', s', Ev.step (fun k => ?_) he, hq, hd⟩
      simp only [wayzgoosekit_Dice_Order.l0]
      rw [if_neg (by omega), w64s (by omega) (by omega)]
    | succ d ih =>
      intro i hi
      obtain ⟨q, a', s', he, hq, hd⟩ := ih (i + 1) (by omega)
      have hlen : (nats i).length = i := by simp [nats]
      have hsucc : nats (i + 1) = nats i ++ [(i : Int)] := by simp [nats, List.range_succ]
      refine ⟨q, a', s', Ev.step (fun k => ?_) he, hq, hd⟩
      simp only [wayzgoosekit_Dice_Order.l0]
      rw [if_pos (by omega), if_pos (by rw [hlen]; omega), w64s (by omega) (by omega), hsucc, Int.natCast_add]
      rfl
  exact key n 0 (by omega)

/-! ### Index -/
/-- the first index of x from i on, -1 -/
def idxFrom (x : Int) : List Int → Int → Int
  | [], _ => -1
  | y :: t, i => if y = x then i else idxFrom x t (i + 1)
def idxT (l : List Int) (x : Int) : Int := idxFrom x l 0
theorem index_ok (l : List Int) (x : Int) (hl : l.length < 4611686018427387904) : Ev (fun k => wayzgoosekit_Index.f k l x) (idxT l x) := by
  have key : ∀ (d i : Nat), i + d = l.length → Ev (fun k => wayzgoosekit_Index.l0 k l x i) (idxFrom x (l.drop i) i) := by
    intro d
    induction d with
    | zero =>
      intro i hi
      rw [List.drop_of_length_le (by omega)]
      refine Ev.last (fun k => ?_)
      simp only [wayzgoosekit_Index.l0]
      rw [if_neg (by omega)]
      rfl
    | succ d ih =>
      intro i hi
      have hil : i < l.length := by omega
      rw [List.drop_eq_getElem_cons hil]
      have hrd : rd l (i : Int) = l[i] := by simp [rd, List.getD_eq_getElem?_getD, hil]
      by_cases c : l[i] = x
      · refine Ev.last (fun k => ?_)
        simp only [wayzgoosekit_Index.l0, idxFrom]
        rw [if_pos (by omega), if_pos (by omega), hrd, if_pos c, if_pos c]
      · refine Ev.step (fun k => ?_) (show Ev _ (idxFrom x (l[i] :: l.drop (i + 1)) i) by rw [idxFrom, if_neg c]; exact ih (i + 1) (by omega))
        simp only [wayzgoosekit_Index.l0]
        rw [if_pos (by omega), if_pos (by omega), hrd, if_neg c, w64s (by omega) (by omega)]
        rfl
  exact key l.length 0 (by omega)
theorem idxFrom_spec (x : Int) : ∀ (l : List Int) (i : Int), (x ∉ l ∧ idxFrom x l i = -1) ∨ (∃ j : Nat, j < l.length ∧ l.getD j 0 = x ∧ (∀ m, m < j → l.getD m 0 ≠ x) ∧ idxFrom x l i = i + j)
  | [], i => .inl ⟨by simp, rfl⟩
  | y :: t, i => by
    by_cases c : y = x
    · exact .inr ⟨0, by simp, by simpa using c, fun m hm => by omega, by simp [idxFrom, c]⟩
    · rcases idxFrom_spec x t (i + 1) with ⟨h1, h2⟩ | ⟨j, h1, h2, h3, h4⟩
      · exact .inl ⟨by simp [h1, Ne.symm c], by rw [idxFrom, if_neg c, h2]⟩
      · refine .inr ⟨j + 1, by simp; omega, by simpa using h2, fun m hm => ?_, by rw [idxFrom, if_neg c, h4]; omega⟩
        cases m with
        | zero => simpa using c
        | succ m => simpa using h3 m (by omega)
theorem idxT_spec (l : List Int) (x : Int) : (x ∉ l ∧ idxT l x = -1) ∨ (∃ j : Nat, j < l.length ∧ l.getD j 0 = x ∧ (∀ m, m < j → l.getD m 0 ≠ x) ∧ idxT l x = j) := by
  have := idxFrom_spec x l 0
  simpa [idxT] using this
theorem idxT_nonneg (l : List Int) (x : Int) : 0 ≤ idxT l x ↔ x ∈ l := by
  rcases idxT_spec l x with ⟨h1, h2⟩ | ⟨j, h1, h2, h3, h4⟩
  · rw [h2]; simp [h1]
  · rw [h4]
    refine ⟨fun _ => ?_, fun _ => by omega⟩
    rw [← h2, List.getD_eq_getElem?_getD, List.getElem?_eq_getElem h1]
    exact List.getElem_mem h1
end Go.Proofs.Ytfbimhnlcmdcpaa.Q
/- Trades that are made of numbers are valid. -/
namespace Go.Proofs.Ytfbimhnlcmdcpaa.Q
open Go.RowKit Go.Proofs.Ytfbimhnlcmdcpaa.Pa Go.Proofs.YtfbimhnlcmdcpaaW.PrintWords Go.Proofs.YtfbimhnlcmdcpaaW.PrintLast Go.Proofs.YtfbimhnlcmdcpaaW.PrintMore
set_option linter.unusedVariables false

/-! ### partOf -/
theorem nats_mem (n : Nat) (x : Int) : x ∈ nats n ↔ 0 ≤ x ∧ x < n := by
  unfold nats
  simp only [List.mem_map, List.mem_range]
  constructor
  · rintro ⟨m, hm, rfl⟩
    exact ⟨by simp, by simpa using hm⟩
  · rintro ⟨h0, h1⟩
    exact ⟨x.toNat, by omega, by simp; omega⟩
theorem nats_pairwise (n : Nat) : (nats n).Pairwise (· < ·) := by
  unfold nats
  rw [List.pairwise_map]
  exact (List.pairwise_lt_range).imp (fun h => by simpa using h)
theorem nats_nodup (n : Nat) : (nats n).Nodup := (nats_pairwise n).imp (fun h => by omega)
theorem nats_snoc (n : Nat) : nats (n + 1) = nats n ++ [(n : Int)] := by simp [nats, List.range_succ]
theorem idx_take (p : List Int) (x : Int) (m : Int) (hx : x ∈ p) (hm : idxT p x < m) : x ∈ p.take m.toNat := by
  rcases idxT_spec p x with ⟨h1, h2⟩ | ⟨j, h1, h2, h3, h4⟩
  · exact absurd hx h1
  · rw [h4] at hm
    have : p[j]? = some x := by
      rw [List.getElem?_eq_getElem h1, ← h2, List.getD_eq_getElem?_getD, List.getElem?_eq_getElem h1]
      rfl
    refine List.mem_of_getElem? (i := j) ?_
    rw [List.getElem?_take_of_lt (by omega), this]
theorem part_len (n : Nat) (p : List Int) (m : Int) (hp : p.Perm (nats n)) : ((nats n).filter (fun i => decide (idxT p i < m))).length ≤ m.toNat := by
  have hnd : p.Nodup := hp.nodup_iff.2 (nats_nodup n)
  have h1 : ((nats n).filter (fun i => decide (idxT p i < m))).length = (p.filter (fun i => decide (idxT p i < m))).length := (hp.symm.filter _).length_eq
  rw [h1]
  have h2 : (p.filter (fun i => decide (idxT p i < m))).length ≤ (p.filter (fun i => decide (i ∈ p.take m.toNat))).length := by
    rw [← List.countP_eq_length_filter, ← List.countP_eq_length_filter]
    exact List.countP_mono_left (fun x hx h => by simpa using idx_take p x m hx (by simpa using h))
  refine Nat.le_trans h2 ?_
  have h3 : p.filter (fun i => decide (i ∈ p.take m.toNat)) = (p.take m.toNat).filter (fun i => decide (i ∈ p.take m.toNat)) ++ (p.drop m.toNat).filter (fun i => decide (i ∈ p.take m.toNat)) := by
    conv => lhs; rw [show p.filter (fun i => decide (i ∈ p.take m.toNat)) = ((p.take m.toNat) ++ (p.drop m.toNat)).filter (fun i => decide (i ∈ p.take m.toNat)) by rw [List.take_append_drop]]
    rw [List.filter_append]
  have h4 : (p.drop m.toNat).filter (fun i => decide (i ∈ p.take m.toNat)) = [] := by
    rw [List.filter_eq_nil_iff]
    intro x hx h
    have hd : (p.take m.toNat ++ p.drop m.toNat).Nodup := by rw [List.take_append_drop]; exact hnd
    rw [List.nodup_append] at hd
    exact hd.2.2 x (by simpa using h) x hx rfl
  rw [h3, h4, List.append_nil]
  refine Nat.le_trans (List.length_filter_le _ _) ?_
  rw [List.length_take]
  omega
/-- Ascending numbers below n. -/
structure Asc (ws : List Int) (n : Nat) : Prop where
  lt : ws.Pairwise (· < ·)
  mem : ∀ x ∈ ws, 0 ≤ x ∧ x < n
theorem part_ok {l : List Int} {a s : Int} (n : Nat) (m : Int) (h : DOK l a) (hn : n < 1000000) (h1 : 1 ≤ n) (hm : 0 ≤ m) : ∃ ws a' s', Ev (fun k => wayzgoosekit_partOf.f k l a s n m) (ws, a', s') ∧ Asc ws n ∧ ws.length ≤ m.toNat ∧ DOK l a' := by
  obtain ⟨p, a1, s1, he, hp, hd⟩ := order_ok (s := s) n h hn h1
  have hpl : p.length = n := by rw [hp.length_eq]; simp [nats]
  have key : ∀ (d i : Nat), i + d = n → Ev (fun k => wayzgoosekit_partOf.l0 k n m p ((nats i).filter (fun i => decide (idxT p i < m))) i l a1 s1) ((nats n).filter (fun i => decide (idxT p i < m)), a1, s1) := by
    intro d
    induction d with
    | zero =>
      intro i hi
      obtain rfl : i = n := by omega
      refine Ev.last (fun k => ?_)
      simp only [wayzgoosekit_partOf.l0]
      rw [if_neg (by omega)]
    | succ d ih =>
      intro i hi
      have hlen : ((nats i).filter (fun i => decide (idxT p i < m))).length ≤ i := Nat.le_trans (List.length_filter_le _ _) (by simp [nats])
      have ih := ih (i + 1) (by omega)
      rw [nats_snoc, List.filter_append] at ih
      by_cases c : idxT p i < m
      · have e1 : [(i : Int)].filter (fun i => decide (idxT p i < m)) = [(i : Int)] := by simp [c]
        rw [e1] at ih
        refine Ev.step (f := fun k => (wayzgoosekit_Index.f k p i).bind fun t => if t < m then (if ((nats i).filter (fun i => decide (idxT p i < m))).length < 17592186044416 then wayzgoosekit_partOf.l0 k n m p ((nats i).filter (fun i => decide (idxT p i < m)) ++ [(i : Int)]) ((i + 1 : Nat) : Int) l a1 s1 else none) else wayzgoosekit_partOf.l0 k n m p ((nats i).filter (fun i => decide (idxT p i < m))) ((i + 1 : Nat) : Int) l a1 s1) (fun k => ?_) ?_
        · simp only [wayzgoosekit_partOf.l0]
          rw [if_pos (by omega), w64s (by omega) (by omega)]
          rfl
        · refine Ev.bind (index_ok p i (by omega)) ?_
          refine Ev.congr (fun k => ?_) ih
          rw [if_pos c, if_pos (by omega)]
      · have e1 : [(i : Int)].filter (fun i => decide (idxT p i < m)) = [] := by simp [c]
        rw [e1, List.append_nil] at ih
        refine Ev.step (f := fun k => (wayzgoosekit_Index.f k p i).bind fun t => if t < m then (if ((nats i).filter (fun i => decide (idxT p i < m))).length < 17592186044416 then wayzgoosekit_partOf.l0 k n m p ((nats i).filter (fun i => decide (idxT p i < m)) ++ [(i : Int)]) ((i + 1 : Nat) : Int) l a1 s1 else none) else wayzgoosekit_partOf.l0 k n m p ((nats i).filter (fun i => decide (idxT p i < m))) ((i + 1 : Nat) : Int) l a1 s1) (fun k => ?_) ?_
        · simp only [wayzgoosekit_partOf.l0]
          rw [if_pos (by omega), w64s (by omega) (by omega)]
          rfl
        · refine Ev.bind (index_ok p i (by omega)) ?_
          refine Ev.congr (fun k => ?_) ih
          rw [if_neg c]
  refine ⟨_, _, _, Ev.bind (f := fun k (x : List Int × Int × Int) => wayzgoosekit_partOf.l0 k n m x.1 [] 0 l x.2.1 x.2.2) he (key n 0 (by omega)), ⟨?_, ?_⟩, part_len n p m hp, hd⟩
  · exact (nats_pairwise n).filter _
  · intro x hx
    exact (nats_mem n x).1 (List.mem_filter.1 hx).1
end Go.Proofs.Ytfbimhnlcmdcpaa.Q
/- TradesOf: it gives trades, and they are valid. -/
namespace Go.Proofs.Ytfbimhnlcmdcpaa.Q
open Go.RowKit Go.Proofs.Ytfbimhnlcmdcpaa.Pa Go.Proofs.YtfbimhnlcmdcpaaW.PrintWords Go.Proofs.YtfbimhnlcmdcpaaW.PrintLast Go.Proofs.YtfbimhnlcmdcpaaW.PrintMore
set_option linter.unusedVariables false
set_option linter.unusedSimpArgs false

def sortsL : List ByteArray := (wayzgoosekit_sorts.f).getD []
def callL : List ByteArray := (wayzgoosekit_callings.f).getD []
theorem sorts_f : wayzgoosekit_sorts.f = some sortsL := by kernel_rfl
theorem call_f : wayzgoosekit_callings.f = some callL := by kernel_rfl
theorem sorts_len : sortsL.length = 9 := by kernel_rfl
theorem call_len : callL.length = 16 := by kernel_rfl
def sortAt (i : Int) : ByteArray := rdOf ByteArray.empty sortsL i
def callAt (i : Int) : ByteArray := rdOf ByteArray.empty callL i
def allTwo (n : Nat) (f : Int → Int → Bool) : Bool := (List.range n).all fun i => (List.range n).all fun j => f i j
theorem allTwo_spec {n : Nat} {f : Int → Int → Bool} (h : allTwo n f = true) (i j : Int) (hi : 0 ≤ i) (hi2 : i < n) (hj : 0 ≤ j) (hj2 : j < n) : f i j = true := by
  unfold allTwo at h
  rw [List.all_eq_true] at h
  have h1 := h i.toNat (List.mem_range.2 (by omega))
  rw [List.all_eq_true] at h1
  have h2 := h1 j.toNat (List.mem_range.2 (by omega))
  rwa [show ((i.toNat : Nat) : Int) = i by omega, show ((j.toNat : Nat) : Int) = j by omega] at h2
theorem sorts_all : allTwo 9 (fun i j => wordOk (sortAt i) && (decide (i = j) || !sEq (sortAt i) (sortAt j))) = true := by kernel_rfl
theorem call_all : allTwo 16 (fun i j => wordOk (callAt i) && (decide (i = j) || !sEq (callAt i) (callAt j)) && (!decide (i < j) || (sLt (callAt i) (callAt j) && !sLt (callAt j) (callAt i)))) = true := by kernel_rfl
theorem sort_word (i : Int) (h0 : 0 ≤ i) (h1 : i < 9) : wordOk (sortAt i) = true := by
  have := allTwo_spec sorts_all i i h0 h1 h0 h1
  simp only [Bool.and_eq_true] at this
  exact this.1
theorem sort_ne (i j : Int) (h0 : 0 ≤ i) (h1 : i < 9) (g0 : 0 ≤ j) (g1 : j < 9) (hne : i ≠ j) : sEq (sortAt i) (sortAt j) = false := by
  have := allTwo_spec sorts_all i j h0 h1 g0 g1
  simp only [Bool.and_eq_true] at this
  simpa [hne] using this.2
theorem call_word (i : Int) (h0 : 0 ≤ i) (h1 : i < 16) : wordOk (callAt i) = true := by
  have := allTwo_spec call_all i i h0 h1 h0 h1
  simp only [Bool.and_eq_true] at this
  exact this.1.1
theorem call_ne (i j : Int) (h0 : 0 ≤ i) (h1 : i < 16) (g0 : 0 ≤ j) (g1 : j < 16) (hne : i ≠ j) : sEq (callAt i) (callAt j) = false := by
  have := allTwo_spec call_all i j h0 h1 g0 g1
  simp only [Bool.and_eq_true] at this
  simpa [hne] using this.1.2
theorem call_lt (i j : Int) (h0 : 0 ≤ i) (g1 : j < 16) (hlt : i < j) : sLt (callAt i) (callAt j) = true ∧ sLt (callAt j) (callAt i) = false := by
  have := allTwo_spec call_all i j h0 (by omega) (by omega) g1
  simp only [Bool.and_eq_true] at this
  simpa [hlt] using this.2

/-! ### classes -/
structure ClsOK (p : List Int) (cs : List Cl) : Prop where
  name : ∀ i, i < cs.length → (cs.getD i zCl).f0 = sortAt (p.getD i 0)
  under : ∀ i, i < cs.length → -1 ≤ (cs.getD i zCl).f1 ∧ (cs.getD i zCl).f1 < (i : Int)
theorem ClsOK.snoc {p : List Int} {cs : List Cl} (h : ClsOK p cs) (u : Int) (h0 : -1 ≤ u) (h1 : u < (cs.length : Int)) : ClsOK p (cs ++ [⟨sortAt (p.getD cs.length 0), u⟩]) := by
  constructor
  · intro i hi
    rw [List.length_append, List.length_singleton] at hi
    rcases Nat.lt_or_ge i cs.length with hlt | hge
    · rw [List.getD_eq_getElem?_getD, List.getElem?_append_left hlt, ← List.getD_eq_getElem?_getD]; exact h.name i hlt
    · obtain rfl : i = cs.length := by omega
      simp [List.getD_eq_getElem?_getD]
  · intro i hi
    rw [List.length_append, List.length_singleton] at hi
    rcases Nat.lt_or_ge i cs.length with hlt | hge
    · rw [List.getD_eq_getElem?_getD, List.getElem?_append_left hlt, ← List.getD_eq_getElem?_getD]; exact h.under i hlt
    · obtain rfl : i = cs.length := by omega
      simp [List.getD_eq_getElem?_getD]
      omega
theorem any_false {α : Type} {l : List α} {f : α → Bool} (h : ∀ x ∈ l, f x = false) : l.any f = false := by
  rw [List.any_eq_false]
  intro x hx
  rw [h x hx]
  simp
theorem mem_take_getD {α : Type} (l : List α) (z : α) (i : Nat) (x : α) (h : x ∈ l.take i) : ∃ j, j < i ∧ j < l.length ∧ l.getD j z = x := by
  obtain ⟨j, hj, rfl⟩ := List.mem_iff_getElem.1 h
  rw [List.length_take] at hj
  exact ⟨j, by omega, by omega, by rw [List.getElem_take, List.getD_eq_getElem?_getD, List.getElem?_eq_getElem (by omega)]; rfl⟩
theorem perm_at {p : List Int} {n : Nat} (hp : p.Perm (nats n)) (i : Nat) (hi : i < n) : i < p.length ∧ 0 ≤ p.getD i 0 ∧ p.getD i 0 < n := by
  have hl : p.length = n := by rw [hp.length_eq]; simp [nats]
  have : p.getD i 0 ∈ p := by rw [List.getD_eq_getElem?_getD, List.getElem?_eq_getElem (by omega)]; exact List.getElem_mem _
  have := (nats_mem n _).1 (hp.mem_iff.1 this)
  exact ⟨by omega, this.1, this.2⟩
theorem perm_ne {p : List Int} {n : Nat} (hp : p.Perm (nats n)) (i j : Nat) (hi : i < n) (hj : j < n) (hne : i ≠ j) : p.getD i 0 ≠ p.getD j 0 := by
  have hl : p.length = n := by rw [hp.length_eq]; simp [nats]
  have hnd : p.Nodup := hp.nodup_iff.2 (nats_nodup n)
  rw [List.getD_eq_getElem?_getD, List.getElem?_eq_getElem (by omega), List.getD_eq_getElem?_getD, List.getElem?_eq_getElem (by omega)]
  simp only [Option.getD_some]
  rcases Nat.lt_or_gt_of_ne hne with h | h
  · exact List.pairwise_iff_getElem.1 hnd i j _ _ h
  · exact (List.pairwise_iff_getElem.1 hnd j i _ _ h).symm
theorem ClsOK.err {p : List Int} {cs : List Cl} (hp : p.Perm (nats 9)) (hl : cs.length ≤ 9) (h : ClsOK p cs) (i : Nat) (hi : i < cs.length) : classErr cs i = 0 := by
  unfold classErr
  obtain ⟨h1, h2, h3⟩ := perm_at hp i (by omega)
  rw [h.name i hi, if_neg (by rw [sort_word _ h2 h3]; simp)]
  rw [if_neg, if_neg, if_neg]
  · have := (h.under i hi).2; omega
  · have := h.under i hi
    omega
  · rw [any_false]
    · simp
    intro y hy
    obtain ⟨j, hj, hjl, rfl⟩ := mem_take_getD cs zCl i y hy
    obtain ⟨g1, g2, g3⟩ := perm_at hp j (by omega)
    rw [h.name j hjl]
    exact sort_ne _ _ g2 g3 h2 h3 (perm_ne hp j i (by omega) (by omega) (by omega))

/-! ### headings -/
structure HdOK (nc n i : Nat) (w : Int) (x : Hd) : Prop where
  word : x.f0 = callAt w
  cls : -1 ≤ x.f1 ∧ x.f1 < nc
  see : x.f2 = -1 ∨ (0 ≤ x.f2 ∧ x.f2 < n ∧ x.f2 ≠ i)
  ptr : x.f2 ≠ -1 → x.f1 = -1 ∧ x.f3 = []
  idx : x.f2 = -1 → x.f1 = -1 → x.f3 ≠ []
  asc : x.f3.Pairwise (· < ·)
  also : ∀ y ∈ x.f3, 0 ≤ y ∧ y < n ∧ y ≠ i
def HdsOK (nc n : Nat) (ws : List Int) (hs : List Hd) : Prop := ∀ i, i < hs.length → HdOK nc n i (ws.getD i 0) (hs.getD i zHd)
theorem HdsOK.snoc {nc n : Nat} {ws : List Int} {hs : List Hd} {x : Hd} (h : HdsOK nc n ws hs) (hx : HdOK nc n hs.length (ws.getD hs.length 0) x) : HdsOK nc n ws (hs ++ [x]) := by
  intro i hi
  rw [List.length_append, List.length_singleton] at hi
  rcases Nat.lt_or_ge i hs.length with hlt | hge
  · rw [List.getD_eq_getElem?_getD (l := hs ++ [x]), List.getElem?_append_left hlt, ← List.getD_eq_getElem?_getD]; exact h i hlt
  · obtain rfl : i = hs.length := by omega
    rw [List.getD_eq_getElem?_getD (l := hs ++ [x]), List.getElem?_append_right (Nat.le_refl _), Nat.sub_self]
    exact hx
theorem asc_at {ws : List Int} {n : Nat} (h : Asc ws n) (i : Nat) (hi : i < ws.length) : 0 ≤ ws.getD i 0 ∧ ws.getD i 0 < n := by
  rw [List.getD_eq_getElem?_getD, List.getElem?_eq_getElem hi]
  exact h.mem _ (List.getElem_mem hi)
theorem asc_lt {ws : List Int} (h : ws.Pairwise (· < ·)) (i j : Nat) (hij : i < j) (hj : j < ws.length) : ws.getD i 0 < ws.getD j 0 := by
  rw [List.getD_eq_getElem?_getD, List.getElem?_eq_getElem (by omega), List.getD_eq_getElem?_getD, List.getElem?_eq_getElem hj]
  exact List.pairwise_iff_getElem.1 h i j (by omega) hj hij
theorem alsoErr_zero {n i : Nat} {l : List Int} (hl : l.Pairwise (· < ·)) (hm : ∀ y ∈ l, 0 ≤ y ∧ y < n ∧ y ≠ i) : ∀ (m k : Nat), k + m ≤ l.length → alsoErr n i l m k = 0
  | 0, k, _ => rfl
  | m + 1, k, h => by
    have hk : k < l.length := by omega
    have hmem : l.getD k 0 ∈ l := by rw [List.getD_eq_getElem?_getD, List.getElem?_eq_getElem hk]; exact List.getElem_mem hk
    have h1 := hm _ hmem
    unfold alsoErr
    rw [if_neg (by omega), if_neg (by omega), if_neg, alsoErr_zero hl hm m (k + 1) (by omega)]
    rintro ⟨h2, h3⟩
    have := asc_lt hl (k - 1) k (by omega) hk
    omega
theorem HdsOK.err {nc : Nat} {cs : List Cl} {ws : List Int} {hs : List Hd} (hw : Asc ws 16) (hc : cs.length = nc) (hn : hs.length = ws.length) (h : HdsOK nc hs.length ws hs) (i : Nat) (hi : i < hs.length) : headErr cs hs i = 0 := by
  have hx := h i hi
  obtain ⟨w0, w1⟩ := asc_at hw i (by omega)
  unfold headErr
  rw [hx.word, if_neg (by rw [call_word _ w0 (by omega)]; simp)]
  rw [if_neg]
  · rw [if_neg]
    · rw [if_neg (by have := hx.cls; omega), if_neg (by have := hx.see; omega), if_neg (by have := hx.see; omega), if_neg, ]
      · unfold kindErr
        rw [if_neg]
        rintro (⟨h1, h2⟩ | ⟨h1, h2, h3⟩)
        · have := hx.ptr h1
          rw [this.2] at h2
          rcases h2 with h2 | h2
          · exact h2 this.1
          · simp at h2
        · exact hx.idx h1 h2 (List.length_eq_zero_iff.1 h3)
      · rw [alsoErr_zero hx.asc hx.also _ _ (by omega)]
        simp
    · rintro ⟨h0, h1⟩
      have hy := h (i - 1) (by omega)
      rw [hy.word, (call_lt _ _ (asc_at hw (i - 1) (by omega)).1 (by omega) (asc_lt hw.lt (i - 1) i (by omega) (by omega))).2] at h1
      cases h1
  · rw [any_false]
    · simp
    intro y hy
    obtain ⟨j, hj, hjl, rfl⟩ := mem_take_getD hs zHd i y hy
    obtain ⟨g0, g1⟩ := asc_at hw j (by omega)
    have hlt := asc_lt hw.lt j i hj (by omega)
    rw [(h j hjl).word]
    exact call_ne _ _ g0 (by omega) w0 (by omega) (by omega)
theorem firstErr_none {g : Nat → Int} : ∀ (m i : Nat), (∀ j, i ≤ j → j < i + m → g j = 0) → firstErr g m i = 0
  | 0, i, _ => rfl
  | m + 1, i, h => by
    unfold firstErr
    rw [if_neg (by rw [h i (Nat.le_refl _) (by omega)]; simp)]
    exact firstErr_none m (i + 1) (fun j h1 h2 => h j (by omega) (by omega))
theorem made_valid {p : List Int} {cs : List Cl} {ws : List Int} {hs : List Hd} (hp : p.Perm (nats 9)) (hc6 : cs.length ≤ 6) (hh6 : hs.length ≤ 6) (hc : ClsOK p cs) (hw : Asc ws 16) (hn : hs.length = ws.length) (h : HdsOK cs.length hs.length ws hs) : checkT cs hs = 0 := by
  unfold checkT
  rw [if_neg (by omega), firstErr_none _ _ (fun j _ hj => hc.err hp (by omega) j (by omega)), if_neg (by simp), firstErr_none _ _ (fun j _ hj => h.err hw rfl hn j (by omega))]
end Go.Proofs.Ytfbimhnlcmdcpaa.Q
/- TradesOf gives trades, and they are valid. -/
namespace Go.Proofs.Ytfbimhnlcmdcpaa.Q
open Go.RowKit Go.Proofs.Ytfbimhnlcmdcpaa.Pa Go.Proofs.YtfbimhnlcmdcpaaW.PrintWords Go.Proofs.YtfbimhnlcmdcpaaW.PrintLast Go.Proofs.YtfbimhnlcmdcpaaW.PrintMore
set_option linter.unusedVariables false
set_option linter.unusedSimpArgs false

abbrev TRes := List Cl × List Hd × Int × Int
/-- The loop on headings comes to n headings that are in order. -/
def HRes (l : List Int) (ws : List Int) (cs : List Cl) (n : Nat) (g : Nat → Option TRes) : Prop :=
  ∃ hs a s, Ev g (cs, hs, a, s) ∧ hs.length = n ∧ HdsOK cs.length n ws hs ∧ DOK l a
theorem HRes.step {l ws : List Int} {cs : List Cl} {n : Nat} {g f : Nat → Option TRes} (h : ∀ k, g (k + 1) = f k) (hf : HRes l ws cs n f) : HRes l ws cs n g := by
  obtain ⟨hs, a, s, he, h1, h2, h3⟩ := hf
  exact ⟨hs, a, s, Ev.step h he, h1, h2, h3⟩
theorem HRes.congr {l ws : List Int} {cs : List Cl} {n : Nat} {g f : Nat → Option TRes} (h : ∀ k, g k = f k) (hf : HRes l ws cs n f) : HRes l ws cs n g := by
  obtain ⟨hs, a, s, he, h1, h2, h3⟩ := hf
  exact ⟨hs, a, s, Ev.congr h he, h1, h2, h3⟩

structure Env (l : List Int) (ws : List Int) (cs : List Cl) (n : Nat) : Prop where
  asc : Asc ws 16
  len : ws.length = n
  pos : 1 ≤ cs.length
  le : cs.length ≤ 6
  n6 : n ≤ 6

/-- What is laid for heading i so far. -/
theorem l2_ok {l ws : List Int} {cs : List Cl} {n : Nat} (E : Env l ws cs n) (i : Nat) (hi : i < n) (hs : List Hd) (hl : hs.length = i) (hok : HdsOK cs.length n ws hs) (u : Int) (hu0 : 0 ≤ u) (hu1 : u < cs.length)
    (ih : ∀ hs' a s, hs'.length = i + 1 → HdsOK cs.length n ws hs' → DOK l a → HRes l ws cs n (fun k => wayzgoosekit_TradesOf.l1 k ws n ((i : Int) + 1) l a s cs hs')) :
    ∀ (e j : Nat) (ul : List Int) (a s : Int), j + e = n → ul.Pairwise (· < ·) → (∀ y ∈ ul, 0 ≤ y ∧ y < j ∧ y ≠ i) → ul.length ≤ j → DOK l a →
      HRes l ws cs n (fun k => wayzgoosekit_TradesOf.l2 k ws n i j l a s cs hs (callAt (ws.getD i 0)) u (-1) ul) := by
  have hn6 := E.n6
  have hws := E.len
  intro e
  induction e with
  | zero =>
    intro j ul a s hj hp hm hul hd
    obtain rfl : j = n := by omega
    have hfin : ∀ c : Int, (c = u ∨ (c = -1 ∧ ul ≠ [])) → HdsOK cs.length j ws (hs ++ [⟨callAt (ws.getD i 0), c, -1, ul⟩]) := by
      intro c hc
      refine HdsOK.snoc hok ?_
      rw [hl]
      refine ⟨rfl, by show -1 ≤ c ∧ c < _; omega, .inl rfl, fun h => absurd rfl h, fun _ h1 => ?_, hp, fun y hy => hm y hy⟩
      rcases hc with hc | hc
      · have h1 : c = -1 := h1
        omega
      · exact hc.2
    by_cases c : (ul.length : Int) > 0
    · obtain ⟨b, a', s', hr, hd'⟩ := once_ok (s := s) (n := 4) hd (by omega) (by omega)
      have hne : ul ≠ [] := by rintro rfl; simp at c
      cases b with
      | true =>
        refine HRes.step (fun k => ?_) (ih (hs ++ [⟨callAt (ws.getD i 0), -1, -1, ul⟩]) a' s' (by simp [hl]) (hfin (-1) (.inr ⟨rfl, hne⟩)) hd')
        simp only [wayzgoosekit_TradesOf.l2]
        rw [if_neg (by omega), if_pos c, hr]
        simp only [Option.bind_some, if_true]
        rw [if_pos (by omega), w64s (by omega) (by omega)]
      | false =>
        refine HRes.step (fun k => ?_) (ih (hs ++ [⟨callAt (ws.getD i 0), u, -1, ul⟩]) a' s' (by simp [hl]) (hfin u (.inl rfl)) hd')
        simp only [wayzgoosekit_TradesOf.l2]
        rw [if_neg (by omega), if_pos c, hr]
        simp only [Option.bind_some, Bool.false_eq_true, if_false]
        rw [if_pos (by omega), w64s (by omega) (by omega)]
    · refine HRes.step (fun k => ?_) (ih (hs ++ [⟨callAt (ws.getD i 0), u, -1, ul⟩]) a s (by simp [hl]) (hfin u (.inl rfl)) hd)
      simp only [wayzgoosekit_TradesOf.l2]
      rw [if_neg (by omega), if_neg c, if_pos (by omega), w64s (by omega) (by omega)]
  | succ e ihe =>
    intro j ul a s hj hp hm hul hd
    by_cases c : (j : Int) = i
    · refine HRes.step (fun k => ?_) (ihe (j + 1) ul a s (by omega) hp (fun y hy => by have := hm y hy; omega) (by omega) hd)
      simp only [wayzgoosekit_TradesOf.l2]
      rw [if_pos (by omega), if_pos c, w64s (by omega) (by omega)]
      rfl
    · obtain ⟨b, a', s', hr, hd'⟩ := once_ok (s := s) (n := 4) hd (by omega) (by omega)
      cases b with
      | true =>
        refine HRes.step (fun k => ?_) (ihe (j + 1) (ul ++ [(j : Int)]) a' s' (by omega) ?_ ?_ (by simp; omega) hd')
        · simp only [wayzgoosekit_TradesOf.l2]
          rw [if_pos (by omega), if_neg c, hr]
          simp only [Option.bind_some, if_true]
          rw [if_pos (by omega), w64s (by omega) (by omega)]
          rfl
        · rw [List.pairwise_append]
          refine ⟨hp, by simp, fun x hx y hy => ?_⟩
          rw [List.mem_singleton.1 hy]
          exact (hm x hx).2.1
        · intro y hy
          rcases List.mem_append.1 hy with hy | hy
          · have := hm y hy; omega
          · rw [List.mem_singleton.1 hy]; omega
      | false =>
        refine HRes.step (fun k => ?_) (ihe (j + 1) ul a' s' (by omega) hp (fun y hy => by have := hm y hy; omega) (by omega) hd')
        simp only [wayzgoosekit_TradesOf.l2]
        rw [if_pos (by omega), if_neg c, hr]
        simp only [Option.bind_some, Bool.false_eq_true, if_false]
        rw [w64s (by omega) (by omega)]
        rfl
theorem j2_ok {l ws : List Int} {cs : List Cl} {n : Nat} (E : Env l ws cs n) (i : Nat) (hi : i < n) (hs : List Hd) (hl : hs.length = i) (hok : HdsOK cs.length n ws hs) (u : Int) (hu0 : 0 ≤ u) (hu1 : u < cs.length) (b : Bool) (hb : b = true → 2 ≤ n) (a s : Int) (hd : DOK l a)
    (ih : ∀ hs' a s, hs'.length = i + 1 → HdsOK cs.length n ws hs' → DOK l a → HRes l ws cs n (fun k => wayzgoosekit_TradesOf.l1 k ws n ((i : Int) + 1) l a s cs hs')) :
    HRes l ws cs n (fun k => wayzgoosekit_TradesOf.j2 k ws n i b l a s cs hs (callAt (ws.getD i 0)) u (-1)) := by
  have hn6 := E.n6
  cases b with
  | true =>
    have hn2 := hb rfl
    obtain ⟨y, a', s', hr, y0, y1, hd'⟩ := to_ok' (s := s) (n := (n : Int) - 2) hd (by omega) (by omega)
    have e1 : wrap64 ((n : Int) - 2) = (n : Int) - 2 := w64s (by omega) (by omega)
    have e2 : wrap64 ((i : Int) + 1) = (i : Int) + 1 := w64s (by omega) (by omega)
    have e3 : wrap64 ((i : Int) + 1 + y) = (i : Int) + 1 + y := w64s (by omega) (by omega)
    have e4 : ((i : Int) + 1 + y).tmod n = ((i : Int) + 1 + y) % n := Int.tmod_eq_emod_of_nonneg (by omega)
    have h3 := Int.emod_nonneg ((i : Int) + 1 + y) (show (n : Int) ≠ 0 by omega)
    have h4 := Int.emod_lt_of_pos ((i : Int) + 1 + y) (show 0 < (n : Int) by omega)
    have h5 : ((i : Int) + 1 + y) % n ≠ i := by
      rcases (show ((i : Int) + 1 + y) < n ∨ (n : Int) ≤ (i : Int) + 1 + y by omega) with hlt | hge
      · rw [Int.emod_eq_of_lt (by omega) hlt]; omega
      · rw [← Int.sub_emod_right, Int.emod_eq_of_lt (by omega) (by omega)]; omega
    refine HRes.step (fun k => ?_) (ih (hs ++ [⟨callAt (ws.getD i 0), -1, ((i : Int) + 1 + y) % n, []⟩]) a' s' (by simp [hl]) ?_ hd')
    · simp only [wayzgoosekit_TradesOf.j2, if_true]
      rw [e1, hr]
      simp only [Option.bind_some]
      rw [if_neg (by omega), if_pos (by omega), e2, e3, e4]
    · refine HdsOK.snoc hok ?_
      rw [hl]
      exact ⟨rfl, by show (-1 : Int) ≤ -1 ∧ (-1 : Int) < (cs.length : Int); have := E.pos; omega, .inr ⟨h3, h4, h5⟩, fun _ => ⟨rfl, rfl⟩, fun h => by have h : ((i : Int) + 1 + y) % n = -1 := h; omega, List.Pairwise.nil, fun y hy => by simp at hy⟩
  | false =>
    refine HRes.step (fun k => ?_) (l2_ok E i hi hs hl hok u hu0 hu1 ih n 0 [] a s (by omega) List.Pairwise.nil (fun y hy => by simp at hy) (by simp) hd)
    simp only [wayzgoosekit_TradesOf.j2, Bool.false_eq_true, if_false]
    rfl
theorem l1_ok {l ws : List Int} {cs : List Cl} {n : Nat} (E : Env l ws cs n) : ∀ (d i : Nat) (hs : List Hd) (a s : Int), i + d = n → hs.length = i → HdsOK cs.length n ws hs → DOK l a → HRes l ws cs n (fun k => wayzgoosekit_TradesOf.l1 k ws n i l a s cs hs) := by
  have hn6 := E.n6
  have hws := E.len
  have hpos := E.pos
  have hle := E.le
  intro d
  induction d with
  | zero =>
    intro i hs a s hi hl hok hd
    refine ⟨hs, a, s, Ev.last (fun k => ?_), by omega, hok, hd⟩
    simp only [wayzgoosekit_TradesOf.l1]
    rw [if_neg (by omega)]
  | succ d ih =>
    intro i hs a s hi hl hok hd
    have ih' : ∀ hs' a s, hs'.length = i + 1 → HdsOK cs.length n ws hs' → DOK l a → HRes l ws cs n (fun k => wayzgoosekit_TradesOf.l1 k ws n ((i : Int) + 1) l a s cs hs') := fun hs' a s h1 h2 h3 => ih (i + 1) hs' a s (by omega) h1 h2 h3
    obtain ⟨w0, w1⟩ := asc_at E.asc i (by omega)
    have hrd : rd ws (i : Int) = ws.getD i 0 := by simp [rd]
    obtain ⟨u, a1, s1, hr, u0, u1, hd1⟩ := to_ok' (s := s) (n := (cs.length : Int) - 1) hd (by omega) (by omega)
    have e1 : wrap64 ((cs.length : Int) - 1) = (cs.length : Int) - 1 := w64s (by omega) (by omega)
    by_cases c : (n : Int) > 1
    · obtain ⟨b, a2, s2, ho, hd2⟩ := once_ok (s := s1) (n := 3) hd1 (by omega) (by omega)
      refine HRes.step (fun k => ?_) (j2_ok E i (by omega) hs hl hok u u0 (by omega) b (fun _ => by omega) a2 s2 hd2 ih')
      simp only [wayzgoosekit_TradesOf.l1]
      rw [if_pos (by omega), call_f]
      simp only [Option.bind_some]
      rw [if_pos (by omega), if_pos (by omega), hrd, if_pos w0, if_pos (by rw [call_len]; omega), e1, hr]
      simp only [Option.bind_some]
      rw [if_pos c, ho]
      rfl
    · refine HRes.step (fun k => ?_) (j2_ok E i (by omega) hs hl hok u u0 (by omega) false (fun h => by cases h) a1 s1 hd1 ih')
      simp only [wayzgoosekit_TradesOf.l1]
      rw [if_pos (by omega), call_f]
      simp only [Option.bind_some]
      rw [if_pos (by omega), if_pos (by omega), hrd, if_pos w0, if_pos (by rw [call_len]; omega), e1, hr]
      simp only [Option.bind_some]
      rw [if_neg c]
      rfl
/-- Made trades. -/
structure MadeT (cs : List Cl) (hs : List Hd) (c h : Int) : Prop where
  ok : checkT cs hs = 0
  pos : 1 ≤ cs.length
  cls : (cs.length : Int) ≤ c ∨ cs.length = 1
  hds : (hs.length : Int) ≤ h
theorem l0_ok {l : List Int} {p : List Int} (hp : p.Perm (nats 9)) (h : Int) (h0 : 0 ≤ h) (h6 : h ≤ 6) : ∀ (d : Nat) (cs : List Cl) (a s : Int), cs.length + d ≤ 6 → 1 ≤ cs.length + d → ClsOK p cs → DOK l a →
    ∃ cs' hs a' s', Ev (fun k => wayzgoosekit_TradesOf.l0 k h p d l a s cs) (cs', hs, a', s') ∧ checkT cs' hs = 0 ∧ cs'.length = cs.length + d ∧ (hs.length : Int) ≤ h ∧ DOK l a' := by
  intro d
  induction d with
  | zero =>
    intro cs a s hl hl1 hc hd
    obtain ⟨mh, a1, s1, hr, m0, m1, hd1⟩ := to_ok' (s := s) (n := h) hd (by omega) h0
    obtain ⟨ws, a2, s2, he, hw, hlen, hd2⟩ := part_ok (s := s1) 16 mh hd1 (by omega) (by omega) m0
    have hn6 : ws.length ≤ 6 := by omega
    obtain ⟨hs, a3, s3, he3, hl3, hok3, hd3⟩ := l1_ok (l := l) (ws := ws) (cs := cs) (n := ws.length) ⟨hw, rfl, by omega, by omega, hn6⟩ ws.length 0 [] a2 s2 (by omega) rfl (fun i hi => by simp at hi) hd2
    refine ⟨cs, hs, a3, s3, ?_, made_valid hp (by omega) (by omega) hc hw hl3 (by rw [hl3]; exact hok3), rfl, by omega, hd3⟩
    refine Ev.step (f := fun k => (wayzgoosekit_partOf.f k l a1 s1 16 mh).bind fun bt => wayzgoosekit_TradesOf.l1 k bt.1 (bt.1.length : Int) 0 l bt.2.1 bt.2.2 cs []) (fun k => ?_) (Ev.bind (f := fun k (bt : List Int × Int × Int) => wayzgoosekit_TradesOf.l1 k bt.1 (bt.1.length : Int) 0 l bt.2.1 bt.2.2 cs []) he he3)
    simp only [wayzgoosekit_TradesOf.l0]
    rw [if_neg (by omega), call_f]
    simp only [Option.bind_some]
    rw [hr]
    simp only [Option.bind_some, call_len]
    rfl
  | succ d ih =>
    intro cs a s hl hl1 hc hd
    obtain ⟨g1, g2, g3⟩ := perm_at hp cs.length (by omega)
    obtain ⟨u, a1, s1, hr, u0, u1, hd1⟩ := from_ok (s := s) (lo := -1) (hi := (cs.length : Int) - 1) hd (by omega) (by omega) (by omega) (by omega)
    have e1 : wrap64 ((cs.length : Int) - 1) = (cs.length : Int) - 1 := w64s (by omega) (by omega)
    have e2 : wrap64 (((d + 1 : Nat) : Int) - 1) = (d : Int) := by rw [w64s (by omega) (by omega)]; omega
    have hrd : rd p (cs.length : Int) = p.getD cs.length 0 := by simp [rd]
    have hl2 : (cs ++ [(⟨sortAt (p.getD cs.length 0), u⟩ : Cl)]).length = cs.length + 1 := by simp
    obtain ⟨cs', hs, a', s', he, h1, h2, h3, h4⟩ := ih (cs ++ [⟨sortAt (p.getD cs.length 0), u⟩]) a1 s1 (by omega) (by omega) (hc.snoc u (by omega) (by omega)) hd1
    refine ⟨cs', hs, a', s', Ev.step (fun k => ?_) he, h1, by omega, h3, h4⟩
    simp only [wayzgoosekit_TradesOf.l0]
    rw [if_pos (by omega), sorts_f]
    simp only [Option.bind_some]
    rw [if_pos (by omega), if_pos (by omega), hrd, if_pos g2, if_pos (by rw [sorts_len]; omega), e1, hr]
    simp only [Option.bind_some]
    rw [if_pos (by omega), e2]
    rfl
theorem tradesOf_ok {l : List Int} {a s c h : Int} (hd : DOK l a) (c1 : 1 ≤ c) (c6 : c ≤ 6) (h0 : 0 ≤ h) (h6 : h ≤ 6) : ∃ cs hs a' s', Ev (fun k => wayzgoosekit_TradesOf.f k l a s c h) (cs, hs, a', s') ∧ MadeT cs hs c h ∧ DOK l a' := by
  obtain ⟨p, a1, s1, he, hp, hd1⟩ := order_ok (s := s) 9 hd (by omega) (by omega)
  obtain ⟨m, a2, s2, hr, m0, m1, hd2⟩ := from_ok (s := s1) (lo := 1) (hi := c) hd1 (by omega) (by omega) (by omega) (by omega)
  obtain ⟨d, rfl⟩ : ∃ d : Nat, m = d := ⟨m.toNat, by omega⟩
  obtain ⟨cs, hs, a3, s3, he3, g1, g2, g3, g4⟩ := l0_ok (l := l) hp h h0 h6 d [] a2 s2 (by simp; omega) (by simp; omega) ⟨fun i hi => by simp at hi, fun i hi => by simp at hi⟩ hd2
  have g2 : cs.length = d := by simpa using g2
  refine ⟨cs, hs, a3, s3, ?_, ⟨g1, by omega, by omega, g3⟩, g4⟩
  refine Ev.congr (f := fun k => (wayzgoosekit_Dice_Order.f k l a s 9).bind fun bt => (wayzgoosekit_Dice_From.f l bt.2.1 bt.2.2 1 c).bind fun bt2 => wayzgoosekit_TradesOf.l0 k h bt.1 bt2.1 l bt2.2.1 bt2.2.2 []) (fun k => ?_) ?_
  · unfold wayzgoosekit_TradesOf.f
    rw [sorts_f]
    simp only [Option.bind_some, sorts_len]
    rfl
  · refine Ev.bind (f := fun k (bt : List Int × Int × Int) => (wayzgoosekit_Dice_From.f l bt.2.1 bt.2.2 1 c).bind fun bt2 => wayzgoosekit_TradesOf.l0 k h bt.1 bt2.1 l bt2.2.1 bt2.2.2 []) he ?_
    refine Ev.congr (fun k => ?_) he3
    simp only [hr, Option.bind_some]
theorem newDice_ok {l : List Int} (h : l.length * 8 ≤ 140737488351232) : DOK l 0 := ⟨by omega, by omega, by omega⟩
end Go.Proofs.Ytfbimhnlcmdcpaa.Q
namespace Go.Proofs.Ytfbimhnlcmdcpaa.Pa
open Go.RowKit Go.Proofs.YtfbimhnlcmdcpaaW.PrintWords Go.Proofs.YtfbimhnlcmdcpaaW.PrintLast Go.Proofs.YtfbimhnlcmdcpaaW.PrintMore
attribute [local go_sem] max2_int min2_int max_two min_two max_three min_three max_four min_four   -- for this text's walks alone
set_option linter.unusedVariables false
set_option linter.unusedSimpArgs false

/-! ### wayzgooselaw04_under: function 16 -/
mutual
def wayzgooselaw04_under.l0 : Nat → Int → Int → Int → List (S51) → List (S39) → Option (Bool)
  | 0, _, _, _, _, _ => none
  | k + 1, x1, x2, x7, x211000, x211001 => if x7 < (x211000.length : Int) then (wayzgooselaw04_under.j1 k x1 x2 x7 (decide (x1 ≥ 0)) x211000 x211001) else (wayzgooselaw04_under.j1 k x1 x2 x7 false x211000 x211001)
def wayzgooselaw04_under.j1 : Nat → Int → Int → Int → Bool → List (S51) → List (S39) → Option (Bool)
  | 0, _, _, _, _, _, _ => none
  | k + 1, x1, x2, x7, x16, x211000, x211001 => if x16 = true then (if x1 = x2 then (some true) else (if 0 ≤ x1 then (if x1 < (x211000.length : Int) then (wayzgooselaw04_under.l0 k ((rd_T51 x211000 x1).f1) x2 (wrap64 (x7 + 1)) x211000 x211001) else (none)) else (none))) else (some false)
end
end Go.Proofs.Ytfbimhnlcmdcpaa.Pa
/- Classes above classes: plain facts, and what the statements' 'under' computes. -/
namespace Go.Proofs.Ytfbimhnlcmdcpaa.Q
open Go.RowKit Go.Proofs.Ytfbimhnlcmdcpaa.Pa Go.Proofs.YtfbimhnlcmdcpaaW.PrintWords Go.Proofs.YtfbimhnlcmdcpaaW.PrintLast Go.Proofs.YtfbimhnlcmdcpaaW.PrintMore
set_option linter.unusedVariables false
set_option linter.unusedSimpArgs false

theorem firstErr_all {g : Nat → Int} : ∀ {m i : Nat}, firstErr g m i = 0 → ∀ j, i ≤ j → j < i + m → g j = 0
  | 0, i, _, j, h1, h2 => by omega
  | m + 1, i, h, j, h1, h2 => by
    unfold firstErr at h
    by_cases hz : g i = 0
    · rw [if_neg (by omega)] at h
      by_cases hj : j = i
      · rw [hj]; exact hz
      · exact firstErr_all h j (by omega) (by omega)
    · rw [if_pos hz] at h
      exact absurd h hz
theorem check_parts {cs : List Cl} {hs : List Hd} (h : checkT cs hs = 0) : cs.length ≤ 6 ∧ hs.length ≤ 6 ∧ (∀ i, i < cs.length → classErr cs i = 0) ∧ (∀ i, i < hs.length → headErr cs hs i = 0) := by
  unfold checkT at h
  split at h
  · omega
  · split at h
    · rename_i h1; exact absurd h h1
    · refine ⟨by omega, by omega, fun i hi => firstErr_all (by omega : firstErr (classErr cs) cs.length 0 = 0) i (by omega) (by omega), fun i hi => firstErr_all h i (by omega) (by omega)⟩
/-! ### the least class of two -/
/-! ### the statements' own 'under' -/
end Go.Proofs.Ytfbimhnlcmdcpaa.Q
/- What valid trades say of each heading. -/
namespace Go.Proofs.Ytfbimhnlcmdcpaa.Q
open Go.RowKit Go.Proofs.Ytfbimhnlcmdcpaa.Pa Go.Proofs.YtfbimhnlcmdcpaaW.PrintWords Go.Proofs.YtfbimhnlcmdcpaaW.PrintLast Go.Proofs.YtfbimhnlcmdcpaaW.PrintMore
set_option linter.unusedVariables false
set_option linter.unusedSimpArgs false

theorem also_parts {n i : Nat} {l : List Int} : ∀ {m k : Nat}, alsoErr n i l m k = 0 → ∀ j, k ≤ j → j < k + m → (0 ≤ l.getD j 0 ∧ l.getD j 0 < (n : Int) ∧ l.getD j 0 ≠ (i : Int) ∧ (0 < j → l.getD (j - 1) 0 < l.getD j 0))
  | 0, k, _, j, h1, h2 => by omega
  | m + 1, k, h, j, h1, h2 => by
    unfold alsoErr at h
    split at h
    · omega
    · split at h
      · omega
      · split at h
        · omega
        · rename_i a b c
          by_cases hj : j = k
          · subst hj
            refine ⟨by omega, by omega, by omega, fun h0 => ?_⟩
            have : ¬ l.getD j 0 ≤ l.getD (j - 1) 0 := fun h3 => c ⟨h0, h3⟩
            omega
          · exact also_parts h j (by omega) (by omega)
structure HeadV (cs : List Cl) (hs : List Hd) (i : Nat) (x : Hd) : Prop where
  word : wordOk x.f0 = true
  new : (hs.take i).any (fun y => sEq y.f0 x.f0) = false
  sorted : 0 < i → sLt x.f0 (hs.getD (i - 1) zHd).f0 = false
  cls : -1 ≤ x.f1 ∧ x.f1 < cs.length
  see : -1 ≤ x.f2 ∧ x.f2 < hs.length ∧ x.f2 ≠ i
  also : ∀ j, j < x.f3.length → (0 ≤ x.f3.getD j 0 ∧ x.f3.getD j 0 < (hs.length : Int) ∧ x.f3.getD j 0 ≠ (i : Int) ∧ (0 < j → x.f3.getD (j - 1) 0 < x.f3.getD j 0))
  ptr : x.f2 ≠ -1 → x.f1 = -1 ∧ x.f3 = []
  other : x.f2 = -1 → x.f1 = -1 → x.f3 ≠ []
theorem head_parts {cs : List Cl} {hs : List Hd} {i : Nat} (h : headErr cs hs i = 0) : HeadV cs hs i (hs.getD i zHd) := by
  unfold headErr at h
  by_cases a1 : wordOk (hs.getD i zHd).f0 = false
  · rw [if_pos a1] at h; omega
  · rw [if_neg a1] at h
    by_cases a2 : (hs.take i).any (fun y => sEq y.f0 (hs.getD i zHd).f0) = true
    · rw [if_pos a2] at h; omega
    · rw [if_neg a2] at h
      by_cases a3 : 0 < i ∧ sLt (hs.getD i zHd).f0 (hs.getD (i - 1) zHd).f0 = true
      · rw [if_pos a3] at h; omega
      · rw [if_neg a3] at h
        by_cases a4 : ¬ (-1 ≤ (hs.getD i zHd).f1 ∧ (hs.getD i zHd).f1 ≤ (cs.length : Int) - 1)
        · rw [if_pos a4] at h; omega
        · rw [if_neg a4] at h
          by_cases a5 : ¬ (-1 ≤ (hs.getD i zHd).f2 ∧ (hs.getD i zHd).f2 ≤ (hs.length : Int) - 1)
          · rw [if_pos a5] at h; omega
          · rw [if_neg a5] at h
            by_cases a6 : (hs.getD i zHd).f2 = (i : Int)
            · rw [if_pos a6] at h; omega
            · rw [if_neg a6] at h
              by_cases a7 : alsoErr hs.length i (hs.getD i zHd).f3 (hs.getD i zHd).f3.length 0 ≠ 0
              · rw [if_pos a7] at h; exact absurd h a7
              · rw [if_neg a7] at h
                unfold kindErr at h
                split at h
                · omega
                · rename_i a8
                  refine ⟨by simpa using a1, by simpa using a2, fun h0 => ?_, by omega, by omega, fun j hj => also_parts (by omega : alsoErr hs.length i (hs.getD i zHd).f3 (hs.getD i zHd).f3.length 0 = 0) j (by omega) (by omega), fun h2 => ?_, fun h2 h1 h3 => ?_⟩
                  · have : ¬ sLt (hs.getD i zHd).f0 (hs.getD (i - 1) zHd).f0 = true := fun h3 => a3 ⟨h0, h3⟩
                    simpa using this
                  · have h4 : ¬ ((hs.getD i zHd).f1 ≠ -1 ∨ 0 < (hs.getD i zHd).f3.length) := fun h5 => a8 (.inl ⟨h2, h5⟩)
                    refine ⟨by omega, List.length_eq_zero_iff.1 (by omega)⟩
                  · exact a8 (.inr ⟨h2, h1, by rw [h3]; rfl⟩)
theorem check_head {cs : List Cl} {hs : List Hd} (h : checkT cs hs = 0) (i : Nat) (hi : i < hs.length) : HeadV cs hs i (hs.getD i zHd) := head_parts ((check_parts h).2.2.2 i hi)
theorem inN_true {h : Int} {n : Nat} (h0 : 0 ≤ h) (h1 : h < n) : inN h n = true := by
  unfold inN
  simp [h0, h1]
theorem rd_hd (hs : List Hd) (i : Nat) : rd_T39 hs i = hs.getD i zHd := by
  unfold rd_T39
  rw [Int.toNat_natCast]
end Go.Proofs.Ytfbimhnlcmdcpaa.Q
/- Numbers in order that have a property: counting them one after the other. -/
namespace Go.Proofs.Ytfbimhnlcmdcpaa.Q
open Go.RowKit Go.Proofs.Ytfbimhnlcmdcpaa.Pa Go.Proofs.YtfbimhnlcmdcpaaW.PrintWords Go.Proofs.YtfbimhnlcmdcpaaW.PrintLast Go.Proofs.YtfbimhnlcmdcpaaW.PrintMore
set_option linter.unusedVariables false
set_option linter.unusedSimpArgs false

end Go.Proofs.Ytfbimhnlcmdcpaa.Q
/- What makes trades valid, part by part. -/
namespace Go.Proofs.Ytfbimhnlcmdcpaa.Q
open Go.RowKit Go.Proofs.Ytfbimhnlcmdcpaa.Pa Go.Proofs.YtfbimhnlcmdcpaaW.PrintWords Go.Proofs.YtfbimhnlcmdcpaaW.PrintLast
set_option linter.unusedVariables false
set_option linter.unusedSimpArgs false

theorem alsoErr_none {n i : Nat} {l : List Int} (h : ∀ j, j < l.length → (0 ≤ l.getD j 0 ∧ l.getD j 0 < (n : Int) ∧ l.getD j 0 ≠ (i : Int) ∧ (0 < j → l.getD (j - 1) 0 < l.getD j 0))) : ∀ (m k : Nat), k + m ≤ l.length → alsoErr n i l m k = 0
  | 0, k, _ => rfl
  | m + 1, k, hk => by
    obtain ⟨h0, h1, h2, h3⟩ := h k (by omega)
    unfold alsoErr
    rw [if_neg (by omega), if_neg (by omega), if_neg, alsoErr_none h m (k + 1) (by omega)]
    rintro ⟨h4, h5⟩
    have := h3 h4
    omega
theorem head_err {cs : List Cl} {hs : List Hd} {i : Nat} (h : HeadV cs hs i (hs.getD i zHd)) : headErr cs hs i = 0 := by
  unfold headErr
  rw [h.word, if_neg (by simp), h.new, if_neg (by simp), if_neg, if_neg (by have := h.cls; omega), if_neg (by have := h.see; omega), if_neg (by have := h.see; omega), alsoErr_none h.also _ _ (by omega), if_neg (by simp)]
  · unfold kindErr
    rw [if_neg]
    rintro (⟨h1, h2⟩ | ⟨h1, h2, h3⟩)
    · have := h.ptr h1
      rw [this.2] at h2
      rcases h2 with h2 | h2
      · exact h2 this.1
      · simp at h2
    · exact h.other h1 h2 (List.length_eq_zero_iff.1 h3)
  · rintro ⟨h1, h2⟩
    rw [h.sorted h1] at h2
    cases h2
theorem check_zero {cs : List Cl} {hs : List Hd} (h1 : cs.length ≤ 6) (h2 : hs.length ≤ 6) (hc : ∀ i, i < cs.length → classErr cs i = 0) (hh : ∀ i, i < hs.length → headErr cs hs i = 0) : checkT cs hs = 0 := by
  unfold checkT
  rw [if_neg (by omega), firstErr_none _ _ (fun j _ hj => hc j (by omega)), if_neg (by simp), firstErr_none _ _ (fun j _ hj => hh j (by omega))]
theorem pw_at {l : List Int} (h : l.Pairwise (· < ·)) (j : Nat) (h0 : 0 < j) (hj : j < l.length) : l.getD (j - 1) 0 < l.getD j 0 := asc_lt h (j - 1) j (by omega) hj
theorem getD_mem {l : List Int} (j : Nat) (hj : j < l.length) : l.getD j 0 ∈ l := by
  rw [List.getD_eq_getElem?_getD, List.getElem?_eq_getElem hj]; exact List.getElem_mem _
/-- A heading's references are other headings. -/
theorem also_in {cs : List Cl} {hs : List Hd} (hk : checkT cs hs = 0) (i : Nat) (hi : i < hs.length) {x : Int} (hx : x ∈ (hs.getD i zHd).f3) : 0 ≤ x ∧ x < hs.length ∧ x ≠ i := by
  obtain ⟨j, hj, rfl⟩ := List.mem_iff_getElem.1 hx
  have := (check_head hk i hi).also j hj
  rw [List.getD_eq_getElem?_getD, List.getElem?_eq_getElem hj] at this
  exact ⟨this.1, this.2.1, this.2.2.1⟩
end Go.Proofs.Ytfbimhnlcmdcpaa.Q
/- What Drop leaves: valid trades, all references between what stays. -/
namespace Go.Proofs.Ytfbimhnlcmdcpaa.Q
open Go.RowKit Go.Proofs.Ytfbimhnlcmdcpaa.Pa Go.Proofs.YtfbimhnlcmdcpaaW.PrintWords Go.Proofs.YtfbimhnlcmdcpaaW.PrintLast
set_option linter.unusedVariables false
set_option linter.unusedSimpArgs false

theorem bit_or (g k j : Nat) : (g ||| 2 ^ k).testBit j = (g.testBit j || decide (k = j)) := by
  rw [Nat.testBit_or, Nat.testBit_two_pow]
/-! ### what goes -/
theorem goneTo_keep (hs : List Hd) (g : Nat) (j : Nat) (h : g.testBit j = true) : ∀ k, (goneTo hs g k).testBit j = true
  | 0 => h
  | k + 1 => by
    have ih := goneTo_keep hs g j h k
    unfold goneTo
    split
    · rw [bit_or, ih]; rfl
    · exact ih
theorem goneTo_new (hs : List Hd) (g : Nat) (j : Nat) : ∀ k, (goneTo hs g k).testBit j = true → g.testBit j = true ∨ (j < k ∧ ∃ g', goneB g' (hs.getD j zHd) = true ∧ ∀ i, g'.testBit i = true → (goneTo hs g k).testBit i = true)
  | 0, h => .inl h
  | k + 1, h => by
    unfold goneTo at h ⊢
    split at h
    · rename_i hb
      rw [if_pos hb]
      rw [bit_or, Bool.or_eq_true, decide_eq_true_eq] at h
      rcases h with h | h
      · rcases goneTo_new hs g j k h with h | ⟨h1, g', h2, h3⟩
        · exact .inl h
        · exact .inr ⟨by omega, g', h2, fun i hi => by rw [bit_or, h3 i hi]; rfl⟩
      · subst h
        exact .inr ⟨by omega, _, hb, fun i hi => by rw [bit_or, hi]; rfl⟩
    · rename_i hb
      rw [if_neg hb]
      rcases goneTo_new hs g j k h with h | ⟨h1, g', h2, h3⟩
      · exact .inl h
      · exact .inr ⟨by omega, g', h2, h3⟩
theorem goneB_mono {g g' : Nat} (h : ∀ i, g.testBit i = true → g'.testBit i = true) (x : Hd) (hb : goneB g x = true) : goneB g' x = true := by
  unfold goneB at hb ⊢
  split
  · rename_i c; rw [if_pos c] at hb; exact h _ hb
  · rename_i c
    rw [if_neg c] at hb
    split
    · rename_i d; rw [if_pos d] at hb; exact hb
    · rename_i d
      rw [if_neg d] at hb
      rw [List.all_eq_true] at hb ⊢
      exact fun n hn => h _ (hb n hn)
/-- A round leaves what it would leave in. -/
theorem goneTo_shut (hs : List Hd) (g : Nat) (hs0 : ∀ j, (goneTo hs g hs.length).testBit j = g.testBit j) (j : Nat) (hj : j < hs.length) (hb : goneB g (hs.getD j zHd) = true) : g.testBit j = true := by
  have key : ∀ k, k ≤ hs.length → j < k → (goneTo hs g k).testBit j = true := by
    intro k
    induction k with
    | zero => intro _ h; omega
    | succ k ih =>
      intro hk hjk
      unfold goneTo
      by_cases e : j = k
      · subst e
        rw [if_pos (goneB_mono (fun i hi => goneTo_keep hs g i hi _) _ hb), bit_or]
        simp
      · have := ih (by omega) (by omega)
        split
        · rw [bit_or, this]; rfl
        · exact this
  rw [← hs0]
  exact key _ (Nat.le_refl _) hj
/-- how many of n are in a set -/
def bits (g : Nat) : Nat → Nat
  | 0 => 0
  | n + 1 => bits g n + (if g.testBit n = true then 1 else 0)
theorem bits_le (g : Nat) : ∀ n, bits g n ≤ n
  | 0 => Nat.le_refl _
  | n + 1 => by have := bits_le g n; unfold bits; split <;> omega
theorem bits_mono {g g' : Nat} (h : ∀ i, g.testBit i = true → g'.testBit i = true) : ∀ n, bits g n ≤ bits g' n
  | 0 => Nat.le_refl _
  | n + 1 => by
    have := bits_mono h n
    unfold bits
    by_cases c : g.testBit n = true
    · rw [if_pos c, if_pos (h n c)]; omega
    · rw [if_neg c]; split <;> omega
theorem bits_eq {g g' : Nat} (h : ∀ i, g.testBit i = true → g'.testBit i = true) : ∀ n, bits g' n ≤ bits g n → ∀ i, i < n → g'.testBit i = g.testBit i
  | 0, _, i, hi => by omega
  | n + 1, hle, i, hi => by
    have h1 := bits_mono h n
    unfold bits at hle
    have h2 : bits g' n ≤ bits g n ∧ g'.testBit n = g.testBit n := by
      by_cases c : g.testBit n = true
      · rw [if_pos c, if_pos (h n c)] at hle
        exact ⟨by omega, by rw [c, h n c]⟩
      · rw [if_neg c] at hle
        by_cases d : g'.testBit n = true
        · rw [if_pos d] at hle; omega
        · rw [if_neg d] at hle
          exact ⟨by omega, by rw [Bool.not_eq_true] at c d; rw [c, d]⟩
    by_cases e : i = n
    · rw [e]; exact h2.2
    · exact bits_eq h n h2.1 i (by omega)
theorem goneTo_out (hs : List Hd) (g n : Nat) (h : ∀ j, n ≤ j → g.testBit j = false) : ∀ k, k ≤ n → ∀ j, n ≤ j → (goneTo hs g k).testBit j = false
  | 0, _, j, hj => h j hj
  | k + 1, hk, j, hj => by
    have ih := goneTo_out hs g n h k (by omega) j hj
    unfold goneTo
    split
    · rw [bit_or, ih, decide_eq_false (by omega)]; rfl
    · exact ih
/-- The set of what goes: the heading, and what has to go with it. -/
structure Gone (hs : List Hd) (h g : Nat) : Prop where
  own : g.testBit h = true
  out : ∀ j, hs.length ≤ j → g.testBit j = false
  shut : ∀ j, j < hs.length → goneB g (hs.getD j zHd) = true → g.testBit j = true
  why : ∀ j, g.testBit j = true → j = h ∨ (j < hs.length ∧ goneB g (hs.getD j zHd) = true)
structure Gon (hs : List Hd) (h g : Nat) : Prop where
  own : g.testBit h = true
  out : ∀ j, hs.length ≤ j → g.testBit j = false
  why : ∀ j, g.testBit j = true → j = h ∨ (j < hs.length ∧ goneB g (hs.getD j zHd) = true)
theorem gon_round {hs : List Hd} {h g : Nat} (G : Gon hs h g) : Gon hs h (goneTo hs g hs.length) := by
  refine ⟨goneTo_keep hs g h G.own _, goneTo_out hs g _ G.out _ (Nat.le_refl _), fun j hj => ?_⟩
  rcases goneTo_new hs g j _ hj with h1 | ⟨h1, g', h2, h3⟩
  · rcases G.why j h1 with e | ⟨h2, h3⟩
    · exact .inl e
    · exact .inr ⟨h2, goneB_mono (fun i hi => goneTo_keep hs g i hi _) _ h3⟩
  · exact .inr ⟨h1, goneB_mono h3 _ h2⟩
theorem gon_start {hs : List Hd} {h : Nat} (hh : h < hs.length) : Gon hs h (2 ^ h) := by
  refine ⟨by rw [Nat.testBit_two_pow]; simp, fun j hj => by rw [Nat.testBit_two_pow, decide_eq_false (by omega)], fun j hj => ?_⟩
  rw [Nat.testBit_two_pow, decide_eq_true_eq] at hj
  exact .inl hj.symm
theorem goneR_spec {hs : List Hd} {h : Nat} (hh : h < hs.length) : ∀ r, Gon hs h (goneR hs (2 ^ h) r) ∧ (r < bits (goneR hs (2 ^ h) r) hs.length ∨ ∀ j, (goneTo hs (goneR hs (2 ^ h) r) hs.length).testBit j = (goneR hs (2 ^ h) r).testBit j)
  | 0 => by
    refine ⟨gon_start hh, .inl ?_⟩
    have key : ∀ n, h < n → 0 < bits (2 ^ h) n := by
      intro n
      induction n with
      | zero => intro h; omega
      | succ n ih =>
        intro hn
        unfold bits
        by_cases e : h = n
        · subst e
          rw [if_pos (by rw [Nat.testBit_two_pow]; simp)]; omega
        · have := ih (by omega); omega
    exact key _ hh
  | r + 1 => by
    obtain ⟨G, hr⟩ := goneR_spec hh r
    have G2 := gon_round G
    refine ⟨G2, ?_⟩
    rcases hr with hr | hr
    · by_cases c : bits (goneTo hs (goneR hs (2 ^ h) r) hs.length) hs.length ≤ bits (goneR hs (2 ^ h) r) hs.length
      · right
        have e1 := bits_eq (fun i hi => goneTo_keep hs (goneR hs (2 ^ h) r) i hi hs.length) hs.length c
        have e2 : ∀ j, (goneTo hs (goneR hs (2 ^ h) r) hs.length).testBit j = (goneR hs (2 ^ h) r).testBit j := fun j => by
          rcases Nat.lt_or_ge j hs.length with hj | hj
          · exact e1 j hj
          · rw [G2.out j hj, G.out j hj]
        have e3 : goneTo hs (goneR hs (2 ^ h) r) hs.length = goneR hs (2 ^ h) r := Nat.eq_of_testBit_eq e2
        show ∀ j, (goneTo hs (goneTo hs (goneR hs (2 ^ h) r) hs.length) hs.length).testBit j = (goneTo hs (goneR hs (2 ^ h) r) hs.length).testBit j
        rw [e3, e3]
        exact fun _ => rfl
      · left
        show r + 1 < bits (goneTo hs (goneR hs (2 ^ h) r) hs.length) hs.length
        omega
    · right
      have e3 : goneTo hs (goneR hs (2 ^ h) r) hs.length = goneR hs (2 ^ h) r := Nat.eq_of_testBit_eq hr
      show ∀ j, (goneTo hs (goneTo hs (goneR hs (2 ^ h) r) hs.length) hs.length).testBit j = (goneTo hs (goneR hs (2 ^ h) r) hs.length).testBit j
      rw [e3, e3]
      exact fun _ => rfl
theorem gone_spec {hs : List Hd} {h : Nat} (hh : h < hs.length) : Gone hs h (goneT hs h) := by
  obtain ⟨G, hr⟩ := goneR_spec hh hs.length
  refine ⟨G.own, G.out, fun j hj hb => ?_, G.why⟩
  rcases hr with hr | hr
  · have := bits_le (goneR hs (2 ^ h) hs.length) hs.length
    omega
  · exact goneTo_shut hs _ hr j hj hb
theorem Gone.trade {cs : List Cl} {hs : List Hd} {h g : Nat} (G : Gone hs h g) (hk : checkT cs hs = 0) (j : Nat) (hj : j < hs.length) (hne : j ≠ h) (h1 : (hs.getD j zHd).f1 ≠ -1) : g.testBit j = false := by
  rw [Bool.eq_false_iff]
  intro hb
  rcases G.why j hb with e | ⟨_, hb⟩
  · exact hne e
  · have hx := check_head hk j hj
    have h2 : (hs.getD j zHd).f2 = -1 := by
      by_cases e : (hs.getD j zHd).f2 = -1
      · exact e
      · exact absurd (hx.ptr e).1 h1
    unfold goneB at hb
    rw [if_neg (by omega), if_pos h1] at hb
    cases hb
/-- What stays does not lead to what goes, other than among others. -/
theorem Gone.stays {hs : List Hd} {h g : Nat} (G : Gone hs h g) (j : Nat) (hj : j < hs.length) (hb : g.testBit j = false) : goneB g (hs.getD j zHd) = false := by
  rw [Bool.eq_false_iff]
  intro hc
  rw [G.shut j hj hc] at hb
  cases hb
/-! ### what stays, counted -/
theorem numT_le (g : Nat) : ∀ k, numT g k ≤ k
  | 0 => Nat.le_refl _
  | k + 1 => by have := numT_le g k; unfold numT; split <;> omega
theorem numT_mono (g : Nat) : ∀ k j, j ≤ k → numT g j ≤ numT g k
  | 0, j, h => by obtain rfl : j = 0 := by omega
                  exact Nat.le_refl _
  | k + 1, j, h => by
    by_cases e : j = k + 1
    · rw [e]; exact Nat.le_refl _
    · have := numT_mono g k j (by omega)
      have e : numT g (k + 1) = numT g k + (if g.testBit k = true then 0 else 1) := rfl
      omega
theorem numT_lt (g : Nat) (j k : Nat) (hjk : j < k) (hb : g.testBit j = false) : numT g j < numT g k := by
  have h1 := numT_mono g k (j + 1) (by omega)
  have h2 : numT g (j + 1) = numT g j + 1 := by show numT g j + _ = _; rw [hb]; rfl
  omega
theorem numT_inj {g : Nat} {j k : Nat} (hj : g.testBit j = false) (hk : g.testBit k = false) (h : numT g j = numT g k) : j = k := by
  rcases Nat.lt_trichotomy j k with hlt | e | hlt
  · have := numT_lt g j k hlt hj; omega
  · exact e
  · have := numT_lt g k j hlt hk; omega
theorem dropTo_len (hs : List Hd) (g : Nat) : ∀ k, (dropTo hs g k).length = numT g k
  | 0 => rfl
  | k + 1 => by
    show (dropTo hs g k ++ _).length = numT g k + _
    rw [List.length_append, dropTo_len hs g k]
    split <;> rfl
theorem dropTo_at (hs : List Hd) (g : Nat) : ∀ (k j : Nat), j < k → g.testBit j = false → (dropTo hs g k).getD (numT g j) zHd = dropHd g (hs.getD j zHd)
  | 0, j, h, _ => by omega
  | k + 1, j, h, hb => by
    show (dropTo hs g k ++ _).getD _ _ = _
    by_cases e : j = k
    · subst e
      rw [hb, List.getD_eq_getElem?_getD, List.getElem?_append_right (by rw [dropTo_len]; exact Nat.le_refl _), dropTo_len, Nat.sub_self]
      rfl
    · have hlt := numT_lt g j k (by omega) hb
      rw [List.getD_eq_getElem?_getD, List.getElem?_append_left (by rw [dropTo_len]; exact hlt), ← List.getD_eq_getElem?_getD]
      exact dropTo_at hs g k j (by omega) hb
/-- Each of what is left was one that stays. -/
theorem numT_back (g : Nat) : ∀ (k p : Nat), p < numT g k → ∃ j, j < k ∧ g.testBit j = false ∧ numT g j = p
  | 0, p, h => by simp [numT] at h
  | k + 1, p, h => by
    by_cases c : p < numT g k
    · obtain ⟨j, h1, h2, h3⟩ := numT_back g k p c
      exact ⟨j, by omega, h2, h3⟩
    · unfold numT at h
      by_cases b : g.testBit k = true
      · rw [if_pos b] at h; omega
      · rw [if_neg b] at h
        exact ⟨k, by omega, by simpa using b, by omega⟩
theorem keptL_mem {g : Nat} {l : List Int} {y : Int} : y ∈ keptL g l ↔ ∃ a ∈ l, g.testBit a.toNat = false ∧ y = (numT g a.toNat : Int) := by
  unfold keptL
  rw [List.mem_map]
  constructor
  · rintro ⟨a, ha, rfl⟩
    rw [List.mem_filter] at ha
    exact ⟨a, ha.1, by simpa using ha.2, rfl⟩
  · rintro ⟨a, ha, hb, rfl⟩
    exact ⟨a, List.mem_filter.2 ⟨ha, by rw [hb]; rfl⟩, rfl⟩
theorem keptL_asc {g : Nat} {l : List Int} (h0 : ∀ x ∈ l, 0 ≤ x) (h : l.Pairwise (· < ·)) : (keptL g l).Pairwise (· < ·) := by
  unfold keptL
  rw [List.pairwise_map]
  refine (h.filter _).imp_of_mem (fun {a b} ha hb hab => ?_)
  rw [List.mem_filter] at ha hb
  have h1 := h0 a ha.1
  have := numT_lt g a.toNat b.toNat (by omega) (by simpa using ha.2)
  omega
theorem also_asc {cs : List Cl} {hs : List Hd} (hk : checkT cs hs = 0) (i : Nat) (hi : i < hs.length) : (hs.getD i zHd).f3.Pairwise (· < ·) := by
  have hx := check_head hk i hi
  have key : ∀ d j, j + d + 1 < (hs.getD i zHd).f3.length → (hs.getD i zHd).f3.getD j 0 < (hs.getD i zHd).f3.getD (j + d + 1) 0 := by
    intro d
    induction d with
    | zero =>
      intro j hj
      have := (hx.also (j + 1) (by omega)).2.2.2 (by omega)
      exact this
    | succ d ih =>
      intro j hj
      have h1 := ih j (by omega)
      have := (hx.also (j + (d + 1) + 1) (by omega)).2.2.2 (by omega)
      rw [show j + (d + 1) + 1 - 1 = j + d + 1 by omega] at this
      omega
  rw [List.pairwise_iff_getElem]
  intro a b ha hb hab
  have := key (b - a - 1) a (by omega)
  have e1 : (hs.getD i zHd).f3.getD a 0 = (hs.getD i zHd).f3[a] := by rw [List.getD_eq_getElem?_getD, List.getElem?_eq_getElem ha]; rfl
  have e2 : (hs.getD i zHd).f3.getD b 0 = (hs.getD i zHd).f3[b] := by rw [List.getD_eq_getElem?_getD, List.getElem?_eq_getElem hb]; rfl
  rw [show a + (b - a - 1) + 1 = b by omega, e1, e2] at this
  exact this
/-- Words of two headings: the later one is not before the earlier one, and they differ. -/
theorem word_order {cs : List Cl} {hs : List Hd} (hk : checkT cs hs = 0) (a : Nat) : ∀ (d : Nat), a + d < hs.length → sLt (hs.getD (a + d) zHd).f0 (hs.getD a zHd).f0 = false
  | 0, h => by
    rw [Bool.eq_false_iff]
    intro e
    have := sLt_asymm e
    rw [Nat.add_zero] at e this
    rw [e] at this
    cases this
  | d + 1, h => by
    have ih := word_order hk a d (by omega)
    have hx := (check_head hk (a + (d + 1)) h).sorted (by omega)
    rw [show a + (d + 1) - 1 = a + d by omega] at hx
    exact le_trans' ih hx
theorem word_ne {cs : List Cl} {hs : List Hd} (hk : checkT cs hs = 0) (a b : Nat) (hab : a < b) (hb : b < hs.length) : sEq (hs.getD a zHd).f0 (hs.getD b zHd).f0 = false := by
  have := (check_head hk b hb).new
  rw [List.any_eq_false] at this
  have hm : hs.getD a zHd ∈ hs.take b := by
    rw [List.getD_eq_getElem?_getD, List.getElem?_eq_getElem (by omega)]
    exact List.mem_iff_getElem.2 ⟨a, by rw [List.length_take]; omega, by rw [List.getElem_take]; rfl⟩
  simpa using this _ hm
theorem Gone.see {cs : List Cl} {hs : List Hd} {h g : Nat} (G : Gone hs h g) (hk : checkT cs hs = 0) (j : Nat) (hj : j < hs.length) (hb : g.testBit j = false) (h2 : (hs.getD j zHd).f2 ≠ -1) :
    ∃ q : Nat, (hs.getD j zHd).f2 = q ∧ q < hs.length ∧ q ≠ j ∧ g.testBit q = false ∧ (dropHd g (hs.getD j zHd)).f2 = (numT g q : Int) := by
  have hx := (check_head hk j hj).see
  have hst := G.stays j hj hb
  unfold goneB at hst
  rw [if_pos h2] at hst
  refine ⟨(hs.getD j zHd).f2.toNat, by omega, by omega, by omega, hst, ?_⟩
  show (if (hs.getD j zHd).f2 ≥ 0 then _ else _) = _
  rw [if_pos (by omega)]
theorem drop_see_none {x : Hd} (g : Nat) (h2 : x.f2 = -1) : (dropHd g x).f2 = -1 := by
  show (if x.f2 ≥ 0 then _ else _) = _
  rw [if_neg (by omega), h2]
/-- What is left is valid. -/
theorem drop_valid {cs : List Cl} {hs : List Hd} (hk : checkT cs hs = 0) (h : Nat) (hh : h < hs.length) : checkT cs (dropT hs h) = 0 := by
  obtain ⟨p1, p2, p3, p4⟩ := check_parts hk
  have G := gone_spec hh
  unfold dropT
  obtain ⟨g, hg⟩ : ∃ g, goneT hs h = g := ⟨_, rfl⟩
  rw [hg] at G ⊢
  clear hg
  have hlen := dropTo_len hs g hs.length
  have hle := numT_le g hs.length
  refine check_zero p1 (by omega) p3 (fun p hp => ?_)
  rw [hlen] at hp
  obtain ⟨j, hj, hb, rfl⟩ := numT_back g _ p hp
  have hget := dropTo_at hs g hs.length j hj hb
  have hx := check_head hk j hj
  refine head_err ⟨by rw [hget]; exact hx.word, ?_, fun h0 => ?_, by rw [hget]; exact hx.cls, ?_, ?_, fun h2 => ?_, fun h2 h1 => ?_⟩
  · rw [any_false]
    intro y hy
    obtain ⟨q, hq, hql, rfl⟩ := mem_take_getD _ zHd _ y hy
    rw [hlen] at hql
    obtain ⟨i, hi, hbi, rfl⟩ := numT_back g _ q hql
    rw [hget, dropTo_at hs g hs.length i hi hbi]
    refine word_ne hk i j ?_ hj
    rcases Nat.lt_or_ge i j with hlt | hge
    · exact hlt
    · have := numT_mono g i j hge; omega
  · obtain ⟨i, hi, hbi, hq⟩ := numT_back g hs.length (numT g j - 1) (by omega)
    rw [hget, ← hq, dropTo_at hs g hs.length i hi hbi]
    have hij : i < j := by
      rcases Nat.lt_or_ge i j with hlt | hge
      · exact hlt
      · have := numT_mono g i j hge; omega
    have := word_order hk i (j - i) (by omega)
    rw [show i + (j - i) = j by omega] at this
    exact this
  · rw [hget, hlen]
    by_cases c : (hs.getD j zHd).f2 = -1
    · rw [drop_see_none g c]; omega
    · obtain ⟨q, h1, h2, h3, h4, h5⟩ := G.see hk j hj hb c
      rw [h5]
      have := numT_lt g q hs.length h2 h4
      refine ⟨by omega, by omega, fun e => h3 (numT_inj h4 hb (by omega))⟩
  · rw [hget, hlen]
    intro i hi
    have hi : i < (keptL g (hs.getD j zHd).f3).length := hi
    obtain ⟨a, ha, hba, he⟩ := keptL_mem.1 (getD_mem i hi)
    have ha2 := also_in hk j hj ha
    have := numT_lt g a.toNat hs.length (by omega) hba
    refine ⟨?_, ?_, ?_, fun h0 => pw_at (keptL_asc (fun x hx => (also_in hk j hj hx).1) (also_asc hk j hj)) i h0 hi⟩
    · show 0 ≤ (keptL g (hs.getD j zHd).f3).getD i 0; omega
    · show (keptL g (hs.getD j zHd).f3).getD i 0 < _; omega
    · show (keptL g (hs.getD j zHd).f3).getD i 0 ≠ _
      intro e
      have := numT_inj hba hb (by omega)
      omega
  · rw [hget] at h2 ⊢
    have c : (hs.getD j zHd).f2 ≠ -1 := fun e => h2 (drop_see_none g e)
    obtain ⟨g1, g2⟩ := hx.ptr c
    refine ⟨g1, ?_⟩
    show keptL g (hs.getD j zHd).f3 = []
    rw [g2]; rfl
  · rw [hget] at h1 h2 ⊢
    have c : (hs.getD j zHd).f2 = -1 := by
      by_cases e : (hs.getD j zHd).f2 = -1
      · exact e
      · obtain ⟨q, _, _, _, _, h5⟩ := G.see hk j hj hb e
        rw [h5] at h2; omega
    have h1 : (hs.getD j zHd).f1 = -1 := h1
    have hst := G.stays j hj hb
    unfold goneB at hst
    rw [if_neg (by omega), if_neg (by omega), List.all_eq_false] at hst
    obtain ⟨a, ha, hba⟩ := hst
    intro e
    have : (numT g a.toNat : Int) ∈ keptL g (hs.getD j zHd).f3 := keptL_mem.2 ⟨a, ha, by simpa using hba, rfl⟩
    have e : keptL g (hs.getD j zHd).f3 = [] := e
    rw [e] at this
    cases this
/-- A heading leads to another one. -/
def leadB (hs : List Hd) (k j : Nat) : Bool := decide ((hs.getD k zHd).f2 = (j : Int)) || (hs.getD k zHd).f3.contains (j : Int)
/-- No reference is lost whose two headings stay. -/
theorem drop_leads {cs : List Cl} {hs : List Hd} (hk : checkT cs hs = 0) {h g : Nat} (G : Gone hs h g) (k j : Nat) (hkl : k < hs.length) (hj : j < hs.length) (hbk : g.testBit k = false) (hbj : g.testBit j = false) :
    leadB (dropTo hs g hs.length) (numT g k) (numT g j) = leadB hs k j := by
  unfold leadB
  rw [dropTo_at hs g hs.length k hkl hbk]
  congr 1
  · refine decide_eq_decide.2 ?_
    by_cases c : (hs.getD k zHd).f2 = -1
    · rw [drop_see_none g c, c]; omega
    · obtain ⟨q, h1, h2, h3, h4, h5⟩ := G.see hk k hkl hbk c
      rw [h5, h1]
      refine ⟨fun e => ?_, fun e => ?_⟩
      · have := numT_inj h4 hbj (by omega); omega
      · rw [show q = j by omega]
  · rw [Bool.eq_iff_iff, List.contains_iff_mem, List.contains_iff_mem]
    refine ⟨fun e => ?_, fun e => keptL_mem.2 ⟨(j : Int), e, hbj, rfl⟩⟩
    obtain ⟨a, ha, hba, he⟩ := keptL_mem.1 (show (numT g j : Int) ∈ keptL g (hs.getD k zHd).f3 from e)
    have ha2 := also_in hk k hkl ha
    have := numT_inj hba hbj (by omega)
    rw [show (j : Int) = a by omega]
    exact ha
/-- If no heading leads to the one that goes, it goes alone. -/
theorem drop_alone {cs : List Cl} {hs : List Hd} (hk : checkT cs hs = 0) {h : Nat} (hh : h < hs.length) (hno : ∀ k, k < hs.length → leadB hs k h = false) : (dropT hs h).length + 1 = hs.length := by
  have G := gone_spec hh
  unfold dropT
  rw [dropTo_len]
  obtain ⟨g, hg⟩ : ∃ g, goneT hs h = g := ⟨_, rfl⟩
  have hR : ∀ r, goneR hs (2 ^ h) r = 2 ^ h := by
    intro r
    induction r with
    | zero => rfl
    | succ r ih =>
      show goneTo hs (goneR hs (2 ^ h) r) hs.length = _
      rw [ih]
      have key : ∀ k, k ≤ hs.length → goneTo hs (2 ^ h) k = 2 ^ h := by
        intro k
        induction k with
        | zero => intro _; rfl
        | succ k ih2 =>
          intro hkl
          unfold goneTo
          rw [ih2 (by omega), if_neg]
          intro hb
          have hn := hno k (by omega)
          unfold leadB at hn
          rw [Bool.or_eq_false_iff, decide_eq_false_iff_not] at hn
          unfold goneB at hb
          by_cases c : (hs.getD k zHd).f2 = -1
          · rw [if_neg (by omega)] at hb
            by_cases d : (hs.getD k zHd).f1 = -1
            · rw [if_neg (by omega), List.all_eq_true] at hb
              have hne := (check_head hk k (by omega)).other c d
              obtain ⟨a, l, hl⟩ := List.exists_cons_of_ne_nil hne
              have ha : a ∈ (hs.getD k zHd).f3 := by rw [hl]; exact List.mem_cons_self
              have h1 := hb a ha
              rw [Nat.testBit_two_pow, decide_eq_true_eq] at h1
              have h2 := also_in hk k (by omega) ha
              have h3 : (hs.getD k zHd).f3.contains (h : Int) = true := List.contains_iff_mem.2 (by rw [show (h : Int) = a by omega]; exact ha)
              rw [h3] at hn
              cases hn.2
            · rw [if_pos d] at hb; cases hb
          · rw [if_pos c, Nat.testBit_two_pow, decide_eq_true_eq] at hb
            have := (check_head hk k (by omega)).see
            omega
      exact key _ (Nat.le_refl _)
  have e : goneT hs h = 2 ^ h := hR _
  rw [e]
  have key : ∀ n, numT (2 ^ h) n + (if h < n then 1 else 0) = n := by
    intro n
    induction n with
    | zero => rfl
    | succ n ih =>
      unfold numT
      rw [Nat.testBit_two_pow]
      by_cases c : h = n
      · subst c
        rw [if_neg (by omega)] at ih
        rw [decide_eq_true rfl, if_pos rfl, if_pos (by omega)]; omega
      · rw [decide_eq_false c, if_neg (by simp)]
        split at ih <;> split <;> omega
  have := key hs.length
  rw [if_pos hh] at this
  exact this
end Go.Proofs.Ytfbimhnlcmdcpaa.Q
namespace Go.Proofs.Ytfbimhnlcmdcpaa.Pa
open Go.RowKit Go.Proofs.YtfbimhnlcmdcpaaW.PrintWords Go.Proofs.YtfbimhnlcmdcpaaW.PrintLast Go.Proofs.YtfbimhnlcmdcpaaW.PrintMore
attribute [local go_sem] max2_int min2_int max_two min_two max_three min_three max_four min_four   -- for this text's walks alone
set_option linter.unusedVariables false
set_option linter.unusedSimpArgs false


/-! ### wayzgoosekit_DupTrades: function 24 -/
def wayzgoosekit_DupTrades.l0 : Nat → Int → List (S51) → List (S39) → Option ((List (S51)) × (List (S39)))
  | 0, _, _, _ => none
  | k + 1, x3, x502000, x502001 => if x3 < (x502001.length : Int) then (if 0 ≤ x3 then ((wayzgoosekit_DupInts.f ((rd_T39 x502001 x3).f3)).bind fun t516 => (wayzgoosekit_DupTrades.l0 k (wrap64 (x3 + 1)) x502000 (x502001.set (x3 : Int).toNat (⟨(rd_T39 x502001 x3).f0, (rd_T39 x502001 x3).f1, (rd_T39 x502001 x3).f2, t516⟩ : S39)))) else (none)) else (some (x502000, x502001))
end Go.Proofs.Ytfbimhnlcmdcpaa.Pa
/- DupTrades gives the same trades (plain). -/
namespace Go.Proofs.Ytfbimhnlcmdcpaa.Q
open Go.RowKit Go.Proofs.Ytfbimhnlcmdcpaa.Pa Go.Proofs.YtfbimhnlcmdcpaaW.PrintWords Go.Proofs.YtfbimhnlcmdcpaaW.PrintLast
set_option linter.unusedVariables false
set_option linter.unusedSimpArgs false

/-- References of a valid heading are few. -/
theorem also_few {cs : List Cl} {hs : List Hd} (hk : checkT cs hs = 0) (i : Nat) (hi : i < hs.length) : (hs.getD i zHd).f3.length ≤ hs.length := by
  have hx := check_head hk i hi
  have key : ∀ j, j < (hs.getD i zHd).f3.length → (j : Int) ≤ (hs.getD i zHd).f3.getD j 0 := by
    intro j
    induction j with
    | zero => intro hj; exact (hx.also 0 hj).1
    | succ j ih =>
      intro hj
      have h1 := (hx.also (j + 1) hj).2.2.2 (by omega)
      have h2 := ih (by omega)
      rw [show j + 1 - 1 = j by omega] at h1
      omega
  rcases Nat.eq_zero_or_pos (hs.getD i zHd).f3.length with h0 | h0
  · omega
  · have h1 := key ((hs.getD i zHd).f3.length - 1) (by omega)
    have h2 := (hx.also ((hs.getD i zHd).f3.length - 1) (by omega)).2.1
    omega
end Go.Proofs.Ytfbimhnlcmdcpaa.Q
/- After Drop the trades are valid and the heading is not there, each other trade remains, no reference is lost whose two headings remain, and a heading to which none refers goes alone: for all lists of numbers. -/
namespace Go.Proofs.Ytfbimhnlcmdcpaa.Pure
open Go.RowKit Go.Proofs.Ytfbimhnlcmdcpaa.Pa Go.Proofs.Ytfbimhnlcmdcpaa.Q Go.Proofs.YtfbimhnlcmdcpaaW.PrintWords Go.Proofs.YtfbimhnlcmdcpaaW.PrintLast
set_option linter.unusedVariables false
set_option linter.unusedSimpArgs false

theorem leads_gen {cs : List Cl} {hs : List Hd} (k i : Nat) (hkn : k < hs.length) (hl : (hs.getD k zHd).f3.length < 4611686018427387904) : Ev (fun q => wayzgooselaw04_leads.f q cs hs k i) (leadB hs k i) := by
  by_cases c : (hs.getD k zHd).f2 = (i : Int)
  · have h1 : leadB hs k i = true := by unfold leadB; rw [decide_eq_true c]; rfl
    rw [h1]
    refine Ev.congr (f := fun _ => some true) (fun q => ?_) (Ev.now _)
    unfold wayzgooselaw04_leads.f
    rw [if_pos (by omega), if_pos (by omega), rd_hd, if_pos c]
  · have h1 : leadB hs k i = decide (idxT (hs.getD k zHd).f3 i ≥ 0) := by
      unfold leadB
      rw [decide_eq_false c, Bool.false_or, Bool.eq_iff_iff, List.contains_iff_mem, decide_eq_true_eq, ge_iff_le, idxT_nonneg]
    rw [h1]
    refine Ev.congr (f := fun q => (wayzgoosekit_Index.f q (hs.getD k zHd).f3 i).bind fun t => some (decide (t ≥ 0))) (fun q => ?_) (Ev.bind (f := fun _ (t : Int) => some (decide (t ≥ 0))) (index_ok _ _ hl) (Ev.now _))
    unfold wayzgooselaw04_leads.f
    rw [if_pos (by omega), if_pos (by omega), rd_hd, if_neg c]
theorem word_hit {cs : List Cl} {X : List Hd} {w : ByteArray} (p : Nat) (hX : X.length < 1000000000) (hp : p < X.length) (he : (X.getD p zHd).f0.toList = w.toList) (hn : ∀ q, q < p → ¬ (X.getD q zHd).f0.toList = w.toList) : ∀ (d i : Nat), i + d = p → Ev (fun k => wayzgooselaw04_word.l0 k w i cs X) (p : Int) := by
  intro d
  induction d with
  | zero =>
    intro i hi
    obtain rfl : i = p := by omega
    refine Ev.last (fun k => ?_)
    simp only [wayzgooselaw04_word.l0]
    rw [if_pos (by omega), if_pos (by omega), rd_hd, if_pos he]
  | succ d ih =>
    intro i hi
    refine Ev.step (fun k => ?_) (ih (i + 1) (by omega))
    simp only [wayzgooselaw04_word.l0]
    rw [if_pos (by omega), if_pos (by omega), rd_hd, if_neg (hn i (by omega)), w64s (by omega) (by omega)]
    rfl
theorem word_miss {cs : List Cl} {X : List Hd} {w : ByteArray} (hX : X.length < 1000000000) (hn : ∀ q, q < X.length → ¬ (X.getD q zHd).f0.toList = w.toList) : ∀ (d i : Nat), i + d = X.length → Ev (fun k => wayzgooselaw04_word.l0 k w i cs X) (-1) := by
  intro d
  induction d with
  | zero =>
    intro i hi
    refine Ev.last (fun k => ?_)
    simp only [wayzgooselaw04_word.l0]
    rw [if_neg (by omega)]
  | succ d ih =>
    intro i hi
    refine Ev.step (fun k => ?_) (ih (i + 1) (by omega))
    simp only [wayzgooselaw04_word.l0]
    rw [if_pos (by omega), if_pos (by omega), rd_hd, if_neg (hn i (by omega)), w64s (by omega) (by omega)]
    rfl
theorem words_ne {cs : List Cl} {hs : List Hd} (hk : checkT cs hs = 0) (a b : Nat) (ha : a < hs.length) (hb : b < hs.length) (hab : a ≠ b) : ¬ (hs.getD a zHd).f0.toList = (hs.getD b zHd).f0.toList := by
  intro e
  rw [toList_data, toList_data] at e
  rcases Nat.lt_or_gt_of_ne hab with hlt | hgt
  · have := word_ne hk a b hlt hb
    unfold sEq at this
    rw [e] at this
    simp at this
  · have := word_ne hk b a hgt ha
    unfold sEq at this
    rw [e] at this
    simp at this
def wdT (g k : Nat) : Int := if g.testBit k = true then -1 else (numT g k : Int)
/-- Where the word of heading k lies among what is left. -/
theorem word_left {cs : List Cl} {hs : List Hd} (hk : checkT cs hs = 0) (g k : Nat) (hkl : k < hs.length) : Ev (fun q => wayzgooselaw04_word.f q cs (dropTo hs g hs.length) (hs.getD k zHd).f0) (wdT g k) := by
  have h6 := (check_parts hk).2.1
  have hlen := dropTo_len hs g hs.length
  have hle := numT_le g hs.length
  unfold wdT
  cases hb : g.testBit k with
  | true =>
    rw [if_pos rfl]
    refine word_miss (cs := cs) (w := (hs.getD k zHd).f0) (by omega) (fun q hq => ?_) (dropTo hs g hs.length).length 0 (by omega)
    rw [hlen] at hq
    obtain ⟨j, hj, hbj, rfl⟩ := numT_back g _ q hq
    rw [dropTo_at hs g hs.length j hj hbj]
    exact words_ne hk j k hj hkl (fun e => by rw [e, hb] at hbj; cases hbj)
  | false =>
    rw [if_neg (by simp)]
    have hlt := numT_lt g k hs.length hkl hb
    refine word_hit (cs := cs) (w := (hs.getD k zHd).f0) (numT g k) (by omega) (by omega) (by rw [dropTo_at hs g hs.length k hkl hb]; rfl) (fun q hq => ?_) (numT g k) 0 (by omega)
    obtain ⟨j, hj, hbj, rfl⟩ := numT_back g hs.length q (by omega)
    rw [dropTo_at hs g hs.length j hj hbj]
    exact words_ne hk j k hj hkl (fun e => by rw [e] at hq; omega)
theorem numT_step (g a : Nat) : ∀ d, numT g (a + d) ≤ numT g a + d
  | 0 => Nat.le_refl _
  | d + 1 => by
    have := numT_step g a d
    have e : numT g (a + (d + 1)) = numT g (a + d) + (if g.testBit (a + d) = true then 0 else 1) := rfl
    split at e <;> omega
theorem numT_less {g i n : Nat} (hb : g.testBit i = true) (hi : i < n) : numT g n < n := by
  have h1 := numT_step g (i + 1) (n - i - 1)
  rw [show i + 1 + (n - i - 1) = n by omega] at h1
  have h2 : numT g (i + 1) = numT g i := by show numT g i + _ = _; rw [hb]; rfl
  have := numT_le g i
  omega
section
variable {cs : List Cl} {hs : List Hd} {i g : Nat}
theorem drop_l2 (hk : checkT cs hs = 0) (G : Gone hs i g) (hkX : checkT cs (dropTo hs g hs.length) = 0) (al : Bool) (k : Nat) (hkl : k < hs.length) (hbk : g.testBit k = false)
    (hrest : Ev (fun q => wayzgooselaw04_TradeDropped.l1 q i al ((k : Int) + 1) cs hs cs (dropTo hs g hs.length)) true) :
    ∀ (d j : Nat), j + d = hs.length → Ev (fun q => wayzgooselaw04_TradeDropped.l2 q i al k (numT g k : Int) j cs hs cs (dropTo hs g hs.length)) true := by
  have h6 := (check_parts hk).2.1
  have hlen := dropTo_len hs g hs.length
  have hlt := numT_lt g k hs.length hkl hbk
  have hle := numT_le g hs.length
  intro d
  induction d with
  | zero =>
    intro j hj
    refine Ev.step (fun q => ?_) hrest
    simp only [wayzgooselaw04_TradeDropped.l2]
    rw [if_neg (by omega), w64s (by omega) (by omega)]
  | succ d ih =>
    intro j hj
    have hn := ih (j + 1) (by omega)
    refine Ev.step (f := fun q => (wayzgooselaw04_word.f q cs (dropTo hs g hs.length) (hs.getD j zHd).f0).bind fun t => if t ≥ 0 then ((wayzgooselaw04_leads.f q cs hs k j).bind fun t685 => ((wayzgooselaw04_leads.f q cs (dropTo hs g hs.length) (numT g k : Int) t).bind fun t686 => (if (t685 != t686) = true then (some false) else (wayzgooselaw04_TradeDropped.l2 q i al k (numT g k : Int) ((j + 1 : Nat) : Int) cs hs cs (dropTo hs g hs.length))))) else (wayzgooselaw04_TradeDropped.l2 q i al k (numT g k : Int) ((j + 1 : Nat) : Int) cs hs cs (dropTo hs g hs.length))) (fun q => ?_) ?_
    · simp only [wayzgooselaw04_TradeDropped.l2]
      rw [if_pos (by omega), if_pos (by omega), rd_hd, w64s (by omega) (by omega)]
      rfl
    · refine Ev.bind (f := fun q t => if t ≥ 0 then ((wayzgooselaw04_leads.f q cs hs k j).bind fun t685 => ((wayzgooselaw04_leads.f q cs (dropTo hs g hs.length) (numT g k : Int) t).bind fun t686 => (if (t685 != t686) = true then (some false) else (wayzgooselaw04_TradeDropped.l2 q i al k (numT g k : Int) ((j + 1 : Nat) : Int) cs hs cs (dropTo hs g hs.length))))) else (wayzgooselaw04_TradeDropped.l2 q i al k (numT g k : Int) ((j + 1 : Nat) : Int) cs hs cs (dropTo hs g hs.length))) (word_left hk g j (by omega)) ?_
      unfold wdT
      cases hbj : g.testBit j with
      | true =>
        simp only [if_true, show ((-1 : Int) ≥ 0) = False by simp, if_false]
        exact hn
      | false =>
        have hltj := numT_lt g j hs.length (by omega) hbj
        simp only [Bool.false_eq_true, if_false, show ((numT g j : Int) ≥ 0) = True from eq_true (by omega), if_true]
        refine Ev.bind (f := fun q t685 => ((wayzgooselaw04_leads.f q cs (dropTo hs g hs.length) (numT g k : Int) (numT g j : Int)).bind fun t686 => (if (t685 != t686) = true then (some false) else (wayzgooselaw04_TradeDropped.l2 q i al k (numT g k : Int) ((j + 1 : Nat) : Int) cs hs cs (dropTo hs g hs.length))))) (leads_gen k j hkl (by have := also_few hk k hkl; omega)) ?_
        refine Ev.bind (f := fun q t686 => (if (leadB hs k j != t686) = true then (some false) else (wayzgooselaw04_TradeDropped.l2 q i al k (numT g k : Int) ((j + 1 : Nat) : Int) cs hs cs (dropTo hs g hs.length)))) (leads_gen (numT g k) (numT g j) (by omega) (by have := also_few hkX (numT g k) (by omega); omega)) ?_
        rw [drop_leads hk G k j hkl (by omega) hbk hbj]
        refine Ev.congr (fun q => ?_) hn
        rw [if_neg (by simp)]
theorem drop_l1 (hk : checkT cs hs = 0) (G : Gone hs i g) (hg : goneT hs i = g) (hi : i < hs.length) (hkX : checkT cs (dropTo hs g hs.length) = 0)
    (hrest : Ev (fun q => wayzgooselaw04_TradeDropped.l0 q ((i : Int) + 1) cs hs) true) :
    ∀ (d k : Nat) (al : Bool), k + d = hs.length → (al = true → ∀ j, j < k → leadB hs j i = false) → Ev (fun q => wayzgooselaw04_TradeDropped.l1 q i al k cs hs cs (dropTo hs g hs.length)) true := by
  have h6 := (check_parts hk).2.1
  have hlen := dropTo_len hs g hs.length
  have hle := numT_le g hs.length
  intro d
  induction d with
  | zero =>
    intro k al hk1 hal
    refine Ev.step (fun q => ?_) hrest
    simp only [wayzgooselaw04_TradeDropped.l1]
    rw [if_neg (by omega), w64s (by omega) (by omega), w64s (by omega) (by omega)]
    cases al with
    | true =>
      have := drop_alone hk hi (fun j hj => hal rfl j (by omega))
      unfold dropT at this
      rw [hg] at this
      rw [if_pos rfl, if_pos (by omega)]
    | false => rw [if_neg (by simp)]
  | succ d ih =>
    intro k al hk1 hal
    have hkl : k < hs.length := by omega
    have hx := check_head hk k hkl
    have j4 : ∀ al' : Bool, (al' = true → ∀ j, j < k + 1 → leadB hs j i = false) → Ev (fun q => wayzgooselaw04_TradeDropped.j4 q i al' k (wdT g k) false cs hs cs (dropTo hs g hs.length)) true := by
      intro al' hal'
      have hn := ih (k + 1) al' (by omega) hal'
      cases hbk : g.testBit k with
      | true =>
        have hw1 : wdT g k = -1 := by unfold wdT; rw [hbk]; rfl
        rw [hw1]
        refine Ev.step (fun q => ?_) hn
        simp only [wayzgooselaw04_TradeDropped.j4]
        rw [if_neg (by simp), if_pos (by omega), w64s (by omega) (by omega)]
        rfl
      | false =>
        have hw1 : wdT g k = (numT g k : Int) := by unfold wdT; rw [hbk]; rfl
        rw [hw1]
        have hlt := numT_lt g k hs.length hkl hbk
        refine Ev.step (fun q => ?_) (drop_l2 hk G hkX al' k hkl hbk hn hs.length 0 (by omega))
        simp only [wayzgooselaw04_TradeDropped.j4]
        rw [if_neg (by simp), if_neg (by omega), if_pos (by omega), if_pos (by omega), if_pos (by omega), if_pos (by omega), rd_hd, rd_hd, dropTo_at hs g hs.length k hkl hbk, if_pos (show (dropHd g (hs.getD k zHd)).f1 = (hs.getD k zHd).f1 from rfl)]
        rfl
    have j3 : ∀ al' : Bool, (al' = true → ∀ j, j < k + 1 → leadB hs j i = false) → Ev (fun q => wayzgooselaw04_TradeDropped.j3 q i al' k cs hs cs (dropTo hs g hs.length)) true := by
      intro al' hal'
      refine Ev.step (f := fun q => (wayzgooselaw04_word.f q cs (dropTo hs g hs.length) (hs.getD k zHd).f0).bind fun t => if (k : Int) = (i : Int) then wayzgooselaw04_TradeDropped.j4 q i al' k t false cs hs cs (dropTo hs g hs.length) else (if (hs.getD k zHd).f1 ≥ 0 then wayzgooselaw04_TradeDropped.j4 q i al' k t (decide (t < 0)) cs hs cs (dropTo hs g hs.length) else wayzgooselaw04_TradeDropped.j4 q i al' k t false cs hs cs (dropTo hs g hs.length))) (fun q => ?_) (Ev.bind (f := fun q t => if (k : Int) = (i : Int) then wayzgooselaw04_TradeDropped.j4 q i al' k t false cs hs cs (dropTo hs g hs.length) else (if (hs.getD k zHd).f1 ≥ 0 then wayzgooselaw04_TradeDropped.j4 q i al' k t (decide (t < 0)) cs hs cs (dropTo hs g hs.length) else wayzgooselaw04_TradeDropped.j4 q i al' k t false cs hs cs (dropTo hs g hs.length))) (word_left hk g k hkl) ?_)
      · simp only [wayzgooselaw04_TradeDropped.j3]
        rw [if_pos (by omega), if_pos (by omega), rd_hd]
      · refine Ev.congr (fun q => ?_) (j4 al' hal')
        by_cases c : (k : Int) = (i : Int)
        · rw [if_pos c]
        · rw [if_neg c]
          by_cases c2 : (hs.getD k zHd).f1 ≥ 0
          · have hb := G.trade hk k hkl (by omega) (by omega)
            have : decide (wdT g k < 0) = false := by
              unfold wdT
              rw [hb, if_neg (by simp)]
              exact decide_eq_false (by omega)
            rw [if_pos c2, this]
          · rw [if_neg c2]
    cases al with
    | true =>
      have h2 : Ev (fun q => wayzgooselaw04_TradeDropped.j3 q i (!leadB hs k i) k cs hs cs (dropTo hs g hs.length)) true := by
        refine j3 _ (fun h j hj => ?_)
        by_cases e : j = k
        · subst e; simpa using h
        · exact hal rfl j (by omega)
      refine Ev.step (f := fun q => (wayzgooselaw04_leads.f q cs hs k i).bind fun t => wayzgooselaw04_TradeDropped.j3 q i (!t) k cs hs cs (dropTo hs g hs.length)) (fun q => ?_) (Ev.bind (f := fun q t => wayzgooselaw04_TradeDropped.j3 q i (!t) k cs hs cs (dropTo hs g hs.length)) (leads_gen k i hkl (by have := also_few hk k hkl; omega)) h2)
      simp only [wayzgooselaw04_TradeDropped.l1]
      rw [if_pos (by omega), if_pos trivial]
    | false =>
      refine Ev.step (fun q => ?_) (j3 false (fun h => by cases h))
      simp only [wayzgooselaw04_TradeDropped.l1]
      rw [if_pos (by omega), if_neg (by simp)]
end
theorem drop_l0 {cs : List Cl} {hs : List Hd} (hk : checkT cs hs = 0) : ∀ (d i : Nat), i + d = hs.length → Ev (fun q => wayzgooselaw04_TradeDropped.l0 q i cs hs) true := by
  have h6 := (check_parts hk).2.1
  intro d
  induction d with
  | zero =>
    intro i hi
    refine Ev.last (fun q => ?_)
    simp only [wayzgooselaw04_TradeDropped.l0]
    rw [if_neg (by omega)]
    rfl
  | succ d ih =>
    intro i hi
    have hil : i < hs.length := by omega
    have G := gone_spec hil
    have hkX := drop_valid hk i hil
    have hf : trade_Drop.f cs hs i = some (cs, dropT hs i, 0) := by
      have ha : askT cs hs i = 0 := by
        unfold askT
        rw [if_neg (by omega), if_neg (by rw [inN_true (by omega) (by omega)]; simp)]
      unfold trade_Drop.f
      rw [if_neg (by omega), Int.toNat_natCast]
    have hcf : trade_Check.f cs (dropT hs i) = some 0 := by unfold trade_Check.f; rw [hkX]
    have hdt : dropT hs i = dropTo hs (goneT hs i) hs.length := rfl
    rw [hdt] at hf hcf hkX
    obtain ⟨g, hg⟩ : ∃ g, goneT hs i = g := ⟨_, rfl⟩
    rw [hg] at hf hcf hkX G
    have hlen := dropTo_len hs g hs.length
    have hless := numT_less G.own hil
    have hn := drop_l1 hk G hg hil hkX (ih (i + 1) (by omega)) hs.length 0 true (by omega) (fun _ j hj => by omega)
    have hw := word_left hk g i hil
    have hw1 : wdT g i = -1 := by unfold wdT; rw [G.own]; rfl
    rw [hw1] at hw
    refine Ev.step (f := fun q => (wayzgooselaw04_word.f q cs (dropTo hs g hs.length) (hs.getD i zHd).f0).bind fun t => if t ≥ 0 then wayzgooselaw04_TradeDropped.j1 q i true cs hs cs (dropTo hs g hs.length) else wayzgooselaw04_TradeDropped.j1 q i false cs hs cs (dropTo hs g hs.length)) (fun q => ?_) (Ev.bind (f := fun q t => if t ≥ 0 then wayzgooselaw04_TradeDropped.j1 q i true cs hs cs (dropTo hs g hs.length) else wayzgooselaw04_TradeDropped.j1 q i false cs hs cs (dropTo hs g hs.length)) hw ?_)
    · simp only [wayzgooselaw04_TradeDropped.l0]
      rw [if_pos (by omega), hf]
      simp only [Option.bind_some]
      rw [if_pos trivial, hcf]
      simp only [Option.bind_some]
      rw [if_pos trivial, if_pos (by omega), rd_hd, decide_eq_false (by omega)]
    · simp only [show ((-1 : Int) ≥ 0) = False by simp, if_false]
      refine Ev.step (fun q => ?_) hn
      simp only [wayzgooselaw04_TradeDropped.j1]
      rw [if_neg (by simp)]
      rfl
theorem TradeDropped : wayzgooselaw04_TradeDropped.Pure := by
  intro l _ hl _
  obtain ⟨cs, hs, a', s', he, hm, _⟩ := tradesOf_ok (s := 11400714819323198485) (newDice_ok hl) (c := 2) (h := 6) (by omega) (by omega) (by omega) (by omega)
  refine Ev.rounds (r := true) ?_
  refine Ev.congr (f := fun k => (wayzgoosekit_TradesOf.f k l 0 11400714819323198485 2 6).bind fun bt => wayzgooselaw04_TradeDropped.l0 k 0 bt.1 bt.2.1) (fun k => ?_) (Ev.bind (f := fun k (bt : List Cl × List Hd × Int × Int) => wayzgooselaw04_TradeDropped.l0 k 0 bt.1 bt.2.1) he (drop_l0 hm.ok hs.length 0 (by omega)))
  unfold wayzgooselaw04_TradeDropped.f wayzgoosekit_NewDice.f
  rfl
end Go.Proofs.Ytfbimhnlcmdcpaa.Pure
namespace Go.Proofs.Ytfbimhnlcmdcpaa.tradeDropped
open Go.ChangeShapes Go.WideShapes Go.ChangeAt Go.RowKit
open Go.ChangeMaps (open_string shut_string)
set_option linter.unusedVariables false
theorem own : ownKnob Try.prog.godebug = none := by kernel_rfl
theorem laidOut : laidOutB Try.prog = true := by kernel_rfl
def IsRow (k : IntKind) (w : World) (a : Option Addr) (len cap : Nat) (zs : List Int) : Prop :=
  (a = none ∧ len = 0 ∧ cap = 0 ∧ zs = []) ∨
  ∃ x, a = some x ∧ len ≤ cap ∧ cap ≤ maxLen ∧ zs.length = cap ∧ (∀ i, i < zs.length → w.cell? (x.add i) = some (.int k (zs.getD i 0))) ∧ ∀ n ∈ zs, (Lit.int k n).wf = true
set_option maxRecDepth 100000 in
theorem lifted (os : Os) (started : os.Started) (H : Type) (enc : TypeId × Value → H) :
    ReturnsInHanded {} Try.checked os 10 .any (Rows.tradeDroppedSpec.pre6 enc Try.prog Try.f10 Rows.tradeDroppedRow.domain false) (Rows.tradeDroppedSpec.post enc Try.prog Try.f10 false true false false) := by
  refine returnsInHanded_of_change_sized (C := Try.checked) own started (by kernel_rfl) Try.func10
    (ChangeSpec.witness6 (enc := enc) (C := Try.checked) false ⟨#[], #[.slice none 0 0], []⟩ 8 (by kernel_rfl) (by kernel_rfl) (by kernel_rfl) (by kernel_rfl)) ?_
  intro W base args ds gs before hval0 hW hcnd hsz0 _
  have hsz : (DataW.weightsEach Try.prog (Try.f10.params.toList ++ Rows.tradeDroppedSpec.plain.varTypes Try.prog) (ds ++ gs)).all (· ≤ reachBytes) = true := hsz0
  have hval : ∀ (j : Nat) t v, Try.f10.params[j]? = some t → args[j]? = some v → Value.okWide Try.prog W .any base t v := hval0
  have hW' := hW
  obtain ⟨p, q, hA0, hV, rfl, hfz, hnd⟩ := hW
  have hA : DataW.TrodAll enc Try.prog W 0 (fun _ => true) true Try.f10.params.toList args.toList ds p := hA0
  rw [Try.params10] at hA hval hsz
  obtain ⟨v0, vs0, d0, ds0, p0, q0, hargs, rfl, rfl, h0, r0⟩ := trodAll_cons hA
  obtain ⟨rfl, rfl, rfl⟩ := trodAll_nil r0
  obtain rfl : args = #[v0] := by cases args; simp_all
  obtain ⟨rfl, rfl⟩ := trodVars_none hV
  obtain ⟨a0, len0, cap0, rfl⟩ := okWide_slice Try.underlying22 (hval 0 22 v0 rfl rfl)
  have k0 := h0
  have lt0 : ∀ x ∈ p0, x.block < W.heap.size := by obtain ⟨m, hm⟩ := k0; exact DataW.trod_lt m _ _ _ hm
  obtain ⟨z0, w0⟩ : ∃ zs, IsRow .i64 W a0 len0 cap0 zs := by
    obtain ⟨fuel, hf⟩ := h0
    rcases open_ints Try.underlying22 Try.underlying3 (by kernel_rfl) hf with ⟨hcs, _⟩ | ⟨x, l, c, zs, hcs, _, hl, hm, hz, _, hcell, hwz⟩
    · simp [Value.cells] at hcs
      obtain ⟨rfl, rfl, rfl⟩ := hcs
      exact ⟨[], .inl ⟨rfl, rfl, rfl, rfl⟩⟩
    · simp [Value.cells] at hcs
      obtain ⟨rfl, rfl, rfl⟩ := hcs
      exact ⟨zs, .inr ⟨_, rfl, hl, hm, by simpa using hz, hcell, hwz⟩⟩
  have y0 : len0 * 8 ≤ 140737488351232 := Go.Proofs.YtfbimhnlcmdcpaaW.PrintWords.sized_ints hsz (j := 0) (t := 22) rfl rfl Try.underlying22 Try.underlying3 (by kernel_rfl) (by kernel_rfl) h0
  clear hA0 hval0 hsz0 hsz
  refine (Pa.wayzgooselaw04_TradeDropped.walk Pure.TradeDropped a0 len0 cap0 z0 W w0 y0).mono fun e W' ⟨he, bel⟩ => ?_
  subst he
  exact ⟨_, rfl, _, _, _, [], _, [], hW', trodAll_mk1 (shut_bool Try.underlying4 _), (trodAll_cons_mk (Below.trod laidOut (by kernel_rfl) (of_decide_eq_true (by kernel_rfl)) k0 bel lt0) trodAll_mk0), rfl, bel.frame _, fun h => by cases h⟩
theorem over : Rows.tradeDroppedRow.holds Try.pinned (OpenSpec.ofChange Rows.tradeDroppedSpec) :=
  OpenClaim.holds_of_wide 10 Try.f10 rfl rfl rfl rfl rfl rfl rfl ⟨rfl, rfl, rfl, rfl, rfl⟩ rfl rfl rfl rfl rfl (by kernel_rfl) Try.func10 (by kernel_rfl)
    (of_decide_eq_true (by kernel_rfl)) (by unfold Func.isWrapper; first | (rw [if_pos (by decide +kernel)]; kernel_rfl) | (rw [if_neg (by decide +kernel)]; exact ⟨rfl, rfl⟩))
    (fun os started H enc _ => lifted os started H enc)
theorem proved : Rows.TradeDroppedSaid := over
#print axioms proved
end Go.Proofs.Ytfbimhnlcmdcpaa.tradeDropped
namespace Go.Proofs.Ytfbimhnlcmdcpaa
/-- The row, under a short name, for the claim. -/
theorem tradeDropped_holds : Rows.TradeDroppedSaid := tradeDropped.proved
end Go.Proofs.Ytfbimhnlcmdcpaa
