/- A part of the proof: Each class of a path is under all classes before it, the path has all classes that its last one is under, and Under gives just the trades whose classes are under a class: for all lists of numbers. Without conditions of its own. (It holds words of the kit's print, out of print.sh's own texts for this seat, cut down by a program to what this proof reaches.) -/
import Derived.Test.YtfbimhnlcmdcpaaMTradeUp3
import Derived.Test.YtfbimhnlcmdcpaaMTradeUp2
import Derived.KernelRfl
import Derived.Test.YtfbimhnlcmdcpaaMTradeUp6
import Derived.Test.YtfbimhnlcmdcpaaMTradeUp7
import Derived.SizedLaws
import Derived.ChangeSlices
import Derived.Test.YtfbimhnlcmdcpaaRows
import Derived.WalkKit
import Derived.ProofKit
import Derived.OpenShut
import Derived.ShutString
import Derived.ChangeOld
import Derived.Below
/- What the dice of the kit give: numbers in their bounds, orders, ascending lists. -/
namespace Go.Proofs.Ytfbimhnlcmdcpaa.Q
open Go.RowKit Go.Proofs.Ytfbimhnlcmdcpaa.Pa Go.Proofs.YtfbimhnlcmdcpaaW.PrintWords Go.Proofs.YtfbimhnlcmdcpaaW.PrintLast Go.Proofs.YtfbimhnlcmdcpaaW.PrintMore
set_option linter.unusedVariables false

theorem u64w (x : Int) : IntKind.u64.wrap x = x % 18446744073709551616 := rfl
theorem xor_range (a b : Int) : 0 ≤ Go.bits .xor .u64 a b ∧ Go.bits .xor .u64 a b < 18446744073709551616 := by
  unfold Go.bits
  rw [u64w]
  omega
theorem w64s {x : Int} (h0 : -9223372036854775808 ≤ x) (h1 : x < 9223372036854775808) : wrap64 x = x := by
  unfold wrap64
  omega
theorem Ev.last {α : Type} {g : Nat → Option α} {r : α} (h : ∀ k, g (k + 1) = some r) : Ev g r := Ev.step h (Ev.now r)
/-- Dice in order: so many numbers are used up. -/
structure DOK (l : List Int) (a : Int) : Prop where
  lo : 0 ≤ a
  hi : a ≤ l.length
  sz : l.length < 4611686018427387904

theorem raw_ok {l : List Int} {a s : Int} (h : DOK l a) : ∃ n a' s', wayzgoosekit_Dice_raw.f l a s = some (n, a', s') ∧ 0 ≤ n ∧ n < 18446744073709551616 ∧ DOK l a' := by
  have hz := h.sz
  have hlo := h.lo
  unfold wayzgoosekit_Dice_raw.f
  by_cases c : a < (l.length : Int)
  · rw [if_pos c, if_pos h.lo]
    refine ⟨_, _, _, rfl, (xor_range _ _).1, (xor_range _ _).2, ?_⟩
    rw [w64s (by omega) (by omega)]
    exact ⟨by omega, by omega, hz⟩
  · rw [if_neg c]
    exact ⟨_, _, _, rfl, (xor_range _ _).1, (xor_range _ _).2, h⟩
theorem to_ok {l : List Int} {a s n : Int} (h : DOK l a) (hn : n < 4611686018427387904) : ∃ v a' s', wayzgoosekit_Dice_To.f l a s n = some (v, a', s') ∧ 0 ≤ v ∧ (v ≤ n ∨ v = 0) ∧ DOK l a' := by
  unfold wayzgoosekit_Dice_To.f
  by_cases c : n < 1
  · rw [if_pos c]
    exact ⟨_, _, _, rfl, by omega, .inr rfl, h⟩
  · rw [if_neg c]
    obtain ⟨m, a', s', hr, h0, h1, hd⟩ := raw_ok (s := s) h
    rw [hr]
    have hw : IntKind.u64.wrap (wrap64 (n + 1)) = n + 1 := by
      rw [w64s (by omega) (by omega), u64w]
      omega
    simp only [Option.bind_some, hw]
    rw [if_neg (by omega)]
    have h2 : (m / 65536).tmod (n + 1) = m / 65536 % (n + 1) := Int.tmod_eq_emod_of_nonneg (by omega)
    have h3 := Int.emod_nonneg (m / 65536) (show n + 1 ≠ 0 by omega)
    have h4 := Int.emod_lt_of_pos (m / 65536) (show 0 < n + 1 by omega)
    rw [h2, w64s (by omega) (by omega)]
    exact ⟨_, _, _, rfl, h3, .inl (by omega), hd⟩
/-- n at least 0: a number from 0 to n. -/
theorem to_ok' {l : List Int} {a s n : Int} (h : DOK l a) (hn : n < 4611686018427387904) (h0 : 0 ≤ n) : ∃ v a' s', wayzgoosekit_Dice_To.f l a s n = some (v, a', s') ∧ 0 ≤ v ∧ v ≤ n ∧ DOK l a' := by
  obtain ⟨v, a', s', h1, h2, h3, h4⟩ := to_ok (s := s) h hn
  exact ⟨v, a', s', h1, h2, by omega, h4⟩
theorem from_ok {l : List Int} {a s lo hi : Int} (h : DOK l a) (hl : -1000000 ≤ lo) (hl2 : lo ≤ 1000000) (hh : -1000000 ≤ hi) (hh2 : hi ≤ 1000000) : ∃ v a' s', wayzgoosekit_Dice_From.f l a s lo hi = some (v, a', s') ∧ lo ≤ v ∧ (v ≤ hi ∨ v = lo) ∧ DOK l a' := by
  unfold wayzgoosekit_Dice_From.f
  rw [w64s (by omega) (by omega)]
  obtain ⟨v, a', s', h1, h2, h3, h4⟩ := to_ok (s := s) (n := hi - lo) h (by omega)
  rw [h1]
  simp only [Option.bind_some]
  rw [w64s (by omega) (by omega)]
  exact ⟨_, _, _, rfl, by omega, by omega, h4⟩
theorem once_ok {l : List Int} {a s n : Int} (h : DOK l a) (hn : -1000000 ≤ n) (hn2 : n < 1000000) : ∃ v a' s', wayzgoosekit_Dice_Once.f l a s n = some (v, a', s') ∧ DOK l a' := by
  unfold wayzgoosekit_Dice_Once.f
  rw [w64s (by omega) (by omega)]
  obtain ⟨v, a', s', h1, h2, h3, h4⟩ := to_ok (s := s) (n := n - 1) h (by omega)
  rw [h1]
  exact ⟨_, _, _, rfl, h4⟩

/-! ### Order -/
theorem set_set_perm (l : List Int) (i j : Nat) (hi : i < l.length) (hj : j < l.length) : ((l.set i (l.getD j 0)).set j (l.getD i 0)).Perm l := by
  have gi : l.getD i 0 = l[i] := by simp [List.getD_eq_getElem?_getD, hi]
  have gj : l.getD j 0 = l[j] := by simp [List.getD_eq_getElem?_getD, hj]
  rw [gi, gj, List.perm_iff_count]
  intro x
  have hi' : i < (l.set i l[j]).length := by rw [List.length_set]; exact hi
  have hj' : j < (l.set i l[j]).length := by rw [List.length_set]; exact hj
  have e1 := List.count_set (a := l[i]) (b := x) hj'
  have e2 := List.count_set (a := l[j]) (b := x) hi
  rw [e1, e2]
  have ci : (if (l[i] == x) = true then 1 else 0) ≤ List.count x l := by
    split
    · rename_i h
      have : l[i] = x := by simpa using h
      exact List.count_pos_iff.2 (this ▸ List.getElem_mem hi)
    · omega
  by_cases hij : i = j
  · subst hij
    simp only [List.getElem_set_self]
    split <;> rename_i h <;> simp_all
  · simp only [List.getElem_set_ne hij]
    have cj : (if (l[j] == x) = true then 1 else 0) ≤ List.count x l - (if (l[i] == x) = true then 1 else 0) + (if (l[j] == x) = true then 1 else 0) := by omega
    omega
theorem order_l1 {l : List Int} (d : Nat) : ∀ (p : List Int) (x a s : Int), DOK l a → x = d → (d : Int) < p.length ∨ d = 0 → p.length < 1000000 →
    ∃ q a' s', Ev (fun k => wayzgoosekit_Dice_Order.l1 k p x l a s) (q, a', s') ∧ q.Perm p ∧ DOK l a' := by
  induction d with
  | zero =>
    intro p x a s h hx hd hp
    refine ⟨p, a, s, Ev.last (fun k => ?_), List.Perm.refl _, h⟩
    simp only [wayzgoosekit_Dice_Order.l1]
    rw [if_neg (by omega)]
  | succ d ih =>
    intro p x a s h hx hd hp
    obtain ⟨v, a1, s1, hr, h0, h1, hd1⟩ := to_ok' (s := s) (n := x) h (by omega) (by omega)
    have hxl : x.toNat < p.length := by omega
    have hvl : v.toNat < p.length := by omega
    have hperm := set_set_perm p x.toNat v.toNat hxl hvl
    obtain ⟨q, a', s', he, hq, hdk⟩ := ih ((p.set x.toNat (rd p v)).set v.toNat (rd p x)) (x - 1) a1 s1 hd1 (by omega) (by simp only [List.length_set]; omega) (by simp only [List.length_set]; exact hp)
    refine ⟨q, a', s', Ev.step (fun k => ?_) he, hq.trans hperm, hdk⟩
    simp only [wayzgoosekit_Dice_Order.l1]
    rw [if_pos (by omega), hr]
    simp only [Option.bind_some]
    rw [if_pos (by omega), if_pos (by omega), if_pos (by omega), if_pos (by omega), w64s (by omega) (by omega)]
theorem order_ok {l : List Int} {a s : Int} (n : Nat) (h : DOK l a) (hn : n < 1000000) (h1 : 1 ≤ n) : ∃ q a' s', Ev (fun k => wayzgoosekit_Dice_Order.f k l a s n) (q, a', s') ∧ q.Perm (nats n) ∧ DOK l a' := by
  have key : ∀ (d i : Nat), i + d = n → ∃ q a' s', Ev (fun k => wayzgoosekit_Dice_Order.l0 k n (nats i) i l a s) (q, a', s') ∧ q.Perm (nats n) ∧ DOK l a' := by
    intro d
    induction d with
    | zero =>
      intro i hi
      obtain rfl : i = n := by omega
      have hlen : (nats i).length = i := by simp [nats]
      obtain ⟨q, a', s', he, hq, hd⟩ := order_l1 (l := l) (i - 1) (nats i) ((i : Int) - 1) a s h (by omega) (by rw [hlen]; omega) (by rw [hlen]; exact hn)
      refine ⟨q, a', s', Ev.step (fun k => ?_) he, hq, hd⟩
      simp only [wayzgoosekit_Dice_Order.l0]
      rw [if_neg (by omega), w64s (by omega) (by omega)]
    | succ d ih =>
      intro i hi
      obtain ⟨q, a', s', he, hq, hd⟩ := ih (i + 1) (by omega)
      have hlen : (nats i).length = i := by simp [nats]
      have hsucc : nats (i + 1) = nats i ++ [(i : Int)] := by simp [nats, List.range_succ]
      refine ⟨q, a', s', Ev.step (fun k => ?_) he, hq, hd⟩
      simp only [wayzgoosekit_Dice_Order.l0]
      rw [if_pos (by omega), if_pos (by rw [hlen]; omega), w64s (by omega) (by omega), hsucc, Int.natCast_add]
      rfl
  exact key n 0 (by omega)

/-! ### Index -/
/-- the first index of x from i on, -1 -/
def idxFrom (x : Int) : List Int → Int → Int
  | [], _ => -1
  | y :: t, i => if y = x then i else idxFrom x t (i + 1)
def idxT (l : List Int) (x : Int) : Int := idxFrom x l 0
theorem index_ok (l : List Int) (x : Int) (hl : l.length < 4611686018427387904) : Ev (fun k => wayzgoosekit_Index.f k l x) (idxT l x) := by
  have key : ∀ (d i : Nat), i + d = l.length → Ev (fun k => wayzgoosekit_Index.l0 k l x i) (idxFrom x (l.drop i) i) := by
    intro d
    induction d with
    | zero =>
      intro i hi
      rw [List.drop_of_length_le (by omega)]
      refine Ev.last (fun k => ?_)
      simp only [wayzgoosekit_Index.l0]
      rw [if_neg (by omega)]
      rfl
    | succ d ih =>
      intro i hi
      have hil : i < l.length := by omega
      rw [List.drop_eq_getElem_cons hil]
      have hrd : rd l (i : Int) = l[i] := by simp [rd, List.getD_eq_getElem?_getD, hil]
      by_cases c : l[i] = x
      · refine Ev.last (fun k => ?_)
        simp only [wayzgoosekit_Index.l0, idxFrom]
        rw [if_pos (by omega), if_pos (by omega), hrd, if_pos c, if_pos c]
      · refine Ev.step (fun k => ?_) (show Ev _ (idxFrom x (l[i] :: l.drop (i + 1)) i) by rw [idxFrom, if_neg c]; exact ih (i + 1) (by omega))
        simp only [wayzgoosekit_Index.l0]
        rw [if_pos (by omega), if_pos (by omega), hrd, if_neg c, w64s (by omega) (by omega)]
        rfl
  exact key l.length 0 (by omega)
theorem idxFrom_spec (x : Int) : ∀ (l : List Int) (i : Int), (x ∉ l ∧ idxFrom x l i = -1) ∨ (∃ j : Nat, j < l.length ∧ l.getD j 0 = x ∧ (∀ m, m < j → l.getD m 0 ≠ x) ∧ idxFrom x l i = i + j)
  | [], i => .inl ⟨by simp, rfl⟩
  | y :: t, i => by
    by_cases c : y = x
    · exact .inr ⟨0, by simp, by simpa using c, fun m hm => by omega, by simp [idxFrom, c]⟩
    · rcases idxFrom_spec x t (i + 1) with ⟨h1, h2⟩ | ⟨j, h1, h2, h3, h4⟩
      · exact .inl ⟨by simp [h1, Ne.symm c], by rw [idxFrom, if_neg c, h2]⟩
      · refine .inr ⟨j + 1, by simp; omega, by simpa using h2, fun m hm => ?_, by rw [idxFrom, if_neg c, h4]; omega⟩
        cases m with
        | zero => simpa using c
        | succ m => simpa using h3 m (by omega)
theorem idxT_spec (l : List Int) (x : Int) : (x ∉ l ∧ idxT l x = -1) ∨ (∃ j : Nat, j < l.length ∧ l.getD j 0 = x ∧ (∀ m, m < j → l.getD m 0 ≠ x) ∧ idxT l x = j) := by
  have := idxFrom_spec x l 0
  simpa [idxT] using this
theorem idxT_nonneg (l : List Int) (x : Int) : 0 ≤ idxT l x ↔ x ∈ l := by
  rcases idxT_spec l x with ⟨h1, h2⟩ | ⟨j, h1, h2, h3, h4⟩
  · rw [h2]; simp [h1]
  · rw [h4]
    refine ⟨fun _ => ?_, fun _ => by omega⟩
    rw [← h2, List.getD_eq_getElem?_getD, List.getElem?_eq_getElem h1]
    exact List.getElem_mem h1
end Go.Proofs.Ytfbimhnlcmdcpaa.Q
/- Trades that are made of numbers are valid. -/
namespace Go.Proofs.Ytfbimhnlcmdcpaa.Q
open Go.RowKit Go.Proofs.Ytfbimhnlcmdcpaa.Pa Go.Proofs.YtfbimhnlcmdcpaaW.PrintWords Go.Proofs.YtfbimhnlcmdcpaaW.PrintLast Go.Proofs.YtfbimhnlcmdcpaaW.PrintMore
set_option linter.unusedVariables false

/-! ### partOf -/
theorem nats_mem (n : Nat) (x : Int) : x ∈ nats n ↔ 0 ≤ x ∧ x < n := by
  unfold nats
  simp only [List.mem_map, List.mem_range]
  constructor
  · rintro ⟨m, hm, rfl⟩
    exact ⟨by simp, by simpa using hm⟩
  · rintro ⟨h0, h1⟩
    exact ⟨x.toNat, by omega, by simp; omega⟩
theorem nats_pairwise (n : Nat) : (nats n).Pairwise (· < ·) := by
  unfold nats
  rw [List.pairwise_map]
  exact (List.pairwise_lt_range).imp (fun h => by simpa using h)
theorem nats_nodup (n : Nat) : (nats n).Nodup := (nats_pairwise n).imp (fun h => by omega)
theorem nats_snoc (n : Nat) : nats (n + 1) = nats n ++ [(n : Int)] := by simp [nats, List.range_succ]
theorem idx_take (p : List Int) (x : Int) (m : Int) (hx : x ∈ p) (hm : idxT p x < m) : x ∈ p.take m.toNat := by
  rcases idxT_spec p x with ⟨h1, h2⟩ | ⟨j, h1, h2, h3, h4⟩
  · exact absurd hx h1
  · rw [h4] at hm
    have : p[j]? = some x := by
      rw [List.getElem?_eq_getElem h1, ← h2, List.getD_eq_getElem?_getD, List.getElem?_eq_getElem h1]
      rfl
    refine List.mem_of_getElem? (i := j) ?_
    rw [List.getElem?_take_of_lt (by omega), this]
theorem part_len (n : Nat) (p : List Int) (m : Int) (hp : p.Perm (nats n)) : ((nats n).filter (fun i => decide (idxT p i < m))).length ≤ m.toNat := by
  have hnd : p.Nodup := hp.nodup_iff.2 (nats_nodup n)
  have h1 : ((nats n).filter (fun i => decide (idxT p i < m))).length = (p.filter (fun i => decide (idxT p i < m))).length := (hp.symm.filter _).length_eq
  rw [h1]
  have h2 : (p.filter (fun i => decide (idxT p i < m))).length ≤ (p.filter (fun i => decide (i ∈ p.take m.toNat))).length := by
    rw [← List.countP_eq_length_filter, ← List.countP_eq_length_filter]
    exact List.countP_mono_left (fun x hx h => by simpa using idx_take p x m hx (by simpa using h))
  refine Nat.le_trans h2 ?_
  have h3 : p.filter (fun i => decide (i ∈ p.take m.toNat)) = (p.take m.toNat).filter (fun i => decide (i ∈ p.take m.toNat)) ++ (p.drop m.toNat).filter (fun i => decide (i ∈ p.take m.toNat)) := by
    conv => lhs; rw [show p.filter (fun i => decide (i ∈ p.take m.toNat)) = ((p.take m.toNat) ++ (p.drop m.toNat)).filter (fun i => decide (i ∈ p.take m.toNat)) by rw [List.take_append_drop]]
    rw [List.filter_append]
  have h4 : (p.drop m.toNat).filter (fun i => decide (i ∈ p.take m.toNat)) = [] := by
    rw [List.filter_eq_nil_iff]
    intro x hx h
    have hd : (p.take m.toNat ++ p.drop m.toNat).Nodup := by rw [List.take_append_drop]; exact hnd
    rw [List.nodup_append] at hd
    exact hd.2.2 x (by simpa using h) x hx rfl
  rw [h3, h4, List.append_nil]
  refine Nat.le_trans (List.length_filter_le _ _) ?_
  rw [List.length_take]
  omega
/-- Ascending numbers below n. -/
structure Asc (ws : List Int) (n : Nat) : Prop where
  lt : ws.Pairwise (· < ·)
  mem : ∀ x ∈ ws, 0 ≤ x ∧ x < n
theorem part_ok {l : List Int} {a s : Int} (n : Nat) (m : Int) (h : DOK l a) (hn : n < 1000000) (h1 : 1 ≤ n) (hm : 0 ≤ m) : ∃ ws a' s', Ev (fun k => wayzgoosekit_partOf.f k l a s n m) (ws, a', s') ∧ Asc ws n ∧ ws.length ≤ m.toNat ∧ DOK l a' := by
  obtain ⟨p, a1, s1, he, hp, hd⟩ := order_ok (s := s) n h hn h1
  have hpl : p.length = n := by rw [hp.length_eq]; simp [nats]
  have key : ∀ (d i : Nat), i + d = n → Ev (fun k => wayzgoosekit_partOf.l0 k n m p ((nats i).filter (fun i => decide (idxT p i < m))) i l a1 s1) ((nats n).filter (fun i => decide (idxT p i < m)), a1, s1) := by
    intro d
    induction d with
    | zero =>
      intro i hi
      obtain rfl : i = n := by omega
      refine Ev.last (fun k => ?_)
      simp only [wayzgoosekit_partOf.l0]
      rw [if_neg (by omega)]
    | succ d ih =>
      intro i hi
      have hlen : ((nats i).filter (fun i => decide (idxT p i < m))).length ≤ i := Nat.le_trans (List.length_filter_le _ _) (by simp [nats])
      have ih := ih (i + 1) (by omega)
      rw [nats_snoc, List.filter_append] at ih
      by_cases c : idxT p i < m
      · have e1 : [(i : Int)].filter (fun i => decide (idxT p i < m)) = [(i : Int)] := by simp [c]
        rw [e1] at ih
        refine Ev.step (f := fun k => (wayzgoosekit_Index.f k p i).bind fun t => if t < m then (if ((nats i).filter (fun i => decide (idxT p i < m))).length < 17592186044416 then wayzgoosekit_partOf.l0 k n m p ((nats i).filter (fun i => decide (idxT p i < m)) ++ [(i : Int)]) ((i + 1 : Nat) : Int) l a1 s1 else none) else wayzgoosekit_partOf.l0 k n m p ((nats i).filter (fun i => decide (idxT p i < m))) ((i + 1 : Nat) : Int) l a1 s1) (fun k => ?_) ?_
        · simp only [wayzgoosekit_partOf.l0]
          rw [if_pos (by omega), w64s (by omega) (by omega)]
          rfl
        · refine Ev.bind (index_ok p i (by omega)) ?_
          refine Ev.congr (fun k => ?_) ih
          rw [if_pos c, if_pos (by omega)]
      · have e1 : [(i : Int)].filter (fun i => decide (idxT p i < m)) = [] := by simp [c]
        rw [e1, List.append_nil] at ih
        refine Ev.step (f := fun k => (wayzgoosekit_Index.f k p i).bind fun t => if t < m then (if ((nats i).filter (fun i => decide (idxT p i < m))).length < 17592186044416 then wayzgoosekit_partOf.l0 k n m p ((nats i).filter (fun i => decide (idxT p i < m)) ++ [(i : Int)]) ((i + 1 : Nat) : Int) l a1 s1 else none) else wayzgoosekit_partOf.l0 k n m p ((nats i).filter (fun i => decide (idxT p i < m))) ((i + 1 : Nat) : Int) l a1 s1) (fun k => ?_) ?_
        · simp only [wayzgoosekit_partOf.l0]
          rw [if_pos (by omega), w64s (by omega) (by omega)]
          rfl
        · refine Ev.bind (index_ok p i (by omega)) ?_
          refine Ev.congr (fun k => ?_) ih
          rw [if_neg c]
  refine ⟨_, _, _, Ev.bind (f := fun k (x : List Int × Int × Int) => wayzgoosekit_partOf.l0 k n m x.1 [] 0 l x.2.1 x.2.2) he (key n 0 (by omega)), ⟨?_, ?_⟩, part_len n p m hp, hd⟩
  · exact (nats_pairwise n).filter _
  · intro x hx
    exact (nats_mem n x).1 (List.mem_filter.1 hx).1
end Go.Proofs.Ytfbimhnlcmdcpaa.Q
/- TradesOf: it gives trades, and they are valid. -/
namespace Go.Proofs.Ytfbimhnlcmdcpaa.Q
open Go.RowKit Go.Proofs.Ytfbimhnlcmdcpaa.Pa Go.Proofs.YtfbimhnlcmdcpaaW.PrintWords Go.Proofs.YtfbimhnlcmdcpaaW.PrintLast Go.Proofs.YtfbimhnlcmdcpaaW.PrintMore
set_option linter.unusedVariables false
set_option linter.unusedSimpArgs false

def sortsL : List ByteArray := (wayzgoosekit_sorts.f).getD []
def callL : List ByteArray := (wayzgoosekit_callings.f).getD []
theorem sorts_f : wayzgoosekit_sorts.f = some sortsL := by kernel_rfl
theorem call_f : wayzgoosekit_callings.f = some callL := by kernel_rfl
theorem sorts_len : sortsL.length = 9 := by kernel_rfl
theorem call_len : callL.length = 16 := by kernel_rfl
def sortAt (i : Int) : ByteArray := rdOf ByteArray.empty sortsL i
def callAt (i : Int) : ByteArray := rdOf ByteArray.empty callL i
def allTwo (n : Nat) (f : Int → Int → Bool) : Bool := (List.range n).all fun i => (List.range n).all fun j => f i j
theorem allTwo_spec {n : Nat} {f : Int → Int → Bool} (h : allTwo n f = true) (i j : Int) (hi : 0 ≤ i) (hi2 : i < n) (hj : 0 ≤ j) (hj2 : j < n) : f i j = true := by
  unfold allTwo at h
  rw [List.all_eq_true] at h
  have h1 := h i.toNat (List.mem_range.2 (by omega))
  rw [List.all_eq_true] at h1
  have h2 := h1 j.toNat (List.mem_range.2 (by omega))
  rwa [show ((i.toNat : Nat) : Int) = i by omega, show ((j.toNat : Nat) : Int) = j by omega] at h2
theorem sorts_all : allTwo 9 (fun i j => wordOk (sortAt i) && (decide (i = j) || !sEq (sortAt i) (sortAt j))) = true := by kernel_rfl
theorem call_all : allTwo 16 (fun i j => wordOk (callAt i) && (decide (i = j) || !sEq (callAt i) (callAt j)) && (!decide (i < j) || (sLt (callAt i) (callAt j) && !sLt (callAt j) (callAt i)))) = true := by kernel_rfl
theorem sort_word (i : Int) (h0 : 0 ≤ i) (h1 : i < 9) : wordOk (sortAt i) = true := by
  have := allTwo_spec sorts_all i i h0 h1 h0 h1
  simp only [Bool.and_eq_true] at this
  exact this.1
theorem sort_ne (i j : Int) (h0 : 0 ≤ i) (h1 : i < 9) (g0 : 0 ≤ j) (g1 : j < 9) (hne : i ≠ j) : sEq (sortAt i) (sortAt j) = false := by
  have := allTwo_spec sorts_all i j h0 h1 g0 g1
  simp only [Bool.and_eq_true] at this
  simpa [hne] using this.2
theorem call_word (i : Int) (h0 : 0 ≤ i) (h1 : i < 16) : wordOk (callAt i) = true := by
  have := allTwo_spec call_all i i h0 h1 h0 h1
  simp only [Bool.and_eq_true] at this
  exact this.1.1
theorem call_ne (i j : Int) (h0 : 0 ≤ i) (h1 : i < 16) (g0 : 0 ≤ j) (g1 : j < 16) (hne : i ≠ j) : sEq (callAt i) (callAt j) = false := by
  have := allTwo_spec call_all i j h0 h1 g0 g1
  simp only [Bool.and_eq_true] at this
  simpa [hne] using this.1.2
theorem call_lt (i j : Int) (h0 : 0 ≤ i) (g1 : j < 16) (hlt : i < j) : sLt (callAt i) (callAt j) = true ∧ sLt (callAt j) (callAt i) = false := by
  have := allTwo_spec call_all i j h0 (by omega) (by omega) g1
  simp only [Bool.and_eq_true] at this
  simpa [hlt] using this.2

/-! ### classes -/
structure ClsOK (p : List Int) (cs : List Cl) : Prop where
  name : ∀ i, i < cs.length → (cs.getD i zCl).f0 = sortAt (p.getD i 0)
  under : ∀ i, i < cs.length → -1 ≤ (cs.getD i zCl).f1 ∧ (cs.getD i zCl).f1 < (i : Int)
theorem ClsOK.snoc {p : List Int} {cs : List Cl} (h : ClsOK p cs) (u : Int) (h0 : -1 ≤ u) (h1 : u < (cs.length : Int)) : ClsOK p (cs ++ [⟨sortAt (p.getD cs.length 0), u⟩]) := by
  constructor
  · intro i hi
    rw [List.length_append, List.length_singleton] at hi
    rcases Nat.lt_or_ge i cs.length with hlt | hge
    · rw [List.getD_eq_getElem?_getD, List.getElem?_append_left hlt, ← List.getD_eq_getElem?_getD]; exact h.name i hlt
    · obtain rfl : i = cs.length := by omega
      simp [List.getD_eq_getElem?_getD]
  · intro i hi
    rw [List.length_append, List.length_singleton] at hi
    rcases Nat.lt_or_ge i cs.length with hlt | hge
    · rw [List.getD_eq_getElem?_getD, List.getElem?_append_left hlt, ← List.getD_eq_getElem?_getD]; exact h.under i hlt
    · obtain rfl : i = cs.length := by omega
      simp [List.getD_eq_getElem?_getD]
      omega
theorem any_false {α : Type} {l : List α} {f : α → Bool} (h : ∀ x ∈ l, f x = false) : l.any f = false := by
  rw [List.any_eq_false]
  intro x hx
  rw [h x hx]
  simp
theorem mem_take_getD {α : Type} (l : List α) (z : α) (i : Nat) (x : α) (h : x ∈ l.take i) : ∃ j, j < i ∧ j < l.length ∧ l.getD j z = x := by
  obtain ⟨j, hj, rfl⟩ := List.mem_iff_getElem.1 h
  rw [List.length_take] at hj
  exact ⟨j, by omega, by omega, by rw [List.getElem_take, List.getD_eq_getElem?_getD, List.getElem?_eq_getElem (by omega)]; rfl⟩
theorem perm_at {p : List Int} {n : Nat} (hp : p.Perm (nats n)) (i : Nat) (hi : i < n) : i < p.length ∧ 0 ≤ p.getD i 0 ∧ p.getD i 0 < n := by
  have hl : p.length = n := by rw [hp.length_eq]; simp [nats]
  have : p.getD i 0 ∈ p := by rw [List.getD_eq_getElem?_getD, List.getElem?_eq_getElem (by omega)]; exact List.getElem_mem _
  have := (nats_mem n _).1 (hp.mem_iff.1 this)
  exact ⟨by omega, this.1, this.2⟩
theorem perm_ne {p : List Int} {n : Nat} (hp : p.Perm (nats n)) (i j : Nat) (hi : i < n) (hj : j < n) (hne : i ≠ j) : p.getD i 0 ≠ p.getD j 0 := by
  have hl : p.length = n := by rw [hp.length_eq]; simp [nats]
  have hnd : p.Nodup := hp.nodup_iff.2 (nats_nodup n)
  rw [List.getD_eq_getElem?_getD, List.getElem?_eq_getElem (by omega), List.getD_eq_getElem?_getD, List.getElem?_eq_getElem (by omega)]
  simp only [Option.getD_some]
  rcases Nat.lt_or_gt_of_ne hne with h | h
  · exact List.pairwise_iff_getElem.1 hnd i j _ _ h
  · exact (List.pairwise_iff_getElem.1 hnd j i _ _ h).symm
theorem ClsOK.err {p : List Int} {cs : List Cl} (hp : p.Perm (nats 9)) (hl : cs.length ≤ 9) (h : ClsOK p cs) (i : Nat) (hi : i < cs.length) : classErr cs i = 0 := by
  unfold classErr
  obtain ⟨h1, h2, h3⟩ := perm_at hp i (by omega)
  rw [h.name i hi, if_neg (by rw [sort_word _ h2 h3]; simp)]
  rw [if_neg, if_neg, if_neg]
  · have := (h.under i hi).2; omega
  · have := h.under i hi
    omega
  · rw [any_false]
    · simp
    intro y hy
    obtain ⟨j, hj, hjl, rfl⟩ := mem_take_getD cs zCl i y hy
    obtain ⟨g1, g2, g3⟩ := perm_at hp j (by omega)
    rw [h.name j hjl]
    exact sort_ne _ _ g2 g3 h2 h3 (perm_ne hp j i (by omega) (by omega) (by omega))

/-! ### headings -/
structure HdOK (nc n i : Nat) (w : Int) (x : Hd) : Prop where
  word : x.f0 = callAt w
  cls : -1 ≤ x.f1 ∧ x.f1 < nc
  see : x.f2 = -1 ∨ (0 ≤ x.f2 ∧ x.f2 < n ∧ x.f2 ≠ i)
  ptr : x.f2 ≠ -1 → x.f1 = -1 ∧ x.f3 = []
  idx : x.f2 = -1 → x.f1 = -1 → x.f3 ≠ []
  asc : x.f3.Pairwise (· < ·)
  also : ∀ y ∈ x.f3, 0 ≤ y ∧ y < n ∧ y ≠ i
def HdsOK (nc n : Nat) (ws : List Int) (hs : List Hd) : Prop := ∀ i, i < hs.length → HdOK nc n i (ws.getD i 0) (hs.getD i zHd)
theorem HdsOK.snoc {nc n : Nat} {ws : List Int} {hs : List Hd} {x : Hd} (h : HdsOK nc n ws hs) (hx : HdOK nc n hs.length (ws.getD hs.length 0) x) : HdsOK nc n ws (hs ++ [x]) := by
  intro i hi
  rw [List.length_append, List.length_singleton] at hi
  rcases Nat.lt_or_ge i hs.length with hlt | hge
  · rw [List.getD_eq_getElem?_getD (l := hs ++ [x]), List.getElem?_append_left hlt, ← List.getD_eq_getElem?_getD]; exact h i hlt
  · obtain rfl : i = hs.length := by omega
    rw [List.getD_eq_getElem?_getD (l := hs ++ [x]), List.getElem?_append_right (Nat.le_refl _), Nat.sub_self]
    exact hx
theorem asc_at {ws : List Int} {n : Nat} (h : Asc ws n) (i : Nat) (hi : i < ws.length) : 0 ≤ ws.getD i 0 ∧ ws.getD i 0 < n := by
  rw [List.getD_eq_getElem?_getD, List.getElem?_eq_getElem hi]
  exact h.mem _ (List.getElem_mem hi)
theorem asc_lt {ws : List Int} (h : ws.Pairwise (· < ·)) (i j : Nat) (hij : i < j) (hj : j < ws.length) : ws.getD i 0 < ws.getD j 0 := by
  rw [List.getD_eq_getElem?_getD, List.getElem?_eq_getElem (by omega), List.getD_eq_getElem?_getD, List.getElem?_eq_getElem hj]
  exact List.pairwise_iff_getElem.1 h i j (by omega) hj hij
theorem alsoErr_zero {n i : Nat} {l : List Int} (hl : l.Pairwise (· < ·)) (hm : ∀ y ∈ l, 0 ≤ y ∧ y < n ∧ y ≠ i) : ∀ (m k : Nat), k + m ≤ l.length → alsoErr n i l m k = 0
  | 0, k, _ => rfl
  | m + 1, k, h => by
    have hk : k < l.length := by omega
    have hmem : l.getD k 0 ∈ l := by rw [List.getD_eq_getElem?_getD, List.getElem?_eq_getElem hk]; exact List.getElem_mem hk
    have h1 := hm _ hmem
    unfold alsoErr
    rw [if_neg (by omega), if_neg (by omega), if_neg, alsoErr_zero hl hm m (k + 1) (by omega)]
    rintro ⟨h2, h3⟩
    have := asc_lt hl (k - 1) k (by omega) hk
    omega
theorem HdsOK.err {nc : Nat} {cs : List Cl} {ws : List Int} {hs : List Hd} (hw : Asc ws 16) (hc : cs.length = nc) (hn : hs.length = ws.length) (h : HdsOK nc hs.length ws hs) (i : Nat) (hi : i < hs.length) : headErr cs hs i = 0 := by
  have hx := h i hi
  obtain ⟨w0, w1⟩ := asc_at hw i (by omega)
  unfold headErr
  rw [hx.word, if_neg (by rw [call_word _ w0 (by omega)]; simp)]
  rw [if_neg]
  · rw [if_neg]
    · rw [if_neg (by have := hx.cls; omega), if_neg (by have := hx.see; omega), if_neg (by have := hx.see; omega), if_neg, ]
      · unfold kindErr
        rw [if_neg]
        rintro (⟨h1, h2⟩ | ⟨h1, h2, h3⟩)
        · have := hx.ptr h1
          rw [this.2] at h2
          rcases h2 with h2 | h2
          · exact h2 this.1
          · simp at h2
        · exact hx.idx h1 h2 (List.length_eq_zero_iff.1 h3)
      · rw [alsoErr_zero hx.asc hx.also _ _ (by omega)]
        simp
    · rintro ⟨h0, h1⟩
      have hy := h (i - 1) (by omega)
      rw [hy.word, (call_lt _ _ (asc_at hw (i - 1) (by omega)).1 (by omega) (asc_lt hw.lt (i - 1) i (by omega) (by omega))).2] at h1
      cases h1
  · rw [any_false]
    · simp
    intro y hy
    obtain ⟨j, hj, hjl, rfl⟩ := mem_take_getD hs zHd i y hy
    obtain ⟨g0, g1⟩ := asc_at hw j (by omega)
    have hlt := asc_lt hw.lt j i hj (by omega)
    rw [(h j hjl).word]
    exact call_ne _ _ g0 (by omega) w0 (by omega) (by omega)
theorem firstErr_none {g : Nat → Int} : ∀ (m i : Nat), (∀ j, i ≤ j → j < i + m → g j = 0) → firstErr g m i = 0
  | 0, i, _ => rfl
  | m + 1, i, h => by
    unfold firstErr
    rw [if_neg (by rw [h i (Nat.le_refl _) (by omega)]; simp)]
    exact firstErr_none m (i + 1) (fun j h1 h2 => h j (by omega) (by omega))
theorem made_valid {p : List Int} {cs : List Cl} {ws : List Int} {hs : List Hd} (hp : p.Perm (nats 9)) (hc6 : cs.length ≤ 6) (hh6 : hs.length ≤ 6) (hc : ClsOK p cs) (hw : Asc ws 16) (hn : hs.length = ws.length) (h : HdsOK cs.length hs.length ws hs) : checkT cs hs = 0 := by
  unfold checkT
  rw [if_neg (by omega), firstErr_none _ _ (fun j _ hj => hc.err hp (by omega) j (by omega)), if_neg (by simp), firstErr_none _ _ (fun j _ hj => h.err hw rfl hn j (by omega))]
end Go.Proofs.Ytfbimhnlcmdcpaa.Q
/- TradesOf gives trades, and they are valid. -/
namespace Go.Proofs.Ytfbimhnlcmdcpaa.Q
open Go.RowKit Go.Proofs.Ytfbimhnlcmdcpaa.Pa Go.Proofs.YtfbimhnlcmdcpaaW.PrintWords Go.Proofs.YtfbimhnlcmdcpaaW.PrintLast Go.Proofs.YtfbimhnlcmdcpaaW.PrintMore
set_option linter.unusedVariables false
set_option linter.unusedSimpArgs false

abbrev TRes := List Cl × List Hd × Int × Int
/-- The loop on headings comes to n headings that are in order. -/
def HRes (l : List Int) (ws : List Int) (cs : List Cl) (n : Nat) (g : Nat → Option TRes) : Prop :=
  ∃ hs a s, Ev g (cs, hs, a, s) ∧ hs.length = n ∧ HdsOK cs.length n ws hs ∧ DOK l a
theorem HRes.step {l ws : List Int} {cs : List Cl} {n : Nat} {g f : Nat → Option TRes} (h : ∀ k, g (k + 1) = f k) (hf : HRes l ws cs n f) : HRes l ws cs n g := by
  obtain ⟨hs, a, s, he, h1, h2, h3⟩ := hf
  exact ⟨hs, a, s, Ev.step h he, h1, h2, h3⟩
theorem HRes.congr {l ws : List Int} {cs : List Cl} {n : Nat} {g f : Nat → Option TRes} (h : ∀ k, g k = f k) (hf : HRes l ws cs n f) : HRes l ws cs n g := by
  obtain ⟨hs, a, s, he, h1, h2, h3⟩ := hf
  exact ⟨hs, a, s, Ev.congr h he, h1, h2, h3⟩

structure Env (l : List Int) (ws : List Int) (cs : List Cl) (n : Nat) : Prop where
  asc : Asc ws 16
  len : ws.length = n
  pos : 1 ≤ cs.length
  le : cs.length ≤ 6
  n6 : n ≤ 6

/-- What is laid for heading i so far. -/
theorem l2_ok {l ws : List Int} {cs : List Cl} {n : Nat} (E : Env l ws cs n) (i : Nat) (hi : i < n) (hs : List Hd) (hl : hs.length = i) (hok : HdsOK cs.length n ws hs) (u : Int) (hu0 : 0 ≤ u) (hu1 : u < cs.length)
    (ih : ∀ hs' a s, hs'.length = i + 1 → HdsOK cs.length n ws hs' → DOK l a → HRes l ws cs n (fun k => wayzgoosekit_TradesOf.l1 k ws n ((i : Int) + 1) l a s cs hs')) :
    ∀ (e j : Nat) (ul : List Int) (a s : Int), j + e = n → ul.Pairwise (· < ·) → (∀ y ∈ ul, 0 ≤ y ∧ y < j ∧ y ≠ i) → ul.length ≤ j → DOK l a →
      HRes l ws cs n (fun k => wayzgoosekit_TradesOf.l2 k ws n i j l a s cs hs (callAt (ws.getD i 0)) u (-1) ul) := by
  have hn6 := E.n6
  have hws := E.len
  intro e
  induction e with
  | zero =>
    intro j ul a s hj hp hm hul hd
    obtain rfl : j = n := by omega
    have hfin : ∀ c : Int, (c = u ∨ (c = -1 ∧ ul ≠ [])) → HdsOK cs.length j ws (hs ++ [⟨callAt (ws.getD i 0), c, -1, ul⟩]) := by
      intro c hc
      refine HdsOK.snoc hok ?_
      rw [hl]
      refine ⟨rfl, by show -1 ≤ c ∧ c < _; omega, .inl rfl, fun h => absurd rfl h, fun _ h1 => ?_, hp, fun y hy => hm y hy⟩
      rcases hc with hc | hc
      · have h1 : c = -1 := h1
        omega
      · exact hc.2
    by_cases c : (ul.length : Int) > 0
    · obtain ⟨b, a', s', hr, hd'⟩ := once_ok (s := s) (n := 4) hd (by omega) (by omega)
      have hne : ul ≠ [] := by rintro rfl; simp at c
      cases b with
      | true =>
        refine HRes.step (fun k => ?_) (ih (hs ++ [⟨callAt (ws.getD i 0), -1, -1, ul⟩]) a' s' (by simp [hl]) (hfin (-1) (.inr ⟨rfl, hne⟩)) hd')
        simp only [wayzgoosekit_TradesOf.l2]
        rw [if_neg (by omega), if_pos c, hr]
        simp only [Option.bind_some, if_true]
        rw [if_pos (by omega), w64s (by omega) (by omega)]
      | false =>
        refine HRes.step (fun k => ?_) (ih (hs ++ [⟨callAt (ws.getD i 0), u, -1, ul⟩]) a' s' (by simp [hl]) (hfin u (.inl rfl)) hd')
        simp only [wayzgoosekit_TradesOf.l2]
        rw [if_neg (by omega), if_pos c, hr]
        simp only [Option.bind_some, Bool.false_eq_true, if_false]
        rw [if_pos (by omega), w64s (by omega) (by omega)]
    · refine HRes.step (fun k => ?_) (ih (hs ++ [⟨callAt (ws.getD i 0), u, -1, ul⟩]) a s (by simp [hl]) (hfin u (.inl rfl)) hd)
      simp only [wayzgoosekit_TradesOf.l2]
      rw [if_neg (by omega), if_neg c, if_pos (by omega), w64s (by omega) (by omega)]
  | succ e ihe =>
    intro j ul a s hj hp hm hul hd
    by_cases c : (j : Int) = i
    · refine HRes.step (fun k => ?_) (ihe (j + 1) ul a s (by omega) hp (fun y hy => by have := hm y hy; omega) (by omega) hd)
      simp only [wayzgoosekit_TradesOf.l2]
      rw [if_pos (by omega), if_pos c, w64s (by omega) (by omega)]
      rfl
    · obtain ⟨b, a', s', hr, hd'⟩ := once_ok (s := s) (n := 4) hd (by omega) (by omega)
      cases b with
      | true =>
        refine HRes.step (fun k => ?_) (ihe (j + 1) (ul ++ [(j : Int)]) a' s' (by omega) ?_ ?_ (by simp; omega) hd')
        · simp only [wayzgoosekit_TradesOf.l2]
          rw [if_pos (by omega), if_neg c, hr]
          simp only [Option.bind_some, if_true]
          rw [if_pos (by omega), w64s (by omega) (by omega)]
          rfl
        · rw [List.pairwise_append]
          refine ⟨hp, by simp, fun x hx y hy => ?_⟩
          rw [List.mem_singleton.1 hy]
          exact (hm x hx).2.1
        · intro y hy
          rcases List.mem_append.1 hy with hy | hy
          · have := hm y hy; omega
          · rw [List.mem_singleton.1 hy]; omega
      | false =>
        refine HRes.step (fun k => ?_) (ihe (j + 1) ul a' s' (by omega) hp (fun y hy => by have := hm y hy; omega) (by omega) hd')
        simp only [wayzgoosekit_TradesOf.l2]
        rw [if_pos (by omega), if_neg c, hr]
        simp only [Option.bind_some, Bool.false_eq_true, if_false]
        rw [w64s (by omega) (by omega)]
        rfl
theorem j2_ok {l ws : List Int} {cs : List Cl} {n : Nat} (E : Env l ws cs n) (i : Nat) (hi : i < n) (hs : List Hd) (hl : hs.length = i) (hok : HdsOK cs.length n ws hs) (u : Int) (hu0 : 0 ≤ u) (hu1 : u < cs.length) (b : Bool) (hb : b = true → 2 ≤ n) (a s : Int) (hd : DOK l a)
    (ih : ∀ hs' a s, hs'.length = i + 1 → HdsOK cs.length n ws hs' → DOK l a → HRes l ws cs n (fun k => wayzgoosekit_TradesOf.l1 k ws n ((i : Int) + 1) l a s cs hs')) :
    HRes l ws cs n (fun k => wayzgoosekit_TradesOf.j2 k ws n i b l a s cs hs (callAt (ws.getD i 0)) u (-1)) := by
  have hn6 := E.n6
  cases b with
  | true =>
    have hn2 := hb rfl
    obtain ⟨y, a', s', hr, y0, y1, hd'⟩ := to_ok' (s := s) (n := (n : Int) - 2) hd (by omega) (by omega)
    have e1 : wrap64 ((n : Int) - 2) = (n : Int) - 2 := w64s (by omega) (by omega)
    have e2 : wrap64 ((i : Int) + 1) = (i : Int) + 1 := w64s (by omega) (by omega)
    have e3 : wrap64 ((i : Int) + 1 + y) = (i : Int) + 1 + y := w64s (by omega) (by omega)
    have e4 : ((i : Int) + 1 + y).tmod n = ((i : Int) + 1 + y) % n := Int.tmod_eq_emod_of_nonneg (by omega)
    have h3 := Int.emod_nonneg ((i : Int) + 1 + y) (show (n : Int) ≠ 0 by omega)
    have h4 := Int.emod_lt_of_pos ((i : Int) + 1 + y) (show 0 < (n : Int) by omega)
    have h5 : ((i : Int) + 1 + y) % n ≠ i := by
      rcases (show ((i : Int) + 1 + y) < n ∨ (n : Int) ≤ (i : Int) + 1 + y by omega) with hlt | hge
      · rw [Int.emod_eq_of_lt (by omega) hlt]; omega
      · rw [← Int.sub_emod_right, Int.emod_eq_of_lt (by omega) (by omega)]; omega
    refine HRes.step (fun k => ?_) (ih (hs ++ [⟨callAt (ws.getD i 0), -1, ((i : Int) + 1 + y) % n, []⟩]) a' s' (by simp [hl]) ?_ hd')
    · simp only [wayzgoosekit_TradesOf.j2, if_true]
      rw [e1, hr]
      simp only [Option.bind_some]
      rw [if_neg (by omega), if_pos (by omega), e2, e3, e4]
    · refine HdsOK.snoc hok ?_
      rw [hl]
      exact ⟨rfl, by show (-1 : Int) ≤ -1 ∧ (-1 : Int) < (cs.length : Int); have := E.pos; omega, .inr ⟨h3, h4, h5⟩, fun _ => ⟨rfl, rfl⟩, fun h => by have h : ((i : Int) + 1 + y) % n = -1 := h; omega, List.Pairwise.nil, fun y hy => by simp at hy⟩
  | false =>
    refine HRes.step (fun k => ?_) (l2_ok E i hi hs hl hok u hu0 hu1 ih n 0 [] a s (by omega) List.Pairwise.nil (fun y hy => by simp at hy) (by simp) hd)
    simp only [wayzgoosekit_TradesOf.j2, Bool.false_eq_true, if_false]
    rfl
theorem l1_ok {l ws : List Int} {cs : List Cl} {n : Nat} (E : Env l ws cs n) : ∀ (d i : Nat) (hs : List Hd) (a s : Int), i + d = n → hs.length = i → HdsOK cs.length n ws hs → DOK l a → HRes l ws cs n (fun k => wayzgoosekit_TradesOf.l1 k ws n i l a s cs hs) := by
  have hn6 := E.n6
  have hws := E.len
  have hpos := E.pos
  have hle := E.le
  intro d
  induction d with
  | zero =>
    intro i hs a s hi hl hok hd
    refine ⟨hs, a, s, Ev.last (fun k => ?_), by omega, hok, hd⟩
    simp only [wayzgoosekit_TradesOf.l1]
    rw [if_neg (by omega)]
  | succ d ih =>
    intro i hs a s hi hl hok hd
    have ih' : ∀ hs' a s, hs'.length = i + 1 → HdsOK cs.length n ws hs' → DOK l a → HRes l ws cs n (fun k => wayzgoosekit_TradesOf.l1 k ws n ((i : Int) + 1) l a s cs hs') := fun hs' a s h1 h2 h3 => ih (i + 1) hs' a s (by omega) h1 h2 h3
    obtain ⟨w0, w1⟩ := asc_at E.asc i (by omega)
    have hrd : rd ws (i : Int) = ws.getD i 0 := by simp [rd]
    obtain ⟨u, a1, s1, hr, u0, u1, hd1⟩ := to_ok' (s := s) (n := (cs.length : Int) - 1) hd (by omega) (by omega)
    have e1 : wrap64 ((cs.length : Int) - 1) = (cs.length : Int) - 1 := w64s (by omega) (by omega)
    by_cases c : (n : Int) > 1
    · obtain ⟨b, a2, s2, ho, hd2⟩ := once_ok (s := s1) (n := 3) hd1 (by omega) (by omega)
      refine HRes.step (fun k => ?_) (j2_ok E i (by omega) hs hl hok u u0 (by omega) b (fun _ => by omega) a2 s2 hd2 ih')
      simp only [wayzgoosekit_TradesOf.l1]
      rw [if_pos (by omega), call_f]
      simp only [Option.bind_some]
      rw [if_pos (by omega), if_pos (by omega), hrd, if_pos w0, if_pos (by rw [call_len]; omega), e1, hr]
      simp only [Option.bind_some]
      rw [if_pos c, ho]
      rfl
    · refine HRes.step (fun k => ?_) (j2_ok E i (by omega) hs hl hok u u0 (by omega) false (fun h => by cases h) a1 s1 hd1 ih')
      simp only [wayzgoosekit_TradesOf.l1]
      rw [if_pos (by omega), call_f]
      simp only [Option.bind_some]
      rw [if_pos (by omega), if_pos (by omega), hrd, if_pos w0, if_pos (by rw [call_len]; omega), e1, hr]
      simp only [Option.bind_some]
      rw [if_neg c]
      rfl
/-- Made trades. -/
structure MadeT (cs : List Cl) (hs : List Hd) (c h : Int) : Prop where
  ok : checkT cs hs = 0
  pos : 1 ≤ cs.length
  cls : (cs.length : Int) ≤ c ∨ cs.length = 1
  hds : (hs.length : Int) ≤ h
theorem l0_ok {l : List Int} {p : List Int} (hp : p.Perm (nats 9)) (h : Int) (h0 : 0 ≤ h) (h6 : h ≤ 6) : ∀ (d : Nat) (cs : List Cl) (a s : Int), cs.length + d ≤ 6 → 1 ≤ cs.length + d → ClsOK p cs → DOK l a →
    ∃ cs' hs a' s', Ev (fun k => wayzgoosekit_TradesOf.l0 k h p d l a s cs) (cs', hs, a', s') ∧ checkT cs' hs = 0 ∧ cs'.length = cs.length + d ∧ (hs.length : Int) ≤ h ∧ DOK l a' := by
  intro d
  induction d with
  | zero =>
    intro cs a s hl hl1 hc hd
    obtain ⟨mh, a1, s1, hr, m0, m1, hd1⟩ := to_ok' (s := s) (n := h) hd (by omega) h0
    obtain ⟨ws, a2, s2, he, hw, hlen, hd2⟩ := part_ok (s := s1) 16 mh hd1 (by omega) (by omega) m0
    have hn6 : ws.length ≤ 6 := by omega
    obtain ⟨hs, a3, s3, he3, hl3, hok3, hd3⟩ := l1_ok (l := l) (ws := ws) (cs := cs) (n := ws.length) ⟨hw, rfl, by omega, by omega, hn6⟩ ws.length 0 [] a2 s2 (by omega) rfl (fun i hi => by simp at hi) hd2
    refine ⟨cs, hs, a3, s3, ?_, made_valid hp (by omega) (by omega) hc hw hl3 (by rw [hl3]; exact hok3), rfl, by omega, hd3⟩
    refine Ev.step (f := fun k => (wayzgoosekit_partOf.f k l a1 s1 16 mh).bind fun bt => wayzgoosekit_TradesOf.l1 k bt.1 (bt.1.length : Int) 0 l bt.2.1 bt.2.2 cs []) (fun k => ?_) (Ev.bind (f := fun k (bt : List Int × Int × Int) => wayzgoosekit_TradesOf.l1 k bt.1 (bt.1.length : Int) 0 l bt.2.1 bt.2.2 cs []) he he3)
    simp only [wayzgoosekit_TradesOf.l0]
    rw [if_neg (by omega), call_f]
    simp only [Option.bind_some]
    rw [hr]
    simp only [Option.bind_some, call_len]
    rfl
  | succ d ih =>
    intro cs a s hl hl1 hc hd
    obtain ⟨g1, g2, g3⟩ := perm_at hp cs.length (by omega)
    obtain ⟨u, a1, s1, hr, u0, u1, hd1⟩ := from_ok (s := s) (lo := -1) (hi := (cs.length : Int) - 1) hd (by omega) (by omega) (by omega) (by omega)
    have e1 : wrap64 ((cs.length : Int) - 1) = (cs.length : Int) - 1 := w64s (by omega) (by omega)
    have e2 : wrap64 (((d + 1 : Nat) : Int) - 1) = (d : Int) := by rw [w64s (by omega) (by omega)]; omega
    have hrd : rd p (cs.length : Int) = p.getD cs.length 0 := by simp [rd]
    have hl2 : (cs ++ [(⟨sortAt (p.getD cs.length 0), u⟩ : Cl)]).length = cs.length + 1 := by simp
    obtain ⟨cs', hs, a', s', he, h1, h2, h3, h4⟩ := ih (cs ++ [⟨sortAt (p.getD cs.length 0), u⟩]) a1 s1 (by omega) (by omega) (hc.snoc u (by omega) (by omega)) hd1
    refine ⟨cs', hs, a', s', Ev.step (fun k => ?_) he, h1, by omega, h3, h4⟩
    simp only [wayzgoosekit_TradesOf.l0]
    rw [if_pos (by omega), sorts_f]
    simp only [Option.bind_some]
    rw [if_pos (by omega), if_pos (by omega), hrd, if_pos g2, if_pos (by rw [sorts_len]; omega), e1, hr]
    simp only [Option.bind_some]
    rw [if_pos (by omega), e2]
    rfl
theorem tradesOf_ok {l : List Int} {a s c h : Int} (hd : DOK l a) (c1 : 1 ≤ c) (c6 : c ≤ 6) (h0 : 0 ≤ h) (h6 : h ≤ 6) : ∃ cs hs a' s', Ev (fun k => wayzgoosekit_TradesOf.f k l a s c h) (cs, hs, a', s') ∧ MadeT cs hs c h ∧ DOK l a' := by
  obtain ⟨p, a1, s1, he, hp, hd1⟩ := order_ok (s := s) 9 hd (by omega) (by omega)
  obtain ⟨m, a2, s2, hr, m0, m1, hd2⟩ := from_ok (s := s1) (lo := 1) (hi := c) hd1 (by omega) (by omega) (by omega) (by omega)
  obtain ⟨d, rfl⟩ : ∃ d : Nat, m = d := ⟨m.toNat, by omega⟩
  obtain ⟨cs, hs, a3, s3, he3, g1, g2, g3, g4⟩ := l0_ok (l := l) hp h h0 h6 d [] a2 s2 (by simp; omega) (by simp; omega) ⟨fun i hi => by simp at hi, fun i hi => by simp at hi⟩ hd2
  have g2 : cs.length = d := by simpa using g2
  refine ⟨cs, hs, a3, s3, ?_, ⟨g1, by omega, by omega, g3⟩, g4⟩
  refine Ev.congr (f := fun k => (wayzgoosekit_Dice_Order.f k l a s 9).bind fun bt => (wayzgoosekit_Dice_From.f l bt.2.1 bt.2.2 1 c).bind fun bt2 => wayzgoosekit_TradesOf.l0 k h bt.1 bt2.1 l bt2.2.1 bt2.2.2 []) (fun k => ?_) ?_
  · unfold wayzgoosekit_TradesOf.f
    rw [sorts_f]
    simp only [Option.bind_some, sorts_len]
    rfl
  · refine Ev.bind (f := fun k (bt : List Int × Int × Int) => (wayzgoosekit_Dice_From.f l bt.2.1 bt.2.2 1 c).bind fun bt2 => wayzgoosekit_TradesOf.l0 k h bt.1 bt2.1 l bt2.2.1 bt2.2.2 []) he ?_
    refine Ev.congr (fun k => ?_) he3
    simp only [hr, Option.bind_some]
theorem newDice_ok {l : List Int} (h : l.length * 8 ≤ 140737488351232) : DOK l 0 := ⟨by omega, by omega, by omega⟩
end Go.Proofs.Ytfbimhnlcmdcpaa.Q
/- Classes above classes: plain facts, and what the statements' 'under' computes. -/
namespace Go.Proofs.Ytfbimhnlcmdcpaa.Q
open Go.RowKit Go.Proofs.Ytfbimhnlcmdcpaa.Pa Go.Proofs.YtfbimhnlcmdcpaaW.PrintWords Go.Proofs.YtfbimhnlcmdcpaaW.PrintLast Go.Proofs.YtfbimhnlcmdcpaaW.PrintMore
set_option linter.unusedVariables false
set_option linter.unusedSimpArgs false

def Unders (cs : List Cl) : Prop := ∀ i, i < cs.length → -1 ≤ (cs.getD i zCl).f1 ∧ (cs.getD i zCl).f1 < (i : Int)
theorem firstErr_all {g : Nat → Int} : ∀ {m i : Nat}, firstErr g m i = 0 → ∀ j, i ≤ j → j < i + m → g j = 0
  | 0, i, _, j, h1, h2 => by omega
  | m + 1, i, h, j, h1, h2 => by
    unfold firstErr at h
    by_cases hz : g i = 0
    · rw [if_neg (by omega)] at h
      by_cases hj : j = i
      · rw [hj]; exact hz
      · exact firstErr_all h j (by omega) (by omega)
    · rw [if_pos hz] at h
      exact absurd h hz
theorem check_parts {cs : List Cl} {hs : List Hd} (h : checkT cs hs = 0) : cs.length ≤ 6 ∧ hs.length ≤ 6 ∧ (∀ i, i < cs.length → classErr cs i = 0) ∧ (∀ i, i < hs.length → headErr cs hs i = 0) := by
  unfold checkT at h
  split at h
  · omega
  · split at h
    · rename_i h1; exact absurd h h1
    · refine ⟨by omega, by omega, fun i hi => firstErr_all (by omega : firstErr (classErr cs) cs.length 0 = 0) i (by omega) (by omega), fun i hi => firstErr_all h i (by omega) (by omega)⟩
theorem check_unders {cs : List Cl} {hs : List Hd} (h : checkT cs hs = 0) : Unders cs := by
  intro i hi
  have h := (check_parts h).2.2.1 i hi
  unfold classErr at h
  split at h
  · omega
  · split at h
    · omega
    · split at h
      · omega
      · split at h
        · omega
        · rename_i c d
          exact ⟨by omega, by omega⟩
theorem upT_neg (cs : List Cl) (k : Nat) (a b : Int) (h : a < 0) : upT cs k a b = false := by
  cases k with
  | zero => rfl
  | succ k => rw [upT, if_pos h]
theorem upT_fuel {cs : List Cl} (hu : Unders cs) (b : Int) : ∀ (i k k' : Nat), i < cs.length → i < k → i < k' → upT cs k i b = upT cs k' i b := by
  intro i
  induction i using Nat.strongRecOn with
  | ind i ih =>
    intro k k' hi hk hk'
    obtain ⟨k, rfl⟩ : ∃ m, k = m + 1 := ⟨k - 1, by omega⟩
    obtain ⟨k', rfl⟩ : ∃ m, k' = m + 1 := ⟨k' - 1, by omega⟩
    rw [upT, upT]
    simp only [Int.toNat_natCast]
    by_cases h0 : 0 ≤ (cs.getD i zCl).f1
    · have hlt := (hu i hi).2
      have e : (((cs.getD i zCl).f1.toNat : Nat) : Int) = (cs.getD i zCl).f1 := by omega
      have := ih (cs.getD i zCl).f1.toNat (by omega) k k' (by omega) (by omega) (by omega)
      rw [e] at this
      rw [this]
    · rw [upT_neg cs k _ _ (by omega), upT_neg cs k' _ _ (by omega)]
theorem isUp_neg (cs : List Cl) (a b : Int) (h : a < 0) : isUp cs a b = false := upT_neg cs _ a b h
theorem isUp_step {cs : List Cl} (hu : Unders cs) (i : Nat) (hi : i < cs.length) (b : Int) : isUp cs i b = (decide ((i : Int) = b) || isUp cs (cs.getD i zCl).f1 b) := by
  unfold isUp
  rw [upT_fuel hu b i cs.length (cs.length + 1) hi hi (by omega), upT, if_neg (by omega), Int.toNat_natCast]
  by_cases c : (i : Int) = b
  · rw [if_pos c, decide_eq_true c]; rfl
  · rw [if_neg c, decide_eq_false c, Bool.false_or]
theorem isUp_self {cs : List Cl} (hu : Unders cs) (i : Nat) (hi : i < cs.length) : isUp cs i i = true := by rw [isUp_step hu i hi]; simp
theorem isUp_le {cs : List Cl} (hu : Unders cs) : ∀ (i : Nat) (b : Int), i < cs.length → isUp cs i b = true → 0 ≤ b ∧ b ≤ i := by
  intro i
  induction i using Nat.strongRecOn with
  | ind i ih =>
    intro b hi h
    rw [isUp_step hu i hi] at h
    simp only [Bool.or_eq_true, decide_eq_true_eq] at h
    rcases h with h | h
    · omega
    · rcases (show (cs.getD i zCl).f1 < 0 ∨ 0 ≤ (cs.getD i zCl).f1 by omega) with hn | h0
      · rw [isUp_neg _ _ _ hn] at h; cases h
      · have hlt := (hu i hi).2
        rw [show (cs.getD i zCl).f1 = (((cs.getD i zCl).f1.toNat : Nat) : Int) by omega] at h
        have := ih (cs.getD i zCl).f1.toNat (by omega) b (by omega) h
        omega
/-- What is above a class is in line. -/
theorem isUp_line {cs : List Cl} (hu : Unders cs) : ∀ (i : Nat) (n c : Int), i < cs.length → isUp cs i n = true → isUp cs i c = true → c ≤ n → isUp cs n c = true := by
  intro i
  induction i using Nat.strongRecOn with
  | ind i ih =>
    intro n c hi hn hc hle
    have hn2 := hn
    rw [isUp_step hu i hi] at hn
    simp only [Bool.or_eq_true, decide_eq_true_eq] at hn
    rcases hn with rfl | hn
    · exact hc
    · have hlt := (hu i hi).2
      rcases (show (cs.getD i zCl).f1 < 0 ∨ 0 ≤ (cs.getD i zCl).f1 by omega) with h0 | h0
      · rw [isUp_neg _ _ _ h0] at hn; cases hn
      · have e : (cs.getD i zCl).f1 = (((cs.getD i zCl).f1.toNat : Nat) : Int) := by omega
        have hnle := (isUp_le hu (cs.getD i zCl).f1.toNat n (by omega) (e ▸ hn)).2
        rw [isUp_step hu i hi] at hc
        simp only [Bool.or_eq_true, decide_eq_true_eq] at hc
        rcases hc with hc | hc
        · omega
        · rw [e] at hn hc
          exact ih (cs.getD i zCl).f1.toNat (by omega) n c (by omega) hn hc hle
/-! ### the least class of two -/
/-! ### the statements' own 'under' -/
theorem under_ok {cs : List Cl} {hs : List Hd} (hu : Unders cs) (h6 : cs.length ≤ 6) (a b : Int) (ha : a < cs.length) : Ev (fun k => wayzgooselaw04_under.f k cs hs a b) (isUp cs a b) := by
  have key : ∀ (d i : Nat) (x : Int), i + d = cs.length → x < cs.length → Ev (fun k => wayzgooselaw04_under.l0 k x b i cs hs) (upT cs d x b) := by
    intro d
    induction d with
    | zero =>
      intro i x hi hx
      refine Ev.step (f := fun k => wayzgooselaw04_under.j1 k x b i false cs hs) (fun k => ?_) (Ev.last (fun k => ?_))
      · simp only [wayzgooselaw04_under.l0]
        rw [if_neg (by omega)]
      · simp only [wayzgooselaw04_under.j1]
        rfl
    | succ d ih =>
      intro i x hi hx
      refine Ev.step (f := fun k => wayzgooselaw04_under.j1 k x b i (decide (x ≥ 0)) cs hs) (fun k => ?_) ?_
      · simp only [wayzgooselaw04_under.l0]
        rw [if_pos (by omega)]
      · rw [upT]
        by_cases c : x < 0
        · rw [if_pos c]
          refine Ev.last (fun k => ?_)
          simp only [wayzgooselaw04_under.j1]
          rw [decide_eq_false (by omega), if_neg (by simp)]
        · rw [if_neg c]
          by_cases e : x = b
          · rw [if_pos e]
            refine Ev.last (fun k => ?_)
            simp only [wayzgooselaw04_under.j1]
            rw [decide_eq_true (by omega), if_pos rfl, if_pos e]
          · rw [if_neg e]
            have hlt := (hu x.toNat (by omega)).2
            refine Ev.step (fun k => ?_) (ih (i + 1) (cs.getD x.toNat zCl).f1 (by omega) (by omega))
            simp only [wayzgooselaw04_under.j1]
            rw [decide_eq_true (by omega), if_pos rfl, if_neg e, if_pos (by omega), if_pos hx, w64s (by omega) (by omega)]
            rfl
  exact key cs.length 0 a (by omega) ha
end Go.Proofs.Ytfbimhnlcmdcpaa.Q
/- What valid trades say of each heading. -/
namespace Go.Proofs.Ytfbimhnlcmdcpaa.Q
open Go.RowKit Go.Proofs.Ytfbimhnlcmdcpaa.Pa Go.Proofs.YtfbimhnlcmdcpaaW.PrintWords Go.Proofs.YtfbimhnlcmdcpaaW.PrintLast Go.Proofs.YtfbimhnlcmdcpaaW.PrintMore
set_option linter.unusedVariables false
set_option linter.unusedSimpArgs false

theorem also_parts {n i : Nat} {l : List Int} : ∀ {m k : Nat}, alsoErr n i l m k = 0 → ∀ j, k ≤ j → j < k + m → (0 ≤ l.getD j 0 ∧ l.getD j 0 < (n : Int) ∧ l.getD j 0 ≠ (i : Int) ∧ (0 < j → l.getD (j - 1) 0 < l.getD j 0))
  | 0, k, _, j, h1, h2 => by omega
  | m + 1, k, h, j, h1, h2 => by
    unfold alsoErr at h
    split at h
    · omega
    · split at h
      · omega
      · split at h
        · omega
        · rename_i a b c
          by_cases hj : j = k
          · subst hj
            refine ⟨by omega, by omega, by omega, fun h0 => ?_⟩
            have : ¬ l.getD j 0 ≤ l.getD (j - 1) 0 := fun h3 => c ⟨h0, h3⟩
            omega
          · exact also_parts h j (by omega) (by omega)
structure HeadV (cs : List Cl) (hs : List Hd) (i : Nat) (x : Hd) : Prop where
  word : wordOk x.f0 = true
  new : (hs.take i).any (fun y => sEq y.f0 x.f0) = false
  sorted : 0 < i → sLt x.f0 (hs.getD (i - 1) zHd).f0 = false
  cls : -1 ≤ x.f1 ∧ x.f1 < cs.length
  see : -1 ≤ x.f2 ∧ x.f2 < hs.length ∧ x.f2 ≠ i
  also : ∀ j, j < x.f3.length → (0 ≤ x.f3.getD j 0 ∧ x.f3.getD j 0 < (hs.length : Int) ∧ x.f3.getD j 0 ≠ (i : Int) ∧ (0 < j → x.f3.getD (j - 1) 0 < x.f3.getD j 0))
  ptr : x.f2 ≠ -1 → x.f1 = -1 ∧ x.f3 = []
  other : x.f2 = -1 → x.f1 = -1 → x.f3 ≠ []
theorem head_parts {cs : List Cl} {hs : List Hd} {i : Nat} (h : headErr cs hs i = 0) : HeadV cs hs i (hs.getD i zHd) := by
  unfold headErr at h
  by_cases a1 : wordOk (hs.getD i zHd).f0 = false
  · rw [if_pos a1] at h; omega
  · rw [if_neg a1] at h
    by_cases a2 : (hs.take i).any (fun y => sEq y.f0 (hs.getD i zHd).f0) = true
    · rw [if_pos a2] at h; omega
    · rw [if_neg a2] at h
      by_cases a3 : 0 < i ∧ sLt (hs.getD i zHd).f0 (hs.getD (i - 1) zHd).f0 = true
      · rw [if_pos a3] at h; omega
      · rw [if_neg a3] at h
        by_cases a4 : ¬ (-1 ≤ (hs.getD i zHd).f1 ∧ (hs.getD i zHd).f1 ≤ (cs.length : Int) - 1)
        · rw [if_pos a4] at h; omega
        · rw [if_neg a4] at h
          by_cases a5 : ¬ (-1 ≤ (hs.getD i zHd).f2 ∧ (hs.getD i zHd).f2 ≤ (hs.length : Int) - 1)
          · rw [if_pos a5] at h; omega
          · rw [if_neg a5] at h
            by_cases a6 : (hs.getD i zHd).f2 = (i : Int)
            · rw [if_pos a6] at h; omega
            · rw [if_neg a6] at h
              by_cases a7 : alsoErr hs.length i (hs.getD i zHd).f3 (hs.getD i zHd).f3.length 0 ≠ 0
              · rw [if_pos a7] at h; exact absurd h a7
              · rw [if_neg a7] at h
                unfold kindErr at h
                split at h
                · omega
                · rename_i a8
                  refine ⟨by simpa using a1, by simpa using a2, fun h0 => ?_, by omega, by omega, fun j hj => also_parts (by omega : alsoErr hs.length i (hs.getD i zHd).f3 (hs.getD i zHd).f3.length 0 = 0) j (by omega) (by omega), fun h2 => ?_, fun h2 h1 h3 => ?_⟩
                  · have : ¬ sLt (hs.getD i zHd).f0 (hs.getD (i - 1) zHd).f0 = true := fun h3 => a3 ⟨h0, h3⟩
                    simpa using this
                  · have h4 : ¬ ((hs.getD i zHd).f1 ≠ -1 ∨ 0 < (hs.getD i zHd).f3.length) := fun h5 => a8 (.inl ⟨h2, h5⟩)
                    refine ⟨by omega, List.length_eq_zero_iff.1 (by omega)⟩
                  · exact a8 (.inr ⟨h2, h1, by rw [h3]; rfl⟩)
theorem check_head {cs : List Cl} {hs : List Hd} (h : checkT cs hs = 0) (i : Nat) (hi : i < hs.length) : HeadV cs hs i (hs.getD i zHd) := head_parts ((check_parts h).2.2.2 i hi)
theorem inN_true {h : Int} {n : Nat} (h0 : 0 ≤ h) (h1 : h < n) : inN h n = true := by
  unfold inN
  simp [h0, h1]
theorem rd_hd (hs : List Hd) (i : Nat) : rd_T39 hs i = hs.getD i zHd := by
  unfold rd_T39
  rw [Int.toNat_natCast]
end Go.Proofs.Ytfbimhnlcmdcpaa.Q
/- Numbers in order that have a property: counting them one after the other. -/
namespace Go.Proofs.Ytfbimhnlcmdcpaa.Q
open Go.RowKit Go.Proofs.Ytfbimhnlcmdcpaa.Pa Go.Proofs.YtfbimhnlcmdcpaaW.PrintWords Go.Proofs.YtfbimhnlcmdcpaaW.PrintLast Go.Proofs.YtfbimhnlcmdcpaaW.PrintMore
set_option linter.unusedVariables false
set_option linter.unusedSimpArgs false

def cnt (P : Int → Bool) (n : Nat) : Nat := ((nats n).filter P).length
theorem filt_succ (P : Int → Bool) (n : Nat) : (nats (n + 1)).filter P = (nats n).filter P ++ (if P n = true then [(n : Int)] else []) := by
  rw [nats_snoc, List.filter_append]
  cases h : P n <;> simp [h]
theorem cnt_yes {P : Int → Bool} {n : Nat} (h : P n = true) : cnt P (n + 1) = cnt P n + 1 := by
  unfold cnt
  rw [filt_succ, if_pos h, List.length_append]
  rfl
theorem cnt_no {P : Int → Bool} {n : Nat} (h : P n = false) : cnt P (n + 1) = cnt P n := by
  unfold cnt
  rw [filt_succ, if_neg (by rw [h]; simp), List.append_nil]
theorem cnt_mono (P : Int → Bool) : ∀ (n i : Nat), i ≤ n → cnt P i ≤ cnt P n
  | 0, i, h => by
    obtain rfl : i = 0 := by omega
    exact Nat.le_refl _
  | n + 1, i, h => by
    by_cases e : i = n + 1
    · rw [e]; exact Nat.le_refl _
    · refine Nat.le_trans (cnt_mono P n i (by omega)) ?_
      cases hp : P n with
      | true => rw [cnt_yes hp]; omega
      | false => rw [cnt_no hp]; exact Nat.le_refl _
theorem cnt_le (P : Int → Bool) (n : Nat) : cnt P n ≤ n := by
  have := List.length_filter_le P (nats n)
  have h : (nats n).length = n := by simp [nats]
  rw [h] at this
  exact this
theorem filt_at {P : Int → Bool} : ∀ (n i : Nat), i < n → P i = true → cnt P i < cnt P n ∧ ((nats n).filter P).getD (cnt P i) 0 = i
  | 0, i, h, _ => by omega
  | n + 1, i, h, hp => by
    by_cases e : i = n
    · subst e
      refine ⟨by rw [cnt_yes hp]; omega, ?_⟩
      rw [filt_succ, if_pos hp]
      unfold cnt
      simp [List.getD_eq_getElem?_getD]
    · obtain ⟨h1, h2⟩ := filt_at n i (by omega) hp
      refine ⟨Nat.lt_of_lt_of_le h1 (cnt_mono P (n + 1) n (by omega)), ?_⟩
      rw [filt_succ, List.getD_eq_getElem?_getD, List.getElem?_append_left h1, ← List.getD_eq_getElem?_getD]
      exact h2
theorem filt_asc (P : Int → Bool) (n : Nat) : ((nats n).filter P).Pairwise (· < ·) := (nats_pairwise n).filter _
theorem filt_mem {P : Int → Bool} {n : Nat} {x : Int} : x ∈ (nats n).filter P ↔ 0 ≤ x ∧ x < n ∧ P x = true := by
  rw [List.mem_filter, nats_mem]
  exact and_assoc
theorem filt_get {P : Int → Bool} {n i : Nat} (h : i < ((nats n).filter P).length) : 0 ≤ ((nats n).filter P).getD i 0 ∧ ((nats n).filter P).getD i 0 < n ∧ P (((nats n).filter P).getD i 0) = true := by
  rw [← filt_mem, List.getD_eq_getElem?_getD, List.getElem?_eq_getElem h]
  exact List.getElem_mem h
theorem rd_nat (l : List Int) (i : Nat) : rd l (i : Int) = l.getD i 0 := by
  unfold rd
  rw [Int.toNat_natCast]
end Go.Proofs.Ytfbimhnlcmdcpaa.Q
/- Each class of a path is under all classes before it, the path has all classes that its last one is under, and Under gives just the trades whose classes are under a class: for all lists of numbers. -/
namespace Go.Proofs.Ytfbimhnlcmdcpaa.Pure
open Go.RowKit Go.Proofs.Ytfbimhnlcmdcpaa.Pa Go.Proofs.Ytfbimhnlcmdcpaa.Q Go.Proofs.YtfbimhnlcmdcpaaW.PrintWords Go.Proofs.YtfbimhnlcmdcpaaW.PrintLast
set_option linter.unusedVariables false
set_option linter.unusedSimpArgs false

def upB (cs : List Cl) (c : Nat) (o : Int) : Bool := isUp cs c o
def unB (cs : List Cl) (hs : List Hd) (c : Nat) (h : Int) : Bool := decide ((hs.getD h.toNat zHd).f1 ≠ -1) && isUp cs (hs.getD h.toNat zHd).f1 c
theorem path_f {cs : List Cl} {hs : List Hd} (hk : checkT cs hs = 0) (c : Nat) (hc : c < cs.length) : trade_Path.f cs hs c = some ((nats cs.length).filter (upB cs c), 0) := by
  unfold trade_Path.f
  rw [if_neg (by omega), if_neg (by rw [inN_true (by omega) (by omega)]; simp)]
  rfl
theorem under_f {cs : List Cl} {hs : List Hd} (hk : checkT cs hs = 0) (c : Nat) (hc : c < cs.length) : trade_Under.f cs hs c = some ((nats hs.length).filter (unB cs hs c), 0) := by
  unfold trade_Under.f
  rw [if_neg (by omega), if_neg (by rw [inN_true (by omega) (by omega)]; simp)]
  rfl
theorem path_last {cs : List Cl} (hu : Unders cs) (c : Nat) (hc : c < cs.length) : 0 < cnt (upB cs c) cs.length ∧ ((nats cs.length).filter (upB cs c)).getD (cnt (upB cs c) cs.length - 1) 0 = c := by
  have h1 : ∀ d, c + 1 + d ≤ cs.length → cnt (upB cs c) (c + 1 + d) = cnt (upB cs c) c + 1 := by
    intro d
    induction d with
    | zero => intro _; exact cnt_yes (isUp_self hu c hc)
    | succ d ih =>
      intro h
      rw [← ih (by omega)]
      refine cnt_no ?_
      cases e : upB cs c ((c + 1 + d : Nat) : Int) with
      | false => rfl
      | true =>
        have := isUp_le hu c _ hc e
        omega
  have h2 := h1 (cs.length - (c + 1)) (by omega)
  rw [show c + 1 + (cs.length - (c + 1)) = cs.length by omega] at h2
  rw [h2]
  refine ⟨by omega, ?_⟩
  rw [Nat.add_sub_cancel]
  exact (filt_at cs.length c hc (isUp_self hu c hc)).2

theorem l4_true {cs : List Cl} {hs : List Hd} (hk : checkT cs hs = 0) (c : Nat) (hc : c < cs.length) (hrest : Ev (fun k => wayzgooselaw04_TradeUp.l0 k ((c : Int) + 1) cs hs) true) :
    ∀ (d i : Nat), i + d = hs.length → Ev (fun k => wayzgooselaw04_TradeUp.l4 k c ((nats hs.length).filter (unB cs hs c)) (cnt (unB cs hs c) i) i cs hs) true := by
  have hu := check_unders hk
  have h6 := (check_parts hk).1
  have hh6 := (check_parts hk).2.1
  intro d
  induction d with
  | zero =>
    intro i hi
    obtain rfl : i = hs.length := by omega
    refine Ev.step (fun k => ?_) hrest
    simp only [wayzgooselaw04_TradeUp.l4]
    rw [if_neg (by omega), if_pos (show ((cnt (unB cs hs c) hs.length : Nat) : Int) = (((nats hs.length).filter (unB cs hs c)).length : Int) from rfl), w64s (by omega) (by omega)]
  | succ d ih =>
    intro i hi
    have ih := ih (i + 1) (by omega)
    have hx := check_head hk i (by omega)
    have hle := cnt_le (unB cs hs c) i
    have hj : ∀ b, unB cs hs c i = b → Ev (fun k => wayzgooselaw04_TradeUp.j6 k c ((nats hs.length).filter (unB cs hs c)) (cnt (unB cs hs c) i) i b cs hs) true := by
      intro b hb
      cases b with
      | true =>
        obtain ⟨h1, h2⟩ := filt_at hs.length i (by omega) hb
        rw [cnt_yes hb] at ih
        refine Ev.step (fun k => ?_) ih
        simp only [wayzgooselaw04_TradeUp.j6]
        have h3 : ((cnt (unB cs hs c) i : Nat) : Int) < (((nats hs.length).filter (unB cs hs c)).length : Int) := by
          have : cnt (unB cs hs c) hs.length = ((nats hs.length).filter (unB cs hs c)).length := rfl
          omega
        rw [if_pos trivial, if_neg (by omega), if_pos (by omega), if_pos h3, rd_nat, h2, if_pos rfl, w64s (by omega) (by omega), w64s (by omega) (by omega)]
        rfl
      | false =>
        rw [cnt_no hb] at ih
        refine Ev.step (fun k => ?_) ih
        simp only [wayzgooselaw04_TradeUp.j6]
        rw [if_neg (by simp), w64s (by omega) (by omega)]
        rfl
    by_cases c1 : (hs.getD i zHd).f1 ≥ 0
    · refine Ev.step (f := fun k => (wayzgooselaw04_under.f k cs hs (hs.getD i zHd).f1 c).bind fun t => wayzgooselaw04_TradeUp.j6 k c ((nats hs.length).filter (unB cs hs c)) (cnt (unB cs hs c) i) i t cs hs) (fun k => ?_) ?_
      · simp only [wayzgooselaw04_TradeUp.l4]
        rw [if_pos (by omega), if_pos (by omega), rd_hd, if_pos c1]
      · refine Ev.bind (under_ok hu h6 _ _ hx.cls.2) (hj _ ?_)
        unfold unB
        rw [Int.toNat_natCast, decide_eq_true (by omega), Bool.true_and]
    · refine Ev.step (fun k => ?_) (hj false ?_)
      · simp only [wayzgooselaw04_TradeUp.l4]
        rw [if_pos (by omega), if_pos (by omega), rd_hd, if_neg c1]
      · unfold unB
        rw [Int.toNat_natCast, decide_eq_false (by have := hx.cls; omega), Bool.false_and]
theorem l3_true {cs : List Cl} {hs : List Hd} (hk : checkT cs hs = 0) (c : Nat) (hc : c < cs.length) (l : List Int) (m : Int) (i : Nat) (hi : i < ((nats cs.length).filter (upB cs c)).length)
    (hrest : Ev (fun k => wayzgooselaw04_TradeUp.l2 k c ((nats cs.length).filter (upB cs c)) l m ((i : Int) + 1) cs hs) true) :
    ∀ (d j : Nat), j + d = i + 1 → Ev (fun k => wayzgooselaw04_TradeUp.l3 k c ((nats cs.length).filter (upB cs c)) l m i j cs hs) true := by
  have hu := check_unders hk
  have h6 := (check_parts hk).1
  have hle := cnt_le (upB cs c) cs.length
  have hlen : cnt (upB cs c) cs.length = ((nats cs.length).filter (upB cs c)).length := rfl
  intro d
  induction d with
  | zero =>
    intro j hj
    refine Ev.step (fun k => ?_) hrest
    simp only [wayzgooselaw04_TradeUp.l3]
    rw [if_neg (by omega), w64s (by omega) (by omega)]
  | succ d ih =>
    intro j hj
    have ih := ih (j + 1) (by omega)
    obtain ⟨a0, a1, a2⟩ := filt_get hi
    obtain ⟨b0, b1, b2⟩ := filt_get (P := upB cs c) (n := cs.length) (i := j) (by omega)
    have hle2 : ((nats cs.length).filter (upB cs c)).getD j 0 ≤ ((nats cs.length).filter (upB cs c)).getD i 0 := by
      by_cases e : j = i
      · rw [e]; omega
      · have := asc_lt (filt_asc (upB cs c) cs.length) j i (by omega) hi
        omega
    have hup := isUp_line hu c _ _ hc a2 b2 hle2
    refine Ev.step (f := fun k => (wayzgooselaw04_under.f k cs hs (((nats cs.length).filter (upB cs c)).getD i 0) (((nats cs.length).filter (upB cs c)).getD j 0)).bind fun t => if t = true then wayzgooselaw04_TradeUp.l3 k c ((nats cs.length).filter (upB cs c)) l m i ((j : Int) + 1) cs hs else some false) (fun k => ?_) ?_
    · simp only [wayzgooselaw04_TradeUp.l3]
      rw [if_pos (by omega), if_pos (by omega), if_pos (by omega), rd_nat, rd_nat, if_neg (by omega), if_neg (by omega), if_pos (by omega), if_pos (by omega), w64s (by omega) (by omega)]
    · refine Ev.bind (under_ok hu h6 _ _ a1) ?_
      rw [hup]
      exact Ev.congr (fun k => by rw [if_pos rfl]; rfl) ih
theorem l2_true {cs : List Cl} {hs : List Hd} (hk : checkT cs hs = 0) (c : Nat) (hc : c < cs.length) (hrest : Ev (fun k => wayzgooselaw04_TradeUp.l0 k ((c : Int) + 1) cs hs) true) :
    ∀ (d i : Nat), i + d = ((nats cs.length).filter (upB cs c)).length → Ev (fun k => wayzgooselaw04_TradeUp.l2 k c ((nats cs.length).filter (upB cs c)) ((nats hs.length).filter (unB cs hs c)) (cnt (upB cs c) cs.length) i cs hs) true := by
  have hlen : cnt (upB cs c) cs.length = ((nats cs.length).filter (upB cs c)).length := rfl
  intro d
  induction d with
  | zero =>
    intro i hi
    refine Ev.step (fun k => ?_) (l4_true hk c hc hrest hs.length 0 (by omega))
    simp only [wayzgooselaw04_TradeUp.l2]
    rw [if_neg (by omega), if_pos (by omega)]
    rfl
  | succ d ih =>
    intro i hi
    refine Ev.step (fun k => ?_) (l3_true hk c hc _ _ i (by omega) (ih (i + 1) (by omega)) (i + 1) 0 (by omega))
    simp only [wayzgooselaw04_TradeUp.l2]
    rw [if_pos (by omega)]
    rfl
theorem l1_true {cs : List Cl} {hs : List Hd} (hk : checkT cs hs = 0) (c : Nat) (hc : c < cs.length) (hrest : Ev (fun k => wayzgooselaw04_TradeUp.l0 k ((c : Int) + 1) cs hs) true) :
    ∀ (d o : Nat), o + d = cs.length → Ev (fun k => wayzgooselaw04_TradeUp.l1 k c ((nats cs.length).filter (upB cs c)) ((nats hs.length).filter (unB cs hs c)) (cnt (upB cs c) o) o cs hs) true := by
  have hu := check_unders hk
  have h6 := (check_parts hk).1
  intro d
  induction d with
  | zero =>
    intro o ho
    obtain rfl : o = cs.length := by omega
    refine Ev.step (fun k => ?_) (l2_true hk c hc hrest _ 0 (Nat.zero_add _))
    simp only [wayzgooselaw04_TradeUp.l1]
    rw [if_neg (by omega)]
    rfl
  | succ d ih =>
    intro o ho
    have ih := ih (o + 1) (by omega)
    have hle := cnt_le (upB cs c) o
    have hll := cnt_le (upB cs c) cs.length
    have hlen : cnt (upB cs c) cs.length = ((nats cs.length).filter (upB cs c)).length := rfl
    have hidx : decide (idxT ((nats cs.length).filter (upB cs c)) o ≥ 0) = isUp cs c o := by
      cases e : isUp cs c o with
      | true => exact decide_eq_true ((idxT_nonneg _ _).2 (filt_mem.2 ⟨by omega, by omega, e⟩))
      | false =>
        refine decide_eq_false (fun h => ?_)
        have := (filt_mem.1 ((idxT_nonneg _ _).1 h)).2.2
        unfold upB at this
        rw [e] at this
        cases this
    refine Ev.step (f := fun k => (wayzgooselaw04_under.f k cs hs c o).bind fun t => (wayzgoosekit_Index.f k ((nats cs.length).filter (upB cs c)) o).bind fun t2 => if (t != (decide (t2 ≥ 0))) = true then some false else (wayzgooselaw04_under.f k cs hs c o).bind fun t3 => if t3 = true then wayzgooselaw04_TradeUp.l1 k c ((nats cs.length).filter (upB cs c)) ((nats hs.length).filter (unB cs hs c)) ((cnt (upB cs c) o : Int) + 1) ((o + 1 : Nat) : Int) cs hs else wayzgooselaw04_TradeUp.l1 k c ((nats cs.length).filter (upB cs c)) ((nats hs.length).filter (unB cs hs c)) (cnt (upB cs c) o) ((o + 1 : Nat) : Int) cs hs) (fun k => ?_) ?_
    · simp only [wayzgooselaw04_TradeUp.l1]
      rw [if_pos (by omega), w64s (by omega) (by omega), w64s (by omega) (by omega)]
      rfl
    · refine Ev.bind (under_ok hu h6 _ _ (by omega)) ?_
      refine Ev.bind (index_ok _ _ (by omega)) ?_
      refine Ev.congr (f := fun k => (wayzgooselaw04_under.f k cs hs c o).bind fun t3 => if t3 = true then wayzgooselaw04_TradeUp.l1 k c ((nats cs.length).filter (upB cs c)) ((nats hs.length).filter (unB cs hs c)) ((cnt (upB cs c) o : Int) + 1) ((o + 1 : Nat) : Int) cs hs else wayzgooselaw04_TradeUp.l1 k c ((nats cs.length).filter (upB cs c)) ((nats hs.length).filter (unB cs hs c)) (cnt (upB cs c) o) ((o + 1 : Nat) : Int) cs hs) (fun k => ?_) ?_
      · rw [if_neg (by rw [hidx]; simp)]
      · refine Ev.bind (under_ok hu h6 _ _ (by omega)) ?_
        cases e : isUp cs c o with
        | true =>
          rw [cnt_yes (P := upB cs c) e] at ih
          exact Ev.congr (fun k => by rw [if_pos rfl]; rfl) ih
        | false =>
          rw [cnt_no (P := upB cs c) e] at ih
          exact Ev.congr (fun k => by rw [if_neg (by simp)]) ih
theorem l0_true {cs : List Cl} {hs : List Hd} (hk : checkT cs hs = 0) : ∀ (d c : Nat), c + d = cs.length → Ev (fun k => wayzgooselaw04_TradeUp.l0 k c cs hs) true := by
  have hu := check_unders hk
  have h6 := (check_parts hk).1
  intro d
  induction d with
  | zero =>
    intro c hc
    refine Ev.last (fun k => ?_)
    simp only [wayzgooselaw04_TradeUp.l0]
    rw [if_neg (by omega)]
    rfl
  | succ d ih =>
    intro c hc
    obtain ⟨hp, hl⟩ := path_last hu c (by omega)
    have hll := cnt_le (upB cs c) cs.length
    have hlen : cnt (upB cs c) cs.length = ((nats cs.length).filter (upB cs c)).length := rfl
    rw [hlen] at hp hl hll
    have e1 : wrap64 ((((nats cs.length).filter (upB cs c)).length : Int) - 1) = ((((nats cs.length).filter (upB cs c)).length - 1 : Nat) : Int) := by rw [w64s (by omega) (by omega)]; omega
    refine Ev.step (f := fun k => wayzgooselaw04_TradeUp.j1 k c ((nats cs.length).filter (upB cs c)) ((nats hs.length).filter (unB cs hs c)) false cs hs) (fun k => ?_) (Ev.step (fun k => ?_) (l1_true hk c (by omega) (ih (c + 1) (by omega)) cs.length 0 (by omega)))
    · simp only [wayzgooselaw04_TradeUp.l0]
      rw [if_pos (by omega), path_f hk c (by omega)]
      simp only [Option.bind_some]
      rw [under_f hk c (by omega)]
      simp only [Option.bind_some]
      rw [if_pos trivial, if_pos trivial, if_neg (by omega), e1, if_pos (by omega), if_pos (by omega), rd_nat, hl]
      simp
    · simp only [wayzgooselaw04_TradeUp.j1]
      rw [if_neg (by simp)]
      rfl
theorem TradeUp : wayzgooselaw04_TradeUp.Pure := by
  intro l _ hl _
  obtain ⟨cs, hs, a', s', he, hm, _⟩ := tradesOf_ok (s := 11400714819323198485) (newDice_ok hl) (c := 6) (h := 6) (by omega) (by omega) (by omega) (by omega)
  refine Ev.rounds (r := true) ?_
  refine Ev.congr (f := fun k => (wayzgoosekit_TradesOf.f k l 0 11400714819323198485 6 6).bind fun bt => wayzgooselaw04_TradeUp.l0 k 0 bt.1 bt.2.1) (fun k => ?_) (Ev.bind (f := fun k (bt : List Cl × List Hd × Int × Int) => wayzgooselaw04_TradeUp.l0 k 0 bt.1 bt.2.1) he (l0_true hm.ok cs.length 0 (by omega)))
  unfold wayzgooselaw04_TradeUp.f wayzgoosekit_NewDice.f
  rfl

end Go.Proofs.Ytfbimhnlcmdcpaa.Pure
-- PRINTED WORDS (module Derived/Print/Sized.lean): go-gate-2's, for the rows of laws over slices: an AI agent of Go's test side, Tue Nov 17 2026; no person has read it. Lean checks it.
namespace Go.Proofs.YtfbimhnlcmdcpaaW.PrintWords
open Go.ChangeShapes Go.WideShapes
/-- A row's slice of whole numbers is no longer than its weight allows. -/
theorem sized_ints {H : Type} {enc : TypeId × Value → H} {P : Program} {W : World} {base : Nat} {spare : Nat → Bool} {held : Bool} {t e : TypeId} {k : IntKind} {a : Option Addr} {len cap : Nat} {d : DataW H} {ps : List MemPlace} {ts : List TypeId} {ds : List (DataW H)} {j : Nat}
    (hsz : (DataW.weightsEach P ts ds).all (· ≤ reachBytes) = true) (ht : ts[j]? = some t) (hd : ds[j]? = some d) (hu : P.underlying t = some (.slice e)) (he : P.underlying e = some (.int k)) (hc : P.cellsOf e = 1) {B : Nat} (hB : P.bytesOf e = B)
    (h : DataW.Trod enc P W base spare held t (.slice a len cap) d ps) : len * B ≤ 140737488351232 := by
  obtain ⟨fuel, hf⟩ := h
  rcases open_ints hu he hc hf with ⟨hcs, _⟩ | ⟨x, l, c, zs, hcs, _, hl, _, hz, hx, _, _⟩
  · simp [Value.cells] at hcs
    obtain ⟨rfl, rfl, rfl⟩ := hcs
    simp
  · simp [Value.cells] at hcs
    obtain ⟨rfl, rfl, rfl⟩ := hcs
    obtain ⟨hx, _⟩ := Prod.mk.inj hx
    subst hx
    have z := sized_slice hsz ht hd hu
    rw [hB] at z
    have hl2 : len ≤ zs.length := by
      rw [hz]
      split
      · exact hl
      · exact Nat.le_refl _
    have h1 : (lits (H := H) k (zs.take len)).length + (lits (H := H) k (zs.drop len)).length = zs.length := by
      simp [lits]
      omega
    rw [h1] at z
    exact Nat.le_trans (Nat.mul_le_mul_right _ hl2) z
end Go.Proofs.YtfbimhnlcmdcpaaW.PrintWords
namespace Go.Proofs.Ytfbimhnlcmdcpaa.tradeUp
open Go.ChangeShapes Go.WideShapes Go.ChangeAt Go.RowKit
open Go.ChangeMaps (open_string shut_string)
set_option linter.unusedVariables false
theorem own : ownKnob Try.prog.godebug = none := by kernel_rfl
theorem laidOut : laidOutB Try.prog = true := by kernel_rfl
def IsRow (k : IntKind) (w : World) (a : Option Addr) (len cap : Nat) (zs : List Int) : Prop :=
  (a = none ∧ len = 0 ∧ cap = 0 ∧ zs = []) ∨
  ∃ x, a = some x ∧ len ≤ cap ∧ cap ≤ maxLen ∧ zs.length = cap ∧ (∀ i, i < zs.length → w.cell? (x.add i) = some (.int k (zs.getD i 0))) ∧ ∀ n ∈ zs, (Lit.int k n).wf = true
set_option maxRecDepth 100000 in
theorem lifted (os : Os) (started : os.Started) (H : Type) (enc : TypeId × Value → H) :
    ReturnsInHanded {} Try.checked os 8 .any (Rows.tradeUpSpec.pre6 enc Try.prog Try.f8 Rows.tradeUpRow.domain false) (Rows.tradeUpSpec.post enc Try.prog Try.f8 false true false false) := by
  refine returnsInHanded_of_change_sized (C := Try.checked) own started (by kernel_rfl) Try.func8
    (ChangeSpec.witness6 (enc := enc) (C := Try.checked) false ⟨#[], #[.slice none 0 0], []⟩ 8 (by kernel_rfl) (by kernel_rfl) (by kernel_rfl) (by kernel_rfl)) ?_
  intro W base args ds gs before hval0 hW hcnd hsz0 _
  have hsz : (DataW.weightsEach Try.prog (Try.f8.params.toList ++ Rows.tradeUpSpec.plain.varTypes Try.prog) (ds ++ gs)).all (· ≤ reachBytes) = true := hsz0
  have hval : ∀ (j : Nat) t v, Try.f8.params[j]? = some t → args[j]? = some v → Value.okWide Try.prog W .any base t v := hval0
  have hW' := hW
  obtain ⟨p, q, hA0, hV, rfl, hfz, hnd⟩ := hW
  have hA : DataW.TrodAll enc Try.prog W 0 (fun _ => true) true Try.f8.params.toList args.toList ds p := hA0
  rw [Try.params8] at hA hval hsz
  obtain ⟨v0, vs0, d0, ds0, p0, q0, hargs, rfl, rfl, h0, r0⟩ := trodAll_cons hA
  obtain ⟨rfl, rfl, rfl⟩ := trodAll_nil r0
  obtain rfl : args = #[v0] := by cases args; simp_all
  obtain ⟨rfl, rfl⟩ := trodVars_none hV
  obtain ⟨a0, len0, cap0, rfl⟩ := okWide_slice Try.underlying22 (hval 0 22 v0 rfl rfl)
  have k0 := h0
  have lt0 : ∀ x ∈ p0, x.block < W.heap.size := by obtain ⟨m, hm⟩ := k0; exact DataW.trod_lt m _ _ _ hm
  obtain ⟨z0, w0⟩ : ∃ zs, IsRow .i64 W a0 len0 cap0 zs := by
    obtain ⟨fuel, hf⟩ := h0
    rcases open_ints Try.underlying22 Try.underlying3 (by kernel_rfl) hf with ⟨hcs, _⟩ | ⟨x, l, c, zs, hcs, _, hl, hm, hz, _, hcell, hwz⟩
    · simp [Value.cells] at hcs
      obtain ⟨rfl, rfl, rfl⟩ := hcs
      exact ⟨[], .inl ⟨rfl, rfl, rfl, rfl⟩⟩
    · simp [Value.cells] at hcs
      obtain ⟨rfl, rfl, rfl⟩ := hcs
      exact ⟨zs, .inr ⟨_, rfl, hl, hm, by simpa using hz, hcell, hwz⟩⟩
  have y0 : len0 * 8 ≤ 140737488351232 := Go.Proofs.YtfbimhnlcmdcpaaW.PrintWords.sized_ints hsz (j := 0) (t := 22) rfl rfl Try.underlying22 Try.underlying3 (by kernel_rfl) (by kernel_rfl) h0
  clear hA0 hval0 hsz0 hsz
  refine (Pa.wayzgooselaw04_TradeUp.walk Pure.TradeUp a0 len0 cap0 z0 W w0 y0).mono fun e W' ⟨he, bel⟩ => ?_
  subst he
  exact ⟨_, rfl, _, _, _, [], _, [], hW', trodAll_mk1 (shut_bool Try.underlying4 _), (trodAll_cons_mk (Below.trod laidOut (by kernel_rfl) (of_decide_eq_true (by kernel_rfl)) k0 bel lt0) trodAll_mk0), rfl, bel.frame _, fun h => by cases h⟩
theorem over : Rows.tradeUpRow.holds Try.pinned (OpenSpec.ofChange Rows.tradeUpSpec) :=
  OpenClaim.holds_of_wide 8 Try.f8 rfl rfl rfl rfl rfl rfl rfl ⟨rfl, rfl, rfl, rfl, rfl⟩ rfl rfl rfl rfl rfl (by kernel_rfl) Try.func8 (by kernel_rfl)
    (of_decide_eq_true (by kernel_rfl)) (by unfold Func.isWrapper; first | (rw [if_pos (by decide +kernel)]; kernel_rfl) | (rw [if_neg (by decide +kernel)]; exact ⟨rfl, rfl⟩))
    (fun os started H enc _ => lifted os started H enc)
theorem proved : Rows.TradeUpSaid := over
#print axioms proved
end Go.Proofs.Ytfbimhnlcmdcpaa.tradeUp
namespace Go.Proofs.Ytfbimhnlcmdcpaa
/-- The row, under a short name, for the claim. -/
theorem tradeUp_holds : Rows.TradeUpSaid := tradeUp.proved
end Go.Proofs.Ytfbimhnlcmdcpaa
