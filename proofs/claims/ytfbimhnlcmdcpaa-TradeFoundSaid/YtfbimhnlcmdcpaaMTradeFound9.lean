/- A part of the proof: A heading is found in n steps just if some heading found in n - 1 steps has a reference to it, and none found in fewer; trades are hidden just if they are not found so: for all lists of numbers. Without conditions of its own. -/
import Derived.Test.YtfbimhnlcmdcpaaMTradeFound8
import Derived.Test.YtfbimhnlcmdcpaaMTradeFound2
import Derived.Test.YtfbimhnlcmdcpaaMTradeFound4
import Derived.Test.YtfbimhnlcmdcpaaRows
import Derived.WalkKit
import Derived.ProofKit
import Derived.OpenShut
import Derived.ShutString
import Derived.ChangeOld
import Derived.Below
import Derived.SizedLaws
import Derived.Test.YtfbimhnlcmdcpaaMTradeFound1
/- TradesOf: it gives trades, and they are valid. -/
namespace Go.Proofs.Ytfbimhnlcmdcpaa.Q
open Go.RowKit Go.Proofs.Ytfbimhnlcmdcpaa.Pa Go.Proofs.YtfbimhnlcmdcpaaW.PrintWords Go.Proofs.YtfbimhnlcmdcpaaW.PrintLast Go.Proofs.YtfbimhnlcmdcpaaW.PrintMore
set_option linter.unusedVariables false
set_option linter.unusedSimpArgs false

def sortsL : List ByteArray := (wayzgoosekit_sorts.f).getD []
def callL : List ByteArray := (wayzgoosekit_callings.f).getD []
theorem sorts_f : wayzgoosekit_sorts.f = some sortsL := by kernel_rfl
theorem call_f : wayzgoosekit_callings.f = some callL := by kernel_rfl
theorem sorts_len : sortsL.length = 9 := by kernel_rfl
theorem call_len : callL.length = 16 := by kernel_rfl
def sortAt (i : Int) : ByteArray := rdOf ByteArray.empty sortsL i
def callAt (i : Int) : ByteArray := rdOf ByteArray.empty callL i
def allTwo (n : Nat) (f : Int → Int → Bool) : Bool := (List.range n).all fun i => (List.range n).all fun j => f i j
theorem allTwo_spec {n : Nat} {f : Int → Int → Bool} (h : allTwo n f = true) (i j : Int) (hi : 0 ≤ i) (hi2 : i < n) (hj : 0 ≤ j) (hj2 : j < n) : f i j = true := by
  unfold allTwo at h
  rw [List.all_eq_true] at h
  have h1 := h i.toNat (List.mem_range.2 (by omega))
  rw [List.all_eq_true] at h1
  have h2 := h1 j.toNat (List.mem_range.2 (by omega))
  rwa [show ((i.toNat : Nat) : Int) = i by omega, show ((j.toNat : Nat) : Int) = j by omega] at h2
theorem sorts_all : allTwo 9 (fun i j => wordOk (sortAt i) && (decide (i = j) || !sEq (sortAt i) (sortAt j))) = true := by kernel_rfl
theorem call_all : allTwo 16 (fun i j => wordOk (callAt i) && (decide (i = j) || !sEq (callAt i) (callAt j)) && (!decide (i < j) || (sLt (callAt i) (callAt j) && !sLt (callAt j) (callAt i)))) = true := by kernel_rfl
theorem sort_word (i : Int) (h0 : 0 ≤ i) (h1 : i < 9) : wordOk (sortAt i) = true := by
  have := allTwo_spec sorts_all i i h0 h1 h0 h1
  simp only [Bool.and_eq_true] at this
  exact this.1
theorem sort_ne (i j : Int) (h0 : 0 ≤ i) (h1 : i < 9) (g0 : 0 ≤ j) (g1 : j < 9) (hne : i ≠ j) : sEq (sortAt i) (sortAt j) = false := by
  have := allTwo_spec sorts_all i j h0 h1 g0 g1
  simp only [Bool.and_eq_true] at this
  simpa [hne] using this.2
theorem call_word (i : Int) (h0 : 0 ≤ i) (h1 : i < 16) : wordOk (callAt i) = true := by
  have := allTwo_spec call_all i i h0 h1 h0 h1
  simp only [Bool.and_eq_true] at this
  exact this.1.1
theorem call_ne (i j : Int) (h0 : 0 ≤ i) (h1 : i < 16) (g0 : 0 ≤ j) (g1 : j < 16) (hne : i ≠ j) : sEq (callAt i) (callAt j) = false := by
  have := allTwo_spec call_all i j h0 h1 g0 g1
  simp only [Bool.and_eq_true] at this
  simpa [hne] using this.1.2
theorem call_lt (i j : Int) (h0 : 0 ≤ i) (g1 : j < 16) (hlt : i < j) : sLt (callAt i) (callAt j) = true ∧ sLt (callAt j) (callAt i) = false := by
  have := allTwo_spec call_all i j h0 (by omega) (by omega) g1
  simp only [Bool.and_eq_true] at this
  simpa [hlt] using this.2

/-! ### classes -/
structure ClsOK (p : List Int) (cs : List Cl) : Prop where
  name : ∀ i, i < cs.length → (cs.getD i zCl).f0 = sortAt (p.getD i 0)
  under : ∀ i, i < cs.length → -1 ≤ (cs.getD i zCl).f1 ∧ (cs.getD i zCl).f1 < (i : Int)
theorem ClsOK.snoc {p : List Int} {cs : List Cl} (h : ClsOK p cs) (u : Int) (h0 : -1 ≤ u) (h1 : u < (cs.length : Int)) : ClsOK p (cs ++ [⟨sortAt (p.getD cs.length 0), u⟩]) := by
  constructor
  · intro i hi
    rw [List.length_append, List.length_singleton] at hi
    rcases Nat.lt_or_ge i cs.length with hlt | hge
    · rw [List.getD_eq_getElem?_getD, List.getElem?_append_left hlt, ← List.getD_eq_getElem?_getD]; exact h.name i hlt
    · obtain rfl : i = cs.length := by omega
      simp [List.getD_eq_getElem?_getD]
  · intro i hi
    rw [List.length_append, List.length_singleton] at hi
    rcases Nat.lt_or_ge i cs.length with hlt | hge
    · rw [List.getD_eq_getElem?_getD, List.getElem?_append_left hlt, ← List.getD_eq_getElem?_getD]; exact h.under i hlt
    · obtain rfl : i = cs.length := by omega
      simp [List.getD_eq_getElem?_getD]
      omega
theorem any_false {α : Type} {l : List α} {f : α → Bool} (h : ∀ x ∈ l, f x = false) : l.any f = false := by
  rw [List.any_eq_false]
  intro x hx
  rw [h x hx]
  simp
theorem mem_take_getD {α : Type} (l : List α) (z : α) (i : Nat) (x : α) (h : x ∈ l.take i) : ∃ j, j < i ∧ j < l.length ∧ l.getD j z = x := by
  obtain ⟨j, hj, rfl⟩ := List.mem_iff_getElem.1 h
  rw [List.length_take] at hj
  exact ⟨j, by omega, by omega, by rw [List.getElem_take, List.getD_eq_getElem?_getD, List.getElem?_eq_getElem (by omega)]; rfl⟩
theorem perm_at {p : List Int} {n : Nat} (hp : p.Perm (nats n)) (i : Nat) (hi : i < n) : i < p.length ∧ 0 ≤ p.getD i 0 ∧ p.getD i 0 < n := by
  have hl : p.length = n := by rw [hp.length_eq]; simp [nats]
  have : p.getD i 0 ∈ p := by rw [List.getD_eq_getElem?_getD, List.getElem?_eq_getElem (by omega)]; exact List.getElem_mem _
  have := (nats_mem n _).1 (hp.mem_iff.1 this)
  exact ⟨by omega, this.1, this.2⟩
theorem perm_ne {p : List Int} {n : Nat} (hp : p.Perm (nats n)) (i j : Nat) (hi : i < n) (hj : j < n) (hne : i ≠ j) : p.getD i 0 ≠ p.getD j 0 := by
  have hl : p.length = n := by rw [hp.length_eq]; simp [nats]
  have hnd : p.Nodup := hp.nodup_iff.2 (nats_nodup n)
  rw [List.getD_eq_getElem?_getD, List.getElem?_eq_getElem (by omega), List.getD_eq_getElem?_getD, List.getElem?_eq_getElem (by omega)]
  simp only [Option.getD_some]
  rcases Nat.lt_or_gt_of_ne hne with h | h
  · exact List.pairwise_iff_getElem.1 hnd i j _ _ h
  · exact (List.pairwise_iff_getElem.1 hnd j i _ _ h).symm
theorem ClsOK.err {p : List Int} {cs : List Cl} (hp : p.Perm (nats 9)) (hl : cs.length ≤ 9) (h : ClsOK p cs) (i : Nat) (hi : i < cs.length) : classErr cs i = 0 := by
  unfold classErr
  obtain ⟨h1, h2, h3⟩ := perm_at hp i (by omega)
  rw [h.name i hi, if_neg (by rw [sort_word _ h2 h3]; simp)]
  rw [if_neg, if_neg, if_neg]
  · have := (h.under i hi).2; omega
  · have := h.under i hi
    omega
  · rw [any_false]
    · simp
    intro y hy
    obtain ⟨j, hj, hjl, rfl⟩ := mem_take_getD cs zCl i y hy
    obtain ⟨g1, g2, g3⟩ := perm_at hp j (by omega)
    rw [h.name j hjl]
    exact sort_ne _ _ g2 g3 h2 h3 (perm_ne hp j i (by omega) (by omega) (by omega))

/-! ### headings -/
structure HdOK (nc n i : Nat) (w : Int) (x : Hd) : Prop where
  word : x.f0 = callAt w
  cls : -1 ≤ x.f1 ∧ x.f1 < nc
  see : x.f2 = -1 ∨ (0 ≤ x.f2 ∧ x.f2 < n ∧ x.f2 ≠ i)
  ptr : x.f2 ≠ -1 → x.f1 = -1 ∧ x.f3 = []
  idx : x.f2 = -1 → x.f1 = -1 → x.f3 ≠ []
  asc : x.f3.Pairwise (· < ·)
  also : ∀ y ∈ x.f3, 0 ≤ y ∧ y < n ∧ y ≠ i
def HdsOK (nc n : Nat) (ws : List Int) (hs : List Hd) : Prop := ∀ i, i < hs.length → HdOK nc n i (ws.getD i 0) (hs.getD i zHd)
theorem HdsOK.snoc {nc n : Nat} {ws : List Int} {hs : List Hd} {x : Hd} (h : HdsOK nc n ws hs) (hx : HdOK nc n hs.length (ws.getD hs.length 0) x) : HdsOK nc n ws (hs ++ [x]) := by
  intro i hi
  rw [List.length_append, List.length_singleton] at hi
  rcases Nat.lt_or_ge i hs.length with hlt | hge
  · rw [List.getD_eq_getElem?_getD (l := hs ++ [x]), List.getElem?_append_left hlt, ← List.getD_eq_getElem?_getD]; exact h i hlt
  · obtain rfl : i = hs.length := by omega
    rw [List.getD_eq_getElem?_getD (l := hs ++ [x]), List.getElem?_append_right (Nat.le_refl _), Nat.sub_self]
    exact hx
theorem asc_at {ws : List Int} {n : Nat} (h : Asc ws n) (i : Nat) (hi : i < ws.length) : 0 ≤ ws.getD i 0 ∧ ws.getD i 0 < n := by
  rw [List.getD_eq_getElem?_getD, List.getElem?_eq_getElem hi]
  exact h.mem _ (List.getElem_mem hi)
theorem asc_lt {ws : List Int} (h : ws.Pairwise (· < ·)) (i j : Nat) (hij : i < j) (hj : j < ws.length) : ws.getD i 0 < ws.getD j 0 := by
  rw [List.getD_eq_getElem?_getD, List.getElem?_eq_getElem (by omega), List.getD_eq_getElem?_getD, List.getElem?_eq_getElem hj]
  exact List.pairwise_iff_getElem.1 h i j (by omega) hj hij
theorem alsoErr_zero {n i : Nat} {l : List Int} (hl : l.Pairwise (· < ·)) (hm : ∀ y ∈ l, 0 ≤ y ∧ y < n ∧ y ≠ i) : ∀ (m k : Nat), k + m ≤ l.length → alsoErr n i l m k = 0
  | 0, k, _ => rfl
  | m + 1, k, h => by
    have hk : k < l.length := by omega
    have hmem : l.getD k 0 ∈ l := by rw [List.getD_eq_getElem?_getD, List.getElem?_eq_getElem hk]; exact List.getElem_mem hk
    have h1 := hm _ hmem
    unfold alsoErr
    rw [if_neg (by omega), if_neg (by omega), if_neg, alsoErr_zero hl hm m (k + 1) (by omega)]
    rintro ⟨h2, h3⟩
    have := asc_lt hl (k - 1) k (by omega) hk
    omega
theorem HdsOK.err {nc : Nat} {cs : List Cl} {ws : List Int} {hs : List Hd} (hw : Asc ws 16) (hc : cs.length = nc) (hn : hs.length = ws.length) (h : HdsOK nc hs.length ws hs) (i : Nat) (hi : i < hs.length) : headErr cs hs i = 0 := by
  have hx := h i hi
  obtain ⟨w0, w1⟩ := asc_at hw i (by omega)
  unfold headErr
  rw [hx.word, if_neg (by rw [call_word _ w0 (by omega)]; simp)]
  rw [if_neg]
  · rw [if_neg]
    · rw [if_neg (by have := hx.cls; omega), if_neg (by have := hx.see; omega), if_neg (by have := hx.see; omega), if_neg, ]
      · unfold kindErr
        rw [if_neg]
        rintro (⟨h1, h2⟩ | ⟨h1, h2, h3⟩)
        · have := hx.ptr h1
          rw [this.2] at h2
          rcases h2 with h2 | h2
          · exact h2 this.1
          · simp at h2
        · exact hx.idx h1 h2 (List.length_eq_zero_iff.1 h3)
      · rw [alsoErr_zero hx.asc hx.also _ _ (by omega)]
        simp
    · rintro ⟨h0, h1⟩
      have hy := h (i - 1) (by omega)
      rw [hy.word, (call_lt _ _ (asc_at hw (i - 1) (by omega)).1 (by omega) (asc_lt hw.lt (i - 1) i (by omega) (by omega))).2] at h1
      cases h1
  · rw [any_false]
    · simp
    intro y hy
    obtain ⟨j, hj, hjl, rfl⟩ := mem_take_getD hs zHd i y hy
    obtain ⟨g0, g1⟩ := asc_at hw j (by omega)
    have hlt := asc_lt hw.lt j i hj (by omega)
    rw [(h j hjl).word]
    exact call_ne _ _ g0 (by omega) w0 (by omega) (by omega)
theorem firstErr_none {g : Nat → Int} : ∀ (m i : Nat), (∀ j, i ≤ j → j < i + m → g j = 0) → firstErr g m i = 0
  | 0, i, _ => rfl
  | m + 1, i, h => by
    unfold firstErr
    rw [if_neg (by rw [h i (Nat.le_refl _) (by omega)]; simp)]
    exact firstErr_none m (i + 1) (fun j h1 h2 => h j (by omega) (by omega))
theorem made_valid {p : List Int} {cs : List Cl} {ws : List Int} {hs : List Hd} (hp : p.Perm (nats 9)) (hc6 : cs.length ≤ 6) (hh6 : hs.length ≤ 6) (hc : ClsOK p cs) (hw : Asc ws 16) (hn : hs.length = ws.length) (h : HdsOK cs.length hs.length ws hs) : checkT cs hs = 0 := by
  unfold checkT
  rw [if_neg (by omega), firstErr_none _ _ (fun j _ hj => hc.err hp (by omega) j (by omega)), if_neg (by simp), firstErr_none _ _ (fun j _ hj => h.err hw rfl hn j (by omega))]
end Go.Proofs.Ytfbimhnlcmdcpaa.Q
/- TradesOf gives trades, and they are valid. -/
namespace Go.Proofs.Ytfbimhnlcmdcpaa.Q
open Go.RowKit Go.Proofs.Ytfbimhnlcmdcpaa.Pa Go.Proofs.YtfbimhnlcmdcpaaW.PrintWords Go.Proofs.YtfbimhnlcmdcpaaW.PrintLast Go.Proofs.YtfbimhnlcmdcpaaW.PrintMore
set_option linter.unusedVariables false
set_option linter.unusedSimpArgs false

abbrev TRes := List Cl × List Hd × Int × Int
/-- The loop on headings comes to n headings that are in order. -/
def HRes (l : List Int) (ws : List Int) (cs : List Cl) (n : Nat) (g : Nat → Option TRes) : Prop :=
  ∃ hs a s, Ev g (cs, hs, a, s) ∧ hs.length = n ∧ HdsOK cs.length n ws hs ∧ DOK l a
theorem HRes.step {l ws : List Int} {cs : List Cl} {n : Nat} {g f : Nat → Option TRes} (h : ∀ k, g (k + 1) = f k) (hf : HRes l ws cs n f) : HRes l ws cs n g := by
  obtain ⟨hs, a, s, he, h1, h2, h3⟩ := hf
  exact ⟨hs, a, s, Ev.step h he, h1, h2, h3⟩
theorem HRes.congr {l ws : List Int} {cs : List Cl} {n : Nat} {g f : Nat → Option TRes} (h : ∀ k, g k = f k) (hf : HRes l ws cs n f) : HRes l ws cs n g := by
  obtain ⟨hs, a, s, he, h1, h2, h3⟩ := hf
  exact ⟨hs, a, s, Ev.congr h he, h1, h2, h3⟩

structure Env (l : List Int) (ws : List Int) (cs : List Cl) (n : Nat) : Prop where
  asc : Asc ws 16
  len : ws.length = n
  pos : 1 ≤ cs.length
  le : cs.length ≤ 6
  n6 : n ≤ 6

/-- What is laid for heading i so far. -/
theorem l2_ok {l ws : List Int} {cs : List Cl} {n : Nat} (E : Env l ws cs n) (i : Nat) (hi : i < n) (hs : List Hd) (hl : hs.length = i) (hok : HdsOK cs.length n ws hs) (u : Int) (hu0 : 0 ≤ u) (hu1 : u < cs.length)
    (ih : ∀ hs' a s, hs'.length = i + 1 → HdsOK cs.length n ws hs' → DOK l a → HRes l ws cs n (fun k => wayzgoosekit_TradesOf.l1 k ws n ((i : Int) + 1) l a s cs hs')) :
    ∀ (e j : Nat) (ul : List Int) (a s : Int), j + e = n → ul.Pairwise (· < ·) → (∀ y ∈ ul, 0 ≤ y ∧ y < j ∧ y ≠ i) → ul.length ≤ j → DOK l a →
      HRes l ws cs n (fun k => wayzgoosekit_TradesOf.l2 k ws n i j l a s cs hs (callAt (ws.getD i 0)) u (-1) ul) := by
  have hn6 := E.n6
  have hws := E.len
  intro e
  induction e with
  | zero =>
    intro j ul a s hj hp hm hul hd
    obtain rfl : j = n := by omega
    have hfin : ∀ c : Int, (c = u ∨ (c = -1 ∧ ul ≠ [])) → HdsOK cs.length j ws (hs ++ [⟨callAt (ws.getD i 0), c, -1, ul⟩]) := by
      intro c hc
      refine HdsOK.snoc hok ?_
      rw [hl]
      refine ⟨rfl, by show -1 ≤ c ∧ c < _; omega, .inl rfl, fun h => absurd rfl h, fun _ h1 => ?_, hp, fun y hy => hm y hy⟩
      rcases hc with hc | hc
      · have h1 : c = -1 := h1
        omega
      · exact hc.2
    by_cases c : (ul.length : Int) > 0
    · obtain ⟨b, a', s', hr, hd'⟩ := once_ok (s := s) (n := 4) hd (by omega) (by omega)
      have hne : ul ≠ [] := by rintro rfl; simp at c
      cases b with
      | true =>
        refine HRes.step (fun k => ?_) (ih (hs ++ [⟨callAt (ws.getD i 0), -1, -1, ul⟩]) a' s' (by simp [hl]) (hfin (-1) (.inr ⟨rfl, hne⟩)) hd')
        simp only [wayzgoosekit_TradesOf.l2]
        rw [if_neg (by omega), if_pos c, hr]
        simp only [Option.bind_some, if_true]
        rw [if_pos (by omega), w64s (by omega) (by omega)]
      | false =>
        refine HRes.step (fun k => ?_) (ih (hs ++ [⟨callAt (ws.getD i 0), u, -1, ul⟩]) a' s' (by simp [hl]) (hfin u (.inl rfl)) hd')
        simp only [wayzgoosekit_TradesOf.l2]
        rw [if_neg (by omega), if_pos c, hr]
        simp only [Option.bind_some, Bool.false_eq_true, if_false]
        rw [if_pos (by omega), w64s (by omega) (by omega)]
    · refine HRes.step (fun k => ?_) (ih (hs ++ [⟨callAt (ws.getD i 0), u, -1, ul⟩]) a s (by simp [hl]) (hfin u (.inl rfl)) hd)
      simp only [wayzgoosekit_TradesOf.l2]
      rw [if_neg (by omega), if_neg c, if_pos (by omega), w64s (by omega) (by omega)]
  | succ e ihe =>
    intro j ul a s hj hp hm hul hd
    by_cases c : (j : Int) = i
    · refine HRes.step (fun k => ?_) (ihe (j + 1) ul a s (by omega) hp (fun y hy => by have := hm y hy; omega) (by omega) hd)
      simp only [wayzgoosekit_TradesOf.l2]
      rw [if_pos (by omega), if_pos c, w64s (by omega) (by omega)]
      rfl
    · obtain ⟨b, a', s', hr, hd'⟩ := once_ok (s := s) (n := 4) hd (by omega) (by omega)
      cases b with
      | true =>
        refine HRes.step (fun k => ?_) (ihe (j + 1) (ul ++ [(j : Int)]) a' s' (by omega) ?_ ?_ (by simp; omega) hd')
        · simp only [wayzgoosekit_TradesOf.l2]
          rw [if_pos (by omega), if_neg c, hr]
          simp only [Option.bind_some, if_true]
          rw [if_pos (by omega), w64s (by omega) (by omega)]
          rfl
        · rw [List.pairwise_append]
          refine ⟨hp, by simp, fun x hx y hy => ?_⟩
          rw [List.mem_singleton.1 hy]
          exact (hm x hx).2.1
        · intro y hy
          rcases List.mem_append.1 hy with hy | hy
          · have := hm y hy; omega
          · rw [List.mem_singleton.1 hy]; omega
      | false =>
        refine HRes.step (fun k => ?_) (ihe (j + 1) ul a' s' (by omega) hp (fun y hy => by have := hm y hy; omega) (by omega) hd')
        simp only [wayzgoosekit_TradesOf.l2]
        rw [if_pos (by omega), if_neg c, hr]
        simp only [Option.bind_some, Bool.false_eq_true, if_false]
        rw [w64s (by omega) (by omega)]
        rfl
theorem j2_ok {l ws : List Int} {cs : List Cl} {n : Nat} (E : Env l ws cs n) (i : Nat) (hi : i < n) (hs : List Hd) (hl : hs.length = i) (hok : HdsOK cs.length n ws hs) (u : Int) (hu0 : 0 ≤ u) (hu1 : u < cs.length) (b : Bool) (hb : b = true → 2 ≤ n) (a s : Int) (hd : DOK l a)
    (ih : ∀ hs' a s, hs'.length = i + 1 → HdsOK cs.length n ws hs' → DOK l a → HRes l ws cs n (fun k => wayzgoosekit_TradesOf.l1 k ws n ((i : Int) + 1) l a s cs hs')) :
    HRes l ws cs n (fun k => wayzgoosekit_TradesOf.j2 k ws n i b l a s cs hs (callAt (ws.getD i 0)) u (-1)) := by
  have hn6 := E.n6
  cases b with
  | true =>
    have hn2 := hb rfl
    obtain ⟨y, a', s', hr, y0, y1, hd'⟩ := to_ok' (s := s) (n := (n : Int) - 2) hd (by omega) (by omega)
    have e1 : wrap64 ((n : Int) - 2) = (n : Int) - 2 := w64s (by omega) (by omega)
    have e2 : wrap64 ((i : Int) + 1) = (i : Int) + 1 := w64s (by omega) (by omega)
    have e3 : wrap64 ((i : Int) + 1 + y) = (i : Int) + 1 + y := w64s (by omega) (by omega)
    have e4 : ((i : Int) + 1 + y).tmod n = ((i : Int) + 1 + y) % n := Int.tmod_eq_emod_of_nonneg (by omega)
    have h3 := Int.emod_nonneg ((i : Int) + 1 + y) (show (n : Int) ≠ 0 by omega)
    have h4 := Int.emod_lt_of_pos ((i : Int) + 1 + y) (show 0 < (n : Int) by omega)
    have h5 : ((i : Int) + 1 + y) % n ≠ i := by
      rcases (show ((i : Int) + 1 + y) < n ∨ (n : Int) ≤ (i : Int) + 1 + y by omega) with hlt | hge
      · rw [Int.emod_eq_of_lt (by omega) hlt]; omega
      · rw [← Int.sub_emod_right, Int.emod_eq_of_lt (by omega) (by omega)]; omega
    refine HRes.step (fun k => ?_) (ih (hs ++ [⟨callAt (ws.getD i 0), -1, ((i : Int) + 1 + y) % n, []⟩]) a' s' (by simp [hl]) ?_ hd')
    · simp only [wayzgoosekit_TradesOf.j2, if_true]
      rw [e1, hr]
      simp only [Option.bind_some]
      rw [if_neg (by omega), if_pos (by omega), e2, e3, e4]
    · refine HdsOK.snoc hok ?_
      rw [hl]
      exact ⟨rfl, by show (-1 : Int) ≤ -1 ∧ (-1 : Int) < (cs.length : Int); have := E.pos; omega, .inr ⟨h3, h4, h5⟩, fun _ => ⟨rfl, rfl⟩, fun h => by have h : ((i : Int) + 1 + y) % n = -1 := h; omega, List.Pairwise.nil, fun y hy => by simp at hy⟩
  | false =>
    refine HRes.step (fun k => ?_) (l2_ok E i hi hs hl hok u hu0 hu1 ih n 0 [] a s (by omega) List.Pairwise.nil (fun y hy => by simp at hy) (by simp) hd)
    simp only [wayzgoosekit_TradesOf.j2, Bool.false_eq_true, if_false]
    rfl
theorem l1_ok {l ws : List Int} {cs : List Cl} {n : Nat} (E : Env l ws cs n) : ∀ (d i : Nat) (hs : List Hd) (a s : Int), i + d = n → hs.length = i → HdsOK cs.length n ws hs → DOK l a → HRes l ws cs n (fun k => wayzgoosekit_TradesOf.l1 k ws n i l a s cs hs) := by
  have hn6 := E.n6
  have hws := E.len
  have hpos := E.pos
  have hle := E.le
  intro d
  induction d with
  | zero =>
    intro i hs a s hi hl hok hd
    refine ⟨hs, a, s, Ev.last (fun k => ?_), by omega, hok, hd⟩
    simp only [wayzgoosekit_TradesOf.l1]
    rw [if_neg (by omega)]
  | succ d ih =>
    intro i hs a s hi hl hok hd
    have ih' : ∀ hs' a s, hs'.length = i + 1 → HdsOK cs.length n ws hs' → DOK l a → HRes l ws cs n (fun k => wayzgoosekit_TradesOf.l1 k ws n ((i : Int) + 1) l a s cs hs') := fun hs' a s h1 h2 h3 => ih (i + 1) hs' a s (by omega) h1 h2 h3
    obtain ⟨w0, w1⟩ := asc_at E.asc i (by omega)
    have hrd : rd ws (i : Int) = ws.getD i 0 := by simp [rd]
    obtain ⟨u, a1, s1, hr, u0, u1, hd1⟩ := to_ok' (s := s) (n := (cs.length : Int) - 1) hd (by omega) (by omega)
    have e1 : wrap64 ((cs.length : Int) - 1) = (cs.length : Int) - 1 := w64s (by omega) (by omega)
    by_cases c : (n : Int) > 1
    · obtain ⟨b, a2, s2, ho, hd2⟩ := once_ok (s := s1) (n := 3) hd1 (by omega) (by omega)
      refine HRes.step (fun k => ?_) (j2_ok E i (by omega) hs hl hok u u0 (by omega) b (fun _ => by omega) a2 s2 hd2 ih')
      simp only [wayzgoosekit_TradesOf.l1]
      rw [if_pos (by omega), call_f]
      simp only [Option.bind_some]
      rw [if_pos (by omega), if_pos (by omega), hrd, if_pos w0, if_pos (by rw [call_len]; omega), e1, hr]
      simp only [Option.bind_some]
      rw [if_pos c, ho]
      rfl
    · refine HRes.step (fun k => ?_) (j2_ok E i (by omega) hs hl hok u u0 (by omega) false (fun h => by cases h) a1 s1 hd1 ih')
      simp only [wayzgoosekit_TradesOf.l1]
      rw [if_pos (by omega), call_f]
      simp only [Option.bind_some]
      rw [if_pos (by omega), if_pos (by omega), hrd, if_pos w0, if_pos (by rw [call_len]; omega), e1, hr]
      simp only [Option.bind_some]
      rw [if_neg c]
      rfl
/-- Made trades. -/
structure MadeT (cs : List Cl) (hs : List Hd) (c h : Int) : Prop where
  ok : checkT cs hs = 0
  pos : 1 ≤ cs.length
  cls : (cs.length : Int) ≤ c ∨ cs.length = 1
  hds : (hs.length : Int) ≤ h
theorem l0_ok {l : List Int} {p : List Int} (hp : p.Perm (nats 9)) (h : Int) (h0 : 0 ≤ h) (h6 : h ≤ 6) : ∀ (d : Nat) (cs : List Cl) (a s : Int), cs.length + d ≤ 6 → 1 ≤ cs.length + d → ClsOK p cs → DOK l a →
    ∃ cs' hs a' s', Ev (fun k => wayzgoosekit_TradesOf.l0 k h p d l a s cs) (cs', hs, a', s') ∧ checkT cs' hs = 0 ∧ cs'.length = cs.length + d ∧ (hs.length : Int) ≤ h ∧ DOK l a' := by
  intro d
  induction d with
  | zero =>
    intro cs a s hl hl1 hc hd
    obtain ⟨mh, a1, s1, hr, m0, m1, hd1⟩ := to_ok' (s := s) (n := h) hd (by omega) h0
    obtain ⟨ws, a2, s2, he, hw, hlen, hd2⟩ := part_ok (s := s1) 16 mh hd1 (by omega) (by omega) m0
    have hn6 : ws.length ≤ 6 := by omega
    obtain ⟨hs, a3, s3, he3, hl3, hok3, hd3⟩ := l1_ok (l := l) (ws := ws) (cs := cs) (n := ws.length) ⟨hw, rfl, by omega, by omega, hn6⟩ ws.length 0 [] a2 s2 (by omega) rfl (fun i hi => by simp at hi) hd2
    refine ⟨cs, hs, a3, s3, ?_, made_valid hp (by omega) (by omega) hc hw hl3 (by rw [hl3]; exact hok3), rfl, by omega, hd3⟩
    refine Ev.step (f := fun k => (wayzgoosekit_partOf.f k l a1 s1 16 mh).bind fun bt => wayzgoosekit_TradesOf.l1 k bt.1 (bt.1.length : Int) 0 l bt.2.1 bt.2.2 cs []) (fun k => ?_) (Ev.bind (f := fun k (bt : List Int × Int × Int) => wayzgoosekit_TradesOf.l1 k bt.1 (bt.1.length : Int) 0 l bt.2.1 bt.2.2 cs []) he he3)
    simp only [wayzgoosekit_TradesOf.l0]
    rw [if_neg (by omega), call_f]
    simp only [Option.bind_some]
    rw [hr]
    simp only [Option.bind_some, call_len]
    rfl
  | succ d ih =>
    intro cs a s hl hl1 hc hd
    obtain ⟨g1, g2, g3⟩ := perm_at hp cs.length (by omega)
    obtain ⟨u, a1, s1, hr, u0, u1, hd1⟩ := from_ok (s := s) (lo := -1) (hi := (cs.length : Int) - 1) hd (by omega) (by omega) (by omega) (by omega)
    have e1 : wrap64 ((cs.length : Int) - 1) = (cs.length : Int) - 1 := w64s (by omega) (by omega)
    have e2 : wrap64 (((d + 1 : Nat) : Int) - 1) = (d : Int) := by rw [w64s (by omega) (by omega)]; omega
    have hrd : rd p (cs.length : Int) = p.getD cs.length 0 := by simp [rd]
    have hl2 : (cs ++ [(⟨sortAt (p.getD cs.length 0), u⟩ : Cl)]).length = cs.length + 1 := by simp
    obtain ⟨cs', hs, a', s', he, h1, h2, h3, h4⟩ := ih (cs ++ [⟨sortAt (p.getD cs.length 0), u⟩]) a1 s1 (by omega) (by omega) (hc.snoc u (by omega) (by omega)) hd1
    refine ⟨cs', hs, a', s', Ev.step (fun k => ?_) he, h1, by omega, h3, h4⟩
    simp only [wayzgoosekit_TradesOf.l0]
    rw [if_pos (by omega), sorts_f]
    simp only [Option.bind_some]
    rw [if_pos (by omega), if_pos (by omega), hrd, if_pos g2, if_pos (by rw [sorts_len]; omega), e1, hr]
    simp only [Option.bind_some]
    rw [if_pos (by omega), e2]
    rfl
theorem tradesOf_ok {l : List Int} {a s c h : Int} (hd : DOK l a) (c1 : 1 ≤ c) (c6 : c ≤ 6) (h0 : 0 ≤ h) (h6 : h ≤ 6) : ∃ cs hs a' s', Ev (fun k => wayzgoosekit_TradesOf.f k l a s c h) (cs, hs, a', s') ∧ MadeT cs hs c h ∧ DOK l a' := by
  obtain ⟨p, a1, s1, he, hp, hd1⟩ := order_ok (s := s) 9 hd (by omega) (by omega)
  obtain ⟨m, a2, s2, hr, m0, m1, hd2⟩ := from_ok (s := s1) (lo := 1) (hi := c) hd1 (by omega) (by omega) (by omega) (by omega)
  obtain ⟨d, rfl⟩ : ∃ d : Nat, m = d := ⟨m.toNat, by omega⟩
  obtain ⟨cs, hs, a3, s3, he3, g1, g2, g3, g4⟩ := l0_ok (l := l) hp h h0 h6 d [] a2 s2 (by simp; omega) (by simp; omega) ⟨fun i hi => by simp at hi, fun i hi => by simp at hi⟩ hd2
  have g2 : cs.length = d := by simpa using g2
  refine ⟨cs, hs, a3, s3, ?_, ⟨g1, by omega, by omega, g3⟩, g4⟩
  refine Ev.congr (f := fun k => (wayzgoosekit_Dice_Order.f k l a s 9).bind fun bt => (wayzgoosekit_Dice_From.f l bt.2.1 bt.2.2 1 c).bind fun bt2 => wayzgoosekit_TradesOf.l0 k h bt.1 bt2.1 l bt2.2.1 bt2.2.2 []) (fun k => ?_) ?_
  · unfold wayzgoosekit_TradesOf.f
    rw [sorts_f]
    simp only [Option.bind_some, sorts_len]
    rfl
  · refine Ev.bind (f := fun k (bt : List Int × Int × Int) => (wayzgoosekit_Dice_From.f l bt.2.1 bt.2.2 1 c).bind fun bt2 => wayzgoosekit_TradesOf.l0 k h bt.1 bt2.1 l bt2.2.1 bt2.2.2 []) he ?_
    refine Ev.congr (fun k => ?_) he3
    simp only [hr, Option.bind_some]
theorem newDice_ok {l : List Int} (h : l.length * 8 ≤ 140737488351232) : DOK l 0 := ⟨by omega, by omega, by omega⟩
end Go.Proofs.Ytfbimhnlcmdcpaa.Q
namespace Go.Proofs.Ytfbimhnlcmdcpaa.Pa
open Go.RowKit Go.Proofs.YtfbimhnlcmdcpaaW.PrintWords Go.Proofs.YtfbimhnlcmdcpaaW.PrintLast Go.Proofs.YtfbimhnlcmdcpaaW.PrintMore
attribute [local go_sem] max2_int min2_int max_two min_two max_three min_three max_four min_four   -- for this text's walks alone
set_option linter.unusedVariables false
set_option linter.unusedSimpArgs false

/-! ### wayzgooselaw04_under: function 16 -/
mutual
def wayzgooselaw04_under.l0 : Nat → Int → Int → Int → List (S51) → List (S39) → Option (Bool)
  | 0, _, _, _, _, _ => none
  | k + 1, x1, x2, x7, x211000, x211001 => if x7 < (x211000.length : Int) then (wayzgooselaw04_under.j1 k x1 x2 x7 (decide (x1 ≥ 0)) x211000 x211001) else (wayzgooselaw04_under.j1 k x1 x2 x7 false x211000 x211001)
def wayzgooselaw04_under.j1 : Nat → Int → Int → Int → Bool → List (S51) → List (S39) → Option (Bool)
  | 0, _, _, _, _, _, _ => none
  | k + 1, x1, x2, x7, x16, x211000, x211001 => if x16 = true then (if x1 = x2 then (some true) else (if 0 ≤ x1 then (if x1 < (x211000.length : Int) then (wayzgooselaw04_under.l0 k ((rd_T51 x211000 x1).f1) x2 (wrap64 (x7 + 1)) x211000 x211001) else (none)) else (none))) else (some false)
end
def wayzgooselaw04_under.f (k : Nat) (l0_0 : List (S51)) (l0_1 : List (S39)) (a1 : Int) (a2 : Int) : Option (Bool) := wayzgooselaw04_under.l0 k a1 a2 0 l0_0 l0_1
theorem wayzgooselaw04_under.mono_l : ∀ k, (∀ y0 y1 y2 y3 y4, LeO (wayzgooselaw04_under.l0 k y0 y1 y2 y3 y4) (wayzgooselaw04_under.l0 (k + 1) y0 y1 y2 y3 y4)) ∧ (∀ y0 y1 y2 y3 y4 y5, LeO (wayzgooselaw04_under.j1 k y0 y1 y2 y3 y4 y5) (wayzgooselaw04_under.j1 (k + 1) y0 y1 y2 y3 y4 y5))
  | 0 => ⟨fun _ _ _ _ _ r h => by simp [wayzgooselaw04_under.l0] at h, fun _ _ _ _ _ _ r h => by simp [wayzgooselaw04_under.j1] at h⟩
  | k + 1 => by
    obtain ⟨ih0, ih1⟩ := wayzgooselaw04_under.mono_l k
    refine ⟨?_, ?_⟩
    · intro y0 y1 y2 y3 y4
      unfold wayzgooselaw04_under.l0
      repeat' first
      | (with_reducible exact ih0 _ _ _ _ _)
      | (with_reducible exact ih1 _ _ _ _ _ _)
      | (with_reducible exact LeO.refl _)
      | (with_reducible exact LeO.none _)
      | (with_reducible refine LeO.ite ?_ ?_)
      | (with_reducible refine LeO.bind ?_ (fun _ => ?_))
      | exact ih0 _ _ _ _ _
      | exact ih1 _ _ _ _ _ _
      | exact LeO.none _
      | refine LeO.ite ?_ ?_
      | refine LeO.bind ?_ (fun _ => ?_)
    · intro y0 y1 y2 y3 y4 y5
      unfold wayzgooselaw04_under.j1
      repeat' first
      | (with_reducible exact ih0 _ _ _ _ _)
      | (with_reducible exact ih1 _ _ _ _ _ _)
      | (with_reducible exact LeO.refl _)
      | (with_reducible exact LeO.none _)
      | (with_reducible refine LeO.ite ?_ ?_)
      | (with_reducible refine LeO.bind ?_ (fun _ => ?_))
      | exact ih0 _ _ _ _ _
      | exact ih1 _ _ _ _ _ _
      | exact LeO.none _
      | refine LeO.ite ?_ ?_
      | refine LeO.bind ?_ (fun _ => ?_)
theorem wayzgooselaw04_under.mono : ∀ a0 a1 a2 a3 k, LeO (wayzgooselaw04_under.f k a0 a1 a2 a3) (wayzgooselaw04_under.f (k + 1) a0 a1 a2 a3) := by
  intro a0 a1 a2 a3 k
  obtain ⟨ih0, ih1⟩ := wayzgooselaw04_under.mono_l k
  unfold wayzgooselaw04_under.f
  repeat' first
      | (with_reducible exact ih0 _ _ _ _ _)
      | (with_reducible exact ih1 _ _ _ _ _ _)
      | (with_reducible exact LeO.refl _)
      | (with_reducible exact LeO.none _)
      | (with_reducible refine LeO.ite ?_ ?_)
      | (with_reducible refine LeO.bind ?_ (fun _ => ?_))
      | exact ih0 _ _ _ _ _
      | exact ih1 _ _ _ _ _ _
      | exact LeO.none _
      | refine LeO.ite ?_ ?_
      | refine LeO.bind ?_ (fun _ => ?_)
set_option maxHeartbeats 8000000 in
set_option maxRecDepth 100000 in
theorem wayzgooselaw04_under.calls (k : Nat) (A0_0 : Option Addr) (c0_0 : Nat) (l0_0 : List (S51)) (A0_1 : Option Addr) (c0_1 : Nat) (l0_1 : List (S39)) (a1 : Int) (a2 : Int) (r : Bool) (w : World) (hr0_0 : Kd.C k51 w A0_0 l0_0.length l0_0) (hc0_0 : l0_0.length ≤ c0_0) (hr0_1 : Kd.C k39 w A0_1 l0_1.length l0_1) (hc0_1 : l0_1.length ≤ c0_1) (h : wayzgooselaw04_under.f k l0_0 l0_1 a1 a2 = some r) :
    Calls Try.prog 16 #[.agg #[.slice A0_0 l0_0.length c0_0, .slice A0_1 l0_1.length c0_1], .int .i64 a1, .int .i64 a2] w fun e w' => e = .returned (.bool r) ∧ Below w.heap.size w w' := by
  have hu26 := Try.underlying26
  have HR0_0 := Aside0.mk hr0_0
  have HC0_0 := Aside0.mk hc0_0
  clear hr0_0 hc0_0
  have HR0_1 := Aside0.mk hr0_1
  have HC0_1 := Aside0.mk hc0_1
  clear hr0_1 hc0_1
  have HB := Aside0.mk (Below.refl w.heap.size w)
  have H : (wayzgooselaw04_under.l0 k a1 a2 0 l0_0 l0_1) = some r := h
  clear h
  have H' := Aside0.mk H
  clear H
  go_enter Try.func16, Try.ntmps16
  go_wp2_with (first | ((with_reducible refine gate_dst (N := 3) rfl ?_); refine box_event ?hg (N := 3) ?hd (cs := #[.slice A0_0 l0_0.length c0_0, .slice A0_1 l0_1.length c0_1]) (t := 26) ?hr ?_; (case hd => rfl); (case hg => rfl); (case hr => first | (go_simp; done) | (go_simp; rfl)); intro gb210 hg w4 hbox hb; have n0_ := Aside0.mk (below_step (by repeat (first | (with_reducible first | exact HB.out | apply below_alloc | apply pw_below_drewN | apply below_drew1) | exact HB.out)) hb); have n1_ := Aside0.mk (hbox); have n2_ := Aside0.mk ((by rw [hg]; exact (below_size (by repeat (first | (with_reducible first | exact HB.out | apply below_alloc | apply pw_below_drewN | apply below_drew1) | exact HB.out))) : w.heap.size ≤ gb210)); have n3_ := Aside0.mk ((by rw [hg]; exact (below_size (by repeat (first | (with_reducible first | exact HB.out | apply below_alloc | apply pw_below_drewN | apply below_drew1) | exact HB.out))) : w.heap.size ≤ gb210)); clear HB; have HB := n0_; have BK210 := n1_; have GW210 := n2_; have GE210 := n3_; clear n0_ n1_ n2_ n3_; clear hb hbox hg))
  go_loopg [1, 7] k (fun kq v1 v7 w' => ∃ (x1_1 : Int) (x7_1 : Int), v1 = .int .i64 x1_1 ∧ v7 = .int .i64 x7_1 ∧ Aside0 (wayzgooselaw04_under.l0 kq x1_1 a2 x7_1 l0_0 l0_1 = some r) ∧ Aside0 (kq ≤ k) ∧ Aside0 (w'.heap[gb210]? = some (.cells #[(.slice A0_0 l0_0.length c0_0), (.slice A0_1 l0_1.length c0_1)] 26 (0, 0))) ∧ Aside0 (Below w.heap.size w w'))
  case atStart => exact ⟨(a1), (0), (by first | rfl | (simp; done) | (simp [*]; done)), (by first | rfl | (simp; done) | (simp [*]; done)), H', ⟨Nat.le_refl _⟩, ⟨by (with_reducible repeat (first | refine blk_drewN ?_ _ | refine blk_drew ?_ | refine blk_alloc ?_ _)); exact BK210.out⟩, ⟨by repeat (first | (with_reducible first | exact HB.out | apply below_alloc | apply pw_below_drewN | apply below_drew1 | refine below_set ?_ GE210.out) | exact HB.out)⟩⟩
  case round =>
    clear H'
    try clear c1
    try clear p2
    obtain ⟨x1_1, x7_1, rfl, rfl, HA, HK1, BK210, HB⟩ := hrel
    cases gk with
    | zero => exact absurd HA.out (by simp [wayzgooselaw04_under.l0])
    | succ k1 =>
      have H := HA.out
      clear HA
      simp only [wayzgooselaw04_under.l0] at H
      have HC5 := Aside0.mk H
      clear H
      go_upto_region 2 with (fail)
      go_cut [16] (fun v16 wc => ∃ (kq : Nat) (x16_4 : Bool), v16 = .bool x16_4 ∧ Aside0 (wayzgooselaw04_under.j1 kq x1_1 a2 x7_1 x16_4 l0_0 l0_1 = some r) ∧ Aside0 (kq ≤ k1) ∧ Aside0 (wc.heap[gb210]? = some (.cells #[(.slice A0_0 l0_0.length c0_0), (.slice A0_1 l0_1.length c0_1)] 26 (0, 0))) ∧ Aside0 (Below w.heap.size w wc))
      case first =>
        have H := HC5.out
        clear HC5
        by_cases c6 : x7_1 < (l0_0.length : Int)
        · rw [if_pos c6] at H
          have c6b0 : decide (x7_1 < (l0_0.length : Int)) = true := decide_eq_true c6
          clear c6
          (first | rw [c6b0] | (simp only [i64_w, i32_w]; rw [c6b0]) | skip)
          have H' := Aside0.mk H
          clear H
          have hcz7_0 : wr.cell? ⟨gb210, 0, none⟩ = some (.slice A0_0 l0_0.length c0_0) := (blk_cell BK210.out 0).trans rfl
          have hcz7_1 : wr.cell? ⟨gb210, 1, none⟩ = some (.slice A0_1 l0_1.length c0_1) := (blk_cell BK210.out 1).trans rfl
          have hfz7_0 := blk_frozen BK210.out 0
          have hfz7_1 := blk_frozen BK210.out 1
          go_wp2
          go_meet
          case rel => exact ⟨_, (decide (x1_1 ≥ 0)), (by first | rfl | (simp; done) | (simp [*]; done)), H', ⟨by have := HK1.out; first | omega | exact Nat.le_refl _⟩, ⟨by (with_reducible repeat (first | refine blk_drewN ?_ _ | refine blk_drew ?_ | refine blk_alloc ?_ _)); exact BK210.out⟩, ⟨by repeat (first | (with_reducible first | exact HB.out | apply below_alloc | apply pw_below_drewN | apply below_drew1 | refine below_set ?_ GE210.out) | exact HB.out)⟩⟩
        · rw [if_neg c6] at H
          have c6b0 : decide (x7_1 < (l0_0.length : Int)) = false := decide_eq_false c6
          clear c6
          (first | rw [c6b0] | (simp only [i64_w, i32_w]; rw [c6b0]) | skip)
          have H' := Aside0.mk H
          clear H
          have hcz8_0 : wr.cell? ⟨gb210, 0, none⟩ = some (.slice A0_0 l0_0.length c0_0) := (blk_cell BK210.out 0).trans rfl
          have hcz8_1 : wr.cell? ⟨gb210, 1, none⟩ = some (.slice A0_1 l0_1.length c0_1) := (blk_cell BK210.out 1).trans rfl
          have hfz8_0 := blk_frozen BK210.out 0
          have hfz8_1 := blk_frozen BK210.out 1
          go_wp2
          go_meet
          case rel => exact ⟨_, (false), (by first | rfl | (simp; done) | (simp [*]; done)), H', ⟨by have := HK1.out; first | omega | exact Nat.le_refl _⟩, ⟨by (with_reducible repeat (first | refine blk_drewN ?_ _ | refine blk_drew ?_ | refine blk_alloc ?_ _)); exact BK210.out⟩, ⟨by repeat (first | (with_reducible first | exact HB.out | apply below_alloc | apply pw_below_drewN | apply below_drew1 | refine below_set ?_ GE210.out) | exact HB.out)⟩⟩
      case rest =>
        clear HC5
        try clear c1
        try clear p2
        try clear c6
        try clear c6b0
        try clear hcz7_0
        try clear hcz7_1
        try clear hcz8_0
        try clear hcz8_1
        try clear hfz7_0
        try clear hfz7_1
        try clear hfz8_0
        try clear hfz8_1
        try clear p2
        obtain ⟨kq, x16_4, rfl, HA, HJ4, BK210, HB⟩ := hcut
        cases kq with
        | zero => exact absurd HA.out (by simp [wayzgooselaw04_under.j1])
        | succ kj4 =>
          have H := HA.out
          clear HA
          simp only [wayzgooselaw04_under.j1] at H
          by_cases c9 : x16_4 = true
          · subst c9
            have H1 : (if x1_1 = a2 then (some true) else (if 0 ≤ x1_1 then (if x1_1 < (l0_0.length : Int) then (wayzgooselaw04_under.l0 kj4 ((rd_T51 l0_0 x1_1).f1) a2 (wrap64 (x7_1 + 1)) l0_0 l0_1) else (none)) else (none))) = some r := by rw [if_pos rfl] at H; exact H
            clear H
            have H := H1
            clear H1
            by_cases c10 : x1_1 = a2
            · rw [if_pos c10] at H
              have c10b0 : (x1_1 == a2) = true := beq_iff_eq.mpr c10
              have c10b1 : (x1_1 != a2) = false := bne_eq_false_iff_eq.mpr c10
              clear c10
              obtain rfl := Option.some.inj H
              go_wp2
              go_ret
              exact ⟨by first | rfl | (simp [errW_none, errW_some] <;> rfl) | (simp [*, errW_none, errW_some] <;> rfl), by repeat (first | (with_reducible first | exact HB.out | apply below_alloc | apply pw_below_drewN | apply below_drew1 | refine below_set ?_ GE210.out) | exact HB.out)⟩
            · rw [if_neg c10] at H
              have c10b0 : (x1_1 == a2) = false := beq_eq_false_iff_ne.mpr c10
              have c10b1 : (x1_1 != a2) = true := bne_iff_ne.mpr c10
              by_cases c11 : 0 ≤ x1_1
              · rw [if_pos c11] at H
                have c11b0 : decide (0 ≤ x1_1) = true := decide_eq_true c11
                clear c11
                by_cases c12 : x1_1 < (l0_0.length : Int)
                · rw [if_pos c12] at H
                  have c12b0 : decide (x1_1 < (l0_0.length : Int)) = true := decide_eq_true c12
                  clear c12
                  have H' := Aside0.mk H
                  clear H
                  have hcz13_0 : wc.cell? ⟨gb210, 0, none⟩ = some (.slice A0_0 l0_0.length c0_0) := (blk_cell BK210.out 0).trans rfl
                  have hcz13_1 : wc.cell? ⟨gb210, 1, none⟩ = some (.slice A0_1 l0_1.length c0_1) := (blk_cell BK210.out 1).trans rfl
                  have hfz13_0 := blk_frozen BK210.out 0
                  have hfz13_1 := blk_frozen BK210.out 1
                  have p211 : 0 ≤ (x1_1 : Int) := of_decide_eq_true (by first | (with_reducible assumption) | assumption)
                  have q211 : x1_1 < (l0_0.length : Int) := of_decide_eq_true (by first | (with_reducible assumption) | assumption)
                  obtain ⟨ad211, e211, hx211_0, hx211_1⟩ := at_T51 HR0_0.out x1_1 p211 q211
                  cases e211
                  replace hx211_0 := (HB.out.cell (World.block_lt_of_cell? w _ hx211_0)).trans hx211_0
                  replace hx211_1 := (HB.out.cell (World.block_lt_of_cell? w _ hx211_1)).trans hx211_1
                  replace p211 := eq_true p211
                  replace q211 := eq_true q211
                  go_wp2
                  go_roundg kj4
                  case measure => have := HK1.out; have := HJ4.out; omega
                  case rel => exact ⟨((rd_T51 l0_0 x1_1).f1), (wrap64 (x7_1 + 1)), (by first | rfl | (simp; done) | (simp [*]; done)), (by first | rfl | (simp; done) | (simp [*]; done)), H', ⟨by have := HK1.out; have := HJ4.out; omega⟩, ⟨by (with_reducible repeat (first | refine blk_drewN ?_ _ | refine blk_drew ?_ | refine blk_alloc ?_ _)); exact BK210.out⟩, ⟨by repeat (first | (with_reducible first | exact HB.out | apply below_alloc | apply pw_below_drewN | apply below_drew1 | refine below_set ?_ GE210.out) | exact HB.out)⟩⟩
                · rw [if_neg c12] at H
                  exact absurd H (by simp)
              · rw [if_neg c11] at H
                exact absurd H (by simp)
          · replace c9 := Bool.eq_false_iff.mpr c9
            subst c9
            have H1 : (some false) = some r := by rw [if_neg (show ¬ (false = true) by decide)] at H; exact H
            clear H
            have H := H1
            clear H1
            obtain rfl := Option.some.inj H
            go_wp2
            go_ret
            exact ⟨by first | rfl | (simp [errW_none, errW_some] <;> rfl) | (simp [*, errW_none, errW_some] <;> rfl), by repeat (first | (with_reducible first | exact HB.out | apply below_alloc | apply pw_below_drewN | apply below_drew1 | refine below_set ?_ GE210.out) | exact HB.out)⟩

end Go.Proofs.Ytfbimhnlcmdcpaa.Pa
/- Classes above classes: plain facts, and what the statements' 'under' computes. -/
namespace Go.Proofs.Ytfbimhnlcmdcpaa.Q
open Go.RowKit Go.Proofs.Ytfbimhnlcmdcpaa.Pa Go.Proofs.YtfbimhnlcmdcpaaW.PrintWords Go.Proofs.YtfbimhnlcmdcpaaW.PrintLast Go.Proofs.YtfbimhnlcmdcpaaW.PrintMore
set_option linter.unusedVariables false
set_option linter.unusedSimpArgs false

theorem firstErr_all {g : Nat → Int} : ∀ {m i : Nat}, firstErr g m i = 0 → ∀ j, i ≤ j → j < i + m → g j = 0
  | 0, i, _, j, h1, h2 => by omega
  | m + 1, i, h, j, h1, h2 => by
    unfold firstErr at h
    by_cases hz : g i = 0
    · rw [if_neg (by omega)] at h
      by_cases hj : j = i
      · rw [hj]; exact hz
      · exact firstErr_all h j (by omega) (by omega)
    · rw [if_pos hz] at h
      exact absurd h hz
theorem check_parts {cs : List Cl} {hs : List Hd} (h : checkT cs hs = 0) : cs.length ≤ 6 ∧ hs.length ≤ 6 ∧ (∀ i, i < cs.length → classErr cs i = 0) ∧ (∀ i, i < hs.length → headErr cs hs i = 0) := by
  unfold checkT at h
  split at h
  · omega
  · split at h
    · rename_i h1; exact absurd h h1
    · refine ⟨by omega, by omega, fun i hi => firstErr_all (by omega : firstErr (classErr cs) cs.length 0 = 0) i (by omega) (by omega), fun i hi => firstErr_all h i (by omega) (by omega)⟩
/-! ### the least class of two -/
/-! ### the statements' own 'under' -/
end Go.Proofs.Ytfbimhnlcmdcpaa.Q
/- What valid trades say of each heading. -/
namespace Go.Proofs.Ytfbimhnlcmdcpaa.Q
open Go.RowKit Go.Proofs.Ytfbimhnlcmdcpaa.Pa Go.Proofs.YtfbimhnlcmdcpaaW.PrintWords Go.Proofs.YtfbimhnlcmdcpaaW.PrintLast Go.Proofs.YtfbimhnlcmdcpaaW.PrintMore
set_option linter.unusedVariables false
set_option linter.unusedSimpArgs false

theorem also_parts {n i : Nat} {l : List Int} : ∀ {m k : Nat}, alsoErr n i l m k = 0 → ∀ j, k ≤ j → j < k + m → (0 ≤ l.getD j 0 ∧ l.getD j 0 < (n : Int) ∧ l.getD j 0 ≠ (i : Int) ∧ (0 < j → l.getD (j - 1) 0 < l.getD j 0))
  | 0, k, _, j, h1, h2 => by omega
  | m + 1, k, h, j, h1, h2 => by
    unfold alsoErr at h
    split at h
    · omega
    · split at h
      · omega
      · split at h
        · omega
        · rename_i a b c
          by_cases hj : j = k
          · subst hj
            refine ⟨by omega, by omega, by omega, fun h0 => ?_⟩
            have : ¬ l.getD j 0 ≤ l.getD (j - 1) 0 := fun h3 => c ⟨h0, h3⟩
            omega
          · exact also_parts h j (by omega) (by omega)
structure HeadV (cs : List Cl) (hs : List Hd) (i : Nat) (x : Hd) : Prop where
  word : wordOk x.f0 = true
  new : (hs.take i).any (fun y => sEq y.f0 x.f0) = false
  sorted : 0 < i → sLt x.f0 (hs.getD (i - 1) zHd).f0 = false
  cls : -1 ≤ x.f1 ∧ x.f1 < cs.length
  see : -1 ≤ x.f2 ∧ x.f2 < hs.length ∧ x.f2 ≠ i
  also : ∀ j, j < x.f3.length → (0 ≤ x.f3.getD j 0 ∧ x.f3.getD j 0 < (hs.length : Int) ∧ x.f3.getD j 0 ≠ (i : Int) ∧ (0 < j → x.f3.getD (j - 1) 0 < x.f3.getD j 0))
  ptr : x.f2 ≠ -1 → x.f1 = -1 ∧ x.f3 = []
  other : x.f2 = -1 → x.f1 = -1 → x.f3 ≠ []
theorem head_parts {cs : List Cl} {hs : List Hd} {i : Nat} (h : headErr cs hs i = 0) : HeadV cs hs i (hs.getD i zHd) := by
  unfold headErr at h
  by_cases a1 : wordOk (hs.getD i zHd).f0 = false
  · rw [if_pos a1] at h; omega
  · rw [if_neg a1] at h
    by_cases a2 : (hs.take i).any (fun y => sEq y.f0 (hs.getD i zHd).f0) = true
    · rw [if_pos a2] at h; omega
    · rw [if_neg a2] at h
      by_cases a3 : 0 < i ∧ sLt (hs.getD i zHd).f0 (hs.getD (i - 1) zHd).f0 = true
      · rw [if_pos a3] at h; omega
      · rw [if_neg a3] at h
        by_cases a4 : ¬ (-1 ≤ (hs.getD i zHd).f1 ∧ (hs.getD i zHd).f1 ≤ (cs.length : Int) - 1)
        · rw [if_pos a4] at h; omega
        · rw [if_neg a4] at h
          by_cases a5 : ¬ (-1 ≤ (hs.getD i zHd).f2 ∧ (hs.getD i zHd).f2 ≤ (hs.length : Int) - 1)
          · rw [if_pos a5] at h; omega
          · rw [if_neg a5] at h
            by_cases a6 : (hs.getD i zHd).f2 = (i : Int)
            · rw [if_pos a6] at h; omega
            · rw [if_neg a6] at h
              by_cases a7 : alsoErr hs.length i (hs.getD i zHd).f3 (hs.getD i zHd).f3.length 0 ≠ 0
              · rw [if_pos a7] at h; exact absurd h a7
              · rw [if_neg a7] at h
                unfold kindErr at h
                split at h
                · omega
                · rename_i a8
                  refine ⟨by simpa using a1, by simpa using a2, fun h0 => ?_, by omega, by omega, fun j hj => also_parts (by omega : alsoErr hs.length i (hs.getD i zHd).f3 (hs.getD i zHd).f3.length 0 = 0) j (by omega) (by omega), fun h2 => ?_, fun h2 h1 h3 => ?_⟩
                  · have : ¬ sLt (hs.getD i zHd).f0 (hs.getD (i - 1) zHd).f0 = true := fun h3 => a3 ⟨h0, h3⟩
                    simpa using this
                  · have h4 : ¬ ((hs.getD i zHd).f1 ≠ -1 ∨ 0 < (hs.getD i zHd).f3.length) := fun h5 => a8 (.inl ⟨h2, h5⟩)
                    refine ⟨by omega, List.length_eq_zero_iff.1 (by omega)⟩
                  · exact a8 (.inr ⟨h2, h1, by rw [h3]; rfl⟩)
theorem check_head {cs : List Cl} {hs : List Hd} (h : checkT cs hs = 0) (i : Nat) (hi : i < hs.length) : HeadV cs hs i (hs.getD i zHd) := head_parts ((check_parts h).2.2.2 i hi)
theorem inN_true {h : Int} {n : Nat} (h0 : 0 ≤ h) (h1 : h < n) : inN h n = true := by
  unfold inN
  simp [h0, h1]
theorem rd_hd (hs : List Hd) (i : Nat) : rd_T39 hs i = hs.getD i zHd := by
  unfold rd_T39
  rw [Int.toNat_natCast]
end Go.Proofs.Ytfbimhnlcmdcpaa.Q
/- Breadth-first search: what steps computes (plain). -/
namespace Go.Proofs.Ytfbimhnlcmdcpaa.Q
open Go.RowKit Go.Proofs.Ytfbimhnlcmdcpaa.Pa Go.Proofs.YtfbimhnlcmdcpaaW.PrintWords Go.Proofs.YtfbimhnlcmdcpaaW.PrintLast
set_option linter.unusedVariables false
set_option linter.unusedSimpArgs false

/-- From heading h over m references to i. -/
def Wk (hs : List Hd) (h : Nat) : Nat → Nat → Prop
  | 0, i => i = h
  | m + 1, i => ∃ k, k < hs.length ∧ Wk hs h m k ∧ (i : Int) ∈ nextT (hs.getD k zHd)
/-- Between two references of heading a: D are done. -/
structure BI (hs : List Hd) (h a : Nat) (D : List Int) (out q : List Int) : Prop where
  mk ::
  len : out.length = hs.length
  lo : ∀ i, -1 ≤ out.getD i 0
  found : ∀ i, i < hs.length → 0 ≤ out.getD i 0 → Wk hs h (out.getD i 0).toNat i
  head : out.getD h 0 = 0
  wait : ∀ x ∈ q, ∃ p : Nat, x = p ∧ p < hs.length ∧ 0 ≤ out.getD p 0
  sorted : q.Pairwise (fun x y => out.getD x.toNat 0 ≤ out.getD y.toNat 0)
  al : a < hs.length
  a0 : 0 ≤ out.getD a 0
  near : ∀ i, i < hs.length → out.getD i 0 ≤ out.getD a 0 + 1
  above : ∀ x ∈ q, out.getD a 0 ≤ out.getD x.toNat 0
  closed : ∀ i, i < hs.length → i ≠ a → 0 ≤ out.getD i 0 → (i : Int) ∈ q ∨ ∀ y ∈ nextT (hs.getD i zHd), 0 ≤ out.getD y.toNat 0 ∧ out.getD y.toNat 0 ≤ out.getD i 0 + 1
  done : ∀ y ∈ D, 0 ≤ out.getD y.toNat 0 ∧ out.getD y.toNat 0 ≤ out.getD a 0 + 1
theorem bi_step {hs : List Hd} {h a : Nat} {D : List Int} {out q : List Int} (H : BI hs h a D out q) {y : Nat} (hy : y < hs.length) (he : (y : Int) ∈ nextT (hs.getD a zHd)) :
    BI hs h a (D ++ [(y : Int)]) (stIn a [(y : Int)] out q).1 (stIn a [(y : Int)] out q).2 := by
  have hyl : y < out.length := by rw [H.len]; exact hy
  simp only [stIn, Int.toNat_natCast]
  by_cases c : out.getD y 0 < 0
  · rw [if_pos c]
    have hne : ∀ p : Nat, 0 ≤ out.getD p 0 → p ≠ y := fun p hp e => by rw [e] at hp; omega
    have hg : ∀ p : Nat, 0 ≤ out.getD p 0 → (out.set y (out.getD a 0 + 1)).getD p 0 = out.getD p 0 := fun p hp => by rw [set_getD _ _ _ _ _ hyl, if_neg (hne p hp)]
    have hga := hg a H.a0
    have hgy : (out.set y (out.getD a 0 + 1)).getD y 0 = out.getD a 0 + 1 := by rw [set_getD _ _ _ _ _ hyl, if_pos rfl]
    have hq : ∀ x ∈ q, (out.set y (out.getD a 0 + 1)).getD x.toNat 0 = out.getD x.toNat 0 := fun x hx => by
      obtain ⟨p, rfl, _, hp⟩ := H.wait x hx
      exact hg p hp
    have ha0 := H.a0
    refine ⟨by rw [List.length_set]; exact H.len, fun i => ?_, fun i hi h0 => ?_, by rw [hg h (by rw [H.head]; omega)]; exact H.head, fun x hx => ?_, ?_, H.al, by rw [hga]; exact H.a0, fun i hi => ?_, fun x hx => ?_, fun i hi hia h0 => ?_, fun z hz => ?_⟩
    · rw [set_getD _ _ _ _ _ hyl]; split; omega; exact H.lo i
    · by_cases e : i = y
      · subst e
        rw [hgy, show (out.getD a 0 + 1).toNat = (out.getD a 0).toNat + 1 from by omega]
        exact ⟨a, H.al, H.found a H.al H.a0, he⟩
      · rw [set_getD _ _ _ _ _ hyl, if_neg e] at h0 ⊢
        exact H.found i hi h0
    · rcases List.mem_append.1 hx with hx | hx
      · obtain ⟨p, rfl, hp, h0⟩ := H.wait x hx
        exact ⟨p, rfl, hp, by rw [hg p h0]; exact h0⟩
      · rw [List.mem_singleton] at hx
        exact ⟨y, hx, hy, by rw [hgy]; omega⟩
    · refine List.pairwise_append.2 ⟨?_, List.pairwise_singleton _ _, fun x hx z hz => ?_⟩
      · refine H.sorted.imp_of_mem (fun hx hz hxz => ?_)
        rw [hq _ hx, hq _ hz]
        exact hxz
      · rw [List.mem_singleton] at hz
        subst hz
        rw [hq x hx, Int.toNat_natCast, hgy]
        obtain ⟨p, rfl, hp, _⟩ := H.wait x hx
        exact H.near p hp
    · rw [set_getD _ _ _ _ _ hyl, hga]
      split
      · exact Int.le_refl _
      · exact H.near i hi
    · rw [hga]
      rcases List.mem_append.1 hx with hx | hx
      · rw [hq x hx]; exact H.above x hx
      · rw [List.mem_singleton] at hx
        subst hx
        rw [Int.toNat_natCast, hgy]; omega
    · by_cases e : i = y
      · subst e
        exact .inl (List.mem_append_right _ (List.mem_singleton.2 rfl))
      · rw [set_getD _ _ _ _ _ hyl, if_neg e] at h0
        rcases H.closed i hi hia h0 with hm | hc
        · exact .inl (List.mem_append_left _ hm)
        · refine .inr (fun z hz => ?_)
          obtain ⟨z0, z1⟩ := hc z hz
          rw [hg _ z0, hg i h0]
          exact ⟨z0, z1⟩
    · rcases List.mem_append.1 hz with hz | hz
      · obtain ⟨z0, z1⟩ := H.done z hz
        rw [hg _ z0, hga]
        exact ⟨z0, z1⟩
      · rw [List.mem_singleton] at hz
        subst hz
        rw [Int.toNat_natCast, hgy, hga]
        omega
  · rw [if_neg c]
    refine ⟨H.len, H.lo, H.found, H.head, H.wait, H.sorted, H.al, H.a0, H.near, H.above, H.closed, fun z hz => ?_⟩
    rcases List.mem_append.1 hz with hz | hz
    · exact H.done z hz
    · rw [List.mem_singleton] at hz
      subst hz
      show 0 ≤ out.getD y 0 ∧ out.getD y 0 ≤ out.getD a 0 + 1
      exact ⟨by omega, H.near y hy⟩
theorem stIn_cons (a : Nat) (n : Int) (l out q : List Int) : stIn a (n :: l) out q = stIn a l (stIn a [n] out q).1 (stIn a [n] out q).2 := by
  simp only [stIn]
  split <;> rfl
theorem bi_all {hs : List Hd} {h a : Nat} : ∀ (L D out q : List Int), BI hs h a D out q → (∀ y ∈ L, y ∈ nextT (hs.getD a zHd) ∧ ∃ p : Nat, y = p ∧ p < hs.length) → BI hs h a (D ++ L) (stIn a L out q).1 (stIn a L out q).2
  | [], D, out, q, H, _ => by rw [List.append_nil]; exact H
  | y :: L, D, out, q, H, hL => by
    obtain ⟨he, p, rfl, hp⟩ := hL y List.mem_cons_self
    have := bi_all L _ _ _ (bi_step H hp he) (fun z hz => hL z (List.mem_cons_of_mem _ hz))
    rw [stIn_cons, show D ++ (p : Int) :: L = (D ++ [(p : Int)]) ++ L from by simp]
    exact this
/-- What waits and what is not found yet: their number stays. -/
def ms (out q : List Int) : Nat := q.length + out.countP (· < 0)
theorem ms_step (a : Nat) (out q : List Int) (y : Nat) (hy : y < out.length) (h0 : 0 ≤ out.getD a 0) : ms (stIn a [(y : Int)] out q).1 (stIn a [(y : Int)] out q).2 = ms out q := by
  simp only [stIn, Int.toNat_natCast]
  by_cases c : out.getD y 0 < 0
  · rw [if_pos c]
    unfold ms
    rw [List.countP_set hy, List.length_append, List.length_singleton]
    have h1 : decide (out[y] < 0) = true := by
      rw [List.getD_eq_getElem?_getD, List.getElem?_eq_getElem hy] at c
      simpa using c
    have h2 : decide (out.getD a 0 + 1 < 0) = false := decide_eq_false (by omega)
    have h3 : 0 < out.countP (· < 0) := List.countP_pos_iff.2 ⟨out[y], List.getElem_mem _, h1⟩
    rw [h1, h2]
    simp
    omega
  · rw [if_neg c]
theorem ms_all {hs : List Hd} {h a : Nat} : ∀ (L D out q : List Int), BI hs h a D out q → (∀ y ∈ L, y ∈ nextT (hs.getD a zHd) ∧ ∃ p : Nat, y = p ∧ p < hs.length) → ms (stIn a L out q).1 (stIn a L out q).2 = ms out q
  | [], D, out, q, H, _ => rfl
  | y :: L, D, out, q, H, hL => by
    obtain ⟨he, p, rfl, hp⟩ := hL y List.mem_cons_self
    rw [stIn_cons, ms_all L _ _ _ (bi_step H hp he) (fun z hz => hL z (List.mem_cons_of_mem _ hz)), ms_step a out q p (by rw [H.len]; exact hp) H.a0]
/-- Between two rounds. -/
structure BJ (hs : List Hd) (h : Nat) (out q : List Int) : Prop where
  mk ::
  len : out.length = hs.length
  lo : ∀ i, -1 ≤ out.getD i 0
  found : ∀ i, i < hs.length → 0 ≤ out.getD i 0 → Wk hs h (out.getD i 0).toNat i
  head : out.getD h 0 = 0
  wait : ∀ x ∈ q, ∃ p : Nat, x = p ∧ p < hs.length ∧ 0 ≤ out.getD p 0
  sorted : q.Pairwise (fun x y => out.getD x.toNat 0 ≤ out.getD y.toNat 0)
  near : ∀ x ∈ q, ∀ i, i < hs.length → out.getD i 0 ≤ out.getD x.toNat 0 + 1
  closed : ∀ i, i < hs.length → 0 ≤ out.getD i 0 → (i : Int) ∈ q ∨ ∀ y ∈ nextT (hs.getD i zHd), 0 ≤ out.getD y.toNat 0 ∧ out.getD y.toNat 0 ≤ out.getD i 0 + 1
theorem BJ.pop {hs : List Hd} {h a : Nat} {out q : List Int} (H : BJ hs h out ((a : Int) :: q)) : BI hs h a [] out q := by
  obtain ⟨p, e, hp, h0⟩ := H.wait _ List.mem_cons_self
  obtain rfl : a = p := by omega
  refine ⟨H.len, H.lo, H.found, H.head, fun x hx => H.wait x (List.mem_cons_of_mem _ hx), (List.pairwise_cons.1 H.sorted).2, hp, h0, fun i hi => H.near _ List.mem_cons_self i hi, fun x hx => (List.pairwise_cons.1 H.sorted).1 x hx, fun i hi hia h1 => ?_, fun y hy => by simp at hy⟩
  rcases H.closed i hi h1 with hm | hc
  · rcases List.mem_cons.1 hm with e | hm
    · omega
    · exact .inl hm
  · exact .inr hc
theorem BI.shut {hs : List Hd} {h a : Nat} {out q : List Int} (H : BI hs h a (nextT (hs.getD a zHd)) out q) : BJ hs h out q := by
  refine ⟨H.len, H.lo, H.found, H.head, H.wait, H.sorted, fun x hx i hi => by have := H.near i hi; have := H.above x hx; omega, fun i hi h0 => ?_⟩
  by_cases e : i = a
  · subst e; exact .inr H.done
  · exact H.closed i hi e h0
theorem bfs_go {cs : List Cl} {hs : List Hd} (hv : Valid cs hs) {h : Nat} : ∀ (k : Nat) (out q : List Int), BJ hs h out q → ms out q ≤ k → BJ hs h (stGo hs k out q) []
  | 0, out, q, H, hm => by
    have : q = [] := List.eq_nil_of_length_eq_zero (by unfold ms at hm; omega)
    subst this; exact H
  | k + 1, out, [], H, hm => H
  | k + 1, out, x :: q, H, hm => by
    obtain ⟨a, rfl, ha, h0⟩ := H.wait x List.mem_cons_self
    have HB := H.pop
    have hL : ∀ y ∈ nextT (hs.getD a zHd), y ∈ nextT (hs.getD a zHd) ∧ ∃ p : Nat, y = p ∧ p < hs.length := fun y hy => by
      obtain ⟨j, hj, rfl⟩ := List.mem_iff_getElem.1 hy
      obtain ⟨p, hp, hpl⟩ := nextT_in hv a ha j hj
      rw [List.getD_eq_getElem?_getD, List.getElem?_eq_getElem hj] at hp
      exact ⟨List.getElem_mem _, p, hp, hpl⟩
    have h1 := bi_all _ [] out q HB hL
    have h2 := ms_all _ [] out q HB hL
    rw [List.nil_append] at h1
    rw [stGo, Int.toNat_natCast]
    refine bfs_go hv k _ _ h1.shut ?_
    rw [h2]
    unfold ms at hm ⊢
    rw [List.length_cons] at hm
    omega
/-- A walk of m references: found in at most m steps. -/
theorem walk_found {hs : List Hd} {h : Nat} {out : List Int} (H : BJ hs h out []) : ∀ (m i : Nat), i < hs.length → Wk hs h m i → 0 ≤ out.getD i 0 ∧ out.getD i 0 ≤ m
  | 0, i, hi, hw => by
    have e : i = h := hw
    subst e
    rw [H.head]; omega
  | m + 1, i, hi, hw => by
    obtain ⟨k, hk, hw, he⟩ := hw
    obtain ⟨k0, k1⟩ := walk_found H m k hk hw
    rcases H.closed k hk k0 with hm | hc
    · simp at hm
    · obtain ⟨i0, i1⟩ := hc _ he
      rw [Int.toNat_natCast] at i0 i1
      exact ⟨i0, by omega⟩
theorem st_keep {a p : Nat} : ∀ (L out q : List Int), 0 ≤ out.getD p 0 → (∀ y ∈ L, ∃ z : Nat, y = z ∧ z < out.length) → (stIn a L out q).1.getD p 0 = out.getD p 0
  | [], _, _, _, _ => rfl
  | y :: L, out, q, h0, hL => by
    obtain ⟨z, rfl, hz⟩ := hL y List.mem_cons_self
    simp only [stIn, Int.toNat_natCast]
    by_cases c : out.getD z 0 < 0
    · rw [if_pos c]
      have hg : (out.set z (out.getD a 0 + 1)).getD p 0 = out.getD p 0 := by rw [set_getD _ _ _ _ _ hz, if_neg (fun e => by rw [e] at h0; omega)]
      rw [st_keep L _ _ (by rw [hg]; exact h0) (fun y hy => by rw [List.length_set]; exact hL y (List.mem_cons_of_mem _ hy)), hg]
    · rw [if_neg c]
      exact st_keep L _ _ h0 (fun y hy => hL y (List.mem_cons_of_mem _ hy))
theorem up_go {cs : List Cl} {hs : List Hd} (hv : Valid cs hs) {h : Nat} {B : Int} : ∀ (k : Nat) (out q : List Int), BJ hs h out q → ms out q + 1 ≤ k → (∀ i, i < hs.length → out.getD i 0 + (k : Int) ≤ B) → ∀ i, i < hs.length → (stGo hs k out q).getD i 0 + 1 ≤ B
  | 0, out, q, H, hm, hu => by omega
  | k + 1, out, [], H, hm, hu => fun i hi => by have := hu i hi; show out.getD i 0 + 1 ≤ B; omega
  | k + 1, out, x :: q, H, hm, hu => by
    obtain ⟨a, rfl, ha, h0⟩ := H.wait x List.mem_cons_self
    have HB := H.pop
    have hL : ∀ y ∈ nextT (hs.getD a zHd), y ∈ nextT (hs.getD a zHd) ∧ ∃ p : Nat, y = p ∧ p < hs.length := fun y hy => by
      obtain ⟨j, hj, rfl⟩ := List.mem_iff_getElem.1 hy
      obtain ⟨p, hp, hpl⟩ := nextT_in hv a ha j hj
      rw [List.getD_eq_getElem?_getD, List.getElem?_eq_getElem hj] at hp
      exact ⟨List.getElem_mem _, p, hp, hpl⟩
    have h1 := bi_all _ [] out q HB hL
    have h2 := ms_all _ [] out q HB hL
    have h3 := st_keep (a := a) (p := a) _ out q h0 (fun y hy => by rw [H.len]; exact (hL y hy).2)
    rw [List.nil_append] at h1
    have hua := hu a ha
    rw [stGo, Int.toNat_natCast]
    refine up_go hv k _ _ h1.shut ?_ (fun i hi => ?_)
    · rw [h2]
      unfold ms at hm ⊢
      rw [List.length_cons] at hm
      omega
    · have := h1.near i hi
      rw [h3] at this
      omega
theorem start_get (n h i : Nat) (hh : h < n) : ((List.replicate n (-1 : Int)).set h 0).getD i 0 = if i = h then 0 else if i < n then -1 else 0 := by
  rw [set_getD _ _ _ _ _ (by simpa using hh)]
  split
  · rfl
  · simp only [List.getD_eq_getElem?_getD, List.getElem?_replicate]
    split <;> rfl
theorem start_bj {hs : List Hd} {h : Nat} (hh : h < hs.length) : BJ hs h ((List.replicate hs.length (-1 : Int)).set h 0) [(h : Int)] ∧ ms ((List.replicate hs.length (-1 : Int)).set h 0) [(h : Int)] ≤ hs.length := by
  have hl : h < (List.replicate hs.length (-1 : Int)).length := by simpa using hh
  have hg : ∀ i, ((List.replicate hs.length (-1 : Int)).set h 0).getD i 0 = if i = h then 0 else if i < hs.length then -1 else 0 := fun i => by
    rw [set_getD _ _ _ _ _ hl]
    split
    · rfl
    · simp only [List.getD_eq_getElem?_getD, List.getElem?_replicate]
      split <;> rfl
  refine ⟨⟨by simp, fun i => ?_, fun i hi h0 => ?_, by rw [hg, if_pos rfl], fun x hx => ?_, List.pairwise_singleton _ _, fun x hx i hi => ?_, fun i hi h0 => ?_⟩, ?_⟩
  · rw [hg]; split; omega; split <;> omega
  · rw [hg] at h0 ⊢
    by_cases e : i = h
    · rw [if_pos e]; exact e
    · rw [if_neg e, if_pos hi] at h0; omega
  · rw [List.mem_singleton] at hx
    exact ⟨h, hx, hh, by rw [hg, if_pos rfl]; omega⟩
  · rw [List.mem_singleton] at hx
    subst hx
    rw [Int.toNat_natCast, hg, hg h, if_pos rfl]
    by_cases e : i = h
    · rw [if_pos e]; omega
    · rw [if_neg e, if_pos hi]; omega
  · rw [hg] at h0
    by_cases e : i = h
    · subst e; exact .inl (List.mem_singleton.2 rfl)
    · rw [if_neg e, if_pos hi] at h0; omega
  · unfold ms
    rw [List.countP_set hl]
    simp [List.countP_replicate]
    omega
/-- Steps tells the least number of references. -/
theorem steps_spec {cs : List Cl} {hs : List Hd} (hv : Valid cs hs) {h : Nat} (hh : h < hs.length) : BJ hs h (stepsT hs h) [] := by
  obtain ⟨h1, h2⟩ := start_bj hh
  exact bfs_go hv _ _ _ h1 (by omega)
theorem steps_up {cs : List Cl} {hs : List Hd} (hv : Valid cs hs) {h : Nat} (hh : h < hs.length) (i : Nat) (hi : i < hs.length) : (stepsT hs h).getD i 0 ≤ hs.length := by
  obtain ⟨h1, h2⟩ := start_bj hh
  have := up_go hv (B := hs.length + 1) (hs.length + 1) _ _ h1 (by omega) (fun i hi => by
    rw [start_get _ _ _ hh]
    by_cases e : i = h
    · rw [if_pos e]; omega
    · rw [if_neg e, if_pos hi]; omega) i hi
  unfold stepsT
  omega
end Go.Proofs.Ytfbimhnlcmdcpaa.Q
/- Numbers in order that have a property: counting them one after the other. -/
namespace Go.Proofs.Ytfbimhnlcmdcpaa.Q
open Go.RowKit Go.Proofs.Ytfbimhnlcmdcpaa.Pa Go.Proofs.YtfbimhnlcmdcpaaW.PrintWords Go.Proofs.YtfbimhnlcmdcpaaW.PrintLast Go.Proofs.YtfbimhnlcmdcpaaW.PrintMore
set_option linter.unusedVariables false
set_option linter.unusedSimpArgs false

def cnt (P : Int → Bool) (n : Nat) : Nat := ((nats n).filter P).length
theorem filt_succ (P : Int → Bool) (n : Nat) : (nats (n + 1)).filter P = (nats n).filter P ++ (if P n = true then [(n : Int)] else []) := by
  rw [nats_snoc, List.filter_append]
  cases h : P n <;> simp [h]
theorem cnt_yes {P : Int → Bool} {n : Nat} (h : P n = true) : cnt P (n + 1) = cnt P n + 1 := by
  unfold cnt
  rw [filt_succ, if_pos h, List.length_append]
  rfl
theorem cnt_no {P : Int → Bool} {n : Nat} (h : P n = false) : cnt P (n + 1) = cnt P n := by
  unfold cnt
  rw [filt_succ, if_neg (by rw [h]; simp), List.append_nil]
theorem cnt_mono (P : Int → Bool) : ∀ (n i : Nat), i ≤ n → cnt P i ≤ cnt P n
  | 0, i, h => by
    obtain rfl : i = 0 := by omega
    exact Nat.le_refl _
  | n + 1, i, h => by
    by_cases e : i = n + 1
    · rw [e]; exact Nat.le_refl _
    · refine Nat.le_trans (cnt_mono P n i (by omega)) ?_
      cases hp : P n with
      | true => rw [cnt_yes hp]; omega
      | false => rw [cnt_no hp]; exact Nat.le_refl _
theorem cnt_le (P : Int → Bool) (n : Nat) : cnt P n ≤ n := by
  have := List.length_filter_le P (nats n)
  have h : (nats n).length = n := by simp [nats]
  rw [h] at this
  exact this
theorem filt_at {P : Int → Bool} : ∀ (n i : Nat), i < n → P i = true → cnt P i < cnt P n ∧ ((nats n).filter P).getD (cnt P i) 0 = i
  | 0, i, h, _ => by omega
  | n + 1, i, h, hp => by
    by_cases e : i = n
    · subst e
      refine ⟨by rw [cnt_yes hp]; omega, ?_⟩
      rw [filt_succ, if_pos hp]
      unfold cnt
      simp [List.getD_eq_getElem?_getD]
    · obtain ⟨h1, h2⟩ := filt_at n i (by omega) hp
      refine ⟨Nat.lt_of_lt_of_le h1 (cnt_mono P (n + 1) n (by omega)), ?_⟩
      rw [filt_succ, List.getD_eq_getElem?_getD, List.getElem?_append_left h1, ← List.getD_eq_getElem?_getD]
      exact h2
theorem rd_nat (l : List Int) (i : Nat) : rd l (i : Int) = l.getD i 0 := by
  unfold rd
  rw [Int.toNat_natCast]
end Go.Proofs.Ytfbimhnlcmdcpaa.Q
/- A heading is found in n steps just if some heading found in n - 1 steps has a reference to it, and none found in fewer; trades are hidden just if they are not found so: for all lists of numbers. -/
namespace Go.Proofs.Ytfbimhnlcmdcpaa.Pure
open Go.RowKit Go.Proofs.Ytfbimhnlcmdcpaa.Pa Go.Proofs.Ytfbimhnlcmdcpaa.Q Go.Proofs.YtfbimhnlcmdcpaaW.PrintWords Go.Proofs.YtfbimhnlcmdcpaaW.PrintLast
set_option linter.unusedVariables false
set_option linter.unusedSimpArgs false

theorem also_len {cs : List Cl} {hs : List Hd} (hk : checkT cs hs = 0) (k : Nat) (hkn : k < hs.length) : (hs.getD k zHd).f3.length ≤ hs.length := by
  have hx := check_head hk k hkn
  have key : ∀ j, j < (hs.getD k zHd).f3.length → (j : Int) ≤ (hs.getD k zHd).f3.getD j 0 := by
    intro j
    induction j with
    | zero => intro hj; exact (hx.also 0 hj).1
    | succ j ih =>
      intro hj
      have h1 := ih (by omega)
      have h2 := (hx.also (j + 1) hj).2.2.2 (by omega)
      rw [Nat.add_sub_cancel] at h2
      omega
  by_cases c : (hs.getD k zHd).f3.length = 0
  · omega
  · have h1 := key ((hs.getD k zHd).f3.length - 1) (by omega)
    have h2 := (hx.also ((hs.getD k zHd).f3.length - 1) (by omega)).2.1
    omega
theorem leads_ok {cs : List Cl} {hs : List Hd} (hk : checkT cs hs = 0) (k i : Nat) (hkn : k < hs.length) : Ev (fun q => wayzgooselaw04_leads.f q cs hs k i) (decide ((i : Int) ∈ nextT (hs.getD k zHd))) := by
  have hx := check_head hk k hkn
  by_cases c : (hs.getD k zHd).f2 = (i : Int)
  · have h1 : decide ((i : Int) ∈ nextT (hs.getD k zHd)) = true := by
      refine decide_eq_true ?_
      unfold nextT
      rw [if_pos (by omega), c]
      exact List.mem_singleton.2 rfl
    rw [h1]
    refine Ev.congr (f := fun _ => some true) (fun q => ?_) (Ev.now _)
    unfold wayzgooselaw04_leads.f
    rw [if_pos (by omega), if_pos (by omega), rd_hd, if_pos c]
  · have h1 : decide ((i : Int) ∈ nextT (hs.getD k zHd)) = decide (idxT (hs.getD k zHd).f3 i ≥ 0) := by
      refine decide_eq_decide.2 ?_
      rw [ge_iff_le, idxT_nonneg]
      unfold nextT
      by_cases c2 : (hs.getD k zHd).f2 ≠ -1
      · rw [if_pos c2, (hx.ptr c2).2]
        simp only [List.not_mem_nil, List.mem_singleton, iff_false]
        exact fun e => c e.symm
      · rw [if_neg c2]
    rw [h1]
    refine Ev.congr (f := fun q => (wayzgoosekit_Index.f q (hs.getD k zHd).f3 i).bind fun t => some (decide (t ≥ 0))) (fun q => ?_) (Ev.bind (f := fun _ (t : Int) => some (decide (t ≥ 0))) (index_ok _ _ ?_) (Ev.now _))
    · unfold wayzgooselaw04_leads.f
      rw [if_pos (by omega), if_pos (by omega), rd_hd, if_neg c]
    · have := also_len hk k hkn
      have := (check_parts hk).2.1
      omega
/-- The least so far: of the first j headings. -/
def LS (hs : List Hd) (st : List Int) (i j : Nat) (m : Int) : Prop :=
  (m = -1 ∧ ∀ k, k < j → (i : Int) ∈ nextT (hs.getD k zHd) → st.getD k 0 < 0) ∨
  (0 ≤ m ∧ (∃ k, k < j ∧ (i : Int) ∈ nextT (hs.getD k zHd) ∧ 0 ≤ st.getD k 0 ∧ m = st.getD k 0 + 1) ∧ ∀ k, k < j → (i : Int) ∈ nextT (hs.getD k zHd) → 0 ≤ st.getD k 0 → m ≤ st.getD k 0 + 1)
theorem LS.last {hs : List Hd} {h : Nat} {st : List Int} (H : BJ hs h st []) {i : Nat} (hi : i < hs.length) (hih : i ≠ h) {m : Int} (L : LS hs st i hs.length m) : st.getD i 0 = m := by
  have hcl : ∀ k, k < hs.length → 0 ≤ st.getD k 0 → (i : Int) ∈ nextT (hs.getD k zHd) → 0 ≤ st.getD i 0 ∧ st.getD i 0 ≤ st.getD k 0 + 1 := fun k hk h0 he => by
    rcases H.closed k hk h0 with hm | hc
    · simp at hm
    · have := hc _ he
      rwa [Int.toNat_natCast] at this
  have hpre : 0 ≤ st.getD i 0 → ∃ k, k < hs.length ∧ (i : Int) ∈ nextT (hs.getD k zHd) ∧ 0 ≤ st.getD k 0 ∧ st.getD k 0 + 1 ≤ st.getD i 0 := fun h0 => by
    have hw := H.found i hi h0
    cases hn : (st.getD i 0).toNat with
    | zero => rw [hn] at hw; exact absurd hw hih
    | succ d =>
      rw [hn] at hw
      obtain ⟨k, hk, hw, he⟩ := hw
      obtain ⟨k0, k1⟩ := walk_found H d k hk hw
      exact ⟨k, hk, he, k0, by omega⟩
  have hlo := H.lo i
  rcases L with ⟨rfl, hn⟩ | ⟨hm0, ⟨k, hk, he, h0, rfl⟩, hle⟩
  · by_cases c : 0 ≤ st.getD i 0
    · obtain ⟨k, hk, he, h0, _⟩ := hpre c
      have := hn k hk he
      omega
    · omega
  · obtain ⟨i0, i1⟩ := hcl k hk h0 he
    obtain ⟨k', hk', he', h0', h1'⟩ := hpre i0
    have := hle k' hk' he' h0'
    omega
theorem LS.next {hs : List Hd} {st : List Int} {i j : Nat} {m : Int} (L : LS hs st i j m) : LS hs st i (j + 1) (if (i : Int) ∈ nextT (hs.getD j zHd) ∧ 0 ≤ st.getD j 0 ∧ (m < 0 ∨ st.getD j 0 + 1 < m) then st.getD j 0 + 1 else m) := by
  by_cases c : (i : Int) ∈ nextT (hs.getD j zHd) ∧ 0 ≤ st.getD j 0 ∧ (m < 0 ∨ st.getD j 0 + 1 < m)
  · rw [if_pos c]
    obtain ⟨c1, c2, c3⟩ := c
    refine .inr ⟨by omega, ⟨j, by omega, c1, c2, rfl⟩, fun k hk he h0 => ?_⟩
    by_cases e : k = j
    · subst e; exact Int.le_refl _
    · rcases L with ⟨rfl, hn⟩ | ⟨hm0, _, hle⟩
      · have := hn k (by omega) he; omega
      · have := hle k (by omega) he h0; omega
  · rw [if_neg c]
    rcases L with ⟨rfl, hn⟩ | ⟨hm0, ⟨k0, hk0, he0, h00, e0⟩, hle⟩
    · refine .inl ⟨rfl, fun k hk he => ?_⟩
      by_cases e : k = j
      · subst e
        have : ¬ 0 ≤ st.getD k 0 := fun h0 => c ⟨he, h0, .inl (by omega)⟩
        omega
      · exact hn k (by omega) he
    · refine .inr ⟨hm0, ⟨k0, by omega, he0, h00, e0⟩, fun k hk he h0 => ?_⟩
      by_cases e : k = j
      · subst e
        have : ¬ st.getD k 0 + 1 < m := fun h1 => c ⟨he, h0, .inr h1⟩
        omega
      · exact hle k (by omega) he h0
theorem l1_true {cs : List Cl} {hs : List Hd} (hk : checkT cs hs = 0) {h : Nat} (hh : h < hs.length) {st : List Int} (H : BJ hs h st []) (hup : ∀ i, i < hs.length → st.getD i 0 ≤ hs.length) (i : Nat) (hi : i < hs.length)
    (hrest : Ev (fun k => wayzgooselaw04_TradeFound.l0 k h st ((i : Int) + 1) cs hs) true) : ∀ (d j : Nat) (m : Int), j + d = hs.length → LS hs st i j m → Ev (fun k => wayzgooselaw04_TradeFound.l1 k h st i m j cs hs) true := by
  have h6 := (check_parts hk).2.1
  have hlen := H.len
  have hiu := hup i hi
  intro d
  induction d with
  | zero =>
    intro j m hj L
    obtain rfl : j = hs.length := by omega
    refine Ev.step (fun k => ?_) hrest
    simp only [wayzgooselaw04_TradeFound.l1]
    rw [if_neg (by omega)]
    by_cases e : (i : Int) = (h : Int)
    · rw [if_pos e, if_pos (by omega), if_pos (by omega), rd_nat, if_neg (by omega), w64s (by omega) (by omega)]
    · rw [if_neg e, if_pos (by omega), if_pos (by omega), rd_nat, if_pos (L.last H hi (by omega)), if_neg (by omega), w64s (by omega) (by omega)]
  | succ d ih =>
    intro j m hj L
    have hjn : j < hs.length := by omega
    have hju := hup j hjn
    have hjl := H.lo j
    have hn := ih (j + 1) _ (by omega) L.next
    refine Ev.step (f := fun k => (wayzgooselaw04_leads.f k cs hs j i).bind fun t => if t = true then (if 0 ≤ st.getD j 0 then (if m < 0 then wayzgooselaw04_TradeFound.l1 k h st i (st.getD j 0 + 1) ((j + 1 : Nat) : Int) cs hs else (if st.getD j 0 + 1 < m then wayzgooselaw04_TradeFound.l1 k h st i (st.getD j 0 + 1) ((j + 1 : Nat) : Int) cs hs else wayzgooselaw04_TradeFound.l1 k h st i m ((j + 1 : Nat) : Int) cs hs)) else wayzgooselaw04_TradeFound.l1 k h st i m ((j + 1 : Nat) : Int) cs hs) else wayzgooselaw04_TradeFound.l1 k h st i m ((j + 1 : Nat) : Int) cs hs) (fun k => ?_) ?_
    · simp only [wayzgooselaw04_TradeFound.l1]
      rw [if_pos (by omega), if_pos (by omega : (0 : Int) ≤ j), rd_nat, w64s (x := (j : Int) + 1) (by omega) (by omega)]
      rw [w64s (x := st.getD j 0 + 1) (by omega) (by omega)]
      rfl
    · refine Ev.bind (f := fun k (t : Bool) => if t = true then (if 0 ≤ st.getD j 0 then (if m < 0 then wayzgooselaw04_TradeFound.l1 k h st i (st.getD j 0 + 1) ((j + 1 : Nat) : Int) cs hs else (if st.getD j 0 + 1 < m then wayzgooselaw04_TradeFound.l1 k h st i (st.getD j 0 + 1) ((j + 1 : Nat) : Int) cs hs else wayzgooselaw04_TradeFound.l1 k h st i m ((j + 1 : Nat) : Int) cs hs)) else wayzgooselaw04_TradeFound.l1 k h st i m ((j + 1 : Nat) : Int) cs hs) else wayzgooselaw04_TradeFound.l1 k h st i m ((j + 1 : Nat) : Int) cs hs) (leads_ok hk j i hjn) ?_
      by_cases c1 : (i : Int) ∈ nextT (hs.getD j zHd)
      · rw [decide_eq_true c1]
        simp only [if_true]
        by_cases c2 : 0 ≤ st.getD j 0
        · simp only [if_pos c2]
          by_cases c3 : m < 0
          · simp only [if_pos c3]
            rwa [if_pos ⟨c1, c2, .inl c3⟩] at hn
          · simp only [if_neg c3]
            by_cases c4 : st.getD j 0 + 1 < m
            · simp only [if_pos c4]
              rwa [if_pos ⟨c1, c2, .inr c4⟩] at hn
            · simp only [if_neg c4]
              rwa [if_neg (fun c => c.2.2.elim c3 c4)] at hn
        · simp only [if_neg c2]
          rwa [if_neg (fun c => c2 c.2.1)] at hn
      · rw [decide_eq_false c1]
        simp only [Bool.false_eq_true, if_false]
        rwa [if_neg (fun c => c1 c.1)] at hn
theorem l0_true {cs : List Cl} {hs : List Hd} (hk : checkT cs hs = 0) {h : Nat} (hh : h < hs.length) {st : List Int} (H : BJ hs h st []) (hup : ∀ i, i < hs.length → st.getD i 0 ≤ hs.length)
    (hl2 : Ev (fun k => wayzgooselaw04_TradeFound.l2 k h st 0 cs hs) true) : ∀ (d i : Nat), i + d = hs.length → Ev (fun k => wayzgooselaw04_TradeFound.l0 k h st i cs hs) true := by
  have hlen := H.len
  intro d
  induction d with
  | zero =>
    intro i hi
    refine Ev.step (fun k => ?_) hl2
    simp only [wayzgooselaw04_TradeFound.l0]
    rw [if_neg (by omega)]
  | succ d ih =>
    intro i hi
    refine Ev.step (fun k => ?_) (l1_true hk hh H hup i (by omega) (ih (i + 1) (by omega)) hs.length 0 (-1) (by omega) (.inl ⟨rfl, fun k hk => by omega⟩))
    simp only [wayzgooselaw04_TradeFound.l0]
    rw [if_pos (by omega)]
    rfl
theorem hid_b {cs : List Cl} {hs : List Hd} (hk : checkT cs hs = 0) (st : List Int) (x : Int) (j : Nat) (hj : j < hs.length) : hidP hs st x j = (decide ((hs.getD j zHd).f1 ≥ 0) && (decide (st.getD j 0 < 0) || decide (st.getD j 0 > x))) := by
  have hx := check_head hk j hj
  have h1 : artB (hs.getD j zHd) = decide ((hs.getD j zHd).f1 ≥ 0) := by
    unfold artB
    by_cases c : (hs.getD j zHd).f1 ≥ 0
    · have h2 : (hs.getD j zHd).f2 = -1 := by
        by_cases e : (hs.getD j zHd).f2 = -1
        · exact e
        · have := (hx.ptr e).1; omega
      rw [decide_eq_true h2, decide_eq_true c, decide_eq_true (by omega)]; rfl
    · have := hx.cls
      have h2 : (hs.getD j zHd).f1 = -1 := by omega
      rw [decide_eq_false c, show decide ((hs.getD j zHd).f1 ≠ -1) = false from decide_eq_false (fun e => e h2), Bool.and_false]
  have h2 : (!betw (st.getD j 0) 0 x) = (decide (st.getD j 0 < 0) || decide (st.getD j 0 > x)) := by
    unfold betw
    by_cases a : st.getD j 0 < 0
    · rw [decide_eq_true a, decide_eq_false (by omega)]; rfl
    · rw [decide_eq_false a, decide_eq_true (by omega)]
      by_cases b : st.getD j 0 > x
      · rw [decide_eq_true b, decide_eq_false (by omega)]; rfl
      · rw [decide_eq_false b, decide_eq_true (by omega)]; rfl
  unfold hidP
  rw [Int.toNat_natCast, h1, h2]
theorem l3_true {cs : List Cl} {hs : List Hd} (hk : checkT cs hs = 0) {h : Nat} {st : List Int} (hlen : st.length = hs.length) (x : Int)
    (hl2 : Ev (fun k => wayzgooselaw04_TradeFound.l2 k h st (wrap64 (x + 1)) cs hs) true) : ∀ (d j : Nat), j + d = hs.length → Ev (fun k => wayzgooselaw04_TradeFound.l3 k h st x ((nats hs.length).filter (hidP hs st x)) 0 (cnt (hidP hs st x) j : Int) j cs hs) true := by
  have h6 := (check_parts hk).2.1
  intro d
  induction d with
  | zero =>
    intro j hj
    obtain rfl : j = hs.length := by omega
    refine Ev.step (f := fun k => wayzgooselaw04_TradeFound.j5 k h st x ((nats hs.length).filter (hidP hs st x)) 0 (cnt (hidP hs st x) hs.length : Int) (hs.length : Int) false cs hs) (fun k => ?_) (Ev.step (fun k => ?_) hl2)
    · simp only [wayzgooselaw04_TradeFound.l3]
      rw [if_neg (by omega)]
    · simp only [wayzgooselaw04_TradeFound.j5]
      rw [if_neg (by simp), if_pos trivial, if_pos (by rfl)]
  | succ d ih =>
    intro j hj
    have hjn : j < hs.length := by omega
    have hb := hid_b hk st x j hjn
    have hn := ih (j + 1) (by omega)
    have hc := cnt_le (hidP hs st x) j
    have h6j : Ev (fun k => wayzgooselaw04_TradeFound.j6 k h st x ((nats hs.length).filter (hidP hs st x)) 0 (cnt (hidP hs st x) j : Int) j (hidP hs st x j) cs hs) true := by
      cases hp : hidP hs st x j with
      | true =>
        rw [cnt_yes hp] at hn
        obtain ⟨f1, f2⟩ := filt_at hs.length j hjn hp
        refine Ev.step (fun k => ?_) hn
        simp only [wayzgooselaw04_TradeFound.j6]
        have f1 : cnt (hidP hs st x) j < ((nats hs.length).filter (hidP hs st x)).length := f1
        rw [if_pos trivial, if_neg (by omega), if_pos (by omega), if_pos (by omega), rd_nat, if_pos f2, w64s (by omega) (by omega), w64s (by omega) (by omega)]
        rfl
      | false =>
        rw [cnt_no hp] at hn
        refine Ev.step (fun k => ?_) hn
        simp only [wayzgooselaw04_TradeFound.j6]
        rw [if_neg (by simp), w64s (by omega) (by omega)]
        rfl
    refine Ev.step (f := fun k => wayzgooselaw04_TradeFound.j5 k h st x ((nats hs.length).filter (hidP hs st x)) 0 (cnt (hidP hs st x) j : Int) (j : Int) true cs hs) (fun k => ?_) (Ev.step (fun k => ?_) h6j)
    · simp only [wayzgooselaw04_TradeFound.l3]
      rw [if_pos (by omega)]
      rfl
    · simp only [wayzgooselaw04_TradeFound.j5]
      rw [if_pos trivial, if_pos (by omega), if_pos (by omega), rd_hd, hb]
      by_cases c1 : (hs.getD j zHd).f1 ≥ 0
      · rw [if_pos c1, if_pos (by omega), rd_nat, decide_eq_true c1, Bool.true_and]
        by_cases c2 : st.getD j 0 < 0
        · rw [if_pos c2, decide_eq_true c2, Bool.true_or]
        · rw [if_neg c2, decide_eq_false c2, Bool.false_or]
      · rw [if_neg c1, decide_eq_false c1, Bool.false_and]
theorem l2_true {cs : List Cl} {hs : List Hd} (hk : checkT cs hs = 0) {h : Nat} (hh : h < hs.length) (hlen : (stepsT hs h).length = hs.length) : ∀ (d x : Nat), x + d = 7 → Ev (fun k => wayzgooselaw04_TradeFound.l2 k h (stepsT hs h) x cs hs) true := by
  intro d
  induction d with
  | zero =>
    intro x hx
    refine Ev.last (fun k => ?_)
    simp only [wayzgooselaw04_TradeFound.l2]
    rw [if_neg (by omega)]
    rfl
  | succ d ih =>
    intro x hx
    have hn := ih (x + 1) (by omega)
    have hf : trade_Hidden.f cs hs h x = some ((nats hs.length).filter (hidP hs (stepsT hs h) x), 0) := by
      have ha : askT cs hs h = 0 := by
        unfold askT
        rw [if_neg (by omega), if_neg (by rw [inN_true (by omega) (by omega)]; simp)]
      unfold trade_Hidden.f
      rw [if_neg (by omega), if_neg (by unfold betw; rw [decide_eq_true (by omega), decide_eq_true (by omega)]; simp), Int.toNat_natCast]
    refine Ev.step (fun k => ?_) (l3_true hk hlen x (by rw [w64s (by omega) (by omega)]; exact hn) hs.length 0 (by omega))
    simp only [wayzgooselaw04_TradeFound.l2]
    rw [if_pos (by omega), hf]
    rfl
theorem TradeFound : wayzgooselaw04_TradeFound.Pure := by
  intro l _ hl _
  obtain ⟨cs, hs, a', s', he, hm, hd⟩ := tradesOf_ok (s := 11400714819323198485) (newDice_ok hl) (c := 2) (h := 6) (by omega) (by omega) (by omega) (by omega)
  refine Ev.rounds (r := true) ?_
  have hk := hm.ok
  have h6 := (check_parts hk).2.1
  refine Ev.congr (f := fun k => (wayzgoosekit_TradesOf.f k l 0 11400714819323198485 2 6).bind fun bt => if (bt.2.1.length : Int) = 0 then ((wayzgooselaw04_indexed.f).bind fun t => some t) else ((wayzgoosekit_Dice_To.f l bt.2.2.1 bt.2.2.2 (wrap64 ((bt.2.1.length : Int) - 1))).bind fun b5 => ((trade_Steps.f bt.1 bt.2.1 b5.1).bind fun b8 => (if b8.2 = 0 then (if (b8.1.length : Int) = (bt.2.1.length : Int) then (if 0 ≤ b5.1 then (if b5.1 < (b8.1.length : Int) then (wayzgooselaw04_TradeFound.j0 k b5.1 b8.1 ((rd b8.1 b5.1) != 0) bt.1 bt.2.1) else (none)) else (none)) else (wayzgooselaw04_TradeFound.j0 k b5.1 b8.1 true bt.1 bt.2.1)) else (wayzgooselaw04_TradeFound.j0 k b5.1 b8.1 true bt.1 bt.2.1))))) (fun k => ?_) (Ev.bind (f := fun k (bt : List Cl × List Hd × Int × Int) => if (bt.2.1.length : Int) = 0 then ((wayzgooselaw04_indexed.f).bind fun t => some t) else ((wayzgoosekit_Dice_To.f l bt.2.2.1 bt.2.2.2 (wrap64 ((bt.2.1.length : Int) - 1))).bind fun b5 => ((trade_Steps.f bt.1 bt.2.1 b5.1).bind fun b8 => (if b8.2 = 0 then (if (b8.1.length : Int) = (bt.2.1.length : Int) then (if 0 ≤ b5.1 then (if b5.1 < (b8.1.length : Int) then (wayzgooselaw04_TradeFound.j0 k b5.1 b8.1 ((rd b8.1 b5.1) != 0) bt.1 bt.2.1) else (none)) else (none)) else (wayzgooselaw04_TradeFound.j0 k b5.1 b8.1 true bt.1 bt.2.1)) else (wayzgooselaw04_TradeFound.j0 k b5.1 b8.1 true bt.1 bt.2.1))))) he ?_)
  · unfold wayzgooselaw04_TradeFound.f wayzgoosekit_NewDice.f
    rfl
  · show Ev (fun k => if (hs.length : Int) = 0 then _ else _) true
    by_cases c0 : (hs.length : Int) = 0
    · refine Ev.congr (f := fun _ => some true) (fun k => ?_) (Ev.now _)
      rw [if_pos c0]
      rfl
    · obtain ⟨v, a2, s2, hto, v0, v1, _⟩ := to_ok' (l := l) (a := a') (s := s') (n := (hs.length : Int) - 1) hd (by omega) (by omega)
      obtain ⟨h, rfl⟩ : ∃ h : Nat, v = h := ⟨v.toNat, by omega⟩
      have hh : h < hs.length := by omega
      have hv : Valid cs hs := ⟨hk⟩
      have H := steps_spec hv hh
      have hlen := H.len
      have hsf : trade_Steps.f cs hs h = some (stepsT hs h, 0) := by
        have ha : askT cs hs h = 0 := by
          unfold askT
          rw [if_neg (by omega), if_neg (by rw [inN_true (by omega) (by omega)]; simp)]
        unfold trade_Steps.f
        rw [if_neg (by omega), Int.toNat_natCast]
      have hl2 := l2_true hk hh hlen 7 0 (by omega)
      have hl0 := l0_true hk hh H (fun i hi => steps_up hv hh i hi) hl2 hs.length 0 (by omega)
      refine Ev.congr (f := fun k => wayzgooselaw04_TradeFound.j0 k h (stepsT hs h) false cs hs) (fun k => ?_) (Ev.step (fun k => ?_) hl0)
      · dsimp only
        rw [if_neg c0, w64s (by omega) (by omega), hto]
        simp only [Option.bind_some]
        rw [hsf]
        simp only [Option.bind_some]
        rw [if_pos trivial, if_pos (by omega), if_pos (by omega), if_pos (by omega)]
        have : (rd (stepsT hs h) (h : Int) != 0) = false := by rw [rd_nat, H.head]; rfl
        rw [this]
      · simp only [wayzgooselaw04_TradeFound.j0]
        rw [if_neg (by simp)]
        rfl
end Go.Proofs.Ytfbimhnlcmdcpaa.Pure
namespace Go.Proofs.Ytfbimhnlcmdcpaa.tradeFound
open Go.ChangeShapes Go.WideShapes Go.ChangeAt Go.RowKit
open Go.ChangeMaps (open_string shut_string)
set_option linter.unusedVariables false
theorem own : ownKnob Try.prog.godebug = none := by kernel_rfl
theorem laidOut : laidOutB Try.prog = true := by kernel_rfl
def IsRow (k : IntKind) (w : World) (a : Option Addr) (len cap : Nat) (zs : List Int) : Prop :=
  (a = none ∧ len = 0 ∧ cap = 0 ∧ zs = []) ∨
  ∃ x, a = some x ∧ len ≤ cap ∧ cap ≤ maxLen ∧ zs.length = cap ∧ (∀ i, i < zs.length → w.cell? (x.add i) = some (.int k (zs.getD i 0))) ∧ ∀ n ∈ zs, (Lit.int k n).wf = true
set_option maxRecDepth 100000 in
theorem lifted (os : Os) (started : os.Started) (H : Type) (enc : TypeId × Value → H) :
    ReturnsInHanded {} Try.checked os 11 .any (Rows.tradeFoundSpec.pre6 enc Try.prog Try.f11 Rows.tradeFoundRow.domain false) (Rows.tradeFoundSpec.post enc Try.prog Try.f11 false true false false) := by
  refine returnsInHanded_of_change_sized (C := Try.checked) own started (by kernel_rfl) Try.func11
    (ChangeSpec.witness6 (enc := enc) (C := Try.checked) false ⟨#[], #[.slice none 0 0], []⟩ 8 (by kernel_rfl) (by kernel_rfl) (by kernel_rfl) (by kernel_rfl)) ?_
  intro W base args ds gs before hval0 hW hcnd hsz0 _
  have hsz : (DataW.weightsEach Try.prog (Try.f11.params.toList ++ Rows.tradeFoundSpec.plain.varTypes Try.prog) (ds ++ gs)).all (· ≤ reachBytes) = true := hsz0
  have hval : ∀ (j : Nat) t v, Try.f11.params[j]? = some t → args[j]? = some v → Value.okWide Try.prog W .any base t v := hval0
  have hW' := hW
  obtain ⟨p, q, hA0, hV, rfl, hfz, hnd⟩ := hW
  have hA : DataW.TrodAll enc Try.prog W 0 (fun _ => true) true Try.f11.params.toList args.toList ds p := hA0
  rw [Try.params11] at hA hval hsz
  obtain ⟨v0, vs0, d0, ds0, p0, q0, hargs, rfl, rfl, h0, r0⟩ := trodAll_cons hA
  obtain ⟨rfl, rfl, rfl⟩ := trodAll_nil r0
  obtain rfl : args = #[v0] := by cases args; simp_all
  obtain ⟨rfl, rfl⟩ := trodVars_none hV
  obtain ⟨a0, len0, cap0, rfl⟩ := okWide_slice Try.underlying22 (hval 0 22 v0 rfl rfl)
  have k0 := h0
  have lt0 : ∀ x ∈ p0, x.block < W.heap.size := by obtain ⟨m, hm⟩ := k0; exact DataW.trod_lt m _ _ _ hm
  obtain ⟨z0, w0⟩ : ∃ zs, IsRow .i64 W a0 len0 cap0 zs := by
    obtain ⟨fuel, hf⟩ := h0
    rcases open_ints Try.underlying22 Try.underlying3 (by kernel_rfl) hf with ⟨hcs, _⟩ | ⟨x, l, c, zs, hcs, _, hl, hm, hz, _, hcell, hwz⟩
    · simp [Value.cells] at hcs
      obtain ⟨rfl, rfl, rfl⟩ := hcs
      exact ⟨[], .inl ⟨rfl, rfl, rfl, rfl⟩⟩
    · simp [Value.cells] at hcs
      obtain ⟨rfl, rfl, rfl⟩ := hcs
      exact ⟨zs, .inr ⟨_, rfl, hl, hm, by simpa using hz, hcell, hwz⟩⟩
  have y0 : len0 * 8 ≤ 140737488351232 := Go.Proofs.YtfbimhnlcmdcpaaW.PrintWords.sized_ints hsz (j := 0) (t := 22) rfl rfl Try.underlying22 Try.underlying3 (by kernel_rfl) (by kernel_rfl) h0
  clear hA0 hval0 hsz0 hsz
  refine (Pa.wayzgooselaw04_TradeFound.walk Pure.TradeFound a0 len0 cap0 z0 W w0 y0).mono fun e W' ⟨he, bel⟩ => ?_
  subst he
  exact ⟨_, rfl, _, _, _, [], _, [], hW', trodAll_mk1 (shut_bool Try.underlying4 _), (trodAll_cons_mk (Below.trod laidOut (by kernel_rfl) (of_decide_eq_true (by kernel_rfl)) k0 bel lt0) trodAll_mk0), rfl, bel.frame _, fun h => by cases h⟩
theorem over : Rows.tradeFoundRow.holds Try.pinned (OpenSpec.ofChange Rows.tradeFoundSpec) :=
  OpenClaim.holds_of_wide 11 Try.f11 rfl rfl rfl rfl rfl rfl rfl ⟨rfl, rfl, rfl, rfl, rfl⟩ rfl rfl rfl rfl rfl (by kernel_rfl) Try.func11 (by kernel_rfl)
    (of_decide_eq_true (by kernel_rfl)) (by unfold Func.isWrapper; first | (rw [if_pos (by decide +kernel)]; kernel_rfl) | (rw [if_neg (by decide +kernel)]; exact ⟨rfl, rfl⟩))
    (fun os started H enc _ => lifted os started H enc)
theorem proved : Rows.TradeFoundSaid := over
#print axioms proved
end Go.Proofs.Ytfbimhnlcmdcpaa.tradeFound
namespace Go.Proofs.Ytfbimhnlcmdcpaa
/-- The row, under a short name, for the claim. -/
theorem tradeFound_holds : Rows.TradeFoundSaid := tradeFound.proved
end Go.Proofs.Ytfbimhnlcmdcpaa
