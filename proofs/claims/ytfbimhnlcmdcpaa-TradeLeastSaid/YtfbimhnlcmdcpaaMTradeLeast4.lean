/- A part of the proof: The class of Least has both classes under it, and each class that has both under it has the class of Least under it: for all lists of numbers. Without conditions of its own. -/
import Derived.Test.YtfbimhnlcmdcpaaMTradeLeast3
import Derived.Lib.Bytealg
import Derived.Lib.Walk
import Derived.Shelf.SlSortCmp.NoneTotal
import Derived.Shelf.SlicesE.Compact
import Derived.Shelf.SlicesE.Equal
import Derived.Shelf.Lay
import Derived.Ground.SlsfProg
import Derived.Ground.SlgnProg
import Derived.Lib.OwnBridge
import Derived.Test.YtfbimhnlcmdcpaaMTradeLeast1
/- The order of strings; the contract of strings.Compare. -/
namespace Go.Proofs.Ytfbimhnlcmdcpaa.Pa
open Go.RowKit Go.Lib Go.Proofs.YtfbimhnlcmdcpaaW.PrintWords Go.Proofs.YtfbimhnlcmdcpaaW.PrintLast Go.Proofs.YtfbimhnlcmdcpaaW.PrintMore
set_option linter.unusedVariables false
set_option linter.unusedSimpArgs false

theorem u8_cases (a b : UInt8) : a < b ∨ a = b ∨ b < a := by
  rcases Nat.lt_trichotomy a.toNat b.toNat with h | h | h
  · exact .inl (UInt8.lt_iff_toNat_lt.mpr h)
  · exact .inr (.inl (UInt8.toNat_inj.mp h))
  · exact .inr (.inr (UInt8.lt_iff_toNat_lt.mpr h))
theorem u8_asymm {a b : UInt8} (h : a < b) : ¬ b < a := by
  have := UInt8.lt_iff_toNat_lt.mp h
  intro h2
  have := UInt8.lt_iff_toNat_lt.mp h2
  omega
theorem u8_irrefl (a : UInt8) : ¬ a < a := fun h => u8_asymm h h
theorem u8_trans {a b c : UInt8} (h : a < b) (h2 : b < c) : a < c := by
  have := UInt8.lt_iff_toNat_lt.mp h
  have := UInt8.lt_iff_toNat_lt.mp h2
  exact UInt8.lt_iff_toNat_lt.mpr (by omega)
/-- the order of strings, as a relation -/
theorem cmp_neg : ∀ (a b : List UInt8), (compareBytes a b < 0) ↔ Op.bytesLess a b = true
  | [], [] => by simp [compareBytes, Op.bytesLess]
  | [], b :: ys => by simp [compareBytes, Op.bytesLess]
  | a :: xs, [] => by simp [compareBytes, Op.bytesLess]
  | a :: xs, b :: ys => by
    have ih := cmp_neg xs ys
    unfold compareBytes Op.bytesLess
    rcases u8_cases a b with h | h | h
    · simp [h]
    · subst h
      simp [u8_irrefl, ih]
    · have h2 := u8_asymm h
      have h3 : ¬ a = b := fun e => u8_irrefl b (e ▸ h)
      simp [h, h2, h3]
theorem bl_irrefl : ∀ a : List UInt8, Op.bytesLess a a = false
  | [] => rfl
  | a :: xs => by simp [Op.bytesLess, u8_irrefl, bl_irrefl xs]
theorem bl_cons (a b : UInt8) (x y : List UInt8) : Op.bytesLess (a :: x) (b :: y) = true ↔ a < b ∨ (a = b ∧ Op.bytesLess x y = true) := by simp [Op.bytesLess]
theorem bl_trans : ∀ a b c : List UInt8, Op.bytesLess a b = true → Op.bytesLess b c = true → Op.bytesLess a c = true
  | _, b, [], _, h2 => by cases b <;> simp [Op.bytesLess] at h2
  | [], b, c :: zs, _, _ => rfl
  | a :: xs, [], c :: zs, h1, _ => by simp [Op.bytesLess] at h1
  | a :: xs, b :: ys, c :: zs, h1, h2 => by
    rw [bl_cons] at h1 h2 ⊢
    rcases h1 with h1 | ⟨rfl, h1⟩
    · rcases h2 with h2 | ⟨rfl, h2⟩
      · exact .inl (u8_trans h1 h2)
      · exact .inl h1
    · rcases h2 with h2 | ⟨rfl, h2⟩
      · exact .inl h2
      · exact .inr ⟨rfl, bl_trans xs ys zs h1 h2⟩
theorem bl_total : ∀ a b : List UInt8, Op.bytesLess a b = false → Op.bytesLess b a = false → a = b
  | [], [], _, _ => rfl
  | [], b :: ys, h, _ => by simp [Op.bytesLess] at h
  | a :: xs, [], _, h => by simp [Op.bytesLess] at h
  | a :: xs, b :: ys, h1, h2 => by
    have k1 : ¬ (a < b ∨ (a = b ∧ Op.bytesLess xs ys = true)) := fun h => by rw [← bl_cons] at h; rw [h] at h1; cases h1
    have k2 : ¬ (b < a ∨ (b = a ∧ Op.bytesLess ys xs = true)) := fun h => by rw [← bl_cons] at h; rw [h] at h2; cases h2
    rcases u8_cases a b with h | h | h
    · exact absurd (.inl h) k1
    · subst h
      rw [bl_total xs ys (by simpa using fun h => k1 (.inr ⟨rfl, h⟩)) (by simpa using fun h => k2 (.inr ⟨rfl, h⟩))]
    · exact absurd (.inl h) k2
def cfS (x y : ByteArray) : Int := compareBytes x.data.toList y.data.toList
theorem sLt_total {x y : ByteArray} (h1 : sLt x y = false) (h2 : sLt y x = false) : x = y := by
  have := bl_total _ _ h1 h2
  exact ByteArray.ext (Array.toList_inj.mp this)
def sortW (l : List ByteArray) : List ByteArray := l.mergeSort (fun x y => !sLt y x)

set_option maxHeartbeats 1000000 in
set_option maxRecDepth 100000 in
theorem bytealg_any (a b : ByteArray) (w : World) :
    Calls Try.prog 78 #[.string a, .string b] w fun e w' => e = .returned (.int .i64 (compareBytes a.data.toList b.data.toList)) ∧ w' = w := by
  go_enter Try.func78, Try.ntmps78
  go_wp2
  rw [run_callFunc_extern Try.func103 (by kernel_rfl) (by kernel_rfl) (by kernel_rfl) (e := Extern.BytealgCompare.compare) (by kernel_rfl), Lib.run_compareString]
  simp only [Result.andThen]
  rw [Oper.upon_value]
  go_wp2
  go_ret
  exact ⟨rfl, rfl⟩
theorem compare_any (a b : ByteArray) (w : World) : Calls Try.prog 56 #[.string a, .string b] w fun e w' => e = .returned (.int .i64 (cfS a b)) ∧ ∃ q, w' = w.drewN q := by
  go_enter Try.func56, Try.ntmps56
  go_wp2_with (go_at_call 78; refine (bytealg_any _ _ _).mono ?_; rintro e w' ⟨rfl, rfl⟩)
  go_ret
  exact ⟨rfl, 0, rfl⟩
end Go.Proofs.Ytfbimhnlcmdcpaa.Pa
/- The contracts of slices.SortFunc and slices.Compact at strings. -/
namespace Go.Proofs
open Go.Shelf
shelf_lay_g SlLaysF.n6 Slsf 6 at Try 55 as Try.sortStr
shelf_lay_g SlLaysE.n43 Slgn 43 at Try 57 as Try.compStr
end Go.Proofs
namespace Go.Proofs.Ytfbimhnlcmdcpaa.Pa
open Go.Shelf Go.RowKit Go.Lib Go.Sort Go.Proofs.YtfbimhnlcmdcpaaW.PrintWords Go.Proofs.YtfbimhnlcmdcpaaW.PrintLast Go.Proofs.YtfbimhnlcmdcpaaW.PrintMore
set_option linter.unusedVariables false
set_option linter.unusedSimpArgs false

theorem ltS (x y : ByteArray) : ltOf cfS x y = sLt x y := by
  unfold ltOf cfS sLt
  rw [Bool.eq_iff_iff, decide_eq_true_iff]
  exact cmp_neg _ _
theorem swoS : SWO (ltOf cfS) where
  irrefl x := by rw [ltS]; exact bl_irrefl _
  trans x y z h1 h2 := by rw [ltS] at *; exact bl_trans _ _ _ h1 h2
  ntrans x y z h1 h2 := by
    rw [ltS] at *
    cases h : sLt x z with
    | false => rfl
    | true =>
      exfalso
      cases h3 : sLt y x with
      | false =>
        have := sLt_total h1 h3
        subst this
        rw [h] at h2
        cases h2
      | true =>
        have := bl_trans _ _ _ h3 h
        rw [show sLt y z = true from this] at h2
        cases h2
theorem cmpReadsS (blk off size : Nat) (w : World) : CmpReads Try.prog 56 #[] Value.string cfS blk off size w := fun _ _ _ _ x y => compare_any x y _

/-- a row of strings that may be written -/
def StrRow (w : World) (v : Value) (xs : List ByteArray) : Prop :=
  (v = .slice none 0 0 ∧ xs = []) ∨ ∃ g cap, v = .slice (some ⟨g, 0, none⟩) xs.length cap ∧ xs.length ≤ cap ∧ g < w.heap.size ∧ Holds Value.string w g 0 xs.toArray
theorem StrRow.of_own {w : World} {base n : Nat} {v : Value} {xs : List ByteArray} (h : w.ownsRow base 9 1 v n (xs.map Value.string)) : StrRow w v xs := by
  by_cases hv : v = .slice none 0 0
  · subst hv
    rcases h.2 with ⟨_, hn⟩ | ⟨g, cap, cur, e, _⟩
    · subst hn
      exact .inl ⟨rfl, by have := h.1; simpa using this⟩
    · cases e
  · obtain ⟨g, cap, rfl, hb, hg, hn, _, hl, hH⟩ := holds_of_ownsRow h hv
    subst hl
    exact .inr ⟨g, cap, rfl, hn, hg, hH⟩
theorem grownBy_putRow (w : World) (g off n : Nat) (d : Array ByteArray) (os : Array Obj) : w.grownBy (sortWorld Value.string w g off n d os) (some g) := by
  refine ⟨rfl, rfl, rfl, ?_, fun k hk hne => ?_⟩
  · show w.heap.size ≤ ((w.heap.modify g _) ++ os).size
    simp
  · have hkg : g ≠ k := fun e => hne (by rw [e])
    show ((w.heap.modify g _) ++ os)[k]? = _
    rw [Array.getElem?_append_left (by simpa using hk), Array.getElem?_modify, if_neg hkg]
theorem sort_any (v : Value) (xs : List ByteArray) (w : World) (h : StrRow w v xs) (hl : xs.length ≤ 100) :
    Calls Try.prog 55 #[v, .func (.func 56) #[] #[]] w fun e w' => e = .returned (.tuple #[]) ∧ w.grownBy w' v.ownBlock ∧ StrRow w' v (sortW xs) := by
  rcases h with ⟨rfl, rfl⟩ | ⟨g, cap, rfl, hc, hg, hH⟩
  · have hS := AnyF.slices_SortFunc_none (P := Try.prog) (ρ := Try.sortStr_ren) { Try.sortStr with } none 0 (.func (.func 56) #[] #[]) w
    change Calls Try.prog 55 _ _ _ at hS
    refine hS.mono ?_
    rintro e w' ⟨rfl, rfl⟩
    exact ⟨rfl, World.grownBy.refl _ _, .inl ⟨rfl, by simp [sortW]⟩⟩
  · have eg : ∀ args w, (callFunc 56 args).run Try.prog w = .ok (.enter 56 args) w := enters_of Try.func56 (by kernel_rfl) rfl
    have hS := Any.slices_SortFunc_total Try.sortStr Value.string (fun _ => rfl) cfS swoS 56 #[] g 0 cap xs.toArray w eg (cmpReadsS g 0 xs.toArray.size w).lays hH hg (by simp; omega) (fun x y h1 h2 => by rw [ltS] at h1 h2; exact sLt_total h1 h2)
    have hge : (fun x y : ByteArray => !ltOf cfS y x) = fun x y => !sLt y x := by funext x y; rw [ltS]
    rw [hge] at hS
    change Calls Try.prog 55 _ _ _ at hS
    have hsz : xs.toArray.size = xs.length := by simp
    rw [hsz] at hS
    refine hS.mono ?_
    rintro e w' ⟨rfl, n, os, rfl⟩
    have hlen : (sortW xs).length = xs.length := by unfold sortW; simp
    refine ⟨rfl, grownBy_putRow w g 0 n _ os, .inr ⟨g, cap, by rw [hlen], by rw [hlen]; exact hc, lt_sortWorld Value.string w g 0 n _ os hg, ?_⟩⟩
    have := holds_sortWorld Value.string w g 0 n xs.toArray (sortW xs).toArray os hg hH (by simp [hlen])
    simpa [sortW] using this
theorem eq_dec : (fun x y : ByteArray => x.toList == y.toList) = fun x y => decide (x = y) := by
  funext x y
  rw [toList_data, toList_data, Bool.eq_iff_iff, beq_iff_eq, decide_eq_true_iff]
  exact ⟨fun h => ByteArray.ext (Array.toList_inj.mp h), fun h => by rw [h]⟩
theorem grownBy_putRow0 (w : World) (g q : Nat) (d : Array ByteArray) : w.grownBy (putRow Value.string (Sort.ahead w q) g 0 d) (some g) := by
  have h := grownBy_putRow w g 0 q d #[]
  unfold sortWorld at h
  rw [grow_empty] at h
  exact h
theorem strs_of_holds {w : World} {g n : Nat} {d : Array ByteArray} (h : Holds Value.string w g 0 d) (xs : List ByteArray) (hx : xs.length = n) (hn : n ≤ 100) (hp : ∀ j, j < n → j < d.size ∧ d[j]! = xs.getD j ByteArray.empty) : Kd.string.C w (some ⟨g, 0, none⟩) n xs := by
  refine ⟨hx, by omega, fun _ => ⟨_, rfl, fun j p hj => ?_⟩⟩
  have hjl := (List.getElem?_eq_some_iff.1 hj).1
  obtain ⟨h1, h2⟩ := hp j (by omega)
  refine ⟨[.string p], rfl, rfl, fun i u hu => ?_⟩
  have hi : i = 0 := by
    have := (List.getElem?_eq_some_iff.1 hu).1
    simp at this
    exact this
  subst hi
  obtain rfl : Value.string p = u := by simpa using hu
  have hc := (h j h1).1
  rw [h2, List.getD_eq_getElem?_getD, hj] at hc
  have ha : ((⟨g, 0, none⟩ : Addr).add (j * 1 + 0)) = ⟨g, 0 + j, none⟩ := by
    rw [add_plain]; simp
  show w.cell? ((⟨g, 0, none⟩ : Addr).add (j * 1 + 0)) = _
  rw [ha]
  exact hc
theorem compact_any (v : Value) (xs : List ByteArray) (w : World) (h : StrRow w v xs) (hl : xs.length ≤ 100) :
    Calls Try.prog 57 #[v] w fun e w' => ∃ A c, e = .returned (.slice A (compact xs).length c) ∧ w.grownBy w' v.ownBlock ∧ Kd.string.C w' A (compact xs).length (compact xs) := by
  rcases h with ⟨rfl, rfl⟩ | ⟨g, cap, rfl, hc, hg, hH⟩
  · go_enter Try.func57, Try.ntmps57
    go_wp2
    go_ret
    exact ⟨none, 0, rfl, World.grownBy.refl _ _, rfl, by decide, fun h => absurd h (by decide)⟩
  · have he : EqlAt Try.prog 9 Value.string (fun x y => decide (x = y)) := by
      have := EqlAt.string Try.prog 9
      rwa [eq_dec] at this
    have hn : NeqAt Try.prog 9 Value.string (fun x y => decide (x = y)) := by
      have := NeqAt.string Try.prog 9
      rwa [eq_dec] at this
    have hC := AnyE.slices_Compact Try.compStr Value.string (fun _ => rfl) he hn ByteArray.empty (fun _ => by kernel_rfl) g 0 cap xs.toArray w hH (by simp; omega) (by simpa using hc)
    change Calls Try.prog 57 _ _ _ at hC
    have hsz : xs.toArray.size = xs.length := by simp
    rw [hsz] at hC
    refine hC.mono ?_
    rintro e w' ⟨rfl, q, rfl⟩
    have hcl : compactUpTo xs.toArray xs.length = compact xs := rfl
    rw [hcl]
    have hle : (compact xs).length ≤ xs.length := by
      unfold compact compactUpTo
      rw [List.length_map]
      have := List.length_filter_le (keeps xs.toArray) (List.range xs.length)
      rwa [List.length_range] at this
    refine ⟨_, _, rfl, grownBy_putRow0 w g q _, ?_⟩
    have hH2 := holds_putRow Value.string (Sort.ahead w q) g 0 xs.toArray (compact xs ++ List.replicate (xs.length - (compact xs).length) ByteArray.empty).toArray hH (by simp; omega)
    refine strs_of_holds hH2 (compact xs) rfl (by omega) (fun j hj => ⟨by simp; omega, ?_⟩)
    rw [getElem!_pos _ j (by simp; omega)]
    simp [List.getElem_append_left hj, List.getD_eq_getElem?_getD, List.getElem?_eq_getElem hj]
end Go.Proofs.Ytfbimhnlcmdcpaa.Pa
/- The contract of Compare. -/
namespace Go.Proofs.Ytfbimhnlcmdcpaa.Pa
open Go.RowKit Go.Proofs.YtfbimhnlcmdcpaaW.PrintWords Go.Proofs.YtfbimhnlcmdcpaaW.PrintLast Go.Proofs.YtfbimhnlcmdcpaaW.PrintMore
set_option linter.unusedVariables false
set_option linter.unusedSimpArgs false

abbrev Mv := S47
/-- what became of a word: p: its names before, q: after -/
def moveOf (s : ByteArray) (p q : Option (List ByteArray)) : List Mv :=
  if p.isSome && !q.isSome then [⟨s, 1⟩] else if q.isSome && !p.isSome then [⟨s, 2⟩] else if decide (p.getD [] = q.getD []) = false then [⟨s, 3⟩] else []
def wordsT (hs1 hs2 : List Hd) : List ByteArray := Lib.compact (sortW (hs1.map (fun x => x.f0) ++ hs2.map (fun x => x.f0)))
def movesT (cs1 : List Cl) (hs1 : List Hd) (cs2 : List Cl) (hs2 : List Hd) : List Mv :=
  (wordsT hs1 hs2).flatMap (fun s => moveOf s (namesT cs1 hs1 s) (namesT cs2 hs2 s))
def trade_Compare.f (cs1 : List Cl) (hs1 : List Hd) (cs2 : List Cl) (hs2 : List Hd) : Option (List Mv × Int) :=
  some (if checkT cs1 hs1 ≠ 0 then ([], checkT cs1 hs1) else if checkT cs2 hs2 ≠ 0 then ([], checkT cs2 hs2) else (movesT cs1 hs1 cs2 hs2, 0))

theorem equalL (xs ys : List ByteArray) (hl : xs.length = ys.length) (hb : xs.length ≤ 100) : ∀ (k i : Nat), i ≤ xs.length → xs.length < k + i →
    slices_Equal_string_string.l0 k xs ys (xs.length : Int) i = some (decide (xs.drop i = ys.drop i))
  | 0, i, h1, h2 => by omega
  | k + 1, i, h1, h2 => by
    show (if (i : Int) < (xs.length : Int) then _ else _) = _
    by_cases hi : i < xs.length
    · have hw : wrap64 ((i : Int) + 1) = ((i + 1 : Nat) : Int) := by unfold wrap64; omega
      rw [if_pos (by omega), if_pos (by omega), if_pos (by omega), if_pos (by omega), hw, equalL xs ys hl hb k (i + 1) (by omega) (by omega)]
      have e1 : rdOf ByteArray.empty xs (i : Int) = xs[i] := by simp [rdOf, List.getD_eq_getElem?_getD, List.getElem?_eq_getElem hi]
      have e2 : rdOf ByteArray.empty ys (i : Int) = ys[i] := by simp [rdOf, List.getD_eq_getElem?_getD, List.getElem?_eq_getElem (show i < ys.length by omega)]
      rw [e1, e2, List.drop_eq_getElem_cons hi, List.drop_eq_getElem_cons (show i < ys.length by omega)]
      by_cases he : xs[i] = ys[i]
      · rw [if_pos (by rw [he]), he]
        simp only [List.cons.injEq, true_and]
      · rw [if_neg (fun h => he (by
          rw [toList_data, toList_data] at h
          exact ByteArray.ext (Array.toList_inj.mp h))), decide_eq_false (fun h => he (List.cons.inj h).1)]
    · rw [if_neg (by omega), List.drop_eq_nil_of_le (by omega), List.drop_eq_nil_of_le (by omega)]
      rfl
theorem equal_strs (xs ys : List ByteArray) (hb : xs.length ≤ 100) : slices_Equal_string_string.f 101 xs ys = some (decide (xs = ys)) := by
  unfold slices_Equal_string_string.f
  by_cases hl : xs.length = ys.length
  · rw [if_pos (by omega)]
    exact equalL xs ys hl hb 101 0 (by omega) (by omega)
  · rw [if_neg (by omega), decide_eq_false (fun h => hl (by rw [h]))]

def mvCells (l : List Mv) : List Value := l.flatMap (fun x => [.string x.f0, .int .i64 x.f1])
theorem mvCells_append (a b : List Mv) : mvCells (a ++ b) = mvCells a ++ mvCells b := by simp [mvCells]
theorem mv_reps (w : World) (base : Nat) (ok : Nat → Prop) (l : List Mv) : Reps (k47.M w base ok) 2 l (mvCells l) := by
  induction l with
  | nil => exact Reps.none _ _
  | cons r l ih => exact Kd.reps_append (Reps.snoc (Reps.none _ _) (k47_mkM w base ok r) rfl) ih
theorem infoMv : (Try.prog.info? 47).map (fun i => (i.zero, i.size, i.bytes)) = some (some (.agg #[.string ⟨#[]⟩, .int .i64 0]), 2, 24) := by kernel_rfl

theorem compact_len (xs : List ByteArray) : (Lib.compact xs).length ≤ xs.length := by
  unfold Lib.compact Lib.compactUpTo
  rw [List.length_map]
  have := List.length_filter_le (Lib.keeps xs.toArray) (List.range xs.length)
  rwa [List.length_range] at this
theorem moves_len (U : List ByteArray) (N0 N1 : ByteArray → Option (List ByteArray)) : (U.flatMap (fun s => moveOf s (N0 s) (N1 s))).length ≤ U.length := by
  induction U with
  | nil => simp
  | cons s l ih =>
    rw [List.flatMap_cons, List.length_append, List.length_cons]
    have : (moveOf s (N0 s) (N1 s)).length ≤ 1 := by
      unfold moveOf
      split
      · simp
      · split
        · simp
        · split <;> simp
    omega
theorem namesFrom_len (cs : List Cl) (hs : List Hd) (s : ByteArray) : ∀ k i, ((namesFrom cs hs s k i).getD []).length ≤ cs.length
  | 0, i => by simp [namesFrom]
  | k + 1, i => by
    show ((if _ then _ else _ : Option (List ByteArray)).getD []).length ≤ _
    split
    · show (classNames cs _).length ≤ _
      unfold classNames
      rw [List.length_map]
      exact pathT_len _ _
    · exact namesFrom_len cs hs s k (i + 1)
theorem below_as {q : Nat} {w w3 : World} (hq : q = w.heap.size) (h : Below w.drew.heap.size w.drew w3) : Below q w w3 := by
  subst hq
  exact ⟨h.os, h.tape, h.output, h.size, h.block⟩

set_option maxHeartbeats 8000000 in
set_option maxRecDepth 100000 in
theorem compare_good (A0_0 : Option Addr) (c0_0 : Nat) (l0_0 : List (S51)) (A0_1 : Option Addr) (c0_1 : Nat) (l0_1 : List (S39)) (A1_0 : Option Addr) (c1_0 : Nat) (l1_0 : List (S51)) (A1_1 : Option Addr) (c1_1 : Nat) (l1_1 : List (S39)) (w : World) (hr0_0 : Kd.C k51 w A0_0 l0_0.length l0_0) (hc0_0 : l0_0.length ≤ c0_0) (hr0_1 : Kd.C k39 w A0_1 l0_1.length l0_1) (hc0_1 : l0_1.length ≤ c0_1) (hr1_0 : Kd.C k51 w A1_0 l1_0.length l1_0) (hc1_0 : l1_0.length ≤ c1_0) (hr1_1 : Kd.C k39 w A1_1 l1_1.length l1_1) (hc1_1 : l1_1.length ≤ c1_1) (hv0 : Valid l0_0 l0_1) (hv1 : Valid l1_0 l1_1) :
    Calls Try.prog 21 #[.agg #[.slice A0_0 l0_0.length c0_0, .slice A0_1 l0_1.length c0_1], .agg #[.slice A1_0 l1_0.length c1_0, .slice A1_1 l1_1.length c1_1]] w fun e w' => ∃ v0_ : Value, e = .returned (.tuple #[v0_, .int .i64 0]) ∧ Kd.R k47 47 w' w.heap.size (fun _ => True) v0_ (movesT l0_0 l0_1 l1_0 l1_1) ∧ Below w.heap.size w w' := by
  have hu2 := Try.underlying26
  have hu4 := Try.underlying39
  obtain ⟨m0, m1, -, -⟩ := hv0.split
  obtain ⟨-, m3, -, -⟩ := hv1.split
  obtain ⟨i0, hi, hz0, hz1, hz2⟩ := info_parts infoStr
  obtain ⟨j0, hj, hy0, hy1, hy2⟩ := info_parts infoMv
  have hB0 := ((Below.refl w.heap.size w).alloc (Nat.le_refl _) (.cells #[.slice A0_0 l0_0.length c0_0, .slice A0_1 l0_1.length c0_1] 26)).alloc (by simp) (.cells #[.slice A1_0 l1_0.length c1_0, .slice A1_1 l1_1.length c1_1] 26)
  have hx0 := blk_alloc (heap_alloc_new w (.cells #[.slice A0_0 l0_0.length c0_0, .slice A0_1 l0_1.length c0_1] 26)) (.cells #[.slice A1_0 l1_0.length c1_0, .slice A1_1 l1_1.length c1_1] 26)
  have hx1 := heap_alloc_new (w.alloc (.cells #[.slice A0_0 l0_0.length c0_0, .slice A0_1 l0_1.length c0_1] 26)) (.cells #[.slice A1_0 l1_0.length c1_0, .slice A1_1 l1_1.length c1_1] 26)
  rw [World.size_alloc] at hx1
  have HG0 := fun W (hW : Below w.heap.size w W) => begin_good A0_0 A0_1 c0_0 c0_1 l0_0 l0_1 W (Kd.C_below hr0_0 hW) (Kd.C_below hr0_1 hW) hc0_0 hc0_1 hv0
  have HG1 := fun W (hW : Below w.heap.size w W) => begin_good A1_0 A1_1 c1_0 c1_1 l1_0 l1_1 W (Kd.C_below hr1_0 hW) (Kd.C_below hr1_1 hW) hc1_0 hc1_1 hv1
  have HN0 := fun s W g (hL : IsList W g l0_0 l0_1) => names_any g l0_0 l0_1 s W hL hv0
  have HN1 := fun s W g (hL : IsList W g l1_0 l1_1) => names_any g l1_0 l1_1 s W hL hv1
  have hw0 := hw_of_heads hr0_1
  have hw1 := hw_of_heads hr1_1
  have hln : (l0_1.map (fun x => x.f0)).length = l0_1.length := List.length_map _
  have hln1 : (l1_1.map (fun x => x.f0)).length = l1_1.length := List.length_map _
  have HR : Hid (movesT l0_0 l0_1 l1_0 l1_1 = (wordsT l0_1 l1_1).flatMap (fun s => moveOf s (namesT l0_0 l0_1 s) (namesT l1_0 l1_1 s))) := rfl
  have HW : Hid (wordsT l0_1 l1_1 = Lib.compact (sortW (l0_1.map (fun x => x.f0) ++ l1_1.map (fun x => x.f0)))) := rfl
  obtain ⟨R, hRe⟩ : ∃ R, movesT l0_0 l0_1 l1_0 l1_1 = R := ⟨_, rfl⟩
  obtain ⟨N0, hN0⟩ : ∃ N, namesT l0_0 l0_1 = N := ⟨_, rfl⟩
  obtain ⟨N1, hN1⟩ : ∃ N, namesT l1_0 l1_1 = N := ⟨_, rfl⟩
  obtain ⟨X0, hX0⟩ : ∃ X, l0_1.map (fun x => x.f0) = X := ⟨_, rfl⟩
  obtain ⟨X1, hX1⟩ : ∃ X, l1_1.map (fun x => x.f0) = X := ⟨_, rfl⟩
  obtain ⟨U, hU⟩ : ∃ U, wordsT l0_1 l1_1 = U := ⟨_, rfl⟩
  have hP100 : ∀ s P Pl, N0 s = P → P.getD [] = Pl → Pl.length ≤ 100 := fun s P Pl h1 h2 => by
    have h3 := namesFrom_len l0_0 l0_1 s l0_1.length 0
    have h4 : N0 s = namesFrom l0_0 l0_1 s l0_1.length 0 := by rw [← hN0]; rfl
    rw [← h4, h1, h2] at h3
    omega
  rw [hRe] at HR ⊢
  rw [hN0, hN1, hU] at HR
  simp only [hN0] at HN0
  simp only [hN1] at HN1
  rw [hX0] at hw0 hln
  rw [hX1] at hw1 hln1
  rw [hX0, hX1, hU] at HW
  clear hRe hN0 hN1 hX0 hX1 hU
  go_enter Try.func21, Try.ntmps21
  go_upto_region 1 with (fail)
  obtain ⟨W0, hW0⟩ : ∃ W0, W0 = (w.alloc (.cells #[.slice A0_0 l0_0.length c0_0, .slice A0_1 l0_1.length c0_1] 26)).alloc (.cells #[.slice A1_0 l1_0.length c1_0, .slice A1_1 l1_1.length c1_1] 26) := ⟨_, rfl⟩
  rw [← hW0] at hB0 hx0 hx1 ⊢
  clear hW0
  obtain ⟨a0, a1⟩ := cells2 hx0
  go_upto_region 4 with (go_at_call 42; (with_reducible refine (HG0 _ hB0).mono ?_); rintro e w1 ⟨g, rfl, hL1, hb1⟩)
  have hB1 := below_then hB0 hB0.size hb1
  replace hx0 := blk_below hx0 hb1
  replace hx1 := blk_below hx1 hb1
  obtain ⟨b0, b1⟩ := cells2 hx1
  clear hB0 hb1 a0 a1
  clear W0
  go_upto_region 8 with (go_at_call 42; (with_reducible refine (HG1 _ hB1).mono ?_); rintro e w2 ⟨g2, rfl, hL2, hb2⟩)
  have hB2 := below_then hB1 hB1.size hb2
  replace hL1 := hL1.below hb2
  replace hx0 := blk_below hx0 hb2
  replace hx1 := blk_below hx1 hb2
  clear hB1 hb2 b0 b1
  clear w1
  obtain ⟨a0, a1⟩ := cells2 hx0
  obtain ⟨b0, b1⟩ := cells2 hx1
  have HCl := fun W (hW : Below w.heap.size w W) => clone_any A0_1 c0_1 X0 W (Kd.C_below (by rw [hln]; exact hw0) hW) (by omega)
  simp only [hln] at HCl
  have hC1b := fun W (hW : Below w.heap.size w W) => Kd.C_below hw1 hW
  obtain ⟨q2, hq2⟩ : ∃ q, q = w2.heap.size := ⟨_, rfl⟩
  have hZl : (X0 ++ X1).length = l0_1.length + l1_1.length := by rw [List.length_append, hln, hln1]
  go_cut [40, 41, 42] (fun s40 s41 s42 wx => ∃ Av cv, s40 = .slice Av (l0_1.length + l1_1.length) cv ∧ s41 = .int .i64 ((l0_1.length + l1_1.length : Nat) : Int) ∧ s42 = .int .i64 0 ∧ Below q2 w2 wx ∧ kHw.C wx Av (l0_1.length + l1_1.length) (X0 ++ X1))
  case first =>
    go_region_law (first
      | (refine Kd.R_append_rows_step kHw (w0 := w2) q2 (by rfl) _ _ 24 39 _ 56 (by rfl) Try.underlying24 infoHd (by rfl) (by decide) (by decide) vc X0 X1 A1_1 l1_1.length c1_1 (fun _ => True) (fun k => some k ≠ vc.ownBlock) (by rfl) (by rfl) hRc hC1c (fun _ _ h => h) (fun k hk => ⟨trivial, hk⟩) (fun _ _ => trivial) hb3' hq3 (by omega) ?_; intro v1 w4 hv1 hb4 _ _; obtain ⟨Av, cv, rfl, -, hCv⟩ := Kd.R_reads hv1; clear hv1)
      | (go_simp; go_at_call 54; go_loud ((with_reducible refine (HCl _ hB2.drew).mono ?_); rintro e w3 ⟨vc, rfl, hRc, hb3⟩); have hb3' := below_as hq2 hb3; have hB3 := below_then hB2.drew hB2.drew.size hb3; have hC1c := hC1b _ hB3; have hq3 := hb3'.size; rw [← hq2] at hq3; have b1c := pw_cell_below hb3 b1; have b0c := pw_cell_below hb3 b0; have hRc := Kd.R_lower (base' := q2) hRc (by rw [hq2]; exact Nat.le_refl _)))
    all_goals
      go_wp2
      go_meet
      case rel => exact ⟨Av, _, rfl, rfl, rfl, hb4, by rw [← hZl]; exact hCv⟩
  case rest =>
    obtain ⟨Av, cv, rfl, rfl, rfl, hb4, hCv⟩ := hcut
    have hB4 := below_then hB2 hB2.size (by rw [← hq2]; exact hb4)
    replace hL1 := hL1.below (by rw [← hq2]; exact hb4)
    replace hL2 := hL2.below (by rw [← hq2]; exact hb4)
    obtain ⟨Z, hZ⟩ : ∃ Z, X0 ++ X1 = Z := ⟨_, rfl⟩
    rw [hZ] at hCv hZl HW
    clear hZ hb4 HCl hC1b HG0 HG1 hw0 hw1 hx0 hx1 a0 a1 b0 b1 hB2
    obtain ⟨w4, hw4⟩ : ∃ w4, w4 = wc := ⟨_, rfl⟩
    subst hw4
    obtain ⟨nz, hnz⟩ : ∃ nz, l0_1.length + l1_1.length = nz := ⟨_, rfl⟩
    have hnz12 : nz ≤ 12 := by omega
    rw [hnz] at hZl hCv
    simp only [hnz]
    go_wp2
    go_loopg [9, 42] nz (fun gk v9 v wr => ∃ k : Nat, k + gk = nz ∧ v = .int .i64 k ∧ Below w4.heap.size w4 wr ∧ wr.ownsRow w4.heap.size 9 1 v9 k ((Z.take k).map Value.string))
    case atStart => exact ⟨0, by omega, rfl, Below.refl _ _, own_nil _ _ _ _⟩
    case round =>
      obtain ⟨k, hk, rfl, hb, ho⟩ := hrel
      by_cases hlt : k < nz
      · obtain ⟨ad, fi, fj, fA, fn, fc, e, h0, h1, h2, h3⟩ := hwAt (Kd.C_below hCv hb) k hlt
        cases e
        have hT : Hid ((Z.take (k + 1)).map Value.string = (Z.take k).map Value.string ++ [.string (Z.getD k ByteArray.empty)]) := by
          show _ = _
          rw [List.take_succ_eq_append_getElem (by omega), List.map_append, List.getD_eq_getElem?_getD, List.getElem?_eq_getElem (by omega)]
          rfl
        obtain ⟨y, hy⟩ : ∃ y, Z.getD k ByteArray.empty = y := ⟨_, rfl⟩
        rw [hy] at h0 hT
        clear hy
        have hbd := fun o => hb.alloc hb.size o
        have ho2 := fun o => ho.alloc o
        go_upto_region 11 with (fail)
        replace hbd := hbd (.cells #[.string y, .int .i64 fi, .int .i64 fj, .slice fA fn fc] 39)
        replace ho2 := ho2 (.cells #[.string y, .int .i64 fi, .int .i64 fj, .slice fA fn fc] 39)
        have hxb := cells4 (heap_alloc_new wr (.cells #[.string y, .int .i64 fi, .int .i64 fj, .slice fA fn fc] 39))
        obtain ⟨W1, hW1⟩ : ∃ W1, W1 = wr.alloc (.cells #[.string y, .int .i64 fi, .int .i64 fj, .slice fA fn fc] 39) := ⟨_, rfl⟩
        rw [← hW1] at hbd ho2 hxb ⊢
        clear hW1 hb ho h0 h1 h2 h3
        obtain ⟨z0, -, -, -⟩ := hxb
        go_wp2_with (at_builtin; go_loud (refine wpList_append_own _ rfl _ _ 65 rfl w4.heap.size 9 i0 (.string ⟨#[]⟩) 1 16 Try.underlying65 hi hz0 hz1 hz2 rfl (by decide) _ _ _ rfl (ho2.alloc _) ⟨W1.heap.size, 0, none⟩ 1 1 [.string y] rfl rfl (cell_one_new _ _ _) (by simp [Value.oneCell']) (by unfold maxLen; omega) (by omega) (by have := hbd.size; simp; omega) ?_; intro v' w5 hown5 hgrow5 _; have HB5 := Below.grown (hbd.alloc hbd.size _) hgrow5 (by have := hbd.size; simp; omega) (fun j hj => (ho2.lt j hj).1); have HO := Lib.hid hown5; clear hown5 hgrow5))
        go_roundg (nz - (k + 1))
        case measure => omega
        case rel => exact ⟨k + 1, by omega, by go_num, HB5, by rw [hT.out]; exact HO.out⟩
      · obtain rfl : nz = k := by omega
        rw [← hZl, List.take_length, hZl] at ho
        have HU := HW.out
        have hsl : (sortW Z).length = nz := by unfold sortW; rw [List.length_mergeSort]; exact hZl
        have hul := compact_len (sortW Z)
        rw [← HU, hsl] at hul
        have HS := sort_any _ Z wr (StrRow.of_own ho) (by omega)
        have HC := fun W v (hW : StrRow W v (sortW Z)) => compact_any v (sortW Z) W hW (by rw [hsl]; omega)
        simp only [← HU] at HC
        clear HU
        have hob := fun j hj => own_base ho j hj
        clear HW
        go_upto_region 16 with (first
          | (go_at_call 55; go_loud ((with_reducible refine HS.mono ?_); rintro e w6 ⟨rfl, hg6, hS6⟩); have hb6 := hb.grown hg6 hb.size hob; clear HS)
          | (go_at_call 57; go_loud ((with_reducible refine (HC _ _ hS6).mono ?_); rintro e w7 ⟨Au, cu, rfl, hg7, hCu⟩); have hb7 := hb6.grown hg7 hb6.size hob; clear HC))
        have hBL := below_then hB4 hB4.size hb7
        have hLa7 := hL1.below hb7
        have hLb7 := hL2.below hb7
        clear hb hb6 hg6 hS6 hg7 ho hob hL1 hL2 hB4 hCv hsl
        go_loopg [12, 57] U.length (fun gk v12 v wr => ∃ k : Nat, k + gk = U.length ∧ v = .int .i64 k ∧ Below w7.heap.size w7 wr ∧ wr.ownsRow w7.heap.size 47 2 v12 ((U.take k).flatMap (fun s => moveOf s (N0 s) (N1 s))).length (mvCells ((U.take k).flatMap (fun s => moveOf s (N0 s) (N1 s)))))
        case atStart => exact ⟨0, by omega, rfl, Below.refl _ _, own_nil _ _ _ _⟩
        case round =>
          obtain ⟨k, hk, rfl, hbw, ho⟩ := hrel
          by_cases hlt : k < U.length
          · obtain ⟨au, eu, hcu⟩ := Kd.at_string (Kd.C_below hCu hbw) (k : Int) (by omega) (by omega)
            cases eu
            have hTk : Hid ((U.take (k + 1)).flatMap (fun s => moveOf s (N0 s) (N1 s)) = (U.take k).flatMap (fun s => moveOf s (N0 s) (N1 s)) ++ moveOf (U.getD k ByteArray.empty) (N0 (U.getD k ByteArray.empty)) (N1 (U.getD k ByteArray.empty))) := by
              show _ = _
              rw [List.take_succ_eq_append_getElem hlt, List.flatMap_append, List.getD_eq_getElem?_getD, List.getElem?_eq_getElem hlt]
              simp
            have hrd : rdOf ByteArray.empty U (k : Int) = U.getD k ByteArray.empty := rfl
            rw [hrd, Int.toNat_natCast] at hcu
            obtain ⟨s, hs⟩ : ∃ s, U.getD k ByteArray.empty = s := ⟨_, rfl⟩
            rw [hs] at hcu hTk
            have hLa := hLa7.below hbw
            have hLb := hLb7.below hbw
            have HNa := fun W hL => HN0 s W g hL
            have HNb := fun W hL => HN1 s W g2 hL
            have hml : ((U.take k).flatMap (fun s => moveOf s (N0 s) (N1 s))).length ≤ k := by
              have := moves_len (U.take k) N0 N1
              rw [List.length_take] at this
              omega
            obtain ⟨M, hM⟩ : ∃ M, (U.take k).flatMap (fun s => moveOf s (N0 s) (N1 s)) = M := ⟨_, rfl⟩
            rw [hM] at ho hTk hml
            obtain ⟨P, hP⟩ : ∃ P, N0 s = P := ⟨_, rfl⟩
            obtain ⟨Q, hQ⟩ : ∃ Q, N1 s = Q := ⟨_, rfl⟩
            rw [hP, hQ] at hTk
            simp only [hP] at HNa
            simp only [hQ] at HNb
            obtain ⟨Pl, hPl⟩ : ∃ Pl, P.getD [] = Pl := ⟨_, rfl⟩
            obtain ⟨Ql, hQl⟩ : ∃ Ql, Q.getD [] = Ql := ⟨_, rfl⟩
            obtain ⟨pb, hpb⟩ : ∃ pb, P.isSome = pb := ⟨_, rfl⟩
            obtain ⟨qb, hqb⟩ : ∃ qb, Q.isSome = qb := ⟨_, rfl⟩
            have hMo : Hid (moveOf s P Q = if pb && !qb then [⟨s, 1⟩] else if qb && !pb then [⟨s, 2⟩] else if decide (Pl = Ql) = false then [⟨s, 3⟩] else []) := by
              show _ = _
              unfold moveOf
              rw [hPl, hQl, hpb, hqb]
            have hPn : Pl.length ≤ 100 := hP100 s P Pl hP hPl
            simp only [hPl, hpb] at HNa
            simp only [hQl, hqb] at HNb
            have hlt1 : (k : Int) < U.length := by omega
            have hlt2 : decide ((k : Int) < U.length) = true := decide_eq_true hlt1
            clear hM hs hP hQ hPl hQl hpb hqb
            cases pb with
            | true =>
              cases qb with
              | true =>
                have HEq0 := equal_strs Pl Ql hPn
                cases hed : decide (Pl = Ql) with
                | true =>
                  have HEq := HEq0
                  rw [hed] at HEq
                  have HG : Hid ((U.take (k + 1)).flatMap (fun s => moveOf s (N0 s) (N1 s)) = M) := by show _ = _; rw [hTk.out, hMo.out, hed]; exact List.append_nil _
                  clear hTk hMo HEq0 hed
                  go_wp2_with (first
                    | (go_at_call 58; (with_reducible refine (HNa wr hLa).mono ?_); rintro e w8 ⟨vp, rfl, hRp, hb8⟩; obtain ⟨Ap, cp, rfl, hlp, hCp⟩ := Kd.R_reads hRp; have hbw8 := below_then hbw hbw.size hb8; have ho8 := own_move ho (fun k hk => hb8.block k (own_lt ho k hk)); have hLb8 := hLb.below hb8; clear hRp)
                    | (go_at_call 58; (with_reducible refine (HNb w8 hLb8).mono ?_); rintro e w9 ⟨vq, rfl, hRq, hb9⟩; obtain ⟨Aq, cq, rfl, hlq, hCq⟩ := Kd.R_reads hRq; have hbw9 := below_then hbw8 hbw8.size hb9; have ho9 := own_move ho8 (fun k hk => hb9.block k (own_lt ho8 k hk)); have hCp9 := Kd.C_below hCp hb9; clear hRq)
                    | (go_at_call 59; go_loud ((with_reducible refine (slices_Equal_string_string.calls 101 Ap cp Pl Aq cq Ql true _ hCp9 hlp hCq hlq HEq).mono ?_); rintro e w10 ⟨rfl, ⟨nd, rfl⟩⟩; have ho10 := (show (w9.drewN nd).ownsRow w7.heap.size 47 2 _ _ _ from ho9); have hbw10 := pw_below_drewN hbw9 nd)))
                  go_roundg (U.length - (k + 1))
                  case measure => omega
                  case rel => exact ⟨k + 1, by omega, by go_num, hbw10, by rw [HG.out]; exact ho10⟩
                | false =>
                  have HEq := HEq0
                  rw [hed] at HEq
                  have HG : Hid ((U.take (k + 1)).flatMap (fun s => moveOf s (N0 s) (N1 s)) = M ++ [⟨s, 3⟩]) := by show _ = _; rw [hTk.out, hMo.out, hed]; rfl
                  clear hTk hMo HEq0 hed
                  go_wp2_with (first
                    | (go_at_call 58; (with_reducible refine (HNa wr hLa).mono ?_); rintro e w8 ⟨vp, rfl, hRp, hb8⟩; obtain ⟨Ap, cp, rfl, hlp, hCp⟩ := Kd.R_reads hRp; have hbw8 := below_then hbw hbw.size hb8; have ho8 := own_move ho (fun k hk => hb8.block k (own_lt ho k hk)); have hLb8 := hLb.below hb8; clear hRp)
                    | (go_at_call 58; (with_reducible refine (HNb w8 hLb8).mono ?_); rintro e w9 ⟨vq, rfl, hRq, hb9⟩; obtain ⟨Aq, cq, rfl, hlq, hCq⟩ := Kd.R_reads hRq; have hbw9 := below_then hbw8 hbw8.size hb9; have ho9 := own_move ho8 (fun k hk => hb9.block k (own_lt ho8 k hk)); have hCp9 := Kd.C_below hCp hb9; clear hRq)
                    | (go_at_call 59; go_loud ((with_reducible refine (slices_Equal_string_string.calls 101 Ap cp Pl Aq cq Ql false _ hCp9 hlp hCq hlq HEq).mono ?_); rintro e w10 ⟨rfl, ⟨nd, rfl⟩⟩; have ho10 := (show (w9.drewN nd).ownsRow w7.heap.size 47 2 _ _ _ from ho9); have hbw10 := pw_below_drewN hbw9 nd))
                    | (at_builtin; go_loud (refine wpList_append_own _ rfl _ _ 43 rfl w7.heap.size 47 j0 (.agg #[.string ⟨#[]⟩, .int .i64 0]) 2 24 Try.underlying43 hj hy0 hy1 hy2 rfl (by decide) _ _ _ rfl (ho10.alloc _) ⟨w9.heap.size, 0, none⟩ 1 1 [.string s, .int .i64 3] rfl rfl (World.news_of_block (cs := #[.string s, .int .i64 3]) (t := 47) (fr := (0, 0)) (heap_alloc_new ((w9.drewN nd)) _)) (by simp [Value.oneCell']) (by unfold maxLen; omega) (by omega) (by have := (hbw10).size; simp at this ⊢; omega) ?_; intro v' wa hown hgrow _; have HBa := Below.grown ((hbw10).alloc (hbw10).size _) hgrow (by have := (hbw10).size; simp at this ⊢; omega) (fun j hj => (ho10.lt j hj).1); have HO := Lib.hid hown; clear hown hgrow)))
                  go_roundg (U.length - (k + 1))
                  case measure => omega
                  case rel => exact ⟨k + 1, by omega, by go_num, HBa, by rw [HG.out, mvCells_append, List.length_append]; exact HO.out⟩
              | false =>
                have HG : Hid ((U.take (k + 1)).flatMap (fun s => moveOf s (N0 s) (N1 s)) = M ++ [⟨s, 1⟩]) := by show _ = _; rw [hTk.out, hMo.out]; rfl
                clear hTk hMo
                go_wp2_with (first
                  | (go_at_call 58; (with_reducible refine (HNa wr hLa).mono ?_); rintro e w8 ⟨vp, rfl, hRp, hb8⟩; obtain ⟨Ap, cp, rfl, hlp, hCp⟩ := Kd.R_reads hRp; have hbw8 := below_then hbw hbw.size hb8; have ho8 := own_move ho (fun k hk => hb8.block k (own_lt ho k hk)); have hLb8 := hLb.below hb8; clear hRp)
                  | (go_at_call 58; (with_reducible refine (HNb w8 hLb8).mono ?_); rintro e w9 ⟨vq, rfl, hRq, hb9⟩; obtain ⟨Aq, cq, rfl, hlq, hCq⟩ := Kd.R_reads hRq; have hbw9 := below_then hbw8 hbw8.size hb9; have ho9 := own_move ho8 (fun k hk => hb9.block k (own_lt ho8 k hk)); have hCp9 := Kd.C_below hCp hb9; clear hRq)
                  | (at_builtin; go_loud (refine wpList_append_own _ rfl _ _ 43 rfl w7.heap.size 47 j0 (.agg #[.string ⟨#[]⟩, .int .i64 0]) 2 24 Try.underlying43 hj hy0 hy1 hy2 rfl (by decide) _ _ _ rfl (ho9.alloc _) ⟨w9.heap.size, 0, none⟩ 1 1 [.string s, .int .i64 1] rfl rfl (World.news_of_block (cs := #[.string s, .int .i64 1]) (t := 47) (fr := (0, 0)) (heap_alloc_new (w9) _)) (by simp [Value.oneCell']) (by unfold maxLen; omega) (by omega) (by have := (hbw9).size; simp at this ⊢; omega) ?_; intro v' wa hown hgrow _; have HBa := Below.grown ((hbw9).alloc (hbw9).size _) hgrow (by have := (hbw9).size; simp at this ⊢; omega) (fun j hj => (ho9.lt j hj).1); have HO := Lib.hid hown; clear hown hgrow)))
                go_roundg (U.length - (k + 1))
                case measure => omega
                case rel => exact ⟨k + 1, by omega, by go_num, HBa, by rw [HG.out, mvCells_append, List.length_append]; exact HO.out⟩
            | false =>
              cases qb with
              | true =>
                have HG : Hid ((U.take (k + 1)).flatMap (fun s => moveOf s (N0 s) (N1 s)) = M ++ [⟨s, 2⟩]) := by show _ = _; rw [hTk.out, hMo.out]; rfl
                clear hTk hMo
                go_wp2_with (first
                  | (go_at_call 58; (with_reducible refine (HNa wr hLa).mono ?_); rintro e w8 ⟨vp, rfl, hRp, hb8⟩; obtain ⟨Ap, cp, rfl, hlp, hCp⟩ := Kd.R_reads hRp; have hbw8 := below_then hbw hbw.size hb8; have ho8 := own_move ho (fun k hk => hb8.block k (own_lt ho k hk)); have hLb8 := hLb.below hb8; clear hRp)
                  | (go_at_call 58; (with_reducible refine (HNb w8 hLb8).mono ?_); rintro e w9 ⟨vq, rfl, hRq, hb9⟩; obtain ⟨Aq, cq, rfl, hlq, hCq⟩ := Kd.R_reads hRq; have hbw9 := below_then hbw8 hbw8.size hb9; have ho9 := own_move ho8 (fun k hk => hb9.block k (own_lt ho8 k hk)); have hCp9 := Kd.C_below hCp hb9; clear hRq)
                  | (at_builtin; go_loud (refine wpList_append_own _ rfl _ _ 43 rfl w7.heap.size 47 j0 (.agg #[.string ⟨#[]⟩, .int .i64 0]) 2 24 Try.underlying43 hj hy0 hy1 hy2 rfl (by decide) _ _ _ rfl (ho9.alloc _) ⟨w9.heap.size, 0, none⟩ 1 1 [.string s, .int .i64 2] rfl rfl (World.news_of_block (cs := #[.string s, .int .i64 2]) (t := 47) (fr := (0, 0)) (heap_alloc_new (w9) _)) (by simp [Value.oneCell']) (by unfold maxLen; omega) (by omega) (by have := (hbw9).size; simp at this ⊢; omega) ?_; intro v' wa hown hgrow _; have HBa := Below.grown ((hbw9).alloc (hbw9).size _) hgrow (by have := (hbw9).size; simp at this ⊢; omega) (fun j hj => (ho9.lt j hj).1); have HO := Lib.hid hown; clear hown hgrow)))
                go_roundg (U.length - (k + 1))
                case measure => omega
                case rel => exact ⟨k + 1, by omega, by go_num, HBa, by rw [HG.out, mvCells_append, List.length_append]; exact HO.out⟩
              | false =>
                have HEq0 := equal_strs Pl Ql hPn
                cases hed : decide (Pl = Ql) with
                | true =>
                  have HEq := HEq0
                  rw [hed] at HEq
                  have HG : Hid ((U.take (k + 1)).flatMap (fun s => moveOf s (N0 s) (N1 s)) = M) := by show _ = _; rw [hTk.out, hMo.out, hed]; exact List.append_nil _
                  clear hTk hMo HEq0 hed
                  go_wp2_with (first
                    | (go_at_call 58; (with_reducible refine (HNa wr hLa).mono ?_); rintro e w8 ⟨vp, rfl, hRp, hb8⟩; obtain ⟨Ap, cp, rfl, hlp, hCp⟩ := Kd.R_reads hRp; have hbw8 := below_then hbw hbw.size hb8; have ho8 := own_move ho (fun k hk => hb8.block k (own_lt ho k hk)); have hLb8 := hLb.below hb8; clear hRp)
                    | (go_at_call 58; (with_reducible refine (HNb w8 hLb8).mono ?_); rintro e w9 ⟨vq, rfl, hRq, hb9⟩; obtain ⟨Aq, cq, rfl, hlq, hCq⟩ := Kd.R_reads hRq; have hbw9 := below_then hbw8 hbw8.size hb9; have ho9 := own_move ho8 (fun k hk => hb9.block k (own_lt ho8 k hk)); have hCp9 := Kd.C_below hCp hb9; clear hRq)
                    | (go_at_call 59; go_loud ((with_reducible refine (slices_Equal_string_string.calls 101 Ap cp Pl Aq cq Ql true _ hCp9 hlp hCq hlq HEq).mono ?_); rintro e w10 ⟨rfl, ⟨nd, rfl⟩⟩; have ho10 := (show (w9.drewN nd).ownsRow w7.heap.size 47 2 _ _ _ from ho9); have hbw10 := pw_below_drewN hbw9 nd)))
                  go_roundg (U.length - (k + 1))
                  case measure => omega
                  case rel => exact ⟨k + 1, by omega, by go_num, hbw10, by rw [HG.out]; exact ho10⟩
                | false =>
                  have HEq := HEq0
                  rw [hed] at HEq
                  have HG : Hid ((U.take (k + 1)).flatMap (fun s => moveOf s (N0 s) (N1 s)) = M ++ [⟨s, 3⟩]) := by show _ = _; rw [hTk.out, hMo.out, hed]; rfl
                  clear hTk hMo HEq0 hed
                  go_wp2_with (first
                    | (go_at_call 58; (with_reducible refine (HNa wr hLa).mono ?_); rintro e w8 ⟨vp, rfl, hRp, hb8⟩; obtain ⟨Ap, cp, rfl, hlp, hCp⟩ := Kd.R_reads hRp; have hbw8 := below_then hbw hbw.size hb8; have ho8 := own_move ho (fun k hk => hb8.block k (own_lt ho k hk)); have hLb8 := hLb.below hb8; clear hRp)
                    | (go_at_call 58; (with_reducible refine (HNb w8 hLb8).mono ?_); rintro e w9 ⟨vq, rfl, hRq, hb9⟩; obtain ⟨Aq, cq, rfl, hlq, hCq⟩ := Kd.R_reads hRq; have hbw9 := below_then hbw8 hbw8.size hb9; have ho9 := own_move ho8 (fun k hk => hb9.block k (own_lt ho8 k hk)); have hCp9 := Kd.C_below hCp hb9; clear hRq)
                    | (go_at_call 59; go_loud ((with_reducible refine (slices_Equal_string_string.calls 101 Ap cp Pl Aq cq Ql false _ hCp9 hlp hCq hlq HEq).mono ?_); rintro e w10 ⟨rfl, ⟨nd, rfl⟩⟩; have ho10 := (show (w9.drewN nd).ownsRow w7.heap.size 47 2 _ _ _ from ho9); have hbw10 := pw_below_drewN hbw9 nd))
                    | (at_builtin; go_loud (refine wpList_append_own _ rfl _ _ 43 rfl w7.heap.size 47 j0 (.agg #[.string ⟨#[]⟩, .int .i64 0]) 2 24 Try.underlying43 hj hy0 hy1 hy2 rfl (by decide) _ _ _ rfl (ho10.alloc _) ⟨w9.heap.size, 0, none⟩ 1 1 [.string s, .int .i64 3] rfl rfl (World.news_of_block (cs := #[.string s, .int .i64 3]) (t := 47) (fr := (0, 0)) (heap_alloc_new ((w9.drewN nd)) _)) (by simp [Value.oneCell']) (by unfold maxLen; omega) (by omega) (by have := (hbw10).size; simp at this ⊢; omega) ?_; intro v' wa hown hgrow _; have HBa := Below.grown ((hbw10).alloc (hbw10).size _) hgrow (by have := (hbw10).size; simp at this ⊢; omega) (fun j hj => (ho10.lt j hj).1); have HO := Lib.hid hown; clear hown hgrow)))
                  go_roundg (U.length - (k + 1))
                  case measure => omega
                  case rel => exact ⟨k + 1, by omega, by go_num, HBa, by rw [HG.out, mvCells_append, List.length_append]; exact HO.out⟩
          · obtain rfl : k = U.length := by omega
            rw [List.take_length, ← HR.out] at ho
            have HRv : k47.R 47 wr w7.heap.size (fun _ => True) _ R := ⟨fun _ _ => trivial, _, ho, mv_reps _ _ _ _⟩
            go_wp2
            go_ret2
            exact ⟨_, rfl, Kd.R_lower HRv hBL.size, below_then hBL hBL.size hbw⟩

set_option maxHeartbeats 1000000 in
set_option maxRecDepth 100000 in
theorem trade_Compare.calls (A0_0 : Option Addr) (c0_0 : Nat) (l0_0 : List (S51)) (A0_1 : Option Addr) (c0_1 : Nat) (l0_1 : List (S39)) (A1_0 : Option Addr) (c1_0 : Nat) (l1_0 : List (S51)) (A1_1 : Option Addr) (c1_1 : Nat) (l1_1 : List (S39)) (r1 : List (S47)) (r2 : Int) (w : World) (hr0_0 : Kd.C k51 w A0_0 l0_0.length l0_0) (hc0_0 : l0_0.length ≤ c0_0) (hr0_1 : Kd.C k39 w A0_1 l0_1.length l0_1) (hc0_1 : l0_1.length ≤ c0_1) (hr1_0 : Kd.C k51 w A1_0 l1_0.length l1_0) (hc1_0 : l1_0.length ≤ c1_0) (hr1_1 : Kd.C k39 w A1_1 l1_1.length l1_1) (hc1_1 : l1_1.length ≤ c1_1) (h : trade_Compare.f l0_0 l0_1 l1_0 l1_1 = some (r1, r2)) :
    Calls Try.prog 21 #[.agg #[.slice A0_0 l0_0.length c0_0, .slice A0_1 l0_1.length c0_1], .agg #[.slice A1_0 l1_0.length c1_0, .slice A1_1 l1_1.length c1_1]] w fun e w' => ∃ v0_ : Value, e = .returned (.tuple #[v0_, .int .i64 r2]) ∧ Kd.R k47 47 w' w.heap.size (fun _ => True) v0_ r1 ∧ Below w.heap.size w w' := by
  have hu2 := Try.underlying26
  have h := Option.some.inj h
  have hB0 := ((Below.refl w.heap.size w).alloc (Nat.le_refl _) (.cells #[.slice A0_0 l0_0.length c0_0, .slice A0_1 l0_1.length c0_1] 26)).alloc (by simp) (.cells #[.slice A1_0 l1_0.length c1_0, .slice A1_1 l1_1.length c1_1] 26)
  by_cases hz : checkT l0_0 l0_1 = 0
  · have hv0 : Valid l0_0 l0_1 := ⟨hz⟩
    rw [if_neg (by omega)] at h
    by_cases hz1 : checkT l1_0 l1_1 = 0
    · rw [if_neg (by omega)] at h
      simp only [Prod.mk.injEq] at h
      obtain ⟨rfl, rfl⟩ := h
      exact compare_good A0_0 c0_0 l0_0 A0_1 c0_1 l0_1 A1_0 c1_0 l1_0 A1_1 c1_1 l1_1 w hr0_0 hc0_0 hr0_1 hc0_1 hr1_0 hc1_0 hr1_1 hc1_1 hv0 ⟨hz1⟩
    · rw [if_pos hz1] at h
      simp only [Prod.mk.injEq] at h
      obtain ⟨rfl, rfl⟩ := h
      have hx1 := heap_alloc_new (w.alloc (.cells #[.slice A0_0 l0_0.length c0_0, .slice A0_1 l0_1.length c0_1] 26)) (.cells #[.slice A1_0 l1_0.length c1_0, .slice A1_1 l1_1.length c1_1] 26)
      rw [World.size_alloc] at hx1
      have HG0 := fun W (hW : Below w.heap.size w W) => begin_good A0_0 A0_1 c0_0 c0_1 l0_0 l0_1 W (Kd.C_below hr0_0 hW) (Kd.C_below hr0_1 hW) hc0_0 hc0_1 hv0
      have HG1 := fun W (hW : Below w.heap.size w W) => begin_bad A1_0 A1_1 c1_0 c1_1 l1_0 l1_1 W (Kd.C_below hr1_0 hW) (Kd.C_below hr1_1 hW) hc1_0 hc1_1 hz1
      obtain ⟨z, hze⟩ : ∃ z, checkT l1_0 l1_1 = z := ⟨_, rfl⟩
      simp only [hze] at HG1 hz1 ⊢
      have hzb : (z != 0) = true := bne_iff_ne.mpr hz1
      clear hz hze hz1
      go_enter Try.func21, Try.ntmps21
      go_upto_region 4 with (go_at_call 42; (with_reducible refine (HG0 _ hB0).mono ?_); rintro e w1 ⟨g, rfl, hL1, hb1⟩)
      have hB1 := below_then hB0 hB0.size hb1
      replace hx1 := blk_below hx1 hb1
      obtain ⟨b0, b1⟩ := cells2 hx1
      clear HG0 hb1
      go_wp2_with (go_at_call 42; (with_reducible refine (HG1 _ hB1).mono ?_); rintro e w2 ⟨rfl, hb2⟩)
      go_ret2
      exact ⟨_, rfl, Kd.R_nil _ _ _ _ _, below_then hB1 hB1.size hb2⟩
  · rw [if_pos hz] at h
    simp only [Prod.mk.injEq] at h
    obtain ⟨rfl, rfl⟩ := h
    have hx0 := blk_alloc (heap_alloc_new w (.cells #[.slice A0_0 l0_0.length c0_0, .slice A0_1 l0_1.length c0_1] 26)) (.cells #[.slice A1_0 l1_0.length c1_0, .slice A1_1 l1_1.length c1_1] 26)
    have HG0 := fun W (hW : Below w.heap.size w W) => begin_bad A0_0 A0_1 c0_0 c0_1 l0_0 l0_1 W (Kd.C_below hr0_0 hW) (Kd.C_below hr0_1 hW) hc0_0 hc0_1 hz
    obtain ⟨z, hze⟩ : ∃ z, checkT l0_0 l0_1 = z := ⟨_, rfl⟩
    simp only [hze] at HG0 hz ⊢
    have hzb : (z != 0) = true := bne_iff_ne.mpr hz
    clear hz hze
    go_enter Try.func21, Try.ntmps21
    go_upto_region 1 with (fail)
    obtain ⟨W0, hW0⟩ : ∃ W0, W0 = (w.alloc (.cells #[.slice A0_0 l0_0.length c0_0, .slice A0_1 l0_1.length c0_1] 26)).alloc (.cells #[.slice A1_0 l1_0.length c1_0, .slice A1_1 l1_1.length c1_1] 26) := ⟨_, rfl⟩
    rw [← hW0] at hB0 hx0 ⊢
    clear hW0
    obtain ⟨a0, a1⟩ := cells2 hx0
    go_wp2_with (go_at_call 42; (with_reducible refine (HG0 _ hB0).mono ?_); rintro e w1 ⟨rfl, hb1⟩)
    go_ret2
    exact ⟨_, rfl, Kd.R_nil _ _ _ _ _, below_then hB0 hB0.size hb1⟩
end Go.Proofs.Ytfbimhnlcmdcpaa.Pa
namespace Go.Proofs.Ytfbimhnlcmdcpaa.Pa
open Go.RowKit Go.Proofs.YtfbimhnlcmdcpaaW.PrintWords Go.Proofs.YtfbimhnlcmdcpaaW.PrintLast Go.Proofs.YtfbimhnlcmdcpaaW.PrintMore
attribute [local go_sem] max2_int min2_int max_two min_two max_three min_three max_four min_four   -- for this text's walks alone
set_option linter.unusedVariables false
set_option linter.unusedSimpArgs false

/-! ### trade_between: function 43 -/
def trade_between.f (a0 : Int) (a1 : Int) (a2 : Int) : Option (Bool) := if a1 ≤ a0 then (some (decide (a0 ≤ a2))) else (some false)
/-! ### wayzgooselaw04_is: function 70 -/
def wayzgooselaw04_is.f (a0 : ByteArray) (a1 : Int) (l2 : List Int) : Option (ByteArray × Int × Int × List Int) := some (a0, a1, (-1), l2)
set_option maxHeartbeats 8000000 in
set_option maxRecDepth 100000 in
theorem wayzgooselaw04_is.calls (a0 : ByteArray) (a1 : Int) (P2_ : Nat → Prop) (u9000_ : Value) (l2 : List Int) (r1 : ByteArray) (r2 : Int) (r3 : Int) (r4 : List Int) (w0 w : World) (hB : Below w0.heap.size w0 w) (ho2 : Kd.R (Kd.int .i64) 3 w w0.heap.size P2_ u9000_ l2) (h : wayzgooselaw04_is.f a0 a1 l2 = some (r1, r2, r3, r4)) :
    Calls Try.prog 70 #[.string a0, .int .i64 a1, u9000_] w fun e w' => ∃ v3_ : Value, e = .returned (.agg #[.string r1, .int .i64 r2, .int .i64 r3, v3_]) ∧ Kd.R (Kd.int .i64) 3 w' w0.heap.size (fun k_ => (P2_ k_ ∨ w.heap.size ≤ k_)) v3_ r4 ∧ Below w0.heap.size w0 w' ∧ Kept w w' (fun k_ => P2_ k_) := by
  have hu39 := Try.underlying39
  have HO2 := Aside0.mk (show Kd.R (Kd.int .i64) 3 w w0.heap.size (fun k_ => (P2_ k_ ∨ w.heap.size ≤ k_)) u9000_ l2 from Kd.R_mono ho2 (fun k_ hk => (.inl hk)))
  have HK := Aside0.mk (Kept.refl w (fun k_ => P2_ k_))
  have HW0 := Aside0.mk hB.size
  have HB := Aside0.mk hB
  clear hB
  have H : (some (a0, a1, (-1), l2)) = some (r1, r2, r3, r4) := h
  clear h
  simp only [Option.some.injEq, Prod.mk.injEq] at H
  obtain ⟨rfl, rfl, rfl, rfl⟩ := H
  go_enter Try.func70, Try.ntmps70
  go_wp2_with (first | ((with_reducible refine gate_dst (N := 6) rfl ?_); refine box_event ?hg (N := 6) ?hd (cs := #[.string (⟨#[]⟩ : ByteArray), .int .i64 0, .int .i64 0, .slice none 0 0]) (t := 39) ?hr ?_; (case hd => rfl); (case hg => rfl); (case hr => first | (go_simp; done) | (go_simp; rfl)); intro gb213 hg w4 hbox hb; have n0_ := Aside0.mk (Kd.R_below (by (with_reducible repeat (first | apply Kd.R_alloc | apply Kd.R_drewN | apply Kd.R_drew)); exact HO2.out) hb); have n1_ := Aside0.mk (Kept.below (S := (fun k_ => P2_ k_)) (by repeat (first | (with_reducible first | exact HK.out | apply Kept.alloc | apply Kept.drewN | apply Kept.drew) | exact HK.out)) hb); have n2_ := Aside0.mk (below_step (by repeat (first | (with_reducible first | exact HB.out | apply below_alloc | apply pw_below_drewN | apply below_drew1) | exact HB.out)) hb); have n3_ := Aside0.mk (hbox); have n4_ := Aside0.mk ((by rw [hg]; exact (by first | exact HK.out.1 | exact (show Kept w _ (fun k_ => P2_ k_) from by repeat (first | (with_reducible first | exact HK.out | apply Kept.alloc | apply Kept.drewN | apply Kept.drew) | exact HK.out)).1) : w.heap.size ≤ gb213)); have n5_ := Aside0.mk ((by rw [hg]; exact (below_size (by repeat (first | (with_reducible first | exact HB.out | apply below_alloc | apply pw_below_drewN | apply below_drew1) | exact HB.out))) : w0.heap.size ≤ gb213)); clear HO2; clear HK; clear HB; have HO2 := n0_; have HK := n1_; have HB := n2_; have BK213 := n3_; have GW213 := n4_; have GE213 := n5_; clear n0_ n1_ n2_ n3_ n4_ n5_; clear hb hbox hg; obtain ⟨Ao5, co5, eo5⟩ := Kd.R_slice HO2.out; subst eo5; have hcz6_0 : w4.cell? ⟨gb213, 0, none⟩ = some (.string (⟨#[]⟩ : ByteArray)) := (blk_cell BK213.out 0).trans rfl; have hcz6_1 : w4.cell? ⟨gb213, 1, none⟩ = some (.int .i64 0) := (blk_cell BK213.out 1).trans rfl; have hcz6_2 : w4.cell? ⟨gb213, 2, none⟩ = some (.int .i64 0) := (blk_cell BK213.out 2).trans rfl; have hcz6_3 : w4.cell? ⟨gb213, 3, none⟩ = some (.slice none 0 0) := (blk_cell BK213.out 3).trans rfl; have hfz6_0 := blk_frozen BK213.out 0; have hfz6_1 := blk_frozen BK213.out 1; have hfz6_2 := blk_frozen BK213.out 2; have hfz6_3 := blk_frozen BK213.out 3))
  refine bodyPost_ret (results_cell_row rfl _ _ gb213 39 #[.string a0, .int .i64 a1, .int .i64 (-1), .slice Ao5 l2.length co5] (0, 0) _ rfl (by (with_reducible repeat (first | refine blk_drewN ?_ _ | refine blk_drew ?_ | refine blk_alloc ?_ _)); refine blk_put (cs := #[.string a0, .int .i64 a1, .int .i64 (-1), .slice none 0 0]) ?_ 3 _ rfl; (with_reducible repeat (first | refine blk_drewN ?_ _ | refine blk_drew ?_ | refine blk_alloc ?_ _)); refine blk_put (cs := #[.string a0, .int .i64 a1, .int .i64 0, .slice none 0 0]) ?_ 2 _ rfl; (with_reducible repeat (first | refine blk_drewN ?_ _ | refine blk_drew ?_ | refine blk_alloc ?_ _)); refine blk_put (cs := #[.string a0, .int .i64 0, .int .i64 0, .slice none 0 0]) ?_ 1 _ rfl; (with_reducible repeat (first | refine blk_drewN ?_ _ | refine blk_drew ?_ | refine blk_alloc ?_ _)); refine blk_put (cs := #[.string (⟨#[]⟩ : ByteArray), .int .i64 0, .int .i64 0, .slice none 0 0]) ?_ 0 _ rfl; (with_reducible repeat (first | refine blk_drewN ?_ _ | refine blk_drew ?_ | refine blk_alloc ?_ _)); exact BK213.out) Try.underlying39 rfl (by kernel_rfl)) rfl ?_
  exact ⟨_, by first | rfl | (simp [errW_none, errW_some] <;> rfl) | (simp [*, errW_none, errW_some] <;> rfl), by (with_reducible repeat (first | apply Kd.R_alloc | apply Kd.R_drewN | apply Kd.R_drew)); exact Kd.R_mono (Kd.R_far (p := ⟨gb213, 3, none⟩) (Kd.R_far (p := ⟨gb213, 2, none⟩) (Kd.R_far (p := ⟨gb213, 1, none⟩) (Kd.R_far (p := ⟨gb213, 0, none⟩) (Kd.R_types HO2.out BK213.out (by decide)) (fun _ hk => hk.2) (.string a0)) (fun _ hk => hk.2) (.int .i64 a1)) (fun _ hk => hk.2) (.int .i64 (-1))) (fun _ hk => hk.2) (.slice Ao5 l2.length co5)) (fun _ hk => hk.1), by repeat (first | (with_reducible first | exact HB.out | apply below_alloc | apply pw_below_drewN | apply below_drew1 | refine below_set ?_ GE213.out) | exact HB.out), by repeat (first | (with_reducible first | exact HK.out | apply Kept.alloc | apply Kept.drewN | apply Kept.drew | refine Kept.setCell ?_ (.inr GW213.out) _) | exact HK.out)⟩

/-! ### wayzgooselaw04_see: function 71 -/
def wayzgooselaw04_see.f (a0 : ByteArray) (a1 : Int) : Option (ByteArray × Int × Int × List Int) := some (a0, (-1), a1, ([] : List Int))
set_option maxHeartbeats 8000000 in
set_option maxRecDepth 100000 in
theorem wayzgooselaw04_see.calls (a0 : ByteArray) (a1 : Int) (r1 : ByteArray) (r2 : Int) (r3 : Int) (r4 : List Int) (w : World) (h : wayzgooselaw04_see.f a0 a1 = some (r1, r2, r3, r4)) :
    Calls Try.prog 71 #[.string a0, .int .i64 a1] w fun e w' => ∃ v3_ : Value, e = .returned (.agg #[.string r1, .int .i64 r2, .int .i64 r3, v3_]) ∧ Kd.R (Kd.int .i64) 3 w' w.heap.size (fun _ => True) v3_ r4 ∧ Below w.heap.size w w' := by
  have hu39 := Try.underlying39
  have HB := Aside0.mk (Below.refl w.heap.size w)
  have H : (some (a0, (-1), a1, ([] : List Int))) = some (r1, r2, r3, r4) := h
  clear h
  simp only [Option.some.injEq, Prod.mk.injEq] at H
  obtain ⟨rfl, rfl, rfl, rfl⟩ := H
  go_enter Try.func71, Try.ntmps71
  go_wp2_with (first | ((with_reducible refine gate_dst (N := 4) rfl ?_); refine box_event ?hg (N := 4) ?hd (cs := #[.string (⟨#[]⟩ : ByteArray), .int .i64 0, .int .i64 0, .slice none 0 0]) (t := 39) ?hr ?_; (case hd => rfl); (case hg => rfl); (case hr => first | (go_simp; done) | (go_simp; rfl)); intro gb214 hg w3 hbox hb; have n0_ := Aside0.mk (below_step (by repeat (first | (with_reducible first | exact HB.out | apply below_alloc | apply pw_below_drewN | apply below_drew1) | exact HB.out)) hb); have n1_ := Aside0.mk (hbox); have n2_ := Aside0.mk ((by rw [hg]; exact (below_size (by repeat (first | (with_reducible first | exact HB.out | apply below_alloc | apply pw_below_drewN | apply below_drew1) | exact HB.out))) : w.heap.size ≤ gb214)); have n3_ := Aside0.mk ((by rw [hg]; exact (below_size (by repeat (first | (with_reducible first | exact HB.out | apply below_alloc | apply pw_below_drewN | apply below_drew1) | exact HB.out))) : w.heap.size ≤ gb214)); clear HB; have HB := n0_; have BK214 := n1_; have GW214 := n2_; have GE214 := n3_; clear n0_ n1_ n2_ n3_; clear hb hbox hg; have hcz4_0 : w3.cell? ⟨gb214, 0, none⟩ = some (.string (⟨#[]⟩ : ByteArray)) := (blk_cell BK214.out 0).trans rfl; have hcz4_1 : w3.cell? ⟨gb214, 1, none⟩ = some (.int .i64 0) := (blk_cell BK214.out 1).trans rfl; have hcz4_2 : w3.cell? ⟨gb214, 2, none⟩ = some (.int .i64 0) := (blk_cell BK214.out 2).trans rfl; have hcz4_3 : w3.cell? ⟨gb214, 3, none⟩ = some (.slice none 0 0) := (blk_cell BK214.out 3).trans rfl; have hfz4_0 := blk_frozen BK214.out 0; have hfz4_1 := blk_frozen BK214.out 1; have hfz4_2 := blk_frozen BK214.out 2; have hfz4_3 := blk_frozen BK214.out 3))
  refine bodyPost_ret (results_cell_row rfl _ _ gb214 39 #[.string a0, .int .i64 (-1), .int .i64 a1, .slice none 0 0] (0, 0) _ rfl (by (with_reducible repeat (first | refine blk_drewN ?_ _ | refine blk_drew ?_ | refine blk_alloc ?_ _)); refine blk_put (cs := #[.string a0, .int .i64 (-1), .int .i64 a1, .slice none 0 0]) ?_ 3 _ rfl; (with_reducible repeat (first | refine blk_drewN ?_ _ | refine blk_drew ?_ | refine blk_alloc ?_ _)); refine blk_put (cs := #[.string a0, .int .i64 (-1), .int .i64 0, .slice none 0 0]) ?_ 2 _ rfl; (with_reducible repeat (first | refine blk_drewN ?_ _ | refine blk_drew ?_ | refine blk_alloc ?_ _)); refine blk_put (cs := #[.string a0, .int .i64 0, .int .i64 0, .slice none 0 0]) ?_ 1 _ rfl; (with_reducible repeat (first | refine blk_drewN ?_ _ | refine blk_drew ?_ | refine blk_alloc ?_ _)); refine blk_put (cs := #[.string (⟨#[]⟩ : ByteArray), .int .i64 0, .int .i64 0, .slice none 0 0]) ?_ 0 _ rfl; (with_reducible repeat (first | refine blk_drewN ?_ _ | refine blk_drew ?_ | refine blk_alloc ?_ _)); exact BK214.out) Try.underlying39 rfl (by kernel_rfl)) rfl ?_
  exact ⟨_, by first | rfl | (simp [errW_none, errW_some] <;> rfl) | (simp [*, errW_none, errW_some] <;> rfl), by first | exact Kd.R_nil _ _ _ _ _ | exact Kd.N_nil _ _ _ _ _ | exact Kd.V_nil _ _ _ _ _ | exact Kd.Q_nil _ _ _ _ _ | exact Kd.S_nil _ _ _ _ _, by repeat (first | (with_reducible first | exact HB.out | apply below_alloc | apply pw_below_drewN | apply below_drew1 | refine below_set ?_ GE214.out) | exact HB.out)⟩

/-! ### wayzgooselaw04_shops: function 45 -/
def wayzgooselaw04_shops.f  : Option ((List (S51)) × (List (S39))) := (wayzgooselaw04_is.f (⟨#[98, 97, 107, 101, 114]⟩ : ByteArray) 1 ([] : List Int)).bind fun bt219 => ((wayzgooselaw04_see.f (⟨#[98, 111, 110, 110, 101, 116, 115]⟩ : ByteArray) 3).bind fun bt225 => ((wayzgooselaw04_is.f (⟨#[99, 111, 110, 102, 101, 99, 116, 105, 111, 110, 101, 114]⟩ : ByteArray) 0 (([0] : List Int))).bind fun bt234 => ((wayzgooselaw04_is.f (⟨#[104, 97, 116, 116, 101, 114]⟩ : ByteArray) 3 ([] : List Int)).bind fun bt240 => ((wayzgooselaw04_is.f (⟨#[109, 101, 114, 99, 101, 114]⟩ : ByteArray) 2 (([3] : List Int))).bind fun bt249 => ((wayzgooselaw04_see.f (⟨#[109, 105, 108, 108, 105, 110, 101, 114]⟩ : ByteArray) 1).bind fun bt255 => (some ((([(⟨(⟨#[102, 111, 111, 100]⟩ : ByteArray), (-1)⟩ : S51), (⟨(⟨#[98, 114, 101, 97, 100]⟩ : ByteArray), 0⟩ : S51), (⟨(⟨#[99, 108, 111, 116, 104]⟩ : ByteArray), (-1)⟩ : S51), (⟨(⟨#[104, 97, 116, 115]⟩ : ByteArray), 2⟩ : S51)] : List (S51))), (([(⟨bt219.1, bt219.2.1, bt219.2.2.1, bt219.2.2.2⟩ : S39), (⟨bt225.1, bt225.2.1, bt225.2.2.1, bt225.2.2.2⟩ : S39), (⟨bt234.1, bt234.2.1, bt234.2.2.1, bt234.2.2.2⟩ : S39), (⟨bt240.1, bt240.2.1, bt240.2.2.1, bt240.2.2.2⟩ : S39), (⟨bt249.1, bt249.2.1, bt249.2.2.1, bt249.2.2.2⟩ : S39), (⟨bt255.1, bt255.2.1, bt255.2.2.1, bt255.2.2.2⟩ : S39)] : List (S39))))))))))
set_option maxHeartbeats 8000000 in
set_option maxRecDepth 100000 in
theorem wayzgooselaw04_shops.calls  (r1 : List (S51)) (r2 : List (S39)) (w : World) (h : wayzgooselaw04_shops.f  = some (r1, r2)) :
    Calls Try.prog 45 #[] w fun e w' => ∃ v0_ v1_ : Value, e = .returned (.agg #[v0_, v1_]) ∧ Kd.R k51 51 w' w.heap.size (fun k_ => (w.heap.size ≤ k_)) v0_ r1 ∧ Kd.N k39 39 w' w.heap.size (fun k_ => (w.heap.size ≤ k_) ∧ some k_ ≠ (v0_ : Value).ownBlock) v1_ r2 ∧ Below w.heap.size w w' := by
  have hu26 := Try.underlying26
  have hu51 := Try.underlying51
  have HB := Aside0.mk (Below.refl w.heap.size w)
  have H : ((wayzgooselaw04_is.f (⟨#[98, 97, 107, 101, 114]⟩ : ByteArray) 1 ([] : List Int)).bind fun bt219 => ((wayzgooselaw04_see.f (⟨#[98, 111, 110, 110, 101, 116, 115]⟩ : ByteArray) 3).bind fun bt225 => ((wayzgooselaw04_is.f (⟨#[99, 111, 110, 102, 101, 99, 116, 105, 111, 110, 101, 114]⟩ : ByteArray) 0 (([0] : List Int))).bind fun bt234 => ((wayzgooselaw04_is.f (⟨#[104, 97, 116, 116, 101, 114]⟩ : ByteArray) 3 ([] : List Int)).bind fun bt240 => ((wayzgooselaw04_is.f (⟨#[109, 101, 114, 99, 101, 114]⟩ : ByteArray) 2 (([3] : List Int))).bind fun bt249 => ((wayzgooselaw04_see.f (⟨#[109, 105, 108, 108, 105, 110, 101, 114]⟩ : ByteArray) 1).bind fun bt255 => (some ((([(⟨(⟨#[102, 111, 111, 100]⟩ : ByteArray), (-1)⟩ : S51), (⟨(⟨#[98, 114, 101, 97, 100]⟩ : ByteArray), 0⟩ : S51), (⟨(⟨#[99, 108, 111, 116, 104]⟩ : ByteArray), (-1)⟩ : S51), (⟨(⟨#[104, 97, 116, 115]⟩ : ByteArray), 2⟩ : S51)] : List (S51))), (([(⟨bt219.1, bt219.2.1, bt219.2.2.1, bt219.2.2.2⟩ : S39), (⟨bt225.1, bt225.2.1, bt225.2.2.1, bt225.2.2.2⟩ : S39), (⟨bt234.1, bt234.2.1, bt234.2.2.1, bt234.2.2.2⟩ : S39), (⟨bt240.1, bt240.2.1, bt240.2.2.1, bt240.2.2.2⟩ : S39), (⟨bt249.1, bt249.2.1, bt249.2.2.1, bt249.2.2.2⟩ : S39), (⟨bt255.1, bt255.2.1, bt255.2.2.1, bt255.2.2.2⟩ : S39)] : List (S39))))))))))) = some (r1, r2) := h
  clear h
  obtain ⟨y216, hy216⟩ : ∃ y_ : List (S51), y_ = (([(⟨(⟨#[102, 111, 111, 100]⟩ : ByteArray), (-1)⟩ : S51), (⟨(⟨#[98, 114, 101, 97, 100]⟩ : ByteArray), 0⟩ : S51), (⟨(⟨#[99, 108, 111, 116, 104]⟩ : ByteArray), (-1)⟩ : S51), (⟨(⟨#[104, 97, 116, 115]⟩ : ByteArray), 2⟩ : S51)] : List (S51))) := ⟨_, rfl⟩
  replace H : ((wayzgooselaw04_is.f (⟨#[98, 97, 107, 101, 114]⟩ : ByteArray) 1 ([] : List Int)).bind fun bt219 => ((wayzgooselaw04_see.f (⟨#[98, 111, 110, 110, 101, 116, 115]⟩ : ByteArray) 3).bind fun bt225 => ((wayzgooselaw04_is.f (⟨#[99, 111, 110, 102, 101, 99, 116, 105, 111, 110, 101, 114]⟩ : ByteArray) 0 (([0] : List Int))).bind fun bt234 => ((wayzgooselaw04_is.f (⟨#[104, 97, 116, 116, 101, 114]⟩ : ByteArray) 3 ([] : List Int)).bind fun bt240 => ((wayzgooselaw04_is.f (⟨#[109, 101, 114, 99, 101, 114]⟩ : ByteArray) 2 (([3] : List Int))).bind fun bt249 => ((wayzgooselaw04_see.f (⟨#[109, 105, 108, 108, 105, 110, 101, 114]⟩ : ByteArray) 1).bind fun bt255 => (some (y216, (([(⟨bt219.1, bt219.2.1, bt219.2.2.1, bt219.2.2.2⟩ : S39), (⟨bt225.1, bt225.2.1, bt225.2.2.1, bt225.2.2.2⟩ : S39), (⟨bt234.1, bt234.2.1, bt234.2.2.1, bt234.2.2.2⟩ : S39), (⟨bt240.1, bt240.2.1, bt240.2.2.1, bt240.2.2.2⟩ : S39), (⟨bt249.1, bt249.2.1, bt249.2.2.1, bt249.2.2.2⟩ : S39), (⟨bt255.1, bt255.2.1, bt255.2.2.1, bt255.2.2.2⟩ : S39)] : List (S39))))))))))) = some (r1, r2) := by first | (rw [hy216]; with_reducible exact H) | (have H2_ := (Option.bind_some _ _).symm.trans H; rw [hy216]; with_reducible exact H2_) | (have H2_ := (Option.bind_some _ _).symm.trans H; with_reducible exact H2_) | with_reducible exact H | (rw [hy216]; exact H) | exact H
  have Ny216 := Aside0.mk hy216
  clear hy216
  replace H := Option.bind_eq_some_iff.mp H
  obtain ⟨⟨t219, t220, t221, t222⟩, A10, H⟩ := H
  replace H : ((wayzgooselaw04_see.f (⟨#[98, 111, 110, 110, 101, 116, 115]⟩ : ByteArray) 3).bind fun bt225 => ((wayzgooselaw04_is.f (⟨#[99, 111, 110, 102, 101, 99, 116, 105, 111, 110, 101, 114]⟩ : ByteArray) 0 (([0] : List Int))).bind fun bt234 => ((wayzgooselaw04_is.f (⟨#[104, 97, 116, 116, 101, 114]⟩ : ByteArray) 3 ([] : List Int)).bind fun bt240 => ((wayzgooselaw04_is.f (⟨#[109, 101, 114, 99, 101, 114]⟩ : ByteArray) 2 (([3] : List Int))).bind fun bt249 => ((wayzgooselaw04_see.f (⟨#[109, 105, 108, 108, 105, 110, 101, 114]⟩ : ByteArray) 1).bind fun bt255 => (some (y216, (([(⟨t219, t220, t221, t222⟩ : S39), (⟨bt225.1, bt225.2.1, bt225.2.2.1, bt225.2.2.2⟩ : S39), (⟨bt234.1, bt234.2.1, bt234.2.2.1, bt234.2.2.2⟩ : S39), (⟨bt240.1, bt240.2.1, bt240.2.2.1, bt240.2.2.2⟩ : S39), (⟨bt249.1, bt249.2.1, bt249.2.2.1, bt249.2.2.2⟩ : S39), (⟨bt255.1, bt255.2.1, bt255.2.2.1, bt255.2.2.2⟩ : S39)] : List (S39)))))))))) = some (r1, r2) := H
  have A1 := Aside0.mk A10
  clear A10
  replace H := Option.bind_eq_some_iff.mp H
  obtain ⟨⟨t225, t226, t227, t228⟩, A20, H⟩ := H
  replace H : ((wayzgooselaw04_is.f (⟨#[99, 111, 110, 102, 101, 99, 116, 105, 111, 110, 101, 114]⟩ : ByteArray) 0 (([0] : List Int))).bind fun bt234 => ((wayzgooselaw04_is.f (⟨#[104, 97, 116, 116, 101, 114]⟩ : ByteArray) 3 ([] : List Int)).bind fun bt240 => ((wayzgooselaw04_is.f (⟨#[109, 101, 114, 99, 101, 114]⟩ : ByteArray) 2 (([3] : List Int))).bind fun bt249 => ((wayzgooselaw04_see.f (⟨#[109, 105, 108, 108, 105, 110, 101, 114]⟩ : ByteArray) 1).bind fun bt255 => (some (y216, (([(⟨t219, t220, t221, t222⟩ : S39), (⟨t225, t226, t227, t228⟩ : S39), (⟨bt234.1, bt234.2.1, bt234.2.2.1, bt234.2.2.2⟩ : S39), (⟨bt240.1, bt240.2.1, bt240.2.2.1, bt240.2.2.2⟩ : S39), (⟨bt249.1, bt249.2.1, bt249.2.2.1, bt249.2.2.2⟩ : S39), (⟨bt255.1, bt255.2.1, bt255.2.2.1, bt255.2.2.2⟩ : S39)] : List (S39))))))))) = some (r1, r2) := H
  have A2 := Aside0.mk A20
  clear A20
  obtain ⟨y231, hy231⟩ : ∃ y_ : List Int, y_ = (([0] : List Int)) := ⟨_, rfl⟩
  replace H : ((wayzgooselaw04_is.f (⟨#[99, 111, 110, 102, 101, 99, 116, 105, 111, 110, 101, 114]⟩ : ByteArray) 0 y231).bind fun bt234 => ((wayzgooselaw04_is.f (⟨#[104, 97, 116, 116, 101, 114]⟩ : ByteArray) 3 ([] : List Int)).bind fun bt240 => ((wayzgooselaw04_is.f (⟨#[109, 101, 114, 99, 101, 114]⟩ : ByteArray) 2 (([3] : List Int))).bind fun bt249 => ((wayzgooselaw04_see.f (⟨#[109, 105, 108, 108, 105, 110, 101, 114]⟩ : ByteArray) 1).bind fun bt255 => (some (y216, (([(⟨t219, t220, t221, t222⟩ : S39), (⟨t225, t226, t227, t228⟩ : S39), (⟨bt234.1, bt234.2.1, bt234.2.2.1, bt234.2.2.2⟩ : S39), (⟨bt240.1, bt240.2.1, bt240.2.2.1, bt240.2.2.2⟩ : S39), (⟨bt249.1, bt249.2.1, bt249.2.2.1, bt249.2.2.2⟩ : S39), (⟨bt255.1, bt255.2.1, bt255.2.2.1, bt255.2.2.2⟩ : S39)] : List (S39))))))))) = some (r1, r2) := by first | (rw [hy231]; with_reducible exact H) | (have H2_ := (Option.bind_some _ _).symm.trans H; rw [hy231]; with_reducible exact H2_) | (have H2_ := (Option.bind_some _ _).symm.trans H; with_reducible exact H2_) | with_reducible exact H | (rw [hy231]; exact H) | exact H
  have Ny231 := Aside0.mk hy231
  clear hy231
  replace H := Option.bind_eq_some_iff.mp H
  obtain ⟨⟨t234, t235, t236, t237⟩, A30, H⟩ := H
  replace H : ((wayzgooselaw04_is.f (⟨#[104, 97, 116, 116, 101, 114]⟩ : ByteArray) 3 ([] : List Int)).bind fun bt240 => ((wayzgooselaw04_is.f (⟨#[109, 101, 114, 99, 101, 114]⟩ : ByteArray) 2 (([3] : List Int))).bind fun bt249 => ((wayzgooselaw04_see.f (⟨#[109, 105, 108, 108, 105, 110, 101, 114]⟩ : ByteArray) 1).bind fun bt255 => (some (y216, (([(⟨t219, t220, t221, t222⟩ : S39), (⟨t225, t226, t227, t228⟩ : S39), (⟨t234, t235, t236, t237⟩ : S39), (⟨bt240.1, bt240.2.1, bt240.2.2.1, bt240.2.2.2⟩ : S39), (⟨bt249.1, bt249.2.1, bt249.2.2.1, bt249.2.2.2⟩ : S39), (⟨bt255.1, bt255.2.1, bt255.2.2.1, bt255.2.2.2⟩ : S39)] : List (S39)))))))) = some (r1, r2) := H
  have A3 := Aside0.mk A30
  clear A30
  replace H := Option.bind_eq_some_iff.mp H
  obtain ⟨⟨t240, t241, t242, t243⟩, A40, H⟩ := H
  replace H : ((wayzgooselaw04_is.f (⟨#[109, 101, 114, 99, 101, 114]⟩ : ByteArray) 2 (([3] : List Int))).bind fun bt249 => ((wayzgooselaw04_see.f (⟨#[109, 105, 108, 108, 105, 110, 101, 114]⟩ : ByteArray) 1).bind fun bt255 => (some (y216, (([(⟨t219, t220, t221, t222⟩ : S39), (⟨t225, t226, t227, t228⟩ : S39), (⟨t234, t235, t236, t237⟩ : S39), (⟨t240, t241, t242, t243⟩ : S39), (⟨bt249.1, bt249.2.1, bt249.2.2.1, bt249.2.2.2⟩ : S39), (⟨bt255.1, bt255.2.1, bt255.2.2.1, bt255.2.2.2⟩ : S39)] : List (S39))))))) = some (r1, r2) := H
  have A4 := Aside0.mk A40
  clear A40
  obtain ⟨y246, hy246⟩ : ∃ y_ : List Int, y_ = (([3] : List Int)) := ⟨_, rfl⟩
  replace H : ((wayzgooselaw04_is.f (⟨#[109, 101, 114, 99, 101, 114]⟩ : ByteArray) 2 y246).bind fun bt249 => ((wayzgooselaw04_see.f (⟨#[109, 105, 108, 108, 105, 110, 101, 114]⟩ : ByteArray) 1).bind fun bt255 => (some (y216, (([(⟨t219, t220, t221, t222⟩ : S39), (⟨t225, t226, t227, t228⟩ : S39), (⟨t234, t235, t236, t237⟩ : S39), (⟨t240, t241, t242, t243⟩ : S39), (⟨bt249.1, bt249.2.1, bt249.2.2.1, bt249.2.2.2⟩ : S39), (⟨bt255.1, bt255.2.1, bt255.2.2.1, bt255.2.2.2⟩ : S39)] : List (S39))))))) = some (r1, r2) := by first | (rw [hy246]; with_reducible exact H) | (have H2_ := (Option.bind_some _ _).symm.trans H; rw [hy246]; with_reducible exact H2_) | (have H2_ := (Option.bind_some _ _).symm.trans H; with_reducible exact H2_) | with_reducible exact H | (rw [hy246]; exact H) | exact H
  have Ny246 := Aside0.mk hy246
  clear hy246
  replace H := Option.bind_eq_some_iff.mp H
  obtain ⟨⟨t249, t250, t251, t252⟩, A50, H⟩ := H
  replace H : ((wayzgooselaw04_see.f (⟨#[109, 105, 108, 108, 105, 110, 101, 114]⟩ : ByteArray) 1).bind fun bt255 => (some (y216, (([(⟨t219, t220, t221, t222⟩ : S39), (⟨t225, t226, t227, t228⟩ : S39), (⟨t234, t235, t236, t237⟩ : S39), (⟨t240, t241, t242, t243⟩ : S39), (⟨t249, t250, t251, t252⟩ : S39), (⟨bt255.1, bt255.2.1, bt255.2.2.1, bt255.2.2.2⟩ : S39)] : List (S39)))))) = some (r1, r2) := H
  have A5 := Aside0.mk A50
  clear A50
  replace H := Option.bind_eq_some_iff.mp H
  obtain ⟨⟨t255, t256, t257, t258⟩, A60, H⟩ := H
  replace H : (some (y216, (([(⟨t219, t220, t221, t222⟩ : S39), (⟨t225, t226, t227, t228⟩ : S39), (⟨t234, t235, t236, t237⟩ : S39), (⟨t240, t241, t242, t243⟩ : S39), (⟨t249, t250, t251, t252⟩ : S39), (⟨t255, t256, t257, t258⟩ : S39)] : List (S39))))) = some (r1, r2) := H
  have A6 := Aside0.mk A60
  clear A60
  obtain ⟨y261, hy261⟩ : ∃ y_ : List (S39), y_ = (([(⟨t219, t220, t221, t222⟩ : S39), (⟨t225, t226, t227, t228⟩ : S39), (⟨t234, t235, t236, t237⟩ : S39), (⟨t240, t241, t242, t243⟩ : S39), (⟨t249, t250, t251, t252⟩ : S39), (⟨t255, t256, t257, t258⟩ : S39)] : List (S39))) := ⟨_, rfl⟩
  replace H : (some (y216, y261)) = some (r1, r2) := by first | (rw [hy261]; with_reducible exact H) | (have H2_ := (Option.bind_some _ _).symm.trans H; rw [hy261]; with_reducible exact H2_) | (have H2_ := (Option.bind_some _ _).symm.trans H; with_reducible exact H2_) | with_reducible exact H | (rw [hy261]; exact H) | exact H
  have Ny261 := Aside0.mk hy261
  clear hy261
  simp only [Option.some.injEq, Prod.mk.injEq] at H
  obtain ⟨rfl, rfl⟩ := H
  go_enter Try.func45, Try.ntmps45
  go_wp2_with (first | ((with_reducible refine gate_dst (N := 0) rfl ?_); refine box_event ?hg (N := 0) ?hd (cs := #[.slice none 0 0, .slice none 0 0]) (t := 26) ?hr ?_; (case hd => rfl); (case hg => rfl); (case hr => first | (go_simp; done) | (go_simp; rfl)); intro gb215 hg w7 hbox hb; have n0_ := Aside0.mk (below_step (by repeat (first | (with_reducible first | exact HB.out | apply below_alloc | apply pw_below_drewN | apply below_drew1) | exact HB.out)) hb); have n1_ := Aside0.mk (hbox); have n2_ := Aside0.mk ((by rw [hg]; exact (below_size (by repeat (first | (with_reducible first | exact HB.out | apply below_alloc | apply pw_below_drewN | apply below_drew1) | exact HB.out))) : w.heap.size ≤ gb215)); have n3_ := Aside0.mk ((by rw [hg]; exact (below_size (by repeat (first | (with_reducible first | exact HB.out | apply below_alloc | apply pw_below_drewN | apply below_drew1) | exact HB.out))) : w.heap.size ≤ gb215)); clear HB; have HB := n0_; have BK215 := n1_; have GW215 := n2_; have GE215 := n3_; clear n0_ n1_ n2_ n3_; clear hb hbox hg) | ((with_reducible refine gate_dst (N := 5) rfl ?_); refine Kd.R_lit k51 _ 51 ?hg (N := 5) ?hd (xs := ([(⟨(⟨#[102, 111, 111, 100]⟩ : ByteArray), (-1)⟩ : S51), (⟨(⟨#[98, 114, 101, 97, 100]⟩ : ByteArray), 0⟩ : S51), (⟨(⟨#[99, 108, 111, 116, 104]⟩ : ByteArray), (-1)⟩ : S51), (⟨(⟨#[104, 97, 116, 115]⟩ : ByteArray), 2⟩ : S51)] : List (S51))) (inner := [.string (⟨#[102, 111, 111, 100]⟩ : ByteArray), .int .i64 (-1), .string (⟨#[98, 114, 101, 97, 100]⟩ : ByteArray), .int .i64 0, .string (⟨#[99, 108, 111, 116, 104]⟩ : ByteArray), .int .i64 (-1), .string (⟨#[104, 97, 116, 115]⟩ : ByteArray), .int .i64 2]) (ok := fun _ => True) (okp := fun _ => True) ?hr ?hp (fun _ hk => hk) trivial (Below.refl _ _) (Nat.le_refl _) (by simp) ?_; (case hd => rfl); (case hg => rfl); (case hr => first | (go_simp; done) | (go_simp; rfl)); (case hp => exact (Reps.c2 (show Kd.M k51 _ _ _ (⟨(⟨#[102, 111, 111, 100]⟩ : ByteArray), (-1)⟩ : S51) [.string (⟨#[102, 111, 111, 100]⟩ : ByteArray), .int .i64 (-1)] from (k51_mkM _ _ _ (⟨(⟨#[102, 111, 111, 100]⟩ : ByteArray), (-1)⟩ : S51) )) (Reps.c2 (show Kd.M k51 _ _ _ (⟨(⟨#[98, 114, 101, 97, 100]⟩ : ByteArray), 0⟩ : S51) [.string (⟨#[98, 114, 101, 97, 100]⟩ : ByteArray), .int .i64 0] from (k51_mkM _ _ _ (⟨(⟨#[98, 114, 101, 97, 100]⟩ : ByteArray), 0⟩ : S51) )) (Reps.c2 (show Kd.M k51 _ _ _ (⟨(⟨#[99, 108, 111, 116, 104]⟩ : ByteArray), (-1)⟩ : S51) [.string (⟨#[99, 108, 111, 116, 104]⟩ : ByteArray), .int .i64 (-1)] from (k51_mkM _ _ _ (⟨(⟨#[99, 108, 111, 116, 104]⟩ : ByteArray), (-1)⟩ : S51) )) (Reps.c2 (show Kd.M k51 _ _ _ (⟨(⟨#[104, 97, 116, 115]⟩ : ByteArray), 2⟩ : S51) [.string (⟨#[104, 97, 116, 115]⟩ : ByteArray), .int .i64 2] from (k51_mkM _ _ _ (⟨(⟨#[104, 97, 116, 115]⟩ : ByteArray), 2⟩ : S51) )) (Reps.none _ _)))))); intro v217 w8 ho9 hb hg_ hnew_; clear hg_ hnew_; (first | rw [← Ny216.out] at ho9 | (simp only [Int.reduceToNat] at ho9; rw [← Ny216.out] at ho9)); have n0_ := Aside0.mk (Kd.R_lower (Kd.R_newM (M := fun k_ => (w.heap.size ≤ k_)) ho9 (below_size (by repeat (first | (with_reducible first | exact HB.out | apply below_alloc | apply pw_below_drewN | apply below_drew1 | refine below_set ?_ GE215.out) | exact HB.out))) (fun k_ h_ => h_)) (below_size (by repeat (first | (with_reducible first | exact HB.out | apply below_alloc | apply pw_below_drewN | apply below_drew1 | refine below_set ?_ GE215.out) | exact HB.out)))); have n1_ := Aside0.mk (blk_below (g := gb215) (o := .cells #[.slice none 0 0, .slice none 0 0] 26 (0, 0)) (by (with_reducible repeat (first | refine blk_drewN ?_ _ | refine blk_drew ?_ | refine blk_alloc ?_ _)); exact BK215.out) hb); have n2_ := Aside0.mk (below_step (by repeat (first | (with_reducible first | exact HB.out | apply below_alloc | apply pw_below_drewN | apply below_drew1 | refine below_set ?_ GE215.out) | exact HB.out)) hb); clear BK215; clear HB; have HO218 := n0_; have BK215 := n1_; have HB := n2_; clear n0_ n1_ n2_; clear hb ho9) | ((with_reducible refine gate_callee (f := 70) rfl ?_); refine goesL_ (some 6) rfl rfl Try.func70 (by kernel_rfl) rfl #[.string (⟨#[98, 97, 107, 101, 114]⟩ : ByteArray), .int .i64 1, .slice none 0 0] rfl (by (try simp only [List.map_toArray, List.map_cons, List.map_nil]); first | done | rfl | (simp only [List.length_drop, List.length_take]; rfl)) ?_; (refine (wayzgooselaw04_is.calls (⟨#[98, 97, 107, 101, 114]⟩ : ByteArray) 1 (fun k_ => some k_ = (.slice none 0 0 : Value).ownBlock) (.slice none 0 0) ([] : List Int) t219 t220 t221 t222 w _ ?side1 ?side2 A1.out).mono ?_); (case side1 => repeat (first | (with_reducible first | exact HB.out | apply below_alloc | apply pw_below_drewN | apply below_drew1 | refine below_set ?_ GE215.out) | exact HB.out)); (case side2 => exact Kd.R_nil _ _ _ _ _); rintro e w10 ⟨v223, rfl, ho0, hb, hkp⟩; refine ⟨_, rfl, ?_⟩; have n0_ := Aside0.mk (blk_kept (by (with_reducible repeat (first | refine blk_drewN ?_ _ | refine blk_drew ?_ | refine blk_alloc ?_ _)); exact BK215.out) hkp (fun hs_ => (fun e_ => by simp [Value.ownBlock] at e_) hs_)); have n1_ := Aside0.mk (Kd.R_mono (ok' := fun k_ => (w.heap.size ≤ k_)) (Kd.R_keptB (HO218.out) hkp (fun k_ hk_ hs_ => (fun e_ => by simp [Value.ownBlock] at e_) hs_)) (fun k_ hk_ => hk_.1.1)); have n2_ := Aside0.mk (Kd.R_mono (ok' := fun k_ => (w.heap.size ≤ k_)) ho0 (fun k_ hk_ => Or.elim hk_ (fun hs_ => absurd hs_ (by simp [Value.ownBlock])) (fun hn_ => (Nat.le_trans (below_size (by repeat (first | (with_reducible first | exact HB.out | apply below_alloc | apply pw_below_drewN | apply below_drew1 | refine below_set ?_ GE215.out) | exact HB.out))) hn_)))); have n3_ := Aside0.mk (hb); clear BK215; clear HO218; clear HB; have BK215 := n0_; have HO218 := n1_; have HO224 := n2_; have HB := n3_; clear n0_ n1_ n2_ n3_; (try clear hb); (try clear hkp); (try clear ho0)) | ((with_reducible refine gate_callee (f := 71) rfl ?_); refine goesL_ (some 7) rfl rfl Try.func71 (by kernel_rfl) rfl #[.string (⟨#[98, 111, 110, 110, 101, 116, 115]⟩ : ByteArray), .int .i64 3] rfl (by (try simp only [List.map_toArray, List.map_cons, List.map_nil]); first | done | rfl | (simp only [List.length_drop, List.length_take]; rfl)) ?_; (with_reducible refine (wayzgooselaw04_see.calls (⟨#[98, 111, 110, 110, 101, 116, 115]⟩ : ByteArray) 3 t225 t226 t227 t228 _ A2.out).mono ?_); rintro e w11 ⟨v229, rfl, ho0, hb⟩; refine ⟨_, rfl, ?_⟩; have n0_ := Aside0.mk (Kd.R_below (by (with_reducible repeat (first | apply Kd.R_alloc | apply Kd.R_drewN | apply Kd.R_drew)); exact HO218.out) hb); have n1_ := Aside0.mk (Kd.R_elder' (by (with_reducible repeat (first | apply Kd.R_alloc | apply Kd.R_drewN | apply Kd.R_drew)); exact HO224.out) (Kd.R_base ho0) hb); have n2_ := Aside0.mk (Kd.R_lower (Kd.R_new' (Kd.R_newM (M := fun k_ => (w.heap.size ≤ k_)) ho0 (below_size (by repeat (first | (with_reducible first | exact HB.out | apply below_alloc | apply pw_below_drewN | apply below_drew1 | refine below_set ?_ GE215.out) | exact HB.out))) (fun k_ h_ => h_)) (Kd.R_lt (by (with_reducible repeat (first | apply Kd.R_alloc | apply Kd.R_drewN | apply Kd.R_drew)); exact HO224.out))) (below_size (by repeat (first | (with_reducible first | exact HB.out | apply below_alloc | apply pw_below_drewN | apply below_drew1 | refine below_set ?_ GE215.out) | exact HB.out)))); have n3_ := Aside0.mk (blk_below (g := gb215) (o := .cells #[.slice none 0 0, .slice none 0 0] 26 (0, 0)) (by (with_reducible repeat (first | refine blk_drewN ?_ _ | refine blk_drew ?_ | refine blk_alloc ?_ _)); exact BK215.out) hb); have n4_ := Aside0.mk (below_step (by repeat (first | (with_reducible first | exact HB.out | apply below_alloc | apply pw_below_drewN | apply below_drew1 | refine below_set ?_ GE215.out) | exact HB.out)) hb); clear HO218; clear HO224; clear BK215; clear HB; have HO218 := n0_; have HO224 := n1_; have HO230 := n2_; have BK215 := n3_; have HB := n4_; clear n0_ n1_ n2_ n3_ n4_; (try clear hb); (try clear hb2); (try clear hk); (try clear hi); (try clear ho0)) | ((with_reducible refine gate_dst (N := 8) rfl ?_); refine Kd.R_lit (Kd.int .i64) _ 3 ?hg (N := 8) ?hd (xs := ([0] : List Int)) (inner := [.int .i64 0]) (ok := fun _ => True) (okp := fun _ => True) ?hr ?hp (fun _ hk => hk) trivial (Below.refl _ _) (Nat.le_refl _) (by simp) ?_; (case hd => rfl); (case hg => rfl); (case hr => first | (go_simp; done) | (go_simp; rfl)); (case hp => exact (Reps.one (show Kd.M (Kd.int .i64) _ _ _ 0 [.int .i64 0] from rfl) (Reps.none _ _))); intro v232 w12 ho13 hb hg_ hnew_; clear hg_ hnew_; (first | rw [← Ny231.out] at ho13 | (simp only [Int.reduceToNat] at ho13; rw [← Ny231.out] at ho13)); have n0_ := Aside0.mk (Kd.R_below (by (with_reducible repeat (first | apply Kd.R_alloc | apply Kd.R_drewN | apply Kd.R_drew)); exact HO218.out) hb); have n1_ := Aside0.mk (Kd.R_elder' (by (with_reducible repeat (first | apply Kd.R_alloc | apply Kd.R_drewN | apply Kd.R_drew)); exact HO224.out) (Kd.R_base ho13) hb); have n2_ := Aside0.mk (Kd.R_elder' (by (with_reducible repeat (first | apply Kd.R_alloc | apply Kd.R_drewN | apply Kd.R_drew)); exact HO230.out) (Kd.R_base ho13) hb); have n3_ := Aside0.mk (Kd.R_lower (Kd.R_new' (Kd.R_new' (Kd.R_newM (M := fun k_ => (w.heap.size ≤ k_)) ho13 (below_size (by repeat (first | (with_reducible first | exact HB.out | apply below_alloc | apply pw_below_drewN | apply below_drew1 | refine below_set ?_ GE215.out) | exact HB.out))) (fun k_ h_ => h_)) (Kd.R_lt (by (with_reducible repeat (first | apply Kd.R_alloc | apply Kd.R_drewN | apply Kd.R_drew)); exact HO224.out))) (Kd.R_lt (by (with_reducible repeat (first | apply Kd.R_alloc | apply Kd.R_drewN | apply Kd.R_drew)); exact HO230.out))) (below_size (by repeat (first | (with_reducible first | exact HB.out | apply below_alloc | apply pw_below_drewN | apply below_drew1 | refine below_set ?_ GE215.out) | exact HB.out)))); have n4_ := Aside0.mk (blk_below (g := gb215) (o := .cells #[.slice none 0 0, .slice none 0 0] 26 (0, 0)) (by (with_reducible repeat (first | refine blk_drewN ?_ _ | refine blk_drew ?_ | refine blk_alloc ?_ _)); exact BK215.out) hb); have n5_ := Aside0.mk (below_step (by repeat (first | (with_reducible first | exact HB.out | apply below_alloc | apply pw_below_drewN | apply below_drew1 | refine below_set ?_ GE215.out) | exact HB.out)) hb); clear HO218; clear HO224; clear HO230; clear BK215; clear HB; have HO218 := n0_; have HO224 := n1_; have HO230 := n2_; have HO233 := n3_; have BK215 := n4_; have HB := n5_; clear n0_ n1_ n2_ n3_ n4_ n5_; clear hb ho13; obtain ⟨Ao14, co14, eo14⟩ := Kd.R_slice HO233.out; subst eo14) | ((with_reducible refine gate_callee (f := 70) rfl ?_); refine goesL_ (some 9) rfl rfl Try.func70 (by kernel_rfl) rfl #[.string (⟨#[99, 111, 110, 102, 101, 99, 116, 105, 111, 110, 101, 114]⟩ : ByteArray), .int .i64 0, .slice Ao14 y231.length co14] rfl (by (try simp only [List.map_toArray, List.map_cons, List.map_nil]); first | done | rfl | (simp only [List.length_drop, List.length_take]; rfl)) ?_; (with_reducible refine (wayzgooselaw04_is.calls (⟨#[99, 111, 110, 102, 101, 99, 116, 105, 111, 110, 101, 114]⟩ : ByteArray) 0 (fun k_ => some k_ = (.slice Ao14 y231.length co14 : Value).ownBlock) (.slice Ao14 y231.length co14) y231 t234 t235 t236 t237 w _ ?side1 ?side2 A3.out).mono ?_); (case side1 => repeat (first | (with_reducible first | exact HB.out | apply below_alloc | apply pw_below_drewN | apply below_drew1 | refine below_set ?_ GE215.out) | exact HB.out)); (case side2 => exact Kd.R_tight rfl HO233.out); rintro e w15 ⟨v238, rfl, ho0, hb, hkp⟩; refine ⟨_, rfl, ?_⟩; have n0_ := Aside0.mk (blk_kept (by (with_reducible repeat (first | refine blk_drewN ?_ _ | refine blk_drew ?_ | refine blk_alloc ?_ _)); exact BK215.out) hkp (fun hs_ => (fun e_ => (Kd.R_ne HO233.out BK215.out (by decide)) e_) hs_)); have n1_ := Aside0.mk (Kd.R_mono (ok' := fun k_ => (w.heap.size ≤ k_)) (Kd.R_keptB ((Kd.R_apart' HO218.out (Kd.R_typed HO233.out) (by decide))) hkp (fun k_ hk_ hs_ => (hk_.2) hs_)) (fun k_ hk_ => hk_.1.1)); have n2_ := Aside0.mk (Kd.R_mono (ok' := fun k_ => (w.heap.size ≤ k_) ∧ some k_ ≠ (v229 : Value).ownBlock ∧ some k_ ≠ (v238 : Value).ownBlock) (Kd.R_keptB (HO224.out) hkp (fun k_ hk_ hs_ => (hk_.2) hs_)) (fun k_ hk_ => ⟨hk_.1.1.1, hk_.1.1.2, fun e_ => Or.elim (ho0.1 k_ e_.symm) (fun hs_ => hk_.2.1 hs_) (fun hn_ => Nat.not_le.2 hk_.2.2 hn_)⟩)); have n3_ := Aside0.mk (Kd.R_mono (ok' := fun k_ => (w.heap.size ≤ k_) ∧ some k_ ≠ (v223 : Value).ownBlock ∧ some k_ ≠ (v238 : Value).ownBlock) (Kd.R_keptB (HO230.out) hkp (fun k_ hk_ hs_ => (hk_.2) hs_)) (fun k_ hk_ => ⟨hk_.1.1.1.1, hk_.1.1.2, fun e_ => Or.elim (ho0.1 k_ e_.symm) (fun hs_ => hk_.2.1 hs_) (fun hn_ => Nat.not_le.2 hk_.2.2 hn_)⟩)); have n4_ := Aside0.mk (Kd.R_mono (ok' := fun k_ => (w.heap.size ≤ k_) ∧ some k_ ≠ (v223 : Value).ownBlock ∧ some k_ ≠ (v229 : Value).ownBlock) ho0 (fun k_ hk_ => ⟨Or.elim hk_ (fun hs_ => (HO233.out.1 k_ (hs_).symm).1.1.1) (fun hn_ => (Nat.le_trans (below_size (by repeat (first | (with_reducible first | exact HB.out | apply below_alloc | apply pw_below_drewN | apply below_drew1 | refine below_set ?_ GE215.out) | exact HB.out))) hn_)), Or.elim hk_ (fun hs_ => fun e_ => (((HO224.out).1 k_ e_.symm).2) hs_) (fun hn_ => (Kd.fresh' (Kd.R_lt (by (with_reducible repeat (first | apply Kd.R_alloc | apply Kd.R_drewN | apply Kd.R_drew)); exact HO224.out)) k_ hn_)), Or.elim hk_ (fun hs_ => fun e_ => (((HO230.out).1 k_ e_.symm).2) hs_) (fun hn_ => (Kd.fresh' (Kd.R_lt (by (with_reducible repeat (first | apply Kd.R_alloc | apply Kd.R_drewN | apply Kd.R_drew)); exact HO230.out)) k_ hn_))⟩)); have n5_ := Aside0.mk (hb); clear BK215; clear HO218; clear HO224; clear HO230; clear HB; clear HO233; have BK215 := n0_; have HO218 := n1_; have HO224 := n2_; have HO230 := n3_; have HO239 := n4_; have HB := n5_; clear n0_ n1_ n2_ n3_ n4_ n5_; (try clear hb); (try clear hkp); (try clear ho0)) | ((with_reducible refine gate_callee (f := 70) rfl ?_); refine goesL_ (some 10) rfl rfl Try.func70 (by kernel_rfl) rfl #[.string (⟨#[104, 97, 116, 116, 101, 114]⟩ : ByteArray), .int .i64 3, .slice none 0 0] rfl (by (try simp only [List.map_toArray, List.map_cons, List.map_nil]); first | done | rfl | (simp only [List.length_drop, List.length_take]; rfl)) ?_; (refine (wayzgooselaw04_is.calls (⟨#[104, 97, 116, 116, 101, 114]⟩ : ByteArray) 3 (fun k_ => some k_ = (.slice none 0 0 : Value).ownBlock) (.slice none 0 0) ([] : List Int) t240 t241 t242 t243 w _ ?side1 ?side2 A4.out).mono ?_); (case side1 => repeat (first | (with_reducible first | exact HB.out | apply below_alloc | apply pw_below_drewN | apply below_drew1 | refine below_set ?_ GE215.out) | exact HB.out)); (case side2 => exact Kd.R_nil _ _ _ _ _); rintro e w16 ⟨v244, rfl, ho0, hb, hkp⟩; refine ⟨_, rfl, ?_⟩; have n0_ := Aside0.mk (blk_kept (by (with_reducible repeat (first | refine blk_drewN ?_ _ | refine blk_drew ?_ | refine blk_alloc ?_ _)); exact BK215.out) hkp (fun hs_ => (fun e_ => by simp [Value.ownBlock] at e_) hs_)); have n1_ := Aside0.mk (Kd.R_mono (ok' := fun k_ => (w.heap.size ≤ k_)) (Kd.R_keptB (HO218.out) hkp (fun k_ hk_ hs_ => (fun e_ => by simp [Value.ownBlock] at e_) hs_)) (fun k_ hk_ => hk_.1)); have n2_ := Aside0.mk (Kd.R_mono (ok' := fun k_ => (w.heap.size ≤ k_) ∧ some k_ ≠ (v229 : Value).ownBlock ∧ some k_ ≠ (v238 : Value).ownBlock ∧ some k_ ≠ (v244 : Value).ownBlock) (Kd.R_keptB (HO224.out) hkp (fun k_ hk_ hs_ => (fun e_ => by simp [Value.ownBlock] at e_) hs_)) (fun k_ hk_ => ⟨hk_.1.1, hk_.1.2.1, hk_.1.2.2, fun e_ => Or.elim (ho0.1 k_ e_.symm) (fun hs_ => hk_.2.1 hs_) (fun hn_ => Nat.not_le.2 hk_.2.2 hn_)⟩)); have n3_ := Aside0.mk (Kd.R_mono (ok' := fun k_ => (w.heap.size ≤ k_) ∧ some k_ ≠ (v223 : Value).ownBlock ∧ some k_ ≠ (v238 : Value).ownBlock ∧ some k_ ≠ (v244 : Value).ownBlock) (Kd.R_keptB (HO230.out) hkp (fun k_ hk_ hs_ => (fun e_ => by simp [Value.ownBlock] at e_) hs_)) (fun k_ hk_ => ⟨hk_.1.1, hk_.1.2.1, hk_.1.2.2, fun e_ => Or.elim (ho0.1 k_ e_.symm) (fun hs_ => hk_.2.1 hs_) (fun hn_ => Nat.not_le.2 hk_.2.2 hn_)⟩)); have n4_ := Aside0.mk (Kd.R_mono (ok' := fun k_ => (w.heap.size ≤ k_) ∧ some k_ ≠ (v223 : Value).ownBlock ∧ some k_ ≠ (v229 : Value).ownBlock ∧ some k_ ≠ (v244 : Value).ownBlock) (Kd.R_keptB (HO239.out) hkp (fun k_ hk_ hs_ => (fun e_ => by simp [Value.ownBlock] at e_) hs_)) (fun k_ hk_ => ⟨hk_.1.1, hk_.1.2.1, hk_.1.2.2, fun e_ => Or.elim (ho0.1 k_ e_.symm) (fun hs_ => hk_.2.1 hs_) (fun hn_ => Nat.not_le.2 hk_.2.2 hn_)⟩)); have n5_ := Aside0.mk (Kd.R_mono (ok' := fun k_ => (w.heap.size ≤ k_) ∧ some k_ ≠ (v223 : Value).ownBlock ∧ some k_ ≠ (v229 : Value).ownBlock ∧ some k_ ≠ (v238 : Value).ownBlock) ho0 (fun k_ hk_ => ⟨Or.elim hk_ (fun hs_ => absurd hs_ (by simp [Value.ownBlock])) (fun hn_ => (Nat.le_trans (below_size (by repeat (first | (with_reducible first | exact HB.out | apply below_alloc | apply pw_below_drewN | apply below_drew1 | refine below_set ?_ GE215.out) | exact HB.out))) hn_)), Or.elim hk_ (fun hs_ => absurd hs_ (by simp [Value.ownBlock])) (fun hn_ => (Kd.fresh' (Kd.R_lt (by (with_reducible repeat (first | apply Kd.R_alloc | apply Kd.R_drewN | apply Kd.R_drew)); exact HO224.out)) k_ hn_)), Or.elim hk_ (fun hs_ => absurd hs_ (by simp [Value.ownBlock])) (fun hn_ => (Kd.fresh' (Kd.R_lt (by (with_reducible repeat (first | apply Kd.R_alloc | apply Kd.R_drewN | apply Kd.R_drew)); exact HO230.out)) k_ hn_)), Or.elim hk_ (fun hs_ => absurd hs_ (by simp [Value.ownBlock])) (fun hn_ => (Kd.fresh' (Kd.R_lt (by (with_reducible repeat (first | apply Kd.R_alloc | apply Kd.R_drewN | apply Kd.R_drew)); exact HO239.out)) k_ hn_))⟩)); have n6_ := Aside0.mk (hb); clear BK215; clear HO218; clear HO224; clear HO230; clear HO239; clear HB; have BK215 := n0_; have HO218 := n1_; have HO224 := n2_; have HO230 := n3_; have HO239 := n4_; have HO245 := n5_; have HB := n6_; clear n0_ n1_ n2_ n3_ n4_ n5_ n6_; (try clear hb); (try clear hkp); (try clear ho0)) | ((with_reducible refine gate_dst (N := 11) rfl ?_); refine Kd.R_lit (Kd.int .i64) _ 3 ?hg (N := 11) ?hd (xs := ([3] : List Int)) (inner := [.int .i64 3]) (ok := fun _ => True) (okp := fun _ => True) ?hr ?hp (fun _ hk => hk) trivial (Below.refl _ _) (Nat.le_refl _) (by simp) ?_; (case hd => rfl); (case hg => rfl); (case hr => first | (go_simp; done) | (go_simp; rfl)); (case hp => exact (Reps.one (show Kd.M (Kd.int .i64) _ _ _ 3 [.int .i64 3] from rfl) (Reps.none _ _))); intro v247 w17 ho18 hb hg_ hnew_; clear hg_ hnew_; (first | rw [← Ny246.out] at ho18 | (simp only [Int.reduceToNat] at ho18; rw [← Ny246.out] at ho18)); have n0_ := Aside0.mk (Kd.R_below (by (with_reducible repeat (first | apply Kd.R_alloc | apply Kd.R_drewN | apply Kd.R_drew)); exact HO218.out) hb); have n1_ := Aside0.mk (Kd.R_elder' (by (with_reducible repeat (first | apply Kd.R_alloc | apply Kd.R_drewN | apply Kd.R_drew)); exact HO224.out) (Kd.R_base ho18) hb); have n2_ := Aside0.mk (Kd.R_elder' (by (with_reducible repeat (first | apply Kd.R_alloc | apply Kd.R_drewN | apply Kd.R_drew)); exact HO230.out) (Kd.R_base ho18) hb); have n3_ := Aside0.mk (Kd.R_elder' (by (with_reducible repeat (first | apply Kd.R_alloc | apply Kd.R_drewN | apply Kd.R_drew)); exact HO239.out) (Kd.R_base ho18) hb); have n4_ := Aside0.mk (Kd.R_elder' (by (with_reducible repeat (first | apply Kd.R_alloc | apply Kd.R_drewN | apply Kd.R_drew)); exact HO245.out) (Kd.R_base ho18) hb); have n5_ := Aside0.mk (Kd.R_lower (Kd.R_new' (Kd.R_new' (Kd.R_new' (Kd.R_new' (Kd.R_newM (M := fun k_ => (w.heap.size ≤ k_)) ho18 (below_size (by repeat (first | (with_reducible first | exact HB.out | apply below_alloc | apply pw_below_drewN | apply below_drew1 | refine below_set ?_ GE215.out) | exact HB.out))) (fun k_ h_ => h_)) (Kd.R_lt (by (with_reducible repeat (first | apply Kd.R_alloc | apply Kd.R_drewN | apply Kd.R_drew)); exact HO224.out))) (Kd.R_lt (by (with_reducible repeat (first | apply Kd.R_alloc | apply Kd.R_drewN | apply Kd.R_drew)); exact HO230.out))) (Kd.R_lt (by (with_reducible repeat (first | apply Kd.R_alloc | apply Kd.R_drewN | apply Kd.R_drew)); exact HO239.out))) (Kd.R_lt (by (with_reducible repeat (first | apply Kd.R_alloc | apply Kd.R_drewN | apply Kd.R_drew)); exact HO245.out))) (below_size (by repeat (first | (with_reducible first | exact HB.out | apply below_alloc | apply pw_below_drewN | apply below_drew1 | refine below_set ?_ GE215.out) | exact HB.out)))); have n6_ := Aside0.mk (blk_below (g := gb215) (o := .cells #[.slice none 0 0, .slice none 0 0] 26 (0, 0)) (by (with_reducible repeat (first | refine blk_drewN ?_ _ | refine blk_drew ?_ | refine blk_alloc ?_ _)); exact BK215.out) hb); have n7_ := Aside0.mk (below_step (by repeat (first | (with_reducible first | exact HB.out | apply below_alloc | apply pw_below_drewN | apply below_drew1 | refine below_set ?_ GE215.out) | exact HB.out)) hb); clear HO218; clear HO224; clear HO230; clear HO239; clear HO245; clear BK215; clear HB; have HO218 := n0_; have HO224 := n1_; have HO230 := n2_; have HO239 := n3_; have HO245 := n4_; have HO248 := n5_; have BK215 := n6_; have HB := n7_; clear n0_ n1_ n2_ n3_ n4_ n5_ n6_ n7_; clear hb ho18; obtain ⟨Ao19, co19, eo19⟩ := Kd.R_slice HO248.out; subst eo19) | ((with_reducible refine gate_callee (f := 70) rfl ?_); refine goesL_ (some 12) rfl rfl Try.func70 (by kernel_rfl) rfl #[.string (⟨#[109, 101, 114, 99, 101, 114]⟩ : ByteArray), .int .i64 2, .slice Ao19 y246.length co19] rfl (by (try simp only [List.map_toArray, List.map_cons, List.map_nil]); first | done | rfl | (simp only [List.length_drop, List.length_take]; rfl)) ?_; (with_reducible refine (wayzgooselaw04_is.calls (⟨#[109, 101, 114, 99, 101, 114]⟩ : ByteArray) 2 (fun k_ => some k_ = (.slice Ao19 y246.length co19 : Value).ownBlock) (.slice Ao19 y246.length co19) y246 t249 t250 t251 t252 w _ ?side1 ?side2 A5.out).mono ?_); (case side1 => repeat (first | (with_reducible first | exact HB.out | apply below_alloc | apply pw_below_drewN | apply below_drew1 | refine below_set ?_ GE215.out) | exact HB.out)); (case side2 => exact Kd.R_tight rfl HO248.out); rintro e w20 ⟨v253, rfl, ho0, hb, hkp⟩; refine ⟨_, rfl, ?_⟩; have n0_ := Aside0.mk (blk_kept (by (with_reducible repeat (first | refine blk_drewN ?_ _ | refine blk_drew ?_ | refine blk_alloc ?_ _)); exact BK215.out) hkp (fun hs_ => (fun e_ => (Kd.R_ne HO248.out BK215.out (by decide)) e_) hs_)); have n1_ := Aside0.mk (Kd.R_mono (ok' := fun k_ => (w.heap.size ≤ k_)) (Kd.R_keptB ((Kd.R_apart' HO218.out (Kd.R_typed HO248.out) (by decide))) hkp (fun k_ hk_ hs_ => (hk_.2) hs_)) (fun k_ hk_ => hk_.1.1)); have n2_ := Aside0.mk (Kd.R_mono (ok' := fun k_ => (w.heap.size ≤ k_) ∧ some k_ ≠ (v229 : Value).ownBlock ∧ some k_ ≠ (v238 : Value).ownBlock ∧ some k_ ≠ (v244 : Value).ownBlock ∧ some k_ ≠ (v253 : Value).ownBlock) (Kd.R_keptB (HO224.out) hkp (fun k_ hk_ hs_ => (hk_.2) hs_)) (fun k_ hk_ => ⟨hk_.1.1.1, hk_.1.1.2.1, hk_.1.1.2.2.1, hk_.1.1.2.2.2, fun e_ => Or.elim (ho0.1 k_ e_.symm) (fun hs_ => hk_.2.1 hs_) (fun hn_ => Nat.not_le.2 hk_.2.2 hn_)⟩)); have n3_ := Aside0.mk (Kd.R_mono (ok' := fun k_ => (w.heap.size ≤ k_) ∧ some k_ ≠ (v223 : Value).ownBlock ∧ some k_ ≠ (v238 : Value).ownBlock ∧ some k_ ≠ (v244 : Value).ownBlock ∧ some k_ ≠ (v253 : Value).ownBlock) (Kd.R_keptB (HO230.out) hkp (fun k_ hk_ hs_ => (hk_.2) hs_)) (fun k_ hk_ => ⟨hk_.1.1.1, hk_.1.1.2.1, hk_.1.1.2.2.1, hk_.1.1.2.2.2, fun e_ => Or.elim (ho0.1 k_ e_.symm) (fun hs_ => hk_.2.1 hs_) (fun hn_ => Nat.not_le.2 hk_.2.2 hn_)⟩)); have n4_ := Aside0.mk (Kd.R_mono (ok' := fun k_ => (w.heap.size ≤ k_) ∧ some k_ ≠ (v223 : Value).ownBlock ∧ some k_ ≠ (v229 : Value).ownBlock ∧ some k_ ≠ (v244 : Value).ownBlock ∧ some k_ ≠ (v253 : Value).ownBlock) (Kd.R_keptB (HO239.out) hkp (fun k_ hk_ hs_ => (hk_.2) hs_)) (fun k_ hk_ => ⟨hk_.1.1.1, hk_.1.1.2.1, hk_.1.1.2.2.1, hk_.1.1.2.2.2, fun e_ => Or.elim (ho0.1 k_ e_.symm) (fun hs_ => hk_.2.1 hs_) (fun hn_ => Nat.not_le.2 hk_.2.2 hn_)⟩)); have n5_ := Aside0.mk (Kd.R_mono (ok' := fun k_ => (w.heap.size ≤ k_) ∧ some k_ ≠ (v223 : Value).ownBlock ∧ some k_ ≠ (v229 : Value).ownBlock ∧ some k_ ≠ (v238 : Value).ownBlock ∧ some k_ ≠ (v253 : Value).ownBlock) (Kd.R_keptB (HO245.out) hkp (fun k_ hk_ hs_ => (hk_.2) hs_)) (fun k_ hk_ => ⟨hk_.1.1.1, hk_.1.1.2.1, hk_.1.1.2.2.1, hk_.1.1.2.2.2, fun e_ => Or.elim (ho0.1 k_ e_.symm) (fun hs_ => hk_.2.1 hs_) (fun hn_ => Nat.not_le.2 hk_.2.2 hn_)⟩)); have n6_ := Aside0.mk (Kd.R_mono (ok' := fun k_ => (w.heap.size ≤ k_) ∧ some k_ ≠ (v223 : Value).ownBlock ∧ some k_ ≠ (v229 : Value).ownBlock ∧ some k_ ≠ (v238 : Value).ownBlock ∧ some k_ ≠ (v244 : Value).ownBlock) ho0 (fun k_ hk_ => ⟨Or.elim hk_ (fun hs_ => (HO248.out.1 k_ (hs_).symm).1.1.1.1.1) (fun hn_ => (Nat.le_trans (below_size (by repeat (first | (with_reducible first | exact HB.out | apply below_alloc | apply pw_below_drewN | apply below_drew1 | refine below_set ?_ GE215.out) | exact HB.out))) hn_)), Or.elim hk_ (fun hs_ => fun e_ => (((HO224.out).1 k_ e_.symm).2) hs_) (fun hn_ => (Kd.fresh' (Kd.R_lt (by (with_reducible repeat (first | apply Kd.R_alloc | apply Kd.R_drewN | apply Kd.R_drew)); exact HO224.out)) k_ hn_)), Or.elim hk_ (fun hs_ => fun e_ => (((HO230.out).1 k_ e_.symm).2) hs_) (fun hn_ => (Kd.fresh' (Kd.R_lt (by (with_reducible repeat (first | apply Kd.R_alloc | apply Kd.R_drewN | apply Kd.R_drew)); exact HO230.out)) k_ hn_)), Or.elim hk_ (fun hs_ => fun e_ => (((HO239.out).1 k_ e_.symm).2) hs_) (fun hn_ => (Kd.fresh' (Kd.R_lt (by (with_reducible repeat (first | apply Kd.R_alloc | apply Kd.R_drewN | apply Kd.R_drew)); exact HO239.out)) k_ hn_)), Or.elim hk_ (fun hs_ => fun e_ => (((HO245.out).1 k_ e_.symm).2) hs_) (fun hn_ => (Kd.fresh' (Kd.R_lt (by (with_reducible repeat (first | apply Kd.R_alloc | apply Kd.R_drewN | apply Kd.R_drew)); exact HO245.out)) k_ hn_))⟩)); have n7_ := Aside0.mk (hb); clear BK215; clear HO218; clear HO224; clear HO230; clear HO239; clear HO245; clear HB; clear HO248; have BK215 := n0_; have HO218 := n1_; have HO224 := n2_; have HO230 := n3_; have HO239 := n4_; have HO245 := n5_; have HO254 := n6_; have HB := n7_; clear n0_ n1_ n2_ n3_ n4_ n5_ n6_ n7_; (try clear hb); (try clear hkp); (try clear ho0)) | ((with_reducible refine gate_callee (f := 71) rfl ?_); refine goesL_ (some 13) rfl rfl Try.func71 (by kernel_rfl) rfl #[.string (⟨#[109, 105, 108, 108, 105, 110, 101, 114]⟩ : ByteArray), .int .i64 1] rfl (by (try simp only [List.map_toArray, List.map_cons, List.map_nil]); first | done | rfl | (simp only [List.length_drop, List.length_take]; rfl)) ?_; (with_reducible refine (wayzgooselaw04_see.calls (⟨#[109, 105, 108, 108, 105, 110, 101, 114]⟩ : ByteArray) 1 t255 t256 t257 t258 _ A6.out).mono ?_); rintro e w21 ⟨v259, rfl, ho0, hb⟩; refine ⟨_, rfl, ?_⟩; have n0_ := Aside0.mk (Kd.R_below (by (with_reducible repeat (first | apply Kd.R_alloc | apply Kd.R_drewN | apply Kd.R_drew)); exact HO218.out) hb); have n1_ := Aside0.mk (Kd.R_elder' (by (with_reducible repeat (first | apply Kd.R_alloc | apply Kd.R_drewN | apply Kd.R_drew)); exact HO224.out) (Kd.R_base ho0) hb); have n2_ := Aside0.mk (Kd.R_elder' (by (with_reducible repeat (first | apply Kd.R_alloc | apply Kd.R_drewN | apply Kd.R_drew)); exact HO230.out) (Kd.R_base ho0) hb); have n3_ := Aside0.mk (Kd.R_elder' (by (with_reducible repeat (first | apply Kd.R_alloc | apply Kd.R_drewN | apply Kd.R_drew)); exact HO239.out) (Kd.R_base ho0) hb); have n4_ := Aside0.mk (Kd.R_elder' (by (with_reducible repeat (first | apply Kd.R_alloc | apply Kd.R_drewN | apply Kd.R_drew)); exact HO245.out) (Kd.R_base ho0) hb); have n5_ := Aside0.mk (Kd.R_elder' (by (with_reducible repeat (first | apply Kd.R_alloc | apply Kd.R_drewN | apply Kd.R_drew)); exact HO254.out) (Kd.R_base ho0) hb); have n6_ := Aside0.mk (Kd.R_lower (Kd.R_new' (Kd.R_new' (Kd.R_new' (Kd.R_new' (Kd.R_new' (Kd.R_newM (M := fun k_ => (w.heap.size ≤ k_)) ho0 (below_size (by repeat (first | (with_reducible first | exact HB.out | apply below_alloc | apply pw_below_drewN | apply below_drew1 | refine below_set ?_ GE215.out) | exact HB.out))) (fun k_ h_ => h_)) (Kd.R_lt (by (with_reducible repeat (first | apply Kd.R_alloc | apply Kd.R_drewN | apply Kd.R_drew)); exact HO224.out))) (Kd.R_lt (by (with_reducible repeat (first | apply Kd.R_alloc | apply Kd.R_drewN | apply Kd.R_drew)); exact HO230.out))) (Kd.R_lt (by (with_reducible repeat (first | apply Kd.R_alloc | apply Kd.R_drewN | apply Kd.R_drew)); exact HO239.out))) (Kd.R_lt (by (with_reducible repeat (first | apply Kd.R_alloc | apply Kd.R_drewN | apply Kd.R_drew)); exact HO245.out))) (Kd.R_lt (by (with_reducible repeat (first | apply Kd.R_alloc | apply Kd.R_drewN | apply Kd.R_drew)); exact HO254.out))) (below_size (by repeat (first | (with_reducible first | exact HB.out | apply below_alloc | apply pw_below_drewN | apply below_drew1 | refine below_set ?_ GE215.out) | exact HB.out)))); have n7_ := Aside0.mk (blk_below (g := gb215) (o := .cells #[.slice none 0 0, .slice none 0 0] 26 (0, 0)) (by (with_reducible repeat (first | refine blk_drewN ?_ _ | refine blk_drew ?_ | refine blk_alloc ?_ _)); exact BK215.out) hb); have n8_ := Aside0.mk (below_step (by repeat (first | (with_reducible first | exact HB.out | apply below_alloc | apply pw_below_drewN | apply below_drew1 | refine below_set ?_ GE215.out) | exact HB.out)) hb); clear HO218; clear HO224; clear HO230; clear HO239; clear HO245; clear HO254; clear BK215; clear HB; have HO218 := n0_; have HO224 := n1_; have HO230 := n2_; have HO239 := n3_; have HO245 := n4_; have HO254 := n5_; have HO260 := n6_; have BK215 := n7_; have HB := n8_; clear n0_ n1_ n2_ n3_ n4_ n5_ n6_ n7_ n8_; (try clear hb); (try clear hb2); (try clear hk); (try clear hi); (try clear ho0); obtain ⟨Ao22, co22, eo22⟩ := Kd.R_slice HO224.out; subst eo22; obtain ⟨Ao23, co23, eo23⟩ := Kd.R_slice HO230.out; subst eo23; obtain ⟨Ao24, co24, eo24⟩ := Kd.R_slice HO239.out; subst eo24; obtain ⟨Ao25, co25, eo25⟩ := Kd.R_slice HO245.out; subst eo25; obtain ⟨Ao26, co26, eo26⟩ := Kd.R_slice HO254.out; subst eo26; obtain ⟨Ao27, co27, eo27⟩ := Kd.R_slice HO260.out; subst eo27) | ((with_reducible refine gate_dst (N := 14) rfl ?_); refine Kd.N_lit k39 _ 39 ?hg (N' := 14) ?hd (xs := ([(⟨t219, t220, t221, t222⟩ : S39), (⟨t225, t226, t227, t228⟩ : S39), (⟨t234, t235, t236, t237⟩ : S39), (⟨t240, t241, t242, t243⟩ : S39), (⟨t249, t250, t251, t252⟩ : S39), (⟨t255, t256, t257, t258⟩ : S39)] : List (S39))) (inner := [.string t219, .int .i64 t220, .int .i64 t221, .slice Ao22 t222.length co22, .string t225, .int .i64 t226, .int .i64 t227, .slice Ao23 t228.length co23, .string t234, .int .i64 t235, .int .i64 t236, .slice Ao24 t237.length co24, .string t240, .int .i64 t241, .int .i64 t242, .slice Ao25 t243.length co25, .string t249, .int .i64 t250, .int .i64 t251, .slice Ao26 t252.length co26, .string t255, .int .i64 t256, .int .i64 t257, .slice Ao27 t258.length co27]) (ok := (fun k_ => (w.heap.size ≤ k_) ∧ some k_ ≠ (v217 : Value).ownBlock ∧ k_ ≠ gb215)) (okp := (fun k_ => (w.heap.size ≤ k_) ∧ some k_ ≠ (v217 : Value).ownBlock ∧ k_ ≠ gb215)) ?hr ?hp (fun _ hk => hk) ((show ∀ k_, w21.heap.size ≤ k_ → (fun k_ => (w.heap.size ≤ k_) ∧ some k_ ≠ (v217 : Value).ownBlock ∧ k_ ≠ gb215) k_ from fun k_ hk => ⟨(Nat.le_trans (below_size (by repeat (first | (with_reducible first | exact HB.out | apply below_alloc | apply pw_below_drewN | apply below_drew1 | refine below_set ?_ GE215.out) | exact HB.out))) hk), Kd.fresh' (Kd.R_lt (by (with_reducible repeat (first | apply Kd.R_alloc | apply Kd.R_drewN | apply Kd.R_drew)); exact HO218.out)) k_ hk, Kd.freshB (g := gb215) (o := .cells #[.slice none 0 0, .slice none 0 0] 26 (0, 0)) (by (with_reducible repeat (first | refine blk_drewN ?_ _ | refine blk_drew ?_ | refine blk_alloc ?_ _)); exact BK215.out) k_ hk⟩) _ (Nat.le_refl _)) (Below.refl _ _) (Nat.le_refl _) (by simp) ?_; (case hd => rfl); (case hg => rfl); (case hr => first | (go_simp; done) | (go_simp; rfl)); (case hp => exact (Reps.c4 (show Kd.FK k39 _ _ (⟨t219, t220, t221, t222⟩ : S39) [.string t219, .int .i64 t220, .int .i64 t221, .slice Ao22 t222.length co22] from (k39_mkF _ _ (⟨t219, t220, t221, t222⟩ : S39) (Kd.R_reads' (Kd.R_mono (ok' := (fun k_ => (w.heap.size ≤ k_) ∧ some k_ ≠ (v217 : Value).ownBlock ∧ k_ ≠ gb215)) (Kd.R_types (Kd.R_apart' (HO224.out) (Kd.R_typed HO218.out) (by decide)) BK215.out (by decide)) (fun k_ hk => ⟨hk.1.1.1.1, ⟨hk.1.2, hk.2⟩⟩))).2.1 (Kd.R_F (Kd.R_mono (ok' := (fun k_ => (w.heap.size ≤ k_) ∧ some k_ ≠ (v217 : Value).ownBlock ∧ k_ ≠ gb215)) (Kd.R_types (Kd.R_apart' (HO224.out) (Kd.R_typed HO218.out) (by decide)) BK215.out (by decide)) (fun k_ hk => ⟨hk.1.1.1.1, ⟨hk.1.2, hk.2⟩⟩))))) (Reps.c4 (show Kd.FK k39 _ _ (⟨t225, t226, t227, t228⟩ : S39) [.string t225, .int .i64 t226, .int .i64 t227, .slice Ao23 t228.length co23] from (k39_mkF _ _ (⟨t225, t226, t227, t228⟩ : S39) (Kd.R_reads' (Kd.R_mono (ok' := (fun k_ => (w.heap.size ≤ k_) ∧ some k_ ≠ (v217 : Value).ownBlock ∧ k_ ≠ gb215)) (Kd.R_types (Kd.R_apart' (HO230.out) (Kd.R_typed HO218.out) (by decide)) BK215.out (by decide)) (fun k_ hk => ⟨hk.1.1.1.1, ⟨hk.1.2, hk.2⟩⟩))).2.1 (Kd.R_F (Kd.R_mono (ok' := (fun k_ => (w.heap.size ≤ k_) ∧ some k_ ≠ (v217 : Value).ownBlock ∧ k_ ≠ gb215)) (Kd.R_types (Kd.R_apart' (HO230.out) (Kd.R_typed HO218.out) (by decide)) BK215.out (by decide)) (fun k_ hk => ⟨hk.1.1.1.1, ⟨hk.1.2, hk.2⟩⟩))))) (Reps.c4 (show Kd.FK k39 _ _ (⟨t234, t235, t236, t237⟩ : S39) [.string t234, .int .i64 t235, .int .i64 t236, .slice Ao24 t237.length co24] from (k39_mkF _ _ (⟨t234, t235, t236, t237⟩ : S39) (Kd.R_reads' (Kd.R_mono (ok' := (fun k_ => (w.heap.size ≤ k_) ∧ some k_ ≠ (v217 : Value).ownBlock ∧ k_ ≠ gb215)) (Kd.R_types (Kd.R_apart' (HO239.out) (Kd.R_typed HO218.out) (by decide)) BK215.out (by decide)) (fun k_ hk => ⟨hk.1.1.1.1, ⟨hk.1.2, hk.2⟩⟩))).2.1 (Kd.R_F (Kd.R_mono (ok' := (fun k_ => (w.heap.size ≤ k_) ∧ some k_ ≠ (v217 : Value).ownBlock ∧ k_ ≠ gb215)) (Kd.R_types (Kd.R_apart' (HO239.out) (Kd.R_typed HO218.out) (by decide)) BK215.out (by decide)) (fun k_ hk => ⟨hk.1.1.1.1, ⟨hk.1.2, hk.2⟩⟩))))) (Reps.c4 (show Kd.FK k39 _ _ (⟨t240, t241, t242, t243⟩ : S39) [.string t240, .int .i64 t241, .int .i64 t242, .slice Ao25 t243.length co25] from (k39_mkF _ _ (⟨t240, t241, t242, t243⟩ : S39) (Kd.R_reads' (Kd.R_mono (ok' := (fun k_ => (w.heap.size ≤ k_) ∧ some k_ ≠ (v217 : Value).ownBlock ∧ k_ ≠ gb215)) (Kd.R_types (Kd.R_apart' (HO245.out) (Kd.R_typed HO218.out) (by decide)) BK215.out (by decide)) (fun k_ hk => ⟨hk.1.1.1.1, ⟨hk.1.2, hk.2⟩⟩))).2.1 (Kd.R_F (Kd.R_mono (ok' := (fun k_ => (w.heap.size ≤ k_) ∧ some k_ ≠ (v217 : Value).ownBlock ∧ k_ ≠ gb215)) (Kd.R_types (Kd.R_apart' (HO245.out) (Kd.R_typed HO218.out) (by decide)) BK215.out (by decide)) (fun k_ hk => ⟨hk.1.1.1.1, ⟨hk.1.2, hk.2⟩⟩))))) (Reps.c4 (show Kd.FK k39 _ _ (⟨t249, t250, t251, t252⟩ : S39) [.string t249, .int .i64 t250, .int .i64 t251, .slice Ao26 t252.length co26] from (k39_mkF _ _ (⟨t249, t250, t251, t252⟩ : S39) (Kd.R_reads' (Kd.R_mono (ok' := (fun k_ => (w.heap.size ≤ k_) ∧ some k_ ≠ (v217 : Value).ownBlock ∧ k_ ≠ gb215)) (Kd.R_types (Kd.R_apart' (HO254.out) (Kd.R_typed HO218.out) (by decide)) BK215.out (by decide)) (fun k_ hk => ⟨hk.1.1.1.1, ⟨hk.1.2, hk.2⟩⟩))).2.1 (Kd.R_F (Kd.R_mono (ok' := (fun k_ => (w.heap.size ≤ k_) ∧ some k_ ≠ (v217 : Value).ownBlock ∧ k_ ≠ gb215)) (Kd.R_types (Kd.R_apart' (HO254.out) (Kd.R_typed HO218.out) (by decide)) BK215.out (by decide)) (fun k_ hk => ⟨hk.1.1.1.1, ⟨hk.1.2, hk.2⟩⟩))))) (Reps.c4 (show Kd.FK k39 _ _ (⟨t255, t256, t257, t258⟩ : S39) [.string t255, .int .i64 t256, .int .i64 t257, .slice Ao27 t258.length co27] from (k39_mkF _ _ (⟨t255, t256, t257, t258⟩ : S39) (Kd.R_reads' (Kd.R_mono (ok' := (fun k_ => (w.heap.size ≤ k_) ∧ some k_ ≠ (v217 : Value).ownBlock ∧ k_ ≠ gb215)) (Kd.R_types (Kd.R_apart' (HO260.out) (Kd.R_typed HO218.out) (by decide)) BK215.out (by decide)) (fun k_ hk => ⟨hk.1.1.1.1.1.1.1.1, ⟨hk.1.2, hk.2⟩⟩))).2.1 (Kd.R_F (Kd.R_mono (ok' := (fun k_ => (w.heap.size ≤ k_) ∧ some k_ ≠ (v217 : Value).ownBlock ∧ k_ ≠ gb215)) (Kd.R_types (Kd.R_apart' (HO260.out) (Kd.R_typed HO218.out) (by decide)) BK215.out (by decide)) (fun k_ hk => ⟨hk.1.1.1.1.1.1.1.1, ⟨hk.1.2, hk.2⟩⟩))))) (Reps.none _ _)))))))); intro v262 w28 ho29 hb hg_ hnew_; clear hg_ hnew_; (first | rw [← Ny261.out] at ho29 | (simp only [Int.reduceToNat] at ho29; rw [← Ny261.out] at ho29)); have n0_ := Aside0.mk (Kd.R_below (by (with_reducible repeat (first | apply Kd.R_alloc | apply Kd.R_drewN | apply Kd.R_drew)); exact HO218.out) hb); have n1_ := Aside0.mk (Kd.N_lower ho29 (below_size (by repeat (first | (with_reducible first | exact HB.out | apply below_alloc | apply pw_below_drewN | apply below_drew1 | refine below_set ?_ GE215.out) | exact HB.out)))); have n2_ := Aside0.mk (blk_below (g := gb215) (o := .cells #[.slice none 0 0, .slice none 0 0] 26 (0, 0)) (by (with_reducible repeat (first | refine blk_drewN ?_ _ | refine blk_drew ?_ | refine blk_alloc ?_ _)); exact BK215.out) hb); have n3_ := Aside0.mk (below_step (by repeat (first | (with_reducible first | exact HB.out | apply below_alloc | apply pw_below_drewN | apply below_drew1 | refine below_set ?_ GE215.out) | exact HB.out)) hb); clear HO218; clear BK215; clear HB; clear HO224; clear HO230; clear HO239; clear HO245; clear HO254; clear HO260; have HO218 := n0_; have HO263 := n1_; have BK215 := n2_; have HB := n3_; clear n0_ n1_ n2_ n3_; clear hb ho29; obtain ⟨Ao30, co30, eo30⟩ := Kd.N_slice HO263.out; subst eo30; obtain ⟨Ao31, co31, eo31⟩ := Kd.R_slice HO218.out; subst eo31; have hcz32_0 : w28.cell? ⟨gb215, 0, none⟩ = some (.slice none 0 0) := (blk_cell BK215.out 0).trans rfl; have hcz32_1 : w28.cell? ⟨gb215, 1, none⟩ = some (.slice none 0 0) := (blk_cell BK215.out 1).trans rfl; have hfz32_0 := blk_frozen BK215.out 0; have hfz32_1 := blk_frozen BK215.out 1))
  refine bodyPost_ret (results_cell_row rfl _ _ gb215 26 #[.slice Ao31 y216.length co31, .slice Ao30 y261.length co30] (0, 0) _ rfl (by (with_reducible repeat (first | refine blk_drewN ?_ _ | refine blk_drew ?_ | refine blk_alloc ?_ _)); refine blk_put (cs := #[.slice Ao31 y216.length co31, .slice none 0 0]) ?_ 1 _ rfl; (with_reducible repeat (first | refine blk_drewN ?_ _ | refine blk_drew ?_ | refine blk_alloc ?_ _)); refine blk_put (cs := #[.slice none 0 0, .slice none 0 0]) ?_ 0 _ rfl; (with_reducible repeat (first | refine blk_drewN ?_ _ | refine blk_drew ?_ | refine blk_alloc ?_ _)); exact BK215.out) Try.underlying26 rfl (by kernel_rfl)) rfl ?_
  exact ⟨_, _, by first | rfl | (simp [errW_none, errW_some] <;> rfl) | (simp [*, errW_none, errW_some] <;> rfl), by (with_reducible repeat (first | apply Kd.R_alloc | apply Kd.R_drewN | apply Kd.R_drew)); exact Kd.R_mono (Kd.R_far (p := ⟨gb215, 1, none⟩) (Kd.R_far (p := ⟨gb215, 0, none⟩) (Kd.R_types HO218.out BK215.out (by decide)) (fun _ hk => hk.2) (.slice Ao31 y216.length co31)) (fun _ hk => hk.2) (.slice Ao30 y261.length co30)) (fun _ hk => hk.1), by (with_reducible repeat (first | apply Kd.N_alloc | apply Kd.N_drewN | apply Kd.N_drew)); exact Kd.N_mono (Kd.N_far (p := ⟨gb215, 1, none⟩) (Kd.N_far (p := ⟨gb215, 0, none⟩) (Kd.N_mono HO263.out (fun k_ hk => (⟨hk, hk.2.2⟩ : _ ∧ k_ ≠ gb215))) (fun _ hk => hk.2) (.slice Ao31 y216.length co31)) (fun _ hk => hk.2) (.slice Ao30 y261.length co30)) (fun _ hk => ⟨hk.1.1, hk.1.2.1⟩), by repeat (first | (with_reducible first | exact HB.out | apply below_alloc | apply pw_below_drewN | apply below_drew1 | refine below_set ?_ GE215.out) | exact HB.out)⟩

/-! ### wayzgooselaw04_later: function 47 -/
def wayzgooselaw04_later.f  : Option ((List (S51)) × (List (S39))) := (wayzgooselaw04_shops.f).bind fun bt265 => ((wayzgooselaw04_is.f (⟨#[98, 97, 107, 101, 114]⟩ : ByteArray) 1 ([] : List Int)).bind fun bt272 => ((wayzgooselaw04_see.f (⟨#[98, 111, 110, 110, 101, 116, 115]⟩ : ByteArray) 2).bind fun bt278 => ((wayzgooselaw04_is.f (⟨#[104, 97, 116, 116, 101, 114]⟩ : ByteArray) 2 ([] : List Int)).bind fun bt284 => ((wayzgooselaw04_is.f (⟨#[105, 114, 111, 110, 109, 111, 110, 103, 101, 114]⟩ : ByteArray) 0 ([] : List Int)).bind fun bt290 => ((wayzgooselaw04_is.f (⟨#[109, 101, 114, 99, 101, 114]⟩ : ByteArray) 2 (([2] : List Int))).bind fun bt299 => ((wayzgooselaw04_see.f (⟨#[109, 105, 108, 108, 105, 110, 101, 114]⟩ : ByteArray) 1).bind fun bt305 => (some (bt265.1, (([(⟨bt272.1, bt272.2.1, bt272.2.2.1, bt272.2.2.2⟩ : S39), (⟨bt278.1, bt278.2.1, bt278.2.2.1, bt278.2.2.2⟩ : S39), (⟨bt284.1, bt284.2.1, bt284.2.2.1, bt284.2.2.2⟩ : S39), (⟨bt290.1, bt290.2.1, bt290.2.2.1, bt290.2.2.2⟩ : S39), (⟨bt299.1, bt299.2.1, bt299.2.2.1, bt299.2.2.2⟩ : S39), (⟨bt305.1, bt305.2.1, bt305.2.2.1, bt305.2.2.2⟩ : S39)] : List (S39)))))))))))
set_option maxHeartbeats 8000000 in
set_option maxRecDepth 100000 in
theorem wayzgooselaw04_later.calls  (r1 : List (S51)) (r2 : List (S39)) (w : World) (h : wayzgooselaw04_later.f  = some (r1, r2)) :
    Calls Try.prog 47 #[] w fun e w' => ∃ v0_ v1_ : Value, e = .returned (.agg #[v0_, v1_]) ∧ Kd.R k51 51 w' w.heap.size (fun k_ => (w.heap.size ≤ k_)) v0_ r1 ∧ Kd.N k39 39 w' w.heap.size (fun k_ => (w.heap.size ≤ k_) ∧ some k_ ≠ (v0_ : Value).ownBlock) v1_ r2 ∧ Below w.heap.size w w' := by
  have hu26 := Try.underlying26
  have HB := Aside0.mk (Below.refl w.heap.size w)
  have H : ((wayzgooselaw04_shops.f).bind fun bt265 => ((wayzgooselaw04_is.f (⟨#[98, 97, 107, 101, 114]⟩ : ByteArray) 1 ([] : List Int)).bind fun bt272 => ((wayzgooselaw04_see.f (⟨#[98, 111, 110, 110, 101, 116, 115]⟩ : ByteArray) 2).bind fun bt278 => ((wayzgooselaw04_is.f (⟨#[104, 97, 116, 116, 101, 114]⟩ : ByteArray) 2 ([] : List Int)).bind fun bt284 => ((wayzgooselaw04_is.f (⟨#[105, 114, 111, 110, 109, 111, 110, 103, 101, 114]⟩ : ByteArray) 0 ([] : List Int)).bind fun bt290 => ((wayzgooselaw04_is.f (⟨#[109, 101, 114, 99, 101, 114]⟩ : ByteArray) 2 (([2] : List Int))).bind fun bt299 => ((wayzgooselaw04_see.f (⟨#[109, 105, 108, 108, 105, 110, 101, 114]⟩ : ByteArray) 1).bind fun bt305 => (some (bt265.1, (([(⟨bt272.1, bt272.2.1, bt272.2.2.1, bt272.2.2.2⟩ : S39), (⟨bt278.1, bt278.2.1, bt278.2.2.1, bt278.2.2.2⟩ : S39), (⟨bt284.1, bt284.2.1, bt284.2.2.1, bt284.2.2.2⟩ : S39), (⟨bt290.1, bt290.2.1, bt290.2.2.1, bt290.2.2.2⟩ : S39), (⟨bt299.1, bt299.2.1, bt299.2.2.1, bt299.2.2.2⟩ : S39), (⟨bt305.1, bt305.2.1, bt305.2.2.1, bt305.2.2.2⟩ : S39)] : List (S39)))))))))))) = some (r1, r2) := h
  clear h
  replace H := Option.bind_eq_some_iff.mp H
  obtain ⟨⟨t265, t268⟩, A10, H⟩ := H
  replace H : ((wayzgooselaw04_is.f (⟨#[98, 97, 107, 101, 114]⟩ : ByteArray) 1 ([] : List Int)).bind fun bt272 => ((wayzgooselaw04_see.f (⟨#[98, 111, 110, 110, 101, 116, 115]⟩ : ByteArray) 2).bind fun bt278 => ((wayzgooselaw04_is.f (⟨#[104, 97, 116, 116, 101, 114]⟩ : ByteArray) 2 ([] : List Int)).bind fun bt284 => ((wayzgooselaw04_is.f (⟨#[105, 114, 111, 110, 109, 111, 110, 103, 101, 114]⟩ : ByteArray) 0 ([] : List Int)).bind fun bt290 => ((wayzgooselaw04_is.f (⟨#[109, 101, 114, 99, 101, 114]⟩ : ByteArray) 2 (([2] : List Int))).bind fun bt299 => ((wayzgooselaw04_see.f (⟨#[109, 105, 108, 108, 105, 110, 101, 114]⟩ : ByteArray) 1).bind fun bt305 => (some (t265, (([(⟨bt272.1, bt272.2.1, bt272.2.2.1, bt272.2.2.2⟩ : S39), (⟨bt278.1, bt278.2.1, bt278.2.2.1, bt278.2.2.2⟩ : S39), (⟨bt284.1, bt284.2.1, bt284.2.2.1, bt284.2.2.2⟩ : S39), (⟨bt290.1, bt290.2.1, bt290.2.2.1, bt290.2.2.2⟩ : S39), (⟨bt299.1, bt299.2.1, bt299.2.2.1, bt299.2.2.2⟩ : S39), (⟨bt305.1, bt305.2.1, bt305.2.2.1, bt305.2.2.2⟩ : S39)] : List (S39))))))))))) = some (r1, r2) := H
  have A1 := Aside0.mk A10
  clear A10
  replace H := Option.bind_eq_some_iff.mp H
  obtain ⟨⟨t272, t273, t274, t275⟩, A20, H⟩ := H
  replace H : ((wayzgooselaw04_see.f (⟨#[98, 111, 110, 110, 101, 116, 115]⟩ : ByteArray) 2).bind fun bt278 => ((wayzgooselaw04_is.f (⟨#[104, 97, 116, 116, 101, 114]⟩ : ByteArray) 2 ([] : List Int)).bind fun bt284 => ((wayzgooselaw04_is.f (⟨#[105, 114, 111, 110, 109, 111, 110, 103, 101, 114]⟩ : ByteArray) 0 ([] : List Int)).bind fun bt290 => ((wayzgooselaw04_is.f (⟨#[109, 101, 114, 99, 101, 114]⟩ : ByteArray) 2 (([2] : List Int))).bind fun bt299 => ((wayzgooselaw04_see.f (⟨#[109, 105, 108, 108, 105, 110, 101, 114]⟩ : ByteArray) 1).bind fun bt305 => (some (t265, (([(⟨t272, t273, t274, t275⟩ : S39), (⟨bt278.1, bt278.2.1, bt278.2.2.1, bt278.2.2.2⟩ : S39), (⟨bt284.1, bt284.2.1, bt284.2.2.1, bt284.2.2.2⟩ : S39), (⟨bt290.1, bt290.2.1, bt290.2.2.1, bt290.2.2.2⟩ : S39), (⟨bt299.1, bt299.2.1, bt299.2.2.1, bt299.2.2.2⟩ : S39), (⟨bt305.1, bt305.2.1, bt305.2.2.1, bt305.2.2.2⟩ : S39)] : List (S39)))))))))) = some (r1, r2) := H
  have A2 := Aside0.mk A20
  clear A20
  replace H := Option.bind_eq_some_iff.mp H
  obtain ⟨⟨t278, t279, t280, t281⟩, A30, H⟩ := H
  replace H : ((wayzgooselaw04_is.f (⟨#[104, 97, 116, 116, 101, 114]⟩ : ByteArray) 2 ([] : List Int)).bind fun bt284 => ((wayzgooselaw04_is.f (⟨#[105, 114, 111, 110, 109, 111, 110, 103, 101, 114]⟩ : ByteArray) 0 ([] : List Int)).bind fun bt290 => ((wayzgooselaw04_is.f (⟨#[109, 101, 114, 99, 101, 114]⟩ : ByteArray) 2 (([2] : List Int))).bind fun bt299 => ((wayzgooselaw04_see.f (⟨#[109, 105, 108, 108, 105, 110, 101, 114]⟩ : ByteArray) 1).bind fun bt305 => (some (t265, (([(⟨t272, t273, t274, t275⟩ : S39), (⟨t278, t279, t280, t281⟩ : S39), (⟨bt284.1, bt284.2.1, bt284.2.2.1, bt284.2.2.2⟩ : S39), (⟨bt290.1, bt290.2.1, bt290.2.2.1, bt290.2.2.2⟩ : S39), (⟨bt299.1, bt299.2.1, bt299.2.2.1, bt299.2.2.2⟩ : S39), (⟨bt305.1, bt305.2.1, bt305.2.2.1, bt305.2.2.2⟩ : S39)] : List (S39))))))))) = some (r1, r2) := H
  have A3 := Aside0.mk A30
  clear A30
  replace H := Option.bind_eq_some_iff.mp H
  obtain ⟨⟨t284, t285, t286, t287⟩, A40, H⟩ := H
  replace H : ((wayzgooselaw04_is.f (⟨#[105, 114, 111, 110, 109, 111, 110, 103, 101, 114]⟩ : ByteArray) 0 ([] : List Int)).bind fun bt290 => ((wayzgooselaw04_is.f (⟨#[109, 101, 114, 99, 101, 114]⟩ : ByteArray) 2 (([2] : List Int))).bind fun bt299 => ((wayzgooselaw04_see.f (⟨#[109, 105, 108, 108, 105, 110, 101, 114]⟩ : ByteArray) 1).bind fun bt305 => (some (t265, (([(⟨t272, t273, t274, t275⟩ : S39), (⟨t278, t279, t280, t281⟩ : S39), (⟨t284, t285, t286, t287⟩ : S39), (⟨bt290.1, bt290.2.1, bt290.2.2.1, bt290.2.2.2⟩ : S39), (⟨bt299.1, bt299.2.1, bt299.2.2.1, bt299.2.2.2⟩ : S39), (⟨bt305.1, bt305.2.1, bt305.2.2.1, bt305.2.2.2⟩ : S39)] : List (S39)))))))) = some (r1, r2) := H
  have A4 := Aside0.mk A40
  clear A40
  replace H := Option.bind_eq_some_iff.mp H
  obtain ⟨⟨t290, t291, t292, t293⟩, A50, H⟩ := H
  replace H : ((wayzgooselaw04_is.f (⟨#[109, 101, 114, 99, 101, 114]⟩ : ByteArray) 2 (([2] : List Int))).bind fun bt299 => ((wayzgooselaw04_see.f (⟨#[109, 105, 108, 108, 105, 110, 101, 114]⟩ : ByteArray) 1).bind fun bt305 => (some (t265, (([(⟨t272, t273, t274, t275⟩ : S39), (⟨t278, t279, t280, t281⟩ : S39), (⟨t284, t285, t286, t287⟩ : S39), (⟨t290, t291, t292, t293⟩ : S39), (⟨bt299.1, bt299.2.1, bt299.2.2.1, bt299.2.2.2⟩ : S39), (⟨bt305.1, bt305.2.1, bt305.2.2.1, bt305.2.2.2⟩ : S39)] : List (S39))))))) = some (r1, r2) := H
  have A5 := Aside0.mk A50
  clear A50
  obtain ⟨y296, hy296⟩ : ∃ y_ : List Int, y_ = (([2] : List Int)) := ⟨_, rfl⟩
  replace H : ((wayzgooselaw04_is.f (⟨#[109, 101, 114, 99, 101, 114]⟩ : ByteArray) 2 y296).bind fun bt299 => ((wayzgooselaw04_see.f (⟨#[109, 105, 108, 108, 105, 110, 101, 114]⟩ : ByteArray) 1).bind fun bt305 => (some (t265, (([(⟨t272, t273, t274, t275⟩ : S39), (⟨t278, t279, t280, t281⟩ : S39), (⟨t284, t285, t286, t287⟩ : S39), (⟨t290, t291, t292, t293⟩ : S39), (⟨bt299.1, bt299.2.1, bt299.2.2.1, bt299.2.2.2⟩ : S39), (⟨bt305.1, bt305.2.1, bt305.2.2.1, bt305.2.2.2⟩ : S39)] : List (S39))))))) = some (r1, r2) := by first | (rw [hy296]; with_reducible exact H) | (have H2_ := (Option.bind_some _ _).symm.trans H; rw [hy296]; with_reducible exact H2_) | (have H2_ := (Option.bind_some _ _).symm.trans H; with_reducible exact H2_) | with_reducible exact H | (rw [hy296]; exact H) | exact H
  have Ny296 := Aside0.mk hy296
  clear hy296
  replace H := Option.bind_eq_some_iff.mp H
  obtain ⟨⟨t299, t300, t301, t302⟩, A60, H⟩ := H
  replace H : ((wayzgooselaw04_see.f (⟨#[109, 105, 108, 108, 105, 110, 101, 114]⟩ : ByteArray) 1).bind fun bt305 => (some (t265, (([(⟨t272, t273, t274, t275⟩ : S39), (⟨t278, t279, t280, t281⟩ : S39), (⟨t284, t285, t286, t287⟩ : S39), (⟨t290, t291, t292, t293⟩ : S39), (⟨t299, t300, t301, t302⟩ : S39), (⟨bt305.1, bt305.2.1, bt305.2.2.1, bt305.2.2.2⟩ : S39)] : List (S39)))))) = some (r1, r2) := H
  have A6 := Aside0.mk A60
  clear A60
  replace H := Option.bind_eq_some_iff.mp H
  obtain ⟨⟨t305, t306, t307, t308⟩, A70, H⟩ := H
  replace H : (some (t265, (([(⟨t272, t273, t274, t275⟩ : S39), (⟨t278, t279, t280, t281⟩ : S39), (⟨t284, t285, t286, t287⟩ : S39), (⟨t290, t291, t292, t293⟩ : S39), (⟨t299, t300, t301, t302⟩ : S39), (⟨t305, t306, t307, t308⟩ : S39)] : List (S39))))) = some (r1, r2) := H
  have A7 := Aside0.mk A70
  clear A70
  obtain ⟨y311, hy311⟩ : ∃ y_ : List (S39), y_ = (([(⟨t272, t273, t274, t275⟩ : S39), (⟨t278, t279, t280, t281⟩ : S39), (⟨t284, t285, t286, t287⟩ : S39), (⟨t290, t291, t292, t293⟩ : S39), (⟨t299, t300, t301, t302⟩ : S39), (⟨t305, t306, t307, t308⟩ : S39)] : List (S39))) := ⟨_, rfl⟩
  replace H : (some (t265, y311)) = some (r1, r2) := by first | (rw [hy311]; with_reducible exact H) | (have H2_ := (Option.bind_some _ _).symm.trans H; rw [hy311]; with_reducible exact H2_) | (have H2_ := (Option.bind_some _ _).symm.trans H; with_reducible exact H2_) | with_reducible exact H | (rw [hy311]; exact H) | exact H
  have Ny311 := Aside0.mk hy311
  clear hy311
  simp only [Option.some.injEq, Prod.mk.injEq] at H
  obtain ⟨rfl, rfl⟩ := H
  go_enter Try.func47, Try.ntmps47
  go_wp2_with (first | ((with_reducible refine gate_dst (N := 0) rfl ?_); refine box_event ?hg (N := 0) ?hd (cs := #[.slice none 0 0, .slice none 0 0]) (t := 26) ?hr ?_; (case hd => rfl); (case hg => rfl); (case hr => first | (go_simp; done) | (go_simp; rfl)); intro gb264 hg w8 hbox hb; have n0_ := Aside0.mk (below_step (by repeat (first | (with_reducible first | exact HB.out | apply below_alloc | apply pw_below_drewN | apply below_drew1) | exact HB.out)) hb); have n1_ := Aside0.mk (hbox); have n2_ := Aside0.mk ((by rw [hg]; exact (below_size (by repeat (first | (with_reducible first | exact HB.out | apply below_alloc | apply pw_below_drewN | apply below_drew1) | exact HB.out))) : w.heap.size ≤ gb264)); have n3_ := Aside0.mk ((by rw [hg]; exact (below_size (by repeat (first | (with_reducible first | exact HB.out | apply below_alloc | apply pw_below_drewN | apply below_drew1) | exact HB.out))) : w.heap.size ≤ gb264)); clear HB; have HB := n0_; have BK264 := n1_; have GW264 := n2_; have GE264 := n3_; clear n0_ n1_ n2_ n3_; clear hb hbox hg) | ((with_reducible refine gate_callee (f := 45) rfl ?_); refine goesL_ (some 2) rfl rfl Try.func45 (by kernel_rfl) rfl #[] rfl (by (try simp only [List.map_toArray, List.map_cons, List.map_nil]); first | done | rfl | (simp only [List.length_drop, List.length_take]; rfl)) ?_; (with_reducible refine (wayzgooselaw04_shops.calls  t265 t268 _ A1.out).mono ?_); rintro e w9 ⟨v266, v269, rfl, ho0, ho1, hb⟩; refine ⟨_, rfl, ?_⟩; have n0_ := Aside0.mk (Kd.R_lower (Kd.R_newM (M := fun k_ => (w.heap.size ≤ k_)) (Kd.R_mono (ok' := fun k_ => True) ho0 (fun _ hk_ => trivial)) (below_size (by repeat (first | (with_reducible first | exact HB.out | apply below_alloc | apply pw_below_drewN | apply below_drew1 | refine below_set ?_ GE264.out) | exact HB.out))) (fun k_ h_ => h_)) (below_size (by repeat (first | (with_reducible first | exact HB.out | apply below_alloc | apply pw_below_drewN | apply below_drew1 | refine below_set ?_ GE264.out) | exact HB.out)))); have n1_ := Aside0.mk (Kd.N_lower (Kd.N_mono (ok' := fun k_ => (w.heap.size ≤ k_) ∧ some k_ ≠ (v266 : Value).ownBlock ∧ k_ ≠ gb264) ho1 (fun k_ hk_ => ⟨(Nat.le_trans (below_size (by repeat (first | (with_reducible first | exact HB.out | apply below_alloc | apply pw_below_drewN | apply below_drew1 | refine below_set ?_ GE264.out) | exact HB.out))) hk_.1), hk_.2, (Kd.freshB (g := gb264) (o := .cells #[.slice none 0 0, .slice none 0 0] 26 (0, 0)) (by (with_reducible repeat (first | refine blk_drewN ?_ _ | refine blk_drew ?_ | refine blk_alloc ?_ _)); exact BK264.out) k_ hk_.1)⟩)) (below_size (by repeat (first | (with_reducible first | exact HB.out | apply below_alloc | apply pw_below_drewN | apply below_drew1 | refine below_set ?_ GE264.out) | exact HB.out)))); have n2_ := Aside0.mk (blk_below (g := gb264) (o := .cells #[.slice none 0 0, .slice none 0 0] 26 (0, 0)) (by (with_reducible repeat (first | refine blk_drewN ?_ _ | refine blk_drew ?_ | refine blk_alloc ?_ _)); exact BK264.out) hb); have n3_ := Aside0.mk (below_step (by repeat (first | (with_reducible first | exact HB.out | apply below_alloc | apply pw_below_drewN | apply below_drew1 | refine below_set ?_ GE264.out) | exact HB.out)) hb); clear BK264; clear HB; have HO267 := n0_; have HO270 := n1_; have BK264 := n2_; have HB := n3_; clear n0_ n1_ n2_ n3_; (try clear hb); (try clear hb2); (try clear hk); (try clear hi); (try clear ho0); (try clear ho1)) | ((with_reducible refine gate_dst (N := 1) rfl ?_); refine box_event ?hg (N := 1) ?hd (cs := #[.slice none 0 0, .slice none 0 0]) (t := 26) ?hr ?_; (case hd => rfl); (case hg => rfl); (case hr => first | (go_simp; done) | (go_simp; rfl)); intro gb271 hg w10 hbox hb; have n0_ := Aside0.mk (Kd.R_below (by (with_reducible repeat (first | apply Kd.R_alloc | apply Kd.R_drewN | apply Kd.R_drew)); exact HO267.out) hb); have n1_ := Aside0.mk (Kd.N_below (Kd.N_elderB (by (with_reducible repeat (first | apply Kd.N_alloc | apply Kd.N_drewN | apply Kd.N_drew)); exact HO270.out) gb271 (Nat.le_of_eq hg.symm)) hb); have n2_ := Aside0.mk (blk_below (g := gb264) (o := .cells #[.slice none 0 0, .slice none 0 0] 26 (0, 0)) (by (with_reducible repeat (first | refine blk_drewN ?_ _ | refine blk_drew ?_ | refine blk_alloc ?_ _)); exact BK264.out) hb); have n3_ := Aside0.mk (below_step (by repeat (first | (with_reducible first | exact HB.out | apply below_alloc | apply pw_below_drewN | apply below_drew1 | refine below_set ?_ GE264.out) | exact HB.out)) hb); have n4_ := Aside0.mk (hbox); have n5_ := Aside0.mk ((by rw [hg]; exact (below_size (by repeat (first | (with_reducible first | exact HB.out | apply below_alloc | apply pw_below_drewN | apply below_drew1 | refine below_set ?_ GE264.out) | exact HB.out))) : w.heap.size ≤ gb271)); have n6_ := Aside0.mk ((by rw [hg]; exact (below_size (by repeat (first | (with_reducible first | exact HB.out | apply below_alloc | apply pw_below_drewN | apply below_drew1 | refine below_set ?_ GE264.out) | exact HB.out))) : w.heap.size ≤ gb271)); have n7_ := Aside0.mk ((by rw [hg]; exact Nat.ne_of_lt (blk_lt (g := gb264) (o := .cells #[.slice none 0 0, .slice none 0 0] 26 (0, 0)) (by (with_reducible repeat (first | refine blk_drewN ?_ _ | refine blk_drew ?_ | refine blk_alloc ?_ _)); exact BK264.out)) : gb264 ≠ gb271)); have n8_ := Aside0.mk ((by rw [hg]; exact Nat.ne_of_gt (blk_lt (g := gb264) (o := .cells #[.slice none 0 0, .slice none 0 0] 26 (0, 0)) (by (with_reducible repeat (first | refine blk_drewN ?_ _ | refine blk_drew ?_ | refine blk_alloc ?_ _)); exact BK264.out)) : gb271 ≠ gb264)); clear HO267; clear HO270; clear BK264; clear HB; have HO267 := n0_; have HO270 := n1_; have BK264 := n2_; have HB := n3_; have BK271 := n4_; have GW271 := n5_; have GE271 := n6_; have NB264_271 := n7_; have NB271_264 := n8_; clear n0_ n1_ n2_ n3_ n4_ n5_ n6_ n7_ n8_; clear hb hbox hg; obtain ⟨Ao11, co11, eo11⟩ := Kd.R_slice HO267.out; subst eo11; have hnb12 := NB271_264.out; have hnc12 := NB264_271.out; have hcz13_0 : w10.cell? ⟨gb271, 0, none⟩ = some (.slice none 0 0) := (blk_cell BK271.out 0).trans rfl; have hcz13_1 : w10.cell? ⟨gb271, 1, none⟩ = some (.slice none 0 0) := (blk_cell BK271.out 1).trans rfl; have hfz13_0 := blk_frozen BK271.out 0; have hfz13_1 := blk_frozen BK271.out 1; obtain ⟨Ao14, co14, eo14⟩ := Kd.N_slice HO270.out; subst eo14) | ((with_reducible refine gate_store (t := 26) (p := 1) rfl ?_); refine store_event (t := 26) (p := 1) (v := ?vo_w15) (w1 := ((w10.setCell ⟨gb271, 0, none⟩ (.slice Ao11 t265.length co11)).setCell ⟨gb271, 1, none⟩ (.slice Ao14 t268.length co14))) ?hg ?ho ?hn ?hr ?_; (case ho => rfl); (case hg => rfl); (case hn => rfl); (case hr => first | (go_simp; done) | (go_simp; rfl)); intro w15 hw; have n0_ : Aside0 (Kd.R k51 51 w15 w.heap.size (fun k_ => (w.heap.size ≤ k_)) (.slice Ao11 t265.length co11) t265) := ⟨(by rw [hw]; exact (by (with_reducible repeat (first | apply Kd.R_alloc | apply Kd.R_drewN | apply Kd.R_drew)); exact Kd.R_mono (Kd.R_far (p := ⟨gb271, 1, none⟩) (Kd.R_far (p := ⟨gb271, 0, none⟩) (Kd.R_types HO267.out BK271.out (by decide)) (fun _ hk => hk.2) (.slice Ao11 t265.length co11)) (fun _ hk => hk.2) (.slice Ao14 t268.length co14)) (fun _ hk => hk.1.1)))⟩; have n1_ : Aside0 (Kd.N k39 39 w15 w.heap.size (fun k_ => (w.heap.size ≤ k_) ∧ some k_ ≠ (.slice Ao11 t265.length co11 : Value).ownBlock ∧ k_ ≠ gb264 ∧ k_ ≠ gb271) (.slice Ao14 t268.length co14) t268) := ⟨(by rw [hw]; exact (by (with_reducible repeat (first | apply Kd.N_alloc | apply Kd.N_drewN | apply Kd.N_drew)); exact Kd.N_mono (Kd.N_far (p := ⟨gb271, 1, none⟩) (Kd.N_far (p := ⟨gb271, 0, none⟩) (Kd.N_mono HO270.out (fun k_ hk => (⟨hk, hk.2⟩ : _ ∧ k_ ≠ gb271))) (fun _ hk => hk.2) (.slice Ao11 t265.length co11)) (fun _ hk => hk.2) (.slice Ao14 t268.length co14)) (fun _ hk => ⟨hk.1.1.1, ⟨hk.1.1.2.1, ⟨hk.1.1.2.2, hk.1.2⟩⟩⟩)))⟩; have n2_ : Aside0 (w15.heap[gb264]? = some (.cells #[.slice none 0 0, .slice none 0 0] 26 (0, 0))) := ⟨(by rw [hw]; exact (by (with_reducible repeat (first | refine blk_drewN ?_ _ | refine blk_drew ?_ | refine blk_alloc ?_ _)); refine blk_far ?_ NB264_271.out _; (with_reducible repeat (first | refine blk_drewN ?_ _ | refine blk_drew ?_ | refine blk_alloc ?_ _)); refine blk_far ?_ NB264_271.out _; (with_reducible repeat (first | refine blk_drewN ?_ _ | refine blk_drew ?_ | refine blk_alloc ?_ _)); exact BK264.out))⟩; have n3_ : Aside0 (w15.heap[gb271]? = some (.cells #[.slice Ao11 t265.length co11, .slice Ao14 t268.length co14] 26 (0, 0))) := ⟨(by rw [hw]; exact (by (with_reducible repeat (first | refine blk_drewN ?_ _ | refine blk_drew ?_ | refine blk_alloc ?_ _)); refine blk_put (cs := #[.slice Ao11 t265.length co11, .slice none 0 0]) ?_ 1 _ rfl; (with_reducible repeat (first | refine blk_drewN ?_ _ | refine blk_drew ?_ | refine blk_alloc ?_ _)); refine blk_put (cs := #[.slice none 0 0, .slice none 0 0]) ?_ 0 _ rfl; (with_reducible repeat (first | refine blk_drewN ?_ _ | refine blk_drew ?_ | refine blk_alloc ?_ _)); exact BK271.out))⟩; have n4_ : Aside0 (Below w.heap.size w w15) := ⟨(by rw [hw]; exact (by repeat (first | (with_reducible first | exact HB.out | apply below_alloc | apply pw_below_drewN | apply below_drew1 | refine below_set ?_ GE264.out | refine below_set ?_ GE271.out) | exact HB.out)))⟩; clear hw; clear HO267; clear HO270; clear BK264; clear BK271; clear HB; have HO267 := n0_; have HO270 := n1_; have BK264 := n2_; have BK271 := n3_; have HB := n4_; clear n0_ n1_ n2_ n3_ n4_) | ((with_reducible refine gate_callee (f := 70) rfl ?_); refine goesL_ (some 3) rfl rfl Try.func70 (by kernel_rfl) rfl #[.string (⟨#[98, 97, 107, 101, 114]⟩ : ByteArray), .int .i64 1, .slice none 0 0] rfl (by (try simp only [List.map_toArray, List.map_cons, List.map_nil]); first | done | rfl | (simp only [List.length_drop, List.length_take]; rfl)) ?_; (refine (wayzgooselaw04_is.calls (⟨#[98, 97, 107, 101, 114]⟩ : ByteArray) 1 (fun k_ => some k_ = (.slice none 0 0 : Value).ownBlock) (.slice none 0 0) ([] : List Int) t272 t273 t274 t275 w _ ?side1 ?side2 A2.out).mono ?_); (case side1 => repeat (first | (with_reducible first | exact HB.out | apply below_alloc | apply pw_below_drewN | apply below_drew1 | refine below_set ?_ GE264.out | refine below_set ?_ GE271.out) | exact HB.out)); (case side2 => exact Kd.R_nil _ _ _ _ _); rintro e w16 ⟨v276, rfl, ho0, hb, hkp⟩; refine ⟨_, rfl, ?_⟩; have n0_ := Aside0.mk (blk_kept (by (with_reducible repeat (first | refine blk_drewN ?_ _ | refine blk_drew ?_ | refine blk_alloc ?_ _)); exact BK264.out) hkp (fun hs_ => (fun e_ => by simp [Value.ownBlock] at e_) hs_)); have n1_ := Aside0.mk (Kd.R_mono (ok' := fun k_ => (w.heap.size ≤ k_)) (Kd.R_keptB (HO267.out) hkp (fun k_ hk_ hs_ => (fun e_ => by simp [Value.ownBlock] at e_) hs_)) (fun k_ hk_ => hk_.1)); have n2_ := Aside0.mk (Kd.N_mono (ok' := fun k_ => (w.heap.size ≤ k_) ∧ some k_ ≠ (.slice Ao11 t265.length co11 : Value).ownBlock ∧ k_ ≠ gb264 ∧ k_ ≠ gb271 ∧ some k_ ≠ (v276 : Value).ownBlock) (Kd.N_keptB (HO270.out) hkp (fun k_ hk_ hs_ => (fun e_ => by simp [Value.ownBlock] at e_) hs_)) (fun k_ hk_ => ⟨hk_.1.1, hk_.1.2.1, hk_.1.2.2.1, hk_.1.2.2.2, fun e_ => Or.elim (ho0.1 k_ e_.symm) (fun hs_ => hk_.2.1 hs_) (fun hn_ => Nat.not_le.2 hk_.2.2 hn_)⟩)); have n3_ := Aside0.mk (blk_kept (by (with_reducible repeat (first | refine blk_drewN ?_ _ | refine blk_drew ?_ | refine blk_alloc ?_ _)); exact BK271.out) hkp (fun hs_ => (fun e_ => by simp [Value.ownBlock] at e_) hs_)); have n4_ := Aside0.mk (Kd.R_mono (ok' := fun k_ => (w.heap.size ≤ k_)) ho0 (fun k_ hk_ => Or.elim hk_ (fun hs_ => absurd hs_ (by simp [Value.ownBlock])) (fun hn_ => (Nat.le_trans (below_size (by repeat (first | (with_reducible first | exact HB.out | apply below_alloc | apply pw_below_drewN | apply below_drew1 | refine below_set ?_ GE264.out | refine below_set ?_ GE271.out) | exact HB.out))) hn_)))); have n5_ := Aside0.mk (hb); clear BK264; clear HO267; clear HO270; clear BK271; clear HB; have BK264 := n0_; have HO267 := n1_; have HO270 := n2_; have BK271 := n3_; have HO277 := n4_; have HB := n5_; clear n0_ n1_ n2_ n3_ n4_ n5_; (try clear hb); (try clear hkp); (try clear ho0)) | ((with_reducible refine gate_callee (f := 71) rfl ?_); refine goesL_ (some 4) rfl rfl Try.func71 (by kernel_rfl) rfl #[.string (⟨#[98, 111, 110, 110, 101, 116, 115]⟩ : ByteArray), .int .i64 2] rfl (by (try simp only [List.map_toArray, List.map_cons, List.map_nil]); first | done | rfl | (simp only [List.length_drop, List.length_take]; rfl)) ?_; (with_reducible refine (wayzgooselaw04_see.calls (⟨#[98, 111, 110, 110, 101, 116, 115]⟩ : ByteArray) 2 t278 t279 t280 t281 _ A3.out).mono ?_); rintro e w17 ⟨v282, rfl, ho0, hb⟩; refine ⟨_, rfl, ?_⟩; have n0_ := Aside0.mk (Kd.R_below (by (with_reducible repeat (first | apply Kd.R_alloc | apply Kd.R_drewN | apply Kd.R_drew)); exact HO267.out) hb); have n1_ := Aside0.mk (Kd.N_elder' (by (with_reducible repeat (first | apply Kd.N_alloc | apply Kd.N_drewN | apply Kd.N_drew)); exact HO270.out) (Kd.R_base ho0) hb); have n2_ := Aside0.mk (Kd.R_elder' (by (with_reducible repeat (first | apply Kd.R_alloc | apply Kd.R_drewN | apply Kd.R_drew)); exact HO277.out) (Kd.R_base ho0) hb); have n3_ := Aside0.mk (Kd.R_lower (Kd.R_new' (Kd.R_newM (M := fun k_ => (w.heap.size ≤ k_)) ho0 (below_size (by repeat (first | (with_reducible first | exact HB.out | apply below_alloc | apply pw_below_drewN | apply below_drew1 | refine below_set ?_ GE264.out | refine below_set ?_ GE271.out) | exact HB.out))) (fun k_ h_ => h_)) (Kd.R_lt (by (with_reducible repeat (first | apply Kd.R_alloc | apply Kd.R_drewN | apply Kd.R_drew)); exact HO277.out))) (below_size (by repeat (first | (with_reducible first | exact HB.out | apply below_alloc | apply pw_below_drewN | apply below_drew1 | refine below_set ?_ GE264.out | refine below_set ?_ GE271.out) | exact HB.out)))); have n4_ := Aside0.mk (blk_below (g := gb264) (o := .cells #[.slice none 0 0, .slice none 0 0] 26 (0, 0)) (by (with_reducible repeat (first | refine blk_drewN ?_ _ | refine blk_drew ?_ | refine blk_alloc ?_ _)); exact BK264.out) hb); have n5_ := Aside0.mk (blk_below (g := gb271) (o := .cells #[.slice Ao11 t265.length co11, .slice Ao14 t268.length co14] 26 (0, 0)) (by (with_reducible repeat (first | refine blk_drewN ?_ _ | refine blk_drew ?_ | refine blk_alloc ?_ _)); exact BK271.out) hb); have n6_ := Aside0.mk (below_step (by repeat (first | (with_reducible first | exact HB.out | apply below_alloc | apply pw_below_drewN | apply below_drew1 | refine below_set ?_ GE264.out | refine below_set ?_ GE271.out) | exact HB.out)) hb); clear HO267; clear HO270; clear HO277; clear BK264; clear BK271; clear HB; have HO267 := n0_; have HO270 := n1_; have HO277 := n2_; have HO283 := n3_; have BK264 := n4_; have BK271 := n5_; have HB := n6_; clear n0_ n1_ n2_ n3_ n4_ n5_ n6_; (try clear hb); (try clear hb2); (try clear hk); (try clear hi); (try clear ho0)) | ((with_reducible refine gate_callee (f := 70) rfl ?_); refine goesL_ (some 5) rfl rfl Try.func70 (by kernel_rfl) rfl #[.string (⟨#[104, 97, 116, 116, 101, 114]⟩ : ByteArray), .int .i64 2, .slice none 0 0] rfl (by (try simp only [List.map_toArray, List.map_cons, List.map_nil]); first | done | rfl | (simp only [List.length_drop, List.length_take]; rfl)) ?_; (refine (wayzgooselaw04_is.calls (⟨#[104, 97, 116, 116, 101, 114]⟩ : ByteArray) 2 (fun k_ => some k_ = (.slice none 0 0 : Value).ownBlock) (.slice none 0 0) ([] : List Int) t284 t285 t286 t287 w _ ?side1 ?side2 A4.out).mono ?_); (case side1 => repeat (first | (with_reducible first | exact HB.out | apply below_alloc | apply pw_below_drewN | apply below_drew1 | refine below_set ?_ GE264.out | refine below_set ?_ GE271.out) | exact HB.out)); (case side2 => exact Kd.R_nil _ _ _ _ _); rintro e w18 ⟨v288, rfl, ho0, hb, hkp⟩; refine ⟨_, rfl, ?_⟩; have n0_ := Aside0.mk (blk_kept (by (with_reducible repeat (first | refine blk_drewN ?_ _ | refine blk_drew ?_ | refine blk_alloc ?_ _)); exact BK264.out) hkp (fun hs_ => (fun e_ => by simp [Value.ownBlock] at e_) hs_)); have n1_ := Aside0.mk (Kd.R_mono (ok' := fun k_ => (w.heap.size ≤ k_)) (Kd.R_keptB (HO267.out) hkp (fun k_ hk_ hs_ => (fun e_ => by simp [Value.ownBlock] at e_) hs_)) (fun k_ hk_ => hk_.1)); have n2_ := Aside0.mk (Kd.N_mono (ok' := fun k_ => (w.heap.size ≤ k_) ∧ some k_ ≠ (.slice Ao11 t265.length co11 : Value).ownBlock ∧ some k_ ≠ (v276 : Value).ownBlock ∧ some k_ ≠ (v282 : Value).ownBlock ∧ k_ ≠ gb264 ∧ k_ ≠ gb271 ∧ some k_ ≠ (v288 : Value).ownBlock) (Kd.N_keptB (HO270.out) hkp (fun k_ hk_ hs_ => (fun e_ => by simp [Value.ownBlock] at e_) hs_)) (fun k_ hk_ => ⟨hk_.1.1.1, hk_.1.1.2.1, hk_.1.1.2.2.2.2, hk_.1.2, hk_.1.1.2.2.1, hk_.1.1.2.2.2.1, fun e_ => Or.elim (ho0.1 k_ e_.symm) (fun hs_ => hk_.2.1 hs_) (fun hn_ => Nat.not_le.2 hk_.2.2 hn_)⟩)); have n3_ := Aside0.mk (blk_kept (by (with_reducible repeat (first | refine blk_drewN ?_ _ | refine blk_drew ?_ | refine blk_alloc ?_ _)); exact BK271.out) hkp (fun hs_ => (fun e_ => by simp [Value.ownBlock] at e_) hs_)); have n4_ := Aside0.mk (Kd.R_mono (ok' := fun k_ => (w.heap.size ≤ k_) ∧ some k_ ≠ (v282 : Value).ownBlock ∧ some k_ ≠ (v288 : Value).ownBlock) (Kd.R_keptB (HO277.out) hkp (fun k_ hk_ hs_ => (fun e_ => by simp [Value.ownBlock] at e_) hs_)) (fun k_ hk_ => ⟨hk_.1.1, hk_.1.2, fun e_ => Or.elim (ho0.1 k_ e_.symm) (fun hs_ => hk_.2.1 hs_) (fun hn_ => Nat.not_le.2 hk_.2.2 hn_)⟩)); have n5_ := Aside0.mk (Kd.R_mono (ok' := fun k_ => (w.heap.size ≤ k_) ∧ some k_ ≠ (v276 : Value).ownBlock ∧ some k_ ≠ (v288 : Value).ownBlock) (Kd.R_keptB (HO283.out) hkp (fun k_ hk_ hs_ => (fun e_ => by simp [Value.ownBlock] at e_) hs_)) (fun k_ hk_ => ⟨hk_.1.1.1, hk_.1.2, fun e_ => Or.elim (ho0.1 k_ e_.symm) (fun hs_ => hk_.2.1 hs_) (fun hn_ => Nat.not_le.2 hk_.2.2 hn_)⟩)); have n6_ := Aside0.mk (Kd.R_mono (ok' := fun k_ => (w.heap.size ≤ k_) ∧ some k_ ≠ (v276 : Value).ownBlock ∧ some k_ ≠ (v282 : Value).ownBlock) ho0 (fun k_ hk_ => ⟨Or.elim hk_ (fun hs_ => absurd hs_ (by simp [Value.ownBlock])) (fun hn_ => (Nat.le_trans (below_size (by repeat (first | (with_reducible first | exact HB.out | apply below_alloc | apply pw_below_drewN | apply below_drew1 | refine below_set ?_ GE264.out | refine below_set ?_ GE271.out) | exact HB.out))) hn_)), Or.elim hk_ (fun hs_ => absurd hs_ (by simp [Value.ownBlock])) (fun hn_ => (Kd.fresh' (Kd.R_lt (by (with_reducible repeat (first | apply Kd.R_alloc | apply Kd.R_drewN | apply Kd.R_drew)); exact HO277.out)) k_ hn_)), Or.elim hk_ (fun hs_ => absurd hs_ (by simp [Value.ownBlock])) (fun hn_ => (Kd.fresh' (Kd.R_lt (by (with_reducible repeat (first | apply Kd.R_alloc | apply Kd.R_drewN | apply Kd.R_drew)); exact HO283.out)) k_ hn_))⟩)); have n7_ := Aside0.mk (hb); clear BK264; clear HO267; clear HO270; clear BK271; clear HO277; clear HO283; clear HB; have BK264 := n0_; have HO267 := n1_; have HO270 := n2_; have BK271 := n3_; have HO277 := n4_; have HO283 := n5_; have HO289 := n6_; have HB := n7_; clear n0_ n1_ n2_ n3_ n4_ n5_ n6_ n7_; (try clear hb); (try clear hkp); (try clear ho0)) | ((with_reducible refine gate_callee (f := 70) rfl ?_); refine goesL_ (some 6) rfl rfl Try.func70 (by kernel_rfl) rfl #[.string (⟨#[105, 114, 111, 110, 109, 111, 110, 103, 101, 114]⟩ : ByteArray), .int .i64 0, .slice none 0 0] rfl (by (try simp only [List.map_toArray, List.map_cons, List.map_nil]); first | done | rfl | (simp only [List.length_drop, List.length_take]; rfl)) ?_; (refine (wayzgooselaw04_is.calls (⟨#[105, 114, 111, 110, 109, 111, 110, 103, 101, 114]⟩ : ByteArray) 0 (fun k_ => some k_ = (.slice none 0 0 : Value).ownBlock) (.slice none 0 0) ([] : List Int) t290 t291 t292 t293 w _ ?side1 ?side2 A5.out).mono ?_); (case side1 => repeat (first | (with_reducible first | exact HB.out | apply below_alloc | apply pw_below_drewN | apply below_drew1 | refine below_set ?_ GE264.out | refine below_set ?_ GE271.out) | exact HB.out)); (case side2 => exact Kd.R_nil _ _ _ _ _); rintro e w19 ⟨v294, rfl, ho0, hb, hkp⟩; refine ⟨_, rfl, ?_⟩; have n0_ := Aside0.mk (blk_kept (by (with_reducible repeat (first | refine blk_drewN ?_ _ | refine blk_drew ?_ | refine blk_alloc ?_ _)); exact BK264.out) hkp (fun hs_ => (fun e_ => by simp [Value.ownBlock] at e_) hs_)); have n1_ := Aside0.mk (Kd.R_mono (ok' := fun k_ => (w.heap.size ≤ k_)) (Kd.R_keptB (HO267.out) hkp (fun k_ hk_ hs_ => (fun e_ => by simp [Value.ownBlock] at e_) hs_)) (fun k_ hk_ => hk_.1)); have n2_ := Aside0.mk (Kd.N_mono (ok' := fun k_ => (w.heap.size ≤ k_) ∧ some k_ ≠ (.slice Ao11 t265.length co11 : Value).ownBlock ∧ some k_ ≠ (v276 : Value).ownBlock ∧ some k_ ≠ (v282 : Value).ownBlock ∧ some k_ ≠ (v288 : Value).ownBlock ∧ k_ ≠ gb264 ∧ k_ ≠ gb271 ∧ some k_ ≠ (v294 : Value).ownBlock) (Kd.N_keptB (HO270.out) hkp (fun k_ hk_ hs_ => (fun e_ => by simp [Value.ownBlock] at e_) hs_)) (fun k_ hk_ => ⟨hk_.1.1, hk_.1.2.1, hk_.1.2.2.1, hk_.1.2.2.2.1, hk_.1.2.2.2.2.2.2, hk_.1.2.2.2.2.1, hk_.1.2.2.2.2.2.1, fun e_ => Or.elim (ho0.1 k_ e_.symm) (fun hs_ => hk_.2.1 hs_) (fun hn_ => Nat.not_le.2 hk_.2.2 hn_)⟩)); have n3_ := Aside0.mk (blk_kept (by (with_reducible repeat (first | refine blk_drewN ?_ _ | refine blk_drew ?_ | refine blk_alloc ?_ _)); exact BK271.out) hkp (fun hs_ => (fun e_ => by simp [Value.ownBlock] at e_) hs_)); have n4_ := Aside0.mk (Kd.R_mono (ok' := fun k_ => (w.heap.size ≤ k_) ∧ some k_ ≠ (v282 : Value).ownBlock ∧ some k_ ≠ (v288 : Value).ownBlock ∧ some k_ ≠ (v294 : Value).ownBlock) (Kd.R_keptB (HO277.out) hkp (fun k_ hk_ hs_ => (fun e_ => by simp [Value.ownBlock] at e_) hs_)) (fun k_ hk_ => ⟨hk_.1.1, hk_.1.2.1, hk_.1.2.2, fun e_ => Or.elim (ho0.1 k_ e_.symm) (fun hs_ => hk_.2.1 hs_) (fun hn_ => Nat.not_le.2 hk_.2.2 hn_)⟩)); have n5_ := Aside0.mk (Kd.R_mono (ok' := fun k_ => (w.heap.size ≤ k_) ∧ some k_ ≠ (v276 : Value).ownBlock ∧ some k_ ≠ (v288 : Value).ownBlock ∧ some k_ ≠ (v294 : Value).ownBlock) (Kd.R_keptB (HO283.out) hkp (fun k_ hk_ hs_ => (fun e_ => by simp [Value.ownBlock] at e_) hs_)) (fun k_ hk_ => ⟨hk_.1.1, hk_.1.2.1, hk_.1.2.2, fun e_ => Or.elim (ho0.1 k_ e_.symm) (fun hs_ => hk_.2.1 hs_) (fun hn_ => Nat.not_le.2 hk_.2.2 hn_)⟩)); have n6_ := Aside0.mk (Kd.R_mono (ok' := fun k_ => (w.heap.size ≤ k_) ∧ some k_ ≠ (v276 : Value).ownBlock ∧ some k_ ≠ (v282 : Value).ownBlock ∧ some k_ ≠ (v294 : Value).ownBlock) (Kd.R_keptB (HO289.out) hkp (fun k_ hk_ hs_ => (fun e_ => by simp [Value.ownBlock] at e_) hs_)) (fun k_ hk_ => ⟨hk_.1.1, hk_.1.2.1, hk_.1.2.2, fun e_ => Or.elim (ho0.1 k_ e_.symm) (fun hs_ => hk_.2.1 hs_) (fun hn_ => Nat.not_le.2 hk_.2.2 hn_)⟩)); have n7_ := Aside0.mk (Kd.R_mono (ok' := fun k_ => (w.heap.size ≤ k_) ∧ some k_ ≠ (v276 : Value).ownBlock ∧ some k_ ≠ (v282 : Value).ownBlock ∧ some k_ ≠ (v288 : Value).ownBlock) ho0 (fun k_ hk_ => ⟨Or.elim hk_ (fun hs_ => absurd hs_ (by simp [Value.ownBlock])) (fun hn_ => (Nat.le_trans (below_size (by repeat (first | (with_reducible first | exact HB.out | apply below_alloc | apply pw_below_drewN | apply below_drew1 | refine below_set ?_ GE264.out | refine below_set ?_ GE271.out) | exact HB.out))) hn_)), Or.elim hk_ (fun hs_ => absurd hs_ (by simp [Value.ownBlock])) (fun hn_ => (Kd.fresh' (Kd.R_lt (by (with_reducible repeat (first | apply Kd.R_alloc | apply Kd.R_drewN | apply Kd.R_drew)); exact HO277.out)) k_ hn_)), Or.elim hk_ (fun hs_ => absurd hs_ (by simp [Value.ownBlock])) (fun hn_ => (Kd.fresh' (Kd.R_lt (by (with_reducible repeat (first | apply Kd.R_alloc | apply Kd.R_drewN | apply Kd.R_drew)); exact HO283.out)) k_ hn_)), Or.elim hk_ (fun hs_ => absurd hs_ (by simp [Value.ownBlock])) (fun hn_ => (Kd.fresh' (Kd.R_lt (by (with_reducible repeat (first | apply Kd.R_alloc | apply Kd.R_drewN | apply Kd.R_drew)); exact HO289.out)) k_ hn_))⟩)); have n8_ := Aside0.mk (hb); clear BK264; clear HO267; clear HO270; clear BK271; clear HO277; clear HO283; clear HO289; clear HB; have BK264 := n0_; have HO267 := n1_; have HO270 := n2_; have BK271 := n3_; have HO277 := n4_; have HO283 := n5_; have HO289 := n6_; have HO295 := n7_; have HB := n8_; clear n0_ n1_ n2_ n3_ n4_ n5_ n6_ n7_ n8_; (try clear hb); (try clear hkp); (try clear ho0)) | ((with_reducible refine gate_dst (N := 7) rfl ?_); refine Kd.R_lit (Kd.int .i64) _ 3 ?hg (N := 7) ?hd (xs := ([2] : List Int)) (inner := [.int .i64 2]) (ok := fun _ => True) (okp := fun _ => True) ?hr ?hp (fun _ hk => hk) trivial (Below.refl _ _) (Nat.le_refl _) (by simp) ?_; (case hd => rfl); (case hg => rfl); (case hr => first | (go_simp; done) | (go_simp; rfl)); (case hp => exact (Reps.one (show Kd.M (Kd.int .i64) _ _ _ 2 [.int .i64 2] from rfl) (Reps.none _ _))); intro v297 w20 ho21 hb hg_ hnew_; clear hg_ hnew_; (first | rw [← Ny296.out] at ho21 | (simp only [Int.reduceToNat] at ho21; rw [← Ny296.out] at ho21)); have n0_ := Aside0.mk (Kd.R_below (by (with_reducible repeat (first | apply Kd.R_alloc | apply Kd.R_drewN | apply Kd.R_drew)); exact HO267.out) hb); have n1_ := Aside0.mk (Kd.N_elder' (by (with_reducible repeat (first | apply Kd.N_alloc | apply Kd.N_drewN | apply Kd.N_drew)); exact HO270.out) (Kd.R_base ho21) hb); have n2_ := Aside0.mk (Kd.R_elder' (by (with_reducible repeat (first | apply Kd.R_alloc | apply Kd.R_drewN | apply Kd.R_drew)); exact HO277.out) (Kd.R_base ho21) hb); have n3_ := Aside0.mk (Kd.R_elder' (by (with_reducible repeat (first | apply Kd.R_alloc | apply Kd.R_drewN | apply Kd.R_drew)); exact HO283.out) (Kd.R_base ho21) hb); have n4_ := Aside0.mk (Kd.R_elder' (by (with_reducible repeat (first | apply Kd.R_alloc | apply Kd.R_drewN | apply Kd.R_drew)); exact HO289.out) (Kd.R_base ho21) hb); have n5_ := Aside0.mk (Kd.R_elder' (by (with_reducible repeat (first | apply Kd.R_alloc | apply Kd.R_drewN | apply Kd.R_drew)); exact HO295.out) (Kd.R_base ho21) hb); have n6_ := Aside0.mk (Kd.R_lower (Kd.R_new' (Kd.R_new' (Kd.R_new' (Kd.R_new' (Kd.R_newM (M := fun k_ => (w.heap.size ≤ k_)) ho21 (below_size (by repeat (first | (with_reducible first | exact HB.out | apply below_alloc | apply pw_below_drewN | apply below_drew1 | refine below_set ?_ GE264.out | refine below_set ?_ GE271.out) | exact HB.out))) (fun k_ h_ => h_)) (Kd.R_lt (by (with_reducible repeat (first | apply Kd.R_alloc | apply Kd.R_drewN | apply Kd.R_drew)); exact HO277.out))) (Kd.R_lt (by (with_reducible repeat (first | apply Kd.R_alloc | apply Kd.R_drewN | apply Kd.R_drew)); exact HO283.out))) (Kd.R_lt (by (with_reducible repeat (first | apply Kd.R_alloc | apply Kd.R_drewN | apply Kd.R_drew)); exact HO289.out))) (Kd.R_lt (by (with_reducible repeat (first | apply Kd.R_alloc | apply Kd.R_drewN | apply Kd.R_drew)); exact HO295.out))) (below_size (by repeat (first | (with_reducible first | exact HB.out | apply below_alloc | apply pw_below_drewN | apply below_drew1 | refine below_set ?_ GE264.out | refine below_set ?_ GE271.out) | exact HB.out)))); have n7_ := Aside0.mk (blk_below (g := gb264) (o := .cells #[.slice none 0 0, .slice none 0 0] 26 (0, 0)) (by (with_reducible repeat (first | refine blk_drewN ?_ _ | refine blk_drew ?_ | refine blk_alloc ?_ _)); exact BK264.out) hb); have n8_ := Aside0.mk (blk_below (g := gb271) (o := .cells #[.slice Ao11 t265.length co11, .slice Ao14 t268.length co14] 26 (0, 0)) (by (with_reducible repeat (first | refine blk_drewN ?_ _ | refine blk_drew ?_ | refine blk_alloc ?_ _)); exact BK271.out) hb); have n9_ := Aside0.mk (below_step (by repeat (first | (with_reducible first | exact HB.out | apply below_alloc | apply pw_below_drewN | apply below_drew1 | refine below_set ?_ GE264.out | refine below_set ?_ GE271.out) | exact HB.out)) hb); clear HO267; clear HO270; clear HO277; clear HO283; clear HO289; clear HO295; clear BK264; clear BK271; clear HB; have HO267 := n0_; have HO270 := n1_; have HO277 := n2_; have HO283 := n3_; have HO289 := n4_; have HO295 := n5_; have HO298 := n6_; have BK264 := n7_; have BK271 := n8_; have HB := n9_; clear n0_ n1_ n2_ n3_ n4_ n5_ n6_ n7_ n8_ n9_; clear hb ho21; obtain ⟨Ao22, co22, eo22⟩ := Kd.R_slice HO298.out; subst eo22) | ((with_reducible refine gate_callee (f := 70) rfl ?_); refine goesL_ (some 8) rfl rfl Try.func70 (by kernel_rfl) rfl #[.string (⟨#[109, 101, 114, 99, 101, 114]⟩ : ByteArray), .int .i64 2, .slice Ao22 y296.length co22] rfl (by (try simp only [List.map_toArray, List.map_cons, List.map_nil]); first | done | rfl | (simp only [List.length_drop, List.length_take]; rfl)) ?_; (with_reducible refine (wayzgooselaw04_is.calls (⟨#[109, 101, 114, 99, 101, 114]⟩ : ByteArray) 2 (fun k_ => some k_ = (.slice Ao22 y296.length co22 : Value).ownBlock) (.slice Ao22 y296.length co22) y296 t299 t300 t301 t302 w _ ?side1 ?side2 A6.out).mono ?_); (case side1 => repeat (first | (with_reducible first | exact HB.out | apply below_alloc | apply pw_below_drewN | apply below_drew1 | refine below_set ?_ GE264.out | refine below_set ?_ GE271.out) | exact HB.out)); (case side2 => exact Kd.R_tight rfl HO298.out); rintro e w23 ⟨v303, rfl, ho0, hb, hkp⟩; refine ⟨_, rfl, ?_⟩; have n0_ := Aside0.mk (blk_kept (by (with_reducible repeat (first | refine blk_drewN ?_ _ | refine blk_drew ?_ | refine blk_alloc ?_ _)); exact BK264.out) hkp (fun hs_ => (fun e_ => (Kd.R_ne HO298.out BK264.out (by decide)) e_) hs_)); have n1_ := Aside0.mk (Kd.R_mono (ok' := fun k_ => (w.heap.size ≤ k_)) (Kd.R_keptB ((Kd.R_apart' HO267.out (Kd.R_typed HO298.out) (by decide))) hkp (fun k_ hk_ hs_ => (hk_.2) hs_)) (fun k_ hk_ => hk_.1.1)); have n2_ := Aside0.mk (Kd.N_mono (ok' := fun k_ => (w.heap.size ≤ k_) ∧ some k_ ≠ (.slice Ao11 t265.length co11 : Value).ownBlock ∧ some k_ ≠ (v276 : Value).ownBlock ∧ some k_ ≠ (v282 : Value).ownBlock ∧ some k_ ≠ (v288 : Value).ownBlock ∧ some k_ ≠ (v294 : Value).ownBlock ∧ k_ ≠ gb264 ∧ k_ ≠ gb271 ∧ some k_ ≠ (v303 : Value).ownBlock) (Kd.N_keptB (HO270.out) hkp (fun k_ hk_ hs_ => (hk_.2) hs_)) (fun k_ hk_ => ⟨hk_.1.1.1, hk_.1.1.2.1, hk_.1.1.2.2.1, hk_.1.1.2.2.2.1, hk_.1.1.2.2.2.2.1, hk_.1.1.2.2.2.2.2.2.2, hk_.1.1.2.2.2.2.2.1, hk_.1.1.2.2.2.2.2.2.1, fun e_ => Or.elim (ho0.1 k_ e_.symm) (fun hs_ => hk_.2.1 hs_) (fun hn_ => Nat.not_le.2 hk_.2.2 hn_)⟩)); have n3_ := Aside0.mk (blk_kept (by (with_reducible repeat (first | refine blk_drewN ?_ _ | refine blk_drew ?_ | refine blk_alloc ?_ _)); exact BK271.out) hkp (fun hs_ => (fun e_ => (Kd.R_ne HO298.out BK271.out (by decide)) e_) hs_)); have n4_ := Aside0.mk (Kd.R_mono (ok' := fun k_ => (w.heap.size ≤ k_) ∧ some k_ ≠ (v282 : Value).ownBlock ∧ some k_ ≠ (v288 : Value).ownBlock ∧ some k_ ≠ (v294 : Value).ownBlock ∧ some k_ ≠ (v303 : Value).ownBlock) (Kd.R_keptB (HO277.out) hkp (fun k_ hk_ hs_ => (hk_.2) hs_)) (fun k_ hk_ => ⟨hk_.1.1.1, hk_.1.1.2.1, hk_.1.1.2.2.1, hk_.1.1.2.2.2, fun e_ => Or.elim (ho0.1 k_ e_.symm) (fun hs_ => hk_.2.1 hs_) (fun hn_ => Nat.not_le.2 hk_.2.2 hn_)⟩)); have n5_ := Aside0.mk (Kd.R_mono (ok' := fun k_ => (w.heap.size ≤ k_) ∧ some k_ ≠ (v276 : Value).ownBlock ∧ some k_ ≠ (v288 : Value).ownBlock ∧ some k_ ≠ (v294 : Value).ownBlock ∧ some k_ ≠ (v303 : Value).ownBlock) (Kd.R_keptB (HO283.out) hkp (fun k_ hk_ hs_ => (hk_.2) hs_)) (fun k_ hk_ => ⟨hk_.1.1.1, hk_.1.1.2.1, hk_.1.1.2.2.1, hk_.1.1.2.2.2, fun e_ => Or.elim (ho0.1 k_ e_.symm) (fun hs_ => hk_.2.1 hs_) (fun hn_ => Nat.not_le.2 hk_.2.2 hn_)⟩)); have n6_ := Aside0.mk (Kd.R_mono (ok' := fun k_ => (w.heap.size ≤ k_) ∧ some k_ ≠ (v276 : Value).ownBlock ∧ some k_ ≠ (v282 : Value).ownBlock ∧ some k_ ≠ (v294 : Value).ownBlock ∧ some k_ ≠ (v303 : Value).ownBlock) (Kd.R_keptB (HO289.out) hkp (fun k_ hk_ hs_ => (hk_.2) hs_)) (fun k_ hk_ => ⟨hk_.1.1.1, hk_.1.1.2.1, hk_.1.1.2.2.1, hk_.1.1.2.2.2, fun e_ => Or.elim (ho0.1 k_ e_.symm) (fun hs_ => hk_.2.1 hs_) (fun hn_ => Nat.not_le.2 hk_.2.2 hn_)⟩)); have n7_ := Aside0.mk (Kd.R_mono (ok' := fun k_ => (w.heap.size ≤ k_) ∧ some k_ ≠ (v276 : Value).ownBlock ∧ some k_ ≠ (v282 : Value).ownBlock ∧ some k_ ≠ (v288 : Value).ownBlock ∧ some k_ ≠ (v303 : Value).ownBlock) (Kd.R_keptB (HO295.out) hkp (fun k_ hk_ hs_ => (hk_.2) hs_)) (fun k_ hk_ => ⟨hk_.1.1.1, hk_.1.1.2.1, hk_.1.1.2.2.1, hk_.1.1.2.2.2, fun e_ => Or.elim (ho0.1 k_ e_.symm) (fun hs_ => hk_.2.1 hs_) (fun hn_ => Nat.not_le.2 hk_.2.2 hn_)⟩)); have n8_ := Aside0.mk (Kd.R_mono (ok' := fun k_ => (w.heap.size ≤ k_) ∧ some k_ ≠ (v276 : Value).ownBlock ∧ some k_ ≠ (v282 : Value).ownBlock ∧ some k_ ≠ (v288 : Value).ownBlock ∧ some k_ ≠ (v294 : Value).ownBlock) ho0 (fun k_ hk_ => ⟨Or.elim hk_ (fun hs_ => (HO298.out.1 k_ (hs_).symm).1.1.1.1.1) (fun hn_ => (Nat.le_trans (below_size (by repeat (first | (with_reducible first | exact HB.out | apply below_alloc | apply pw_below_drewN | apply below_drew1 | refine below_set ?_ GE264.out | refine below_set ?_ GE271.out) | exact HB.out))) hn_)), Or.elim hk_ (fun hs_ => fun e_ => (((HO277.out).1 k_ e_.symm).2) hs_) (fun hn_ => (Kd.fresh' (Kd.R_lt (by (with_reducible repeat (first | apply Kd.R_alloc | apply Kd.R_drewN | apply Kd.R_drew)); exact HO277.out)) k_ hn_)), Or.elim hk_ (fun hs_ => fun e_ => (((HO283.out).1 k_ e_.symm).2) hs_) (fun hn_ => (Kd.fresh' (Kd.R_lt (by (with_reducible repeat (first | apply Kd.R_alloc | apply Kd.R_drewN | apply Kd.R_drew)); exact HO283.out)) k_ hn_)), Or.elim hk_ (fun hs_ => fun e_ => (((HO289.out).1 k_ e_.symm).2) hs_) (fun hn_ => (Kd.fresh' (Kd.R_lt (by (with_reducible repeat (first | apply Kd.R_alloc | apply Kd.R_drewN | apply Kd.R_drew)); exact HO289.out)) k_ hn_)), Or.elim hk_ (fun hs_ => fun e_ => (((HO295.out).1 k_ e_.symm).2) hs_) (fun hn_ => (Kd.fresh' (Kd.R_lt (by (with_reducible repeat (first | apply Kd.R_alloc | apply Kd.R_drewN | apply Kd.R_drew)); exact HO295.out)) k_ hn_))⟩)); have n9_ := Aside0.mk (hb); clear BK264; clear HO267; clear HO270; clear BK271; clear HO277; clear HO283; clear HO289; clear HO295; clear HB; clear HO298; have BK264 := n0_; have HO267 := n1_; have HO270 := n2_; have BK271 := n3_; have HO277 := n4_; have HO283 := n5_; have HO289 := n6_; have HO295 := n7_; have HO304 := n8_; have HB := n9_; clear n0_ n1_ n2_ n3_ n4_ n5_ n6_ n7_ n8_ n9_; (try clear hb); (try clear hkp); (try clear ho0)) | ((with_reducible refine gate_callee (f := 71) rfl ?_); refine goesL_ (some 9) rfl rfl Try.func71 (by kernel_rfl) rfl #[.string (⟨#[109, 105, 108, 108, 105, 110, 101, 114]⟩ : ByteArray), .int .i64 1] rfl (by (try simp only [List.map_toArray, List.map_cons, List.map_nil]); first | done | rfl | (simp only [List.length_drop, List.length_take]; rfl)) ?_; (with_reducible refine (wayzgooselaw04_see.calls (⟨#[109, 105, 108, 108, 105, 110, 101, 114]⟩ : ByteArray) 1 t305 t306 t307 t308 _ A7.out).mono ?_); rintro e w24 ⟨v309, rfl, ho0, hb⟩; refine ⟨_, rfl, ?_⟩; have n0_ := Aside0.mk (Kd.R_below (by (with_reducible repeat (first | apply Kd.R_alloc | apply Kd.R_drewN | apply Kd.R_drew)); exact HO267.out) hb); have n1_ := Aside0.mk (Kd.N_elder' (by (with_reducible repeat (first | apply Kd.N_alloc | apply Kd.N_drewN | apply Kd.N_drew)); exact HO270.out) (Kd.R_base ho0) hb); have n2_ := Aside0.mk (Kd.R_elder' (by (with_reducible repeat (first | apply Kd.R_alloc | apply Kd.R_drewN | apply Kd.R_drew)); exact HO277.out) (Kd.R_base ho0) hb); have n3_ := Aside0.mk (Kd.R_elder' (by (with_reducible repeat (first | apply Kd.R_alloc | apply Kd.R_drewN | apply Kd.R_drew)); exact HO283.out) (Kd.R_base ho0) hb); have n4_ := Aside0.mk (Kd.R_elder' (by (with_reducible repeat (first | apply Kd.R_alloc | apply Kd.R_drewN | apply Kd.R_drew)); exact HO289.out) (Kd.R_base ho0) hb); have n5_ := Aside0.mk (Kd.R_elder' (by (with_reducible repeat (first | apply Kd.R_alloc | apply Kd.R_drewN | apply Kd.R_drew)); exact HO295.out) (Kd.R_base ho0) hb); have n6_ := Aside0.mk (Kd.R_elder' (by (with_reducible repeat (first | apply Kd.R_alloc | apply Kd.R_drewN | apply Kd.R_drew)); exact HO304.out) (Kd.R_base ho0) hb); have n7_ := Aside0.mk (Kd.R_lower (Kd.R_new' (Kd.R_new' (Kd.R_new' (Kd.R_new' (Kd.R_new' (Kd.R_newM (M := fun k_ => (w.heap.size ≤ k_)) ho0 (below_size (by repeat (first | (with_reducible first | exact HB.out | apply below_alloc | apply pw_below_drewN | apply below_drew1 | refine below_set ?_ GE264.out | refine below_set ?_ GE271.out) | exact HB.out))) (fun k_ h_ => h_)) (Kd.R_lt (by (with_reducible repeat (first | apply Kd.R_alloc | apply Kd.R_drewN | apply Kd.R_drew)); exact HO277.out))) (Kd.R_lt (by (with_reducible repeat (first | apply Kd.R_alloc | apply Kd.R_drewN | apply Kd.R_drew)); exact HO283.out))) (Kd.R_lt (by (with_reducible repeat (first | apply Kd.R_alloc | apply Kd.R_drewN | apply Kd.R_drew)); exact HO289.out))) (Kd.R_lt (by (with_reducible repeat (first | apply Kd.R_alloc | apply Kd.R_drewN | apply Kd.R_drew)); exact HO295.out))) (Kd.R_lt (by (with_reducible repeat (first | apply Kd.R_alloc | apply Kd.R_drewN | apply Kd.R_drew)); exact HO304.out))) (below_size (by repeat (first | (with_reducible first | exact HB.out | apply below_alloc | apply pw_below_drewN | apply below_drew1 | refine below_set ?_ GE264.out | refine below_set ?_ GE271.out) | exact HB.out)))); have n8_ := Aside0.mk (blk_below (g := gb264) (o := .cells #[.slice none 0 0, .slice none 0 0] 26 (0, 0)) (by (with_reducible repeat (first | refine blk_drewN ?_ _ | refine blk_drew ?_ | refine blk_alloc ?_ _)); exact BK264.out) hb); have n9_ := Aside0.mk (blk_below (g := gb271) (o := .cells #[.slice Ao11 t265.length co11, .slice Ao14 t268.length co14] 26 (0, 0)) (by (with_reducible repeat (first | refine blk_drewN ?_ _ | refine blk_drew ?_ | refine blk_alloc ?_ _)); exact BK271.out) hb); have n10_ := Aside0.mk (below_step (by repeat (first | (with_reducible first | exact HB.out | apply below_alloc | apply pw_below_drewN | apply below_drew1 | refine below_set ?_ GE264.out | refine below_set ?_ GE271.out) | exact HB.out)) hb); clear HO267; clear HO270; clear HO277; clear HO283; clear HO289; clear HO295; clear HO304; clear BK264; clear BK271; clear HB; have HO267 := n0_; have HO270 := n1_; have HO277 := n2_; have HO283 := n3_; have HO289 := n4_; have HO295 := n5_; have HO304 := n6_; have HO310 := n7_; have BK264 := n8_; have BK271 := n9_; have HB := n10_; clear n0_ n1_ n2_ n3_ n4_ n5_ n6_ n7_ n8_ n9_ n10_; (try clear hb); (try clear hb2); (try clear hk); (try clear hi); (try clear ho0); obtain ⟨Ao25, co25, eo25⟩ := Kd.R_slice HO277.out; subst eo25; obtain ⟨Ao26, co26, eo26⟩ := Kd.R_slice HO283.out; subst eo26; obtain ⟨Ao27, co27, eo27⟩ := Kd.R_slice HO289.out; subst eo27; obtain ⟨Ao28, co28, eo28⟩ := Kd.R_slice HO295.out; subst eo28; obtain ⟨Ao29, co29, eo29⟩ := Kd.R_slice HO304.out; subst eo29; obtain ⟨Ao30, co30, eo30⟩ := Kd.R_slice HO310.out; subst eo30) | ((with_reducible refine gate_dst (N := 10) rfl ?_); refine Kd.N_lit k39 _ 39 ?hg (N' := 10) ?hd (xs := ([(⟨t272, t273, t274, t275⟩ : S39), (⟨t278, t279, t280, t281⟩ : S39), (⟨t284, t285, t286, t287⟩ : S39), (⟨t290, t291, t292, t293⟩ : S39), (⟨t299, t300, t301, t302⟩ : S39), (⟨t305, t306, t307, t308⟩ : S39)] : List (S39))) (inner := [.string t272, .int .i64 t273, .int .i64 t274, .slice Ao25 t275.length co25, .string t278, .int .i64 t279, .int .i64 t280, .slice Ao26 t281.length co26, .string t284, .int .i64 t285, .int .i64 t286, .slice Ao27 t287.length co27, .string t290, .int .i64 t291, .int .i64 t292, .slice Ao28 t293.length co28, .string t299, .int .i64 t300, .int .i64 t301, .slice Ao29 t302.length co29, .string t305, .int .i64 t306, .int .i64 t307, .slice Ao30 t308.length co30]) (ok := (fun k_ => (w.heap.size ≤ k_) ∧ some k_ ≠ (.slice Ao11 t265.length co11 : Value).ownBlock ∧ some k_ ≠ (.slice Ao14 t268.length co14 : Value).ownBlock ∧ k_ ≠ gb264 ∧ k_ ≠ gb271)) (okp := (fun k_ => (w.heap.size ≤ k_) ∧ some k_ ≠ (.slice Ao11 t265.length co11 : Value).ownBlock ∧ some k_ ≠ (.slice Ao14 t268.length co14 : Value).ownBlock ∧ k_ ≠ gb264 ∧ k_ ≠ gb271)) ?hr ?hp (fun _ hk => hk) ((show ∀ k_, w24.heap.size ≤ k_ → (fun k_ => (w.heap.size ≤ k_) ∧ some k_ ≠ (.slice Ao11 t265.length co11 : Value).ownBlock ∧ some k_ ≠ (.slice Ao14 t268.length co14 : Value).ownBlock ∧ k_ ≠ gb264 ∧ k_ ≠ gb271) k_ from fun k_ hk => ⟨(Nat.le_trans (below_size (by repeat (first | (with_reducible first | exact HB.out | apply below_alloc | apply pw_below_drewN | apply below_drew1 | refine below_set ?_ GE264.out | refine below_set ?_ GE271.out) | exact HB.out))) hk), Kd.fresh' (Kd.R_lt (by (with_reducible repeat (first | apply Kd.R_alloc | apply Kd.R_drewN | apply Kd.R_drew)); exact HO267.out)) k_ hk, Kd.fresh' (Kd.N_lt (by (with_reducible repeat (first | apply Kd.N_alloc | apply Kd.N_drewN | apply Kd.N_drew)); exact HO270.out)) k_ hk, Kd.freshB (g := gb264) (o := .cells #[.slice none 0 0, .slice none 0 0] 26 (0, 0)) (by (with_reducible repeat (first | refine blk_drewN ?_ _ | refine blk_drew ?_ | refine blk_alloc ?_ _)); exact BK264.out) k_ hk, Kd.freshB (g := gb271) (o := .cells #[.slice Ao11 t265.length co11, .slice Ao14 t268.length co14] 26 (0, 0)) (by (with_reducible repeat (first | refine blk_drewN ?_ _ | refine blk_drew ?_ | refine blk_alloc ?_ _)); exact BK271.out) k_ hk⟩) _ (Nat.le_refl _)) (Below.refl _ _) (Nat.le_refl _) (by simp) ?_; (case hd => rfl); (case hg => rfl); (case hr => first | (go_simp; done) | (go_simp; rfl)); (case hp => exact (Reps.c4 (show Kd.FK k39 _ _ (⟨t272, t273, t274, t275⟩ : S39) [.string t272, .int .i64 t273, .int .i64 t274, .slice Ao25 t275.length co25] from (k39_mkF _ _ (⟨t272, t273, t274, t275⟩ : S39) (Kd.R_reads' (Kd.R_mono (ok' := (fun k_ => (w.heap.size ≤ k_) ∧ some k_ ≠ (.slice Ao11 t265.length co11 : Value).ownBlock ∧ some k_ ≠ (.slice Ao14 t268.length co14 : Value).ownBlock ∧ k_ ≠ gb264 ∧ k_ ≠ gb271)) (Kd.R_types (Kd.R_types (Kd.R_apart' (Kd.R_apart' (HO277.out) (Kd.R_typed HO267.out) (by decide)) (Kd.N_typed HO270.out) (by decide)) BK264.out (by decide)) BK271.out (by decide)) (fun k_ hk => ⟨hk.1.1.1.1.1.1, ⟨hk.1.1.1.2, ⟨hk.1.1.2, ⟨hk.1.2, hk.2⟩⟩⟩⟩))).2.1 (Kd.R_F (Kd.R_mono (ok' := (fun k_ => (w.heap.size ≤ k_) ∧ some k_ ≠ (.slice Ao11 t265.length co11 : Value).ownBlock ∧ some k_ ≠ (.slice Ao14 t268.length co14 : Value).ownBlock ∧ k_ ≠ gb264 ∧ k_ ≠ gb271)) (Kd.R_types (Kd.R_types (Kd.R_apart' (Kd.R_apart' (HO277.out) (Kd.R_typed HO267.out) (by decide)) (Kd.N_typed HO270.out) (by decide)) BK264.out (by decide)) BK271.out (by decide)) (fun k_ hk => ⟨hk.1.1.1.1.1.1, ⟨hk.1.1.1.2, ⟨hk.1.1.2, ⟨hk.1.2, hk.2⟩⟩⟩⟩))))) (Reps.c4 (show Kd.FK k39 _ _ (⟨t278, t279, t280, t281⟩ : S39) [.string t278, .int .i64 t279, .int .i64 t280, .slice Ao26 t281.length co26] from (k39_mkF _ _ (⟨t278, t279, t280, t281⟩ : S39) (Kd.R_reads' (Kd.R_mono (ok' := (fun k_ => (w.heap.size ≤ k_) ∧ some k_ ≠ (.slice Ao11 t265.length co11 : Value).ownBlock ∧ some k_ ≠ (.slice Ao14 t268.length co14 : Value).ownBlock ∧ k_ ≠ gb264 ∧ k_ ≠ gb271)) (Kd.R_types (Kd.R_types (Kd.R_apart' (Kd.R_apart' (HO283.out) (Kd.R_typed HO267.out) (by decide)) (Kd.N_typed HO270.out) (by decide)) BK264.out (by decide)) BK271.out (by decide)) (fun k_ hk => ⟨hk.1.1.1.1.1.1, ⟨hk.1.1.1.2, ⟨hk.1.1.2, ⟨hk.1.2, hk.2⟩⟩⟩⟩))).2.1 (Kd.R_F (Kd.R_mono (ok' := (fun k_ => (w.heap.size ≤ k_) ∧ some k_ ≠ (.slice Ao11 t265.length co11 : Value).ownBlock ∧ some k_ ≠ (.slice Ao14 t268.length co14 : Value).ownBlock ∧ k_ ≠ gb264 ∧ k_ ≠ gb271)) (Kd.R_types (Kd.R_types (Kd.R_apart' (Kd.R_apart' (HO283.out) (Kd.R_typed HO267.out) (by decide)) (Kd.N_typed HO270.out) (by decide)) BK264.out (by decide)) BK271.out (by decide)) (fun k_ hk => ⟨hk.1.1.1.1.1.1, ⟨hk.1.1.1.2, ⟨hk.1.1.2, ⟨hk.1.2, hk.2⟩⟩⟩⟩))))) (Reps.c4 (show Kd.FK k39 _ _ (⟨t284, t285, t286, t287⟩ : S39) [.string t284, .int .i64 t285, .int .i64 t286, .slice Ao27 t287.length co27] from (k39_mkF _ _ (⟨t284, t285, t286, t287⟩ : S39) (Kd.R_reads' (Kd.R_mono (ok' := (fun k_ => (w.heap.size ≤ k_) ∧ some k_ ≠ (.slice Ao11 t265.length co11 : Value).ownBlock ∧ some k_ ≠ (.slice Ao14 t268.length co14 : Value).ownBlock ∧ k_ ≠ gb264 ∧ k_ ≠ gb271)) (Kd.R_types (Kd.R_types (Kd.R_apart' (Kd.R_apart' (HO289.out) (Kd.R_typed HO267.out) (by decide)) (Kd.N_typed HO270.out) (by decide)) BK264.out (by decide)) BK271.out (by decide)) (fun k_ hk => ⟨hk.1.1.1.1.1.1, ⟨hk.1.1.1.2, ⟨hk.1.1.2, ⟨hk.1.2, hk.2⟩⟩⟩⟩))).2.1 (Kd.R_F (Kd.R_mono (ok' := (fun k_ => (w.heap.size ≤ k_) ∧ some k_ ≠ (.slice Ao11 t265.length co11 : Value).ownBlock ∧ some k_ ≠ (.slice Ao14 t268.length co14 : Value).ownBlock ∧ k_ ≠ gb264 ∧ k_ ≠ gb271)) (Kd.R_types (Kd.R_types (Kd.R_apart' (Kd.R_apart' (HO289.out) (Kd.R_typed HO267.out) (by decide)) (Kd.N_typed HO270.out) (by decide)) BK264.out (by decide)) BK271.out (by decide)) (fun k_ hk => ⟨hk.1.1.1.1.1.1, ⟨hk.1.1.1.2, ⟨hk.1.1.2, ⟨hk.1.2, hk.2⟩⟩⟩⟩))))) (Reps.c4 (show Kd.FK k39 _ _ (⟨t290, t291, t292, t293⟩ : S39) [.string t290, .int .i64 t291, .int .i64 t292, .slice Ao28 t293.length co28] from (k39_mkF _ _ (⟨t290, t291, t292, t293⟩ : S39) (Kd.R_reads' (Kd.R_mono (ok' := (fun k_ => (w.heap.size ≤ k_) ∧ some k_ ≠ (.slice Ao11 t265.length co11 : Value).ownBlock ∧ some k_ ≠ (.slice Ao14 t268.length co14 : Value).ownBlock ∧ k_ ≠ gb264 ∧ k_ ≠ gb271)) (Kd.R_types (Kd.R_types (Kd.R_apart' (Kd.R_apart' (HO295.out) (Kd.R_typed HO267.out) (by decide)) (Kd.N_typed HO270.out) (by decide)) BK264.out (by decide)) BK271.out (by decide)) (fun k_ hk => ⟨hk.1.1.1.1.1.1, ⟨hk.1.1.1.2, ⟨hk.1.1.2, ⟨hk.1.2, hk.2⟩⟩⟩⟩))).2.1 (Kd.R_F (Kd.R_mono (ok' := (fun k_ => (w.heap.size ≤ k_) ∧ some k_ ≠ (.slice Ao11 t265.length co11 : Value).ownBlock ∧ some k_ ≠ (.slice Ao14 t268.length co14 : Value).ownBlock ∧ k_ ≠ gb264 ∧ k_ ≠ gb271)) (Kd.R_types (Kd.R_types (Kd.R_apart' (Kd.R_apart' (HO295.out) (Kd.R_typed HO267.out) (by decide)) (Kd.N_typed HO270.out) (by decide)) BK264.out (by decide)) BK271.out (by decide)) (fun k_ hk => ⟨hk.1.1.1.1.1.1, ⟨hk.1.1.1.2, ⟨hk.1.1.2, ⟨hk.1.2, hk.2⟩⟩⟩⟩))))) (Reps.c4 (show Kd.FK k39 _ _ (⟨t299, t300, t301, t302⟩ : S39) [.string t299, .int .i64 t300, .int .i64 t301, .slice Ao29 t302.length co29] from (k39_mkF _ _ (⟨t299, t300, t301, t302⟩ : S39) (Kd.R_reads' (Kd.R_mono (ok' := (fun k_ => (w.heap.size ≤ k_) ∧ some k_ ≠ (.slice Ao11 t265.length co11 : Value).ownBlock ∧ some k_ ≠ (.slice Ao14 t268.length co14 : Value).ownBlock ∧ k_ ≠ gb264 ∧ k_ ≠ gb271)) (Kd.R_types (Kd.R_types (Kd.R_apart' (Kd.R_apart' (HO304.out) (Kd.R_typed HO267.out) (by decide)) (Kd.N_typed HO270.out) (by decide)) BK264.out (by decide)) BK271.out (by decide)) (fun k_ hk => ⟨hk.1.1.1.1.1.1, ⟨hk.1.1.1.2, ⟨hk.1.1.2, ⟨hk.1.2, hk.2⟩⟩⟩⟩))).2.1 (Kd.R_F (Kd.R_mono (ok' := (fun k_ => (w.heap.size ≤ k_) ∧ some k_ ≠ (.slice Ao11 t265.length co11 : Value).ownBlock ∧ some k_ ≠ (.slice Ao14 t268.length co14 : Value).ownBlock ∧ k_ ≠ gb264 ∧ k_ ≠ gb271)) (Kd.R_types (Kd.R_types (Kd.R_apart' (Kd.R_apart' (HO304.out) (Kd.R_typed HO267.out) (by decide)) (Kd.N_typed HO270.out) (by decide)) BK264.out (by decide)) BK271.out (by decide)) (fun k_ hk => ⟨hk.1.1.1.1.1.1, ⟨hk.1.1.1.2, ⟨hk.1.1.2, ⟨hk.1.2, hk.2⟩⟩⟩⟩))))) (Reps.c4 (show Kd.FK k39 _ _ (⟨t305, t306, t307, t308⟩ : S39) [.string t305, .int .i64 t306, .int .i64 t307, .slice Ao30 t308.length co30] from (k39_mkF _ _ (⟨t305, t306, t307, t308⟩ : S39) (Kd.R_reads' (Kd.R_mono (ok' := (fun k_ => (w.heap.size ≤ k_) ∧ some k_ ≠ (.slice Ao11 t265.length co11 : Value).ownBlock ∧ some k_ ≠ (.slice Ao14 t268.length co14 : Value).ownBlock ∧ k_ ≠ gb264 ∧ k_ ≠ gb271)) (Kd.R_types (Kd.R_types (Kd.R_apart' (Kd.R_apart' (HO310.out) (Kd.R_typed HO267.out) (by decide)) (Kd.N_typed HO270.out) (by decide)) BK264.out (by decide)) BK271.out (by decide)) (fun k_ hk => ⟨hk.1.1.1.1.1.1.1.1.1.1, ⟨hk.1.1.1.2, ⟨hk.1.1.2, ⟨hk.1.2, hk.2⟩⟩⟩⟩))).2.1 (Kd.R_F (Kd.R_mono (ok' := (fun k_ => (w.heap.size ≤ k_) ∧ some k_ ≠ (.slice Ao11 t265.length co11 : Value).ownBlock ∧ some k_ ≠ (.slice Ao14 t268.length co14 : Value).ownBlock ∧ k_ ≠ gb264 ∧ k_ ≠ gb271)) (Kd.R_types (Kd.R_types (Kd.R_apart' (Kd.R_apart' (HO310.out) (Kd.R_typed HO267.out) (by decide)) (Kd.N_typed HO270.out) (by decide)) BK264.out (by decide)) BK271.out (by decide)) (fun k_ hk => ⟨hk.1.1.1.1.1.1.1.1.1.1, ⟨hk.1.1.1.2, ⟨hk.1.1.2, ⟨hk.1.2, hk.2⟩⟩⟩⟩))))) (Reps.none _ _)))))))); intro v312 w31 ho32 hb hg_ hnew_; clear hg_ hnew_; (first | rw [← Ny311.out] at ho32 | (simp only [Int.reduceToNat] at ho32; rw [← Ny311.out] at ho32)); have n0_ := Aside0.mk (Kd.R_below (by (with_reducible repeat (first | apply Kd.R_alloc | apply Kd.R_drewN | apply Kd.R_drew)); exact HO267.out) hb); have n1_ := Aside0.mk (Kd.N_elder' (by (with_reducible repeat (first | apply Kd.N_alloc | apply Kd.N_drewN | apply Kd.N_drew)); exact HO270.out) (Kd.N_base ho32) hb); have n2_ := Aside0.mk (Kd.N_lower ho32 (below_size (by repeat (first | (with_reducible first | exact HB.out | apply below_alloc | apply pw_below_drewN | apply below_drew1 | refine below_set ?_ GE264.out | refine below_set ?_ GE271.out) | exact HB.out)))); have n3_ := Aside0.mk (blk_below (g := gb264) (o := .cells #[.slice none 0 0, .slice none 0 0] 26 (0, 0)) (by (with_reducible repeat (first | refine blk_drewN ?_ _ | refine blk_drew ?_ | refine blk_alloc ?_ _)); exact BK264.out) hb); have n4_ := Aside0.mk (blk_below (g := gb271) (o := .cells #[.slice Ao11 t265.length co11, .slice Ao14 t268.length co14] 26 (0, 0)) (by (with_reducible repeat (first | refine blk_drewN ?_ _ | refine blk_drew ?_ | refine blk_alloc ?_ _)); exact BK271.out) hb); have n5_ := Aside0.mk (below_step (by repeat (first | (with_reducible first | exact HB.out | apply below_alloc | apply pw_below_drewN | apply below_drew1 | refine below_set ?_ GE264.out | refine below_set ?_ GE271.out) | exact HB.out)) hb); clear HO267; clear HO270; clear BK264; clear BK271; clear HB; clear HO277; clear HO283; clear HO289; clear HO295; clear HO304; clear HO310; have HO267 := n0_; have HO270 := n1_; have HO313 := n2_; have BK264 := n3_; have BK271 := n4_; have HB := n5_; clear n0_ n1_ n2_ n3_ n4_ n5_; clear hb ho32; obtain ⟨Ao33, co33, eo33⟩ := Kd.N_slice HO313.out; subst eo33; have hcz34_0 : w31.cell? ⟨gb271, 0, none⟩ = some (.slice Ao11 t265.length co11) := (blk_cell BK271.out 0).trans rfl; have hcz34_1 : w31.cell? ⟨gb271, 1, none⟩ = some (.slice Ao14 t268.length co14) := (blk_cell BK271.out 1).trans rfl; have hfz34_0 := blk_frozen BK271.out 0; have hfz34_1 := blk_frozen BK271.out 1; have hcz35_0 : w31.cell? ⟨gb264, 0, none⟩ = some (.slice none 0 0) := (blk_cell BK264.out 0).trans rfl; have hcz35_1 : w31.cell? ⟨gb264, 1, none⟩ = some (.slice none 0 0) := (blk_cell BK264.out 1).trans rfl; have hfz35_0 := blk_frozen BK264.out 0; have hfz35_1 := blk_frozen BK264.out 1))
  refine bodyPost_ret (results_cell_row rfl _ _ gb264 26 #[.slice Ao11 t265.length co11, .slice Ao33 y311.length co33] (0, 0) _ rfl (by (with_reducible repeat (first | refine blk_drewN ?_ _ | refine blk_drew ?_ | refine blk_alloc ?_ _)); refine blk_put (cs := #[.slice Ao11 t265.length co11, .slice none 0 0]) ?_ 1 _ rfl; (with_reducible repeat (first | refine blk_drewN ?_ _ | refine blk_drew ?_ | refine blk_alloc ?_ _)); refine blk_put (cs := #[.slice none 0 0, .slice none 0 0]) ?_ 0 _ rfl; (with_reducible repeat (first | refine blk_drewN ?_ _ | refine blk_drew ?_ | refine blk_alloc ?_ _)); refine blk_far ?_ NB264_271.out _; (with_reducible repeat (first | refine blk_drewN ?_ _ | refine blk_drew ?_ | refine blk_alloc ?_ _)); exact BK264.out) Try.underlying26 rfl (by kernel_rfl)) rfl ?_
  exact ⟨_, _, by first | rfl | (simp [errW_none, errW_some] <;> rfl) | (simp [*, errW_none, errW_some] <;> rfl), by (with_reducible repeat (first | apply Kd.R_alloc | apply Kd.R_drewN | apply Kd.R_drew)); exact Kd.R_mono (Kd.R_far (p := ⟨gb264, 1, none⟩) (Kd.R_far (p := ⟨gb264, 0, none⟩) (Kd.R_far (p := ⟨gb271, 1, none⟩) (Kd.R_types (Kd.R_types HO267.out BK271.out (by decide)) BK264.out (by decide)) (fun _ hk => hk.1.2) (.slice Ao33 y311.length co33)) (fun _ hk => hk.2) (.slice Ao11 t265.length co11)) (fun _ hk => hk.2) (.slice Ao33 y311.length co33)) (fun _ hk => hk.1.1), by (with_reducible repeat (first | apply Kd.N_alloc | apply Kd.N_drewN | apply Kd.N_drew)); exact Kd.N_mono (Kd.N_far (p := ⟨gb264, 1, none⟩) (Kd.N_far (p := ⟨gb264, 0, none⟩) (Kd.N_far (p := ⟨gb271, 1, none⟩) (Kd.N_mono (Kd.N_mono HO313.out (fun k_ hk => (⟨hk, hk.2.2.2.2⟩ : _ ∧ k_ ≠ gb271))) (fun k_ hk => (⟨hk, hk.1.2.2.2.1⟩ : _ ∧ k_ ≠ gb264))) (fun _ hk => hk.1.2) (.slice Ao33 y311.length co33)) (fun _ hk => hk.2) (.slice Ao11 t265.length co11)) (fun _ hk => hk.2) (.slice Ao33 y311.length co33)) (fun _ hk => ⟨hk.1.1.1, hk.1.1.2.1⟩), by repeat (first | (with_reducible first | exact HB.out | apply below_alloc | apply pw_below_drewN | apply below_drew1 | refine below_set ?_ GE264.out | refine below_set ?_ GE271.out) | exact HB.out)⟩

/-! ### wayzgoosekit_EqInts: function 49 -/
def wayzgoosekit_EqInts.l0 : Nat → List Int → List Int → Int → Option (Bool)
  | 0, _, _, _ => none
  | k + 1, x0, x1, x5 => if x5 < (x0.length : Int) then (if 0 ≤ x5 then (if x5 < (x1.length : Int) then (if (rd x0 x5) = (rd x1 x5) then (wayzgoosekit_EqInts.l0 k x0 x1 (wrap64 (x5 + 1))) else (some false)) else (none)) else (none)) else (some true)
def wayzgoosekit_EqInts.f (k : Nat) (l0 : List Int) (l1 : List Int) : Option (Bool) := if (l0.length : Int) = (l1.length : Int) then (wayzgoosekit_EqInts.l0 k l0 l1 0) else (some false)
theorem wayzgoosekit_EqInts.mono_l : ∀ k, (∀ y0 y1 y2, LeO (wayzgoosekit_EqInts.l0 k y0 y1 y2) (wayzgoosekit_EqInts.l0 (k + 1) y0 y1 y2))
  | 0 => fun _ _ _ r h => by simp [wayzgoosekit_EqInts.l0] at h
  | k + 1 => by
    have ih0 := wayzgoosekit_EqInts.mono_l k
    · intro y0 y1 y2
      unfold wayzgoosekit_EqInts.l0
      repeat' first
      | (with_reducible exact ih0 _ _ _)
      | (with_reducible exact LeO.refl _)
      | (with_reducible exact LeO.none _)
      | (with_reducible refine LeO.ite ?_ ?_)
      | (with_reducible refine LeO.bind ?_ (fun _ => ?_))
      | exact ih0 _ _ _
      | exact LeO.none _
      | refine LeO.ite ?_ ?_
      | refine LeO.bind ?_ (fun _ => ?_)
theorem wayzgoosekit_EqInts.mono : ∀ a0 a1 k, LeO (wayzgoosekit_EqInts.f k a0 a1) (wayzgoosekit_EqInts.f (k + 1) a0 a1) := by
  intro a0 a1 k
  have ih0 := wayzgoosekit_EqInts.mono_l k
  unfold wayzgoosekit_EqInts.f
  repeat' first
      | (with_reducible exact ih0 _ _ _)
      | (with_reducible exact LeO.refl _)
      | (with_reducible exact LeO.none _)
      | (with_reducible refine LeO.ite ?_ ?_)
      | (with_reducible refine LeO.bind ?_ (fun _ => ?_))
      | exact ih0 _ _ _
      | exact LeO.none _
      | refine LeO.ite ?_ ?_
      | refine LeO.bind ?_ (fun _ => ?_)
set_option maxHeartbeats 8000000 in
set_option maxRecDepth 100000 in
theorem wayzgoosekit_EqInts.calls (k : Nat) (A0 : Option Addr) (c0 : Nat) (l0 : List Int) (A1 : Option Addr) (c1 : Nat) (l1 : List Int) (r : Bool) (w : World) (hr0 : Kd.C (Kd.int .i64) w A0 l0.length l0) (hc0 : l0.length ≤ c0) (hr1 : Kd.C (Kd.int .i64) w A1 l1.length l1) (hc1 : l1.length ≤ c1) (h : wayzgoosekit_EqInts.f k l0 l1 = some r) :
    Calls Try.prog 49 #[.slice A0 l0.length c0, .slice A1 l1.length c1] w fun e w' => e = .returned (.bool r) ∧ Drawn0 w w' := by
  have HR0 := Aside0.mk hr0
  have HC0 := Aside0.mk hc0
  clear hr0 hc0
  have HR1 := Aside0.mk hr1
  have HC1 := Aside0.mk hc1
  clear hr1 hc1
  have H : (if (l0.length : Int) = (l1.length : Int) then (wayzgoosekit_EqInts.l0 k l0 l1 0) else (some false)) = some r := h
  clear h
  by_cases c3 : (l0.length : Int) = (l1.length : Int)
  · rw [if_pos c3] at H
    have c3b0 : ((l0.length : Int) == (l1.length : Int)) = true := beq_iff_eq.mpr c3
    have c3b1 : ((l0.length : Int) != (l1.length : Int)) = false := bne_eq_false_iff_eq.mpr c3
    have c3b2 : (l0.length == l1.length) = true := by first | simpa using c3 | (simp at c3 ⊢; omega)
    clear c3
    have H' := Aside0.mk H
    clear H
    go_enter Try.func49, Try.ntmps49
    go_wp2
    repeat (go_quiet (fail); try go_wp2)
    go_loopg [5] k (fun kq v5 w' => ∃ (x5_1 : Int), v5 = .int .i64 x5_1 ∧ Aside0 (wayzgoosekit_EqInts.l0 kq l0 l1 x5_1 = some r) ∧ Aside0 (kq ≤ k) ∧ Drawn0 w w')
    case atStart => exact ⟨(0), (by first | rfl | (simp; done) | (simp [*]; done)), H', ⟨Nat.le_refl _⟩, by repeat (first | exact Drawn0.refl _ | apply Drawn0.step)⟩
    case round =>
      clear H'
      try clear c1
      try clear p2
      try clear c3
      try clear c3b0
      try clear c3b1
      try clear c3b2
      obtain ⟨x5_1, rfl, HA, HK1, ⟨m1, rfl⟩⟩ := hrel
      cases gk with
      | zero => exact absurd HA.out (by simp [wayzgoosekit_EqInts.l0])
      | succ k1 =>
        have H := HA.out
        clear HA
        simp only [wayzgoosekit_EqInts.l0] at H
        by_cases c4 : x5_1 < (l0.length : Int)
        · rw [if_pos c4] at H
          have c4b0 : decide (x5_1 < (l0.length : Int)) = true := decide_eq_true c4
          clear c4
          by_cases c5 : 0 ≤ x5_1
          · rw [if_pos c5] at H
            have c5b0 : decide (0 ≤ x5_1) = true := decide_eq_true c5
            clear c5
            by_cases c6 : x5_1 < (l1.length : Int)
            · rw [if_pos c6] at H
              have c6b0 : decide (x5_1 < (l1.length : Int)) = true := decide_eq_true c6
              clear c6
              by_cases c7 : (rd l0 x5_1) = (rd l1 x5_1)
              · rw [if_pos c7] at H
                have c7b0 : ((rd l0 x5_1) == (rd l1 x5_1)) = true := beq_iff_eq.mpr c7
                have c7b1 : ((rd l0 x5_1) != (rd l1 x5_1)) = false := bne_eq_false_iff_eq.mpr c7
                clear c7
                have H' := Aside0.mk H
                clear H
                have p314 : 0 ≤ (x5_1 : Int) := of_decide_eq_true (by first | (with_reducible assumption) | assumption)
                have q314 : x5_1 < (l0.length : Int) := of_decide_eq_true (by first | (with_reducible assumption) | assumption)
                obtain ⟨ad314, e314, hx314_0⟩ := Kd.at_int HR0.out x5_1 p314 q314
                cases e314
                replace p314 := eq_true p314
                replace q314 := eq_true q314
                have p315 : 0 ≤ (x5_1 : Int) := of_decide_eq_true (by first | (with_reducible assumption) | assumption)
                have q315 : x5_1 < (l1.length : Int) := of_decide_eq_true (by first | (with_reducible assumption) | assumption)
                obtain ⟨ad315, e315, hx315_0⟩ := Kd.at_int HR1.out x5_1 p315 q315
                cases e315
                replace p315 := eq_true p315
                replace q315 := eq_true q315
                go_wp2
                repeat (go_quiet (fail); try go_wp2)
                go_roundg k1
                case measure => have := HK1.out; omega
                case rel => exact ⟨(wrap64 (x5_1 + 1)), (by first | rfl | (simp; done) | (simp [*]; done)), H', ⟨by have := HK1.out; omega⟩, by repeat (first | exact Drawn0.refl _ | apply Drawn0.step)⟩
              · rw [if_neg c7] at H
                have c7b0 : ((rd l0 x5_1) == (rd l1 x5_1)) = false := beq_eq_false_iff_ne.mpr c7
                have c7b1 : ((rd l0 x5_1) != (rd l1 x5_1)) = true := bne_iff_ne.mpr c7
                obtain rfl := Option.some.inj H
                have p314 : 0 ≤ (x5_1 : Int) := of_decide_eq_true (by first | (with_reducible assumption) | assumption)
                have q314 : x5_1 < (l0.length : Int) := of_decide_eq_true (by first | (with_reducible assumption) | assumption)
                obtain ⟨ad314, e314, hx314_0⟩ := Kd.at_int HR0.out x5_1 p314 q314
                cases e314
                replace p314 := eq_true p314
                replace q314 := eq_true q314
                have p315 : 0 ≤ (x5_1 : Int) := of_decide_eq_true (by first | (with_reducible assumption) | assumption)
                have q315 : x5_1 < (l1.length : Int) := of_decide_eq_true (by first | (with_reducible assumption) | assumption)
                obtain ⟨ad315, e315, hx315_0⟩ := Kd.at_int HR1.out x5_1 p315 q315
                cases e315
                replace p315 := eq_true p315
                replace q315 := eq_true q315
                go_wp2
                repeat (go_quiet (fail); try go_wp2)
                go_ret
                exact ⟨by first | rfl | (simp; done) | (simp [*]; done), by repeat (first | exact Drawn0.refl _ | apply Drawn0.step)⟩
            · rw [if_neg c6] at H
              exact absurd H (by simp)
          · rw [if_neg c5] at H
            exact absurd H (by simp)
        · rw [if_neg c4] at H
          have c4b0 : decide (x5_1 < (l0.length : Int)) = false := decide_eq_false c4
          clear c4
          obtain rfl := Option.some.inj H
          go_wp2
          repeat (go_quiet (fail); try go_wp2)
          go_ret
          exact ⟨by first | rfl | (simp; done) | (simp [*]; done), by repeat (first | exact Drawn0.refl _ | apply Drawn0.step)⟩
  · rw [if_neg c3] at H
    have c3b0 : ((l0.length : Int) == (l1.length : Int)) = false := beq_eq_false_iff_ne.mpr c3
    have c3b1 : ((l0.length : Int) != (l1.length : Int)) = true := bne_iff_ne.mpr c3
    have c3b2 : (l0.length == l1.length) = false := by first | simpa using c3 | (simp at c3 ⊢; omega)
    obtain rfl := Option.some.inj H
    go_enter Try.func49, Try.ntmps49
    go_wp2
    repeat (go_quiet (fail); try go_wp2)
    go_ret
    exact ⟨by first | rfl | (simp; done) | (simp [*]; done), by repeat (first | exact Drawn0.refl _ | apply Drawn0.step)⟩

/-! ### wayzgoosekit_EqLists: function 48 -/
def wayzgoosekit_EqLists.l0 : Nat → List (List Int) → List (List Int) → Int → Option (Bool)
  | 0, _, _, _ => none
  | k + 1, x0, x1, x5 => if x5 < (x0.length : Int) then (if 0 ≤ x5 then (if x5 < (x1.length : Int) then ((wayzgoosekit_EqInts.f k (rd_L3 x0 x5) (rd_L3 x1 x5)).bind fun t318 => (if t318 = true then (wayzgoosekit_EqLists.l0 k x0 x1 (wrap64 (x5 + 1))) else (some false))) else (none)) else (none)) else (some true)
def wayzgoosekit_EqLists.f (k : Nat) (l0 : List (List Int)) (l1 : List (List Int)) : Option (Bool) := if (l0.length : Int) = (l1.length : Int) then (wayzgoosekit_EqLists.l0 k l0 l1 0) else (some false)
theorem wayzgoosekit_EqLists.mono_l : ∀ k, (∀ y0 y1 y2, LeO (wayzgoosekit_EqLists.l0 k y0 y1 y2) (wayzgoosekit_EqLists.l0 (k + 1) y0 y1 y2))
  | 0 => fun _ _ _ r h => by simp [wayzgoosekit_EqLists.l0] at h
  | k + 1 => by
    have ih0 := wayzgoosekit_EqLists.mono_l k
    · intro y0 y1 y2
      unfold wayzgoosekit_EqLists.l0
      repeat' first
      | (with_reducible exact ih0 _ _ _)
      | (with_reducible exact wayzgoosekit_EqInts.mono _ _ _)
      | (with_reducible exact LeO.refl _)
      | (with_reducible exact LeO.none _)
      | (with_reducible refine LeO.ite ?_ ?_)
      | (with_reducible refine LeO.bind ?_ (fun _ => ?_))
      | exact ih0 _ _ _
      | exact wayzgoosekit_EqInts.mono _ _ _
      | exact LeO.none _
      | refine LeO.ite ?_ ?_
      | refine LeO.bind ?_ (fun _ => ?_)
theorem wayzgoosekit_EqLists.mono : ∀ a0 a1 k, LeO (wayzgoosekit_EqLists.f k a0 a1) (wayzgoosekit_EqLists.f (k + 1) a0 a1) := by
  intro a0 a1 k
  have ih0 := wayzgoosekit_EqLists.mono_l k
  unfold wayzgoosekit_EqLists.f
  repeat' first
      | (with_reducible exact ih0 _ _ _)
      | (with_reducible exact wayzgoosekit_EqInts.mono _ _ _)
      | (with_reducible exact LeO.refl _)
      | (with_reducible exact LeO.none _)
      | (with_reducible refine LeO.ite ?_ ?_)
      | (with_reducible refine LeO.bind ?_ (fun _ => ?_))
      | exact ih0 _ _ _
      | exact wayzgoosekit_EqInts.mono _ _ _
      | exact LeO.none _
      | refine LeO.ite ?_ ?_
      | refine LeO.bind ?_ (fun _ => ?_)
set_option maxHeartbeats 8000000 in
set_option maxRecDepth 100000 in
theorem wayzgoosekit_EqLists.calls (k : Nat) (A0 : Option Addr) (c0 : Nat) (l0 : List (List Int)) (A1 : Option Addr) (c1 : Nat) (l1 : List (List Int)) (r : Bool) (w : World) (hr0 : Kd.C (Kd.slice 3 (Kd.int .i64)) w A0 l0.length l0) (hc0 : l0.length ≤ c0) (hr1 : Kd.C (Kd.slice 3 (Kd.int .i64)) w A1 l1.length l1) (hc1 : l1.length ≤ c1) (h : wayzgoosekit_EqLists.f k l0 l1 = some r) :
    Calls Try.prog 48 #[.slice A0 l0.length c0, .slice A1 l1.length c1] w fun e w' => e = .returned (.bool r) ∧ Drawn0 w w' := by
  have HR0 := Aside0.mk hr0
  have HC0 := Aside0.mk hc0
  clear hr0 hc0
  have HR1 := Aside0.mk hr1
  have HC1 := Aside0.mk hc1
  clear hr1 hc1
  have H : (if (l0.length : Int) = (l1.length : Int) then (wayzgoosekit_EqLists.l0 k l0 l1 0) else (some false)) = some r := h
  clear h
  by_cases c3 : (l0.length : Int) = (l1.length : Int)
  · rw [if_pos c3] at H
    have c3b0 : ((l0.length : Int) == (l1.length : Int)) = true := beq_iff_eq.mpr c3
    have c3b1 : ((l0.length : Int) != (l1.length : Int)) = false := bne_eq_false_iff_eq.mpr c3
    have c3b2 : (l0.length == l1.length) = true := by first | simpa using c3 | (simp at c3 ⊢; omega)
    clear c3
    have H' := Aside0.mk H
    clear H
    go_enter Try.func48, Try.ntmps48
    go_wp2
    repeat (go_quiet (fail); try go_wp2)
    go_loopg [5] k (fun kq v5 w' => ∃ (x5_1 : Int), v5 = .int .i64 x5_1 ∧ Aside0 (wayzgoosekit_EqLists.l0 kq l0 l1 x5_1 = some r) ∧ Aside0 (kq ≤ k) ∧ Drawn0 w w')
    case atStart => exact ⟨(0), (by first | rfl | (simp; done) | (simp [*]; done)), H', ⟨Nat.le_refl _⟩, by repeat (first | exact Drawn0.refl _ | apply Drawn0.step)⟩
    case round =>
      clear H'
      try clear c1
      try clear p2
      try clear c3
      try clear c3b0
      try clear c3b1
      try clear c3b2
      obtain ⟨x5_1, rfl, HA, HK1, ⟨m1, rfl⟩⟩ := hrel
      cases gk with
      | zero => exact absurd HA.out (by simp [wayzgoosekit_EqLists.l0])
      | succ k1 =>
        have H := HA.out
        clear HA
        simp only [wayzgoosekit_EqLists.l0] at H
        by_cases c4 : x5_1 < (l0.length : Int)
        · rw [if_pos c4] at H
          have c4b0 : decide (x5_1 < (l0.length : Int)) = true := decide_eq_true c4
          clear c4
          by_cases c5 : 0 ≤ x5_1
          · rw [if_pos c5] at H
            have c5b0 : decide (0 ≤ x5_1) = true := decide_eq_true c5
            clear c5
            by_cases c6 : x5_1 < (l1.length : Int)
            · rw [if_pos c6] at H
              have c6b0 : decide (x5_1 < (l1.length : Int)) = true := decide_eq_true c6
              clear c6
              replace H := Option.bind_eq_some_iff.mp H
              obtain ⟨t318, A70, H⟩ := H
              replace H : (if t318 = true then (wayzgoosekit_EqLists.l0 k1 l0 l1 (wrap64 (x5_1 + 1))) else (some false)) = some r := H
              have A7 := Aside0.mk A70
              clear A70
              by_cases c8 : t318 = true
              · subst c8
                have H1 : (wayzgoosekit_EqLists.l0 k1 l0 l1 (wrap64 (x5_1 + 1))) = some r := by rw [if_pos rfl] at H; exact H
                clear H
                have H := H1
                clear H1
                have H' := Aside0.mk H
                clear H
                have p316 : 0 ≤ (x5_1 : Int) := of_decide_eq_true (by first | (with_reducible assumption) | assumption)
                have q316 : x5_1 < (l0.length : Int) := of_decide_eq_true (by first | (with_reducible assumption) | assumption)
                obtain ⟨ad316, A316_0, c316_0, e316, hx316_0, hl316_0, hi316_0⟩ := at_L3 HR0.out x5_1 p316 q316
                cases e316
                have HR316_0 := Aside0.mk hi316_0
                have HC316_0 := Aside0.mk hl316_0
                clear hi316_0 hl316_0
                replace p316 := eq_true p316
                replace q316 := eq_true q316
                have p317 : 0 ≤ (x5_1 : Int) := of_decide_eq_true (by first | (with_reducible assumption) | assumption)
                have q317 : x5_1 < (l1.length : Int) := of_decide_eq_true (by first | (with_reducible assumption) | assumption)
                obtain ⟨ad317, A317_0, c317_0, e317, hx317_0, hl317_0, hi317_0⟩ := at_L3 HR1.out x5_1 p317 q317
                cases e317
                have HR317_0 := Aside0.mk hi317_0
                have HC317_0 := Aside0.mk hl317_0
                clear hi317_0 hl317_0
                replace p317 := eq_true p317
                replace q317 := eq_true q317
                go_wp2_with (first | (go_at_call 49; (with_reducible refine (wayzgoosekit_EqInts.calls k1 _ _ (rd_L3 l0 x5_1) _ _ (rd_L3 l1 x5_1) true _ ?side1 ?side2 ?side3 ?side4 A7.out).mono ?_); (case side1 => repeat (first | exact HR316_0.out | (with_reducible refine Kd.C_alloc ?_ _) | (with_reducible refine Kd.C_drewN ?_ _) | (with_reducible refine Kd.C_drew ?_))); (case side2 => exact HC316_0.out); (case side3 => repeat (first | exact HR317_0.out | (with_reducible refine Kd.C_alloc ?_ _) | (with_reducible refine Kd.C_drewN ?_ _) | (with_reducible refine Kd.C_drew ?_))); (case side4 => exact HC317_0.out); rintro e w' ⟨rfl, ⟨nd, rfl⟩⟩; (try first | exact ⟨rfl, _, World.drewN_drewN _ _ _⟩ | exact ⟨rfl, _, Eq.trans (World.drewN_drewN _ _ _) (congrArg (World.drewN _) (Nat.add_assoc _ _ _))⟩)))
                repeat (go_quiet (first | (go_at_call 49; (with_reducible refine (wayzgoosekit_EqInts.calls k1 _ _ (rd_L3 l0 x5_1) _ _ (rd_L3 l1 x5_1) true _ ?side1 ?side2 ?side3 ?side4 A7.out).mono ?_); (case side1 => repeat (first | exact HR316_0.out | (with_reducible refine Kd.C_alloc ?_ _) | (with_reducible refine Kd.C_drewN ?_ _) | (with_reducible refine Kd.C_drew ?_))); (case side2 => exact HC316_0.out); (case side3 => repeat (first | exact HR317_0.out | (with_reducible refine Kd.C_alloc ?_ _) | (with_reducible refine Kd.C_drewN ?_ _) | (with_reducible refine Kd.C_drew ?_))); (case side4 => exact HC317_0.out); rintro e w' ⟨rfl, ⟨nd, rfl⟩⟩; (try first | exact ⟨rfl, _, World.drewN_drewN _ _ _⟩ | exact ⟨rfl, _, Eq.trans (World.drewN_drewN _ _ _) (congrArg (World.drewN _) (Nat.add_assoc _ _ _))⟩))); try go_wp2_with (first | (go_at_call 49; (with_reducible refine (wayzgoosekit_EqInts.calls k1 _ _ (rd_L3 l0 x5_1) _ _ (rd_L3 l1 x5_1) true _ ?side1 ?side2 ?side3 ?side4 A7.out).mono ?_); (case side1 => repeat (first | exact HR316_0.out | (with_reducible refine Kd.C_alloc ?_ _) | (with_reducible refine Kd.C_drewN ?_ _) | (with_reducible refine Kd.C_drew ?_))); (case side2 => exact HC316_0.out); (case side3 => repeat (first | exact HR317_0.out | (with_reducible refine Kd.C_alloc ?_ _) | (with_reducible refine Kd.C_drewN ?_ _) | (with_reducible refine Kd.C_drew ?_))); (case side4 => exact HC317_0.out); rintro e w' ⟨rfl, ⟨nd, rfl⟩⟩; (try first | exact ⟨rfl, _, World.drewN_drewN _ _ _⟩ | exact ⟨rfl, _, Eq.trans (World.drewN_drewN _ _ _) (congrArg (World.drewN _) (Nat.add_assoc _ _ _))⟩))))
                go_roundg k1
                case measure => have := HK1.out; omega
                case rel => exact ⟨(wrap64 (x5_1 + 1)), (by first | rfl | (simp; done) | (simp [*]; done)), H', ⟨by have := HK1.out; omega⟩, by repeat (first | exact Drawn0.refl _ | apply Drawn0.step)⟩
              · replace c8 := Bool.eq_false_iff.mpr c8
                subst c8
                have H1 : (some false) = some r := by rw [if_neg (show ¬ (false = true) by decide)] at H; exact H
                clear H
                have H := H1
                clear H1
                obtain rfl := Option.some.inj H
                have p316 : 0 ≤ (x5_1 : Int) := of_decide_eq_true (by first | (with_reducible assumption) | assumption)
                have q316 : x5_1 < (l0.length : Int) := of_decide_eq_true (by first | (with_reducible assumption) | assumption)
                obtain ⟨ad316, A316_0, c316_0, e316, hx316_0, hl316_0, hi316_0⟩ := at_L3 HR0.out x5_1 p316 q316
                cases e316
                have HR316_0 := Aside0.mk hi316_0
                have HC316_0 := Aside0.mk hl316_0
                clear hi316_0 hl316_0
                replace p316 := eq_true p316
                replace q316 := eq_true q316
                have p317 : 0 ≤ (x5_1 : Int) := of_decide_eq_true (by first | (with_reducible assumption) | assumption)
                have q317 : x5_1 < (l1.length : Int) := of_decide_eq_true (by first | (with_reducible assumption) | assumption)
                obtain ⟨ad317, A317_0, c317_0, e317, hx317_0, hl317_0, hi317_0⟩ := at_L3 HR1.out x5_1 p317 q317
                cases e317
                have HR317_0 := Aside0.mk hi317_0
                have HC317_0 := Aside0.mk hl317_0
                clear hi317_0 hl317_0
                replace p317 := eq_true p317
                replace q317 := eq_true q317
                go_wp2_with (first | (go_at_call 49; (with_reducible refine (wayzgoosekit_EqInts.calls k1 _ _ (rd_L3 l0 x5_1) _ _ (rd_L3 l1 x5_1) false _ ?side1 ?side2 ?side3 ?side4 A7.out).mono ?_); (case side1 => repeat (first | exact HR316_0.out | (with_reducible refine Kd.C_alloc ?_ _) | (with_reducible refine Kd.C_drewN ?_ _) | (with_reducible refine Kd.C_drew ?_))); (case side2 => exact HC316_0.out); (case side3 => repeat (first | exact HR317_0.out | (with_reducible refine Kd.C_alloc ?_ _) | (with_reducible refine Kd.C_drewN ?_ _) | (with_reducible refine Kd.C_drew ?_))); (case side4 => exact HC317_0.out); rintro e w' ⟨rfl, ⟨nd, rfl⟩⟩; (try first | exact ⟨rfl, _, World.drewN_drewN _ _ _⟩ | exact ⟨rfl, _, Eq.trans (World.drewN_drewN _ _ _) (congrArg (World.drewN _) (Nat.add_assoc _ _ _))⟩)))
                repeat (go_quiet (first | (go_at_call 49; (with_reducible refine (wayzgoosekit_EqInts.calls k1 _ _ (rd_L3 l0 x5_1) _ _ (rd_L3 l1 x5_1) false _ ?side1 ?side2 ?side3 ?side4 A7.out).mono ?_); (case side1 => repeat (first | exact HR316_0.out | (with_reducible refine Kd.C_alloc ?_ _) | (with_reducible refine Kd.C_drewN ?_ _) | (with_reducible refine Kd.C_drew ?_))); (case side2 => exact HC316_0.out); (case side3 => repeat (first | exact HR317_0.out | (with_reducible refine Kd.C_alloc ?_ _) | (with_reducible refine Kd.C_drewN ?_ _) | (with_reducible refine Kd.C_drew ?_))); (case side4 => exact HC317_0.out); rintro e w' ⟨rfl, ⟨nd, rfl⟩⟩; (try first | exact ⟨rfl, _, World.drewN_drewN _ _ _⟩ | exact ⟨rfl, _, Eq.trans (World.drewN_drewN _ _ _) (congrArg (World.drewN _) (Nat.add_assoc _ _ _))⟩))); try go_wp2_with (first | (go_at_call 49; (with_reducible refine (wayzgoosekit_EqInts.calls k1 _ _ (rd_L3 l0 x5_1) _ _ (rd_L3 l1 x5_1) false _ ?side1 ?side2 ?side3 ?side4 A7.out).mono ?_); (case side1 => repeat (first | exact HR316_0.out | (with_reducible refine Kd.C_alloc ?_ _) | (with_reducible refine Kd.C_drewN ?_ _) | (with_reducible refine Kd.C_drew ?_))); (case side2 => exact HC316_0.out); (case side3 => repeat (first | exact HR317_0.out | (with_reducible refine Kd.C_alloc ?_ _) | (with_reducible refine Kd.C_drewN ?_ _) | (with_reducible refine Kd.C_drew ?_))); (case side4 => exact HC317_0.out); rintro e w' ⟨rfl, ⟨nd, rfl⟩⟩; (try first | exact ⟨rfl, _, World.drewN_drewN _ _ _⟩ | exact ⟨rfl, _, Eq.trans (World.drewN_drewN _ _ _) (congrArg (World.drewN _) (Nat.add_assoc _ _ _))⟩))))
                go_ret
                exact ⟨by first | rfl | (simp; done) | (simp [*]; done), by repeat (first | exact Drawn0.refl _ | apply Drawn0.step)⟩
            · rw [if_neg c6] at H
              exact absurd H (by simp)
          · rw [if_neg c5] at H
            exact absurd H (by simp)
        · rw [if_neg c4] at H
          have c4b0 : decide (x5_1 < (l0.length : Int)) = false := decide_eq_false c4
          clear c4
          obtain rfl := Option.some.inj H
          go_wp2
          repeat (go_quiet (fail); try go_wp2)
          go_ret
          exact ⟨by first | rfl | (simp; done) | (simp [*]; done), by repeat (first | exact Drawn0.refl _ | apply Drawn0.step)⟩
  · rw [if_neg c3] at H
    have c3b0 : ((l0.length : Int) == (l1.length : Int)) = false := beq_eq_false_iff_ne.mpr c3
    have c3b1 : ((l0.length : Int) != (l1.length : Int)) = true := bne_iff_ne.mpr c3
    have c3b2 : (l0.length == l1.length) = false := by first | simpa using c3 | (simp at c3 ⊢; omega)
    obtain rfl := Option.some.inj H
    go_enter Try.func48, Try.ntmps48
    go_wp2
    repeat (go_quiet (fail); try go_wp2)
    go_ret
    exact ⟨by first | rfl | (simp; done) | (simp [*]; done), by repeat (first | exact Drawn0.refl _ | apply Drawn0.step)⟩

end Go.Proofs.Ytfbimhnlcmdcpaa.Pa
